-- Laid by a program of this session, a copy of the kit's printer with additions (wip/patch_print.py): myhead. Lean checks it.
import Derived.Test.YtcnmdjibogojnaaPFnExactRegroupx0
import Derived.Test.YtcnmdjibogojnaaPFnExactRegroupx10
import Derived.Test.YtcnmdjibogojnaaPFnExactRegroupx11
import Derived.Test.YtcnmdjibogojnaaPFnExactRegroupx16
import Derived.Test.YtcnmdjibogojnaaPFnExactRegroupx18
namespace Go.Proofs.Ytcnmdjibogojnaa.PFnExactRegroup
open Go.RowKit Go.Proofs.YtcnmdjibogojnaaW.PrintWords Go.Proofs.YtcnmdjibogojnaaW.PrintLast Go.Proofs.YtcnmdjibogojnaaW.PrintMore
attribute [local go_sem] max2_int min2_int max_two min_two max_three min_three max_four min_four   -- for this text's walks alone
set_option linter.unusedVariables false
set_option linter.unusedSimpArgs false

/-! ### impl_Regroup: function 9 -/
mutual
def impl_Regroup.l0 : Nat → List (S48) → List (S48) → Int → Int → List (S71) → Int → Int → Option ((List (S71)) × Int × Int)
 | 0, _, _, _, _, _, _, _ => none
 | k + 1, x1, x17, x18, x19, x428000, x428001, x428002 => if x19 < x18 then (if 0 ≤ x19 then (if x19 < (x17.length : Int) then (if x428002 = 0 then (if ((rd_T48 x17 x19).f3.f0) = 3 then (impl_Regroup.j1 k x1 x19 x17 x18 x19 false x428000 (mx x428001 ((rd_T48 x17 x19).f3.f1)) x428002 ((rd_T48 x17 x19).f0) ((rd_T48 x17 x19).f1) ((rd_T48 x17 x19).f2) ((rd_T48 x17 x19).f3.f0) ((rd_T48 x17 x19).f3.f1) ((rd_T48 x17 x19).f3.f2) ((rd_T48 x17 x19).f3.f3) ((rd_T48 x17 x19).f3.f4) ((rd_T48 x17 x19).f3.f5)) else (impl_Regroup.j1 k x1 x19 x17 x18 x19 (((rd_T48 x17 x19).f3.f0) != 5) x428000 (mx x428001 ((rd_T48 x17 x19).f3.f1)) x428002 ((rd_T48 x17 x19).f0) ((rd_T48 x17 x19).f1) ((rd_T48 x17 x19).f2) ((rd_T48 x17 x19).f3.f0) ((rd_T48 x17 x19).f3.f1) ((rd_T48 x17 x19).f3.f2) ((rd_T48 x17 x19).f3.f3) ((rd_T48 x17 x19).f3.f4) ((rd_T48 x17 x19).f3.f5))) else (some (x428000, x428001, x428002))) else (none)) else (none)) else (if x428002 = 0 then ((impl_ownOf.f k x1 5 0 (⟨#[]⟩ : ByteArray) (⟨#[]⟩ : ByteArray) 0 0).bind fun t443 => (if (t443.length : Int) > 0 then (some (x428000, x428001, 1)) else (some (x428000, x428001, x428002)))) else (some (x428000, x428001, x428002)))
def impl_Regroup.j1 : Nat → List (S48) → Int → List (S48) → Int → Int → Bool → List (S71) → Int → Int → Int → Int → Int → Int → Int → ByteArray → ByteArray → Int → Int → Option ((List (S71)) × Int × Int)
 | 0, _, _, _, _, _, _, _, _, _, _, _, _, _, _, _, _, _, _ => none
 | k + 1, x1, x6, x17, x18, x19, x44, x428000, x428001, x428002, x430000, x430001, x430002, x430003, x430004, x430005, x430006, x430007, x430008 => if x44 = true then (impl_Regroup.l0 k x1 x17 x18 (wrap64 (x19 + 1)) x428000 x428001 x428002) else (if 0 ≤ x6 then (if x6 ≤ (x1.length : Int) then ((impl_ownOf.f k (x1.take (x6 : Int).toNat) x430003 x430004 x430005 x430006 x430007 x430008).bind fun t434 => ((impl_fits.f k x430003 x430004 x430005 x430006 x430007 x430008 t434).bind fun t437 => (if t437 = true then ((impl_Group_apply.f k x428000 x428001 x428002 t434).bind fun bt438 => (impl_Regroup.l0 k x1 x17 x18 (wrap64 (x19 + 1)) bt438.1 bt438.2.1 bt438.2.2)) else (if x430003 = 5 then (impl_Regroup.l0 k x1 x17 x18 (wrap64 (x19 + 1)) x428000 x428001 1) else (impl_Regroup.l0 k x1 x17 x18 (wrap64 (x19 + 1)) x428000 x428001 x428002))))) else (none)) else (none))
end
def impl_Regroup.f (k : Nat) (l0_0 : List (S71)) (a0_1 : Int) (a0_2 : Int) (l1 : List (S48)) : Option ((List (S71)) × Int × Int) := (impl_copyDir.f l0_0).bind fun t424 => (impl_Regroup.l0 k l1 l1 (l1.length : Int) 0 t424 a0_1 a0_2)
def impl_Regroup.T1 : Bool × List (List Nat × List Nat) := (true, [([], []), ([0], [0]), ([1], [1]), ([], []), ([3], [3]), ([], []), ([5], [5]), ([2, 4, 6], [2, 4, 6]), ([], []), ([8, 7, 2, 0, 1, 2, 3, 4, 5, 6, 7, 8], [7, 8])])
def impl_Regroup.B1 : List Nat := [0, 1, 3, 0, 8, 0, 32, 127, 0, 511]
theorem impl_Regroup.tab1 : rtab .any (opsOf Try.f9 1) = impl_Regroup.T1 := by kernel_rfl
theorem impl_Regroup.bits1 : waitsOk impl_Regroup.T1.2 impl_Regroup.B1 = true := by kernel_rfl
set_option maxHeartbeats 80000000 in
set_option maxRecDepth 100000 in
theorem impl_Regroup.calls (k : Nat) (A0_0 : Option Addr) (c0_0 : Nat) (l0_0 : List (S71)) (a0_1 : Int) (a0_2 : Int) (A1 : Option Addr) (c1 : Nat) (l1 : List (S48)) (r1 : List (S71)) (r2 : Int) (r3 : Int) (w : World) (hr0_0 : Kd.C k71 w A0_0 l0_0.length l0_0) (hc0_0 : l0_0.length ≤ c0_0) (hr1 : Kd.C k48 w A1 l1.length l1) (hc1 : l1.length ≤ c1) (h : impl_Regroup.f k l0_0 a0_1 a0_2 l1 = some (r1, r2, r3)) :
  Calls Try.prog 9 #[.agg #[.slice A0_0 l0_0.length c0_0, .int .i64 a0_1, .int .i64 a0_2], .slice A1 l1.length c1] w fun e w' => ∃ v0_ : Value, e = .returned (.agg #[v0_, .int .i64 r2, .int .i64 r3]) ∧ Kd.R k71 71 w' w.heap.size (fun _ => True) v0_ r1 ∧ Below w.heap.size w w' := by
 have hu30 := Try.underlying30
 have hu48 := Try.underlying48
 have hu46 := Try.underlying46
 have HR0_0 := Aside0.mk hr0_0
 have HC0_0 := Aside0.mk hc0_0
 clear hr0_0 hc0_0
 have HR1 := Aside0.mk hr1
 have HC1 := Aside0.mk hc1
 clear hr1 hc1
 have HB := Aside0.mk (Below.refl w.heap.size w)
 unfold impl_Regroup.f at h; have H := h
 clear h
 replace H := Option.bind_eq_some_iff.mp H
 obtain ⟨t424, A30, H⟩ := H
 have A3 := Aside0.mk A30
 clear A30
 have H' := Aside0.mk H
 clear H
 go_enter Try.func9, Try.ntmps9
 try go_wp2_with (first | ((with_reducible refine gate_dst (N := 2) rfl ?_); (try (refine gate_guard (by rfl) ?_; dsimp only)); refine box_event ?hg (N := 2) ?hd (cs := #[.slice A0_0 l0_0.length c0_0, .int .i64 a0_1, .int .i64 a0_2]) (t := 30) ?hr ?_; (case hd => rfl); (case hg => rfl); (case hr => first | (go_simp; done) | (go_simp; rfl)); intro gb422 hg w4 hbox hb; have BK422 := Aside0.mk (hbox); have GE422 := ge_ hg (hb_ HB); replace HB := bs_ HB hb; clear hb hbox hg) | ((with_reducible refine gate_dst (N := 4) rfl ?_); (try (refine gate_guard (by rfl) ?_; dsimp only)); refine box_event ?hg (N := 4) ?hd (cs := #[.slice none 0 0, .int .i64 0, .int .i64 0]) (t := 30) ?hr ?_; (case hd => rfl); (case hg => rfl); (case hr => first | (go_simp; done) | (go_simp; rfl)); intro gb423 hg w5 hbox hb; have BK423 := Aside0.mk (hbox); have GE423 := ge_ hg (hs_ HB GE422); replace HB := bt_ HB GE422 hb; have NB422_423 := nl_ BK422 hg; have NB423_422 := ng_ BK422 hg; replace BK422 := bb_ BK422 hb; clear hb hbox hg))
 replace BK422 := bd_ BK422
 replace BK423 := bd_ BK423
 replace HB := hd_ HB
 refine start_ (n := 10) (S := k3e_ gb422 (.slice A0_0 l0_0.length c0_0) (.int .i64 a0_1) (.int .i64 a0_2)) (ds := []) (on_ 0 10) (by kernel_rfl) rfl rfl (p3e_ BK422) (fun hHeld => ?_); refine with_tabW impl_Regroup.tab1 impl_Regroup.bits1 (fun HT_ HW_ => ?_)
 generalize w5.drew = w6 at BK422 BK423 HB hHeld ⊢
 refine pv_' 0 9 (on_ 1 9) rfl rfl HT_ ?_
 refine pv_' 3 12 #[i',o',o',i',o',o',o',o',o',o'] rfl rfl HT_ ?_
 refine pv_' 5 14 #[i',o',o',i',o',i',o',o',o',o'] rfl rfl HT_ ?_
 refine take_ (i := 1) (N := some 10) (v := ?_) (a' := ?_) #[i',i',o',i',o',i',o',o',o',o'] rfl rfl (take_ofW HT_.out HW_.out (by kernel_rfl)) (fun _ _ _ h => h) (Or.inl ⟨by rfl, ?_⟩) hHeld ?_ ?_
 rotate_left
 ·rintro w' ⟨s0, s1, s2⟩
  go_simp
  with_reducible rfl
 rotate_left
 ·simp only [Act.put, la_, lz_, ls_, i64_w, i32_w]
  rfl
 refine take_ (i := 4) (N := some 13) (v := ?_) (a' := ?_) #[i',i',o',i',i',i',o',o',o',o'] rfl rfl (take_ofW HT_.out HW_.out (by kernel_rfl)) (fun _ _ _ h => h) (Or.inl ⟨by rfl, ?_⟩) hHeld ?_ ?_
 rotate_left
 ·rintro w' ⟨s0, s1, s2⟩
  go_simp
  with_reducible rfl
 rotate_left
 ·simp only [Act.put, la_, lz_, ls_, i64_w, i32_w]
  rfl
 refine take_ (i := 6) (N := some 15) (v := ?_) (a' := ?_) #[i',i',o',i',i',i',i',o',o',o'] rfl rfl (take_ofW HT_.out HW_.out (by kernel_rfl)) (fun _ _ _ h => h) (Or.inl ⟨by rfl, ?_⟩) hHeld ?_ ?_
 rotate_left
 ·rintro w' ⟨s0, s1, s2⟩
  go_simp
  with_reducible rfl
 rotate_left
 ·simp only [Act.put, la_, lz_, ls_, i64_w, i32_w]
  rfl
 refine join_ (σ := Value × Nat) 1 (on_ 9 1) (fun s_ => [(11, s_.1), (5, .pointer (some ⟨s_.2, 0, none⟩)), (16, .agg #[s_.1, .int .i64 a0_1, .int .i64 a0_2])]) (fun s_ w' => (w'.cell? ⟨gb422, 0, none⟩ = some (.slice A0_0 l0_0.length c0_0) ∧ w'.cell? ⟨gb422, 1, none⟩ = some (.int .i64 a0_1) ∧ w'.cell? ⟨gb422, 2, none⟩ = some (.int .i64 a0_2)) ∧ (Kd.R k71 71 w' w.heap.size (fun _ => True) s_.1 t424) ∧ (w'.heap[gb422]? = some (.cells #[.slice A0_0 l0_0.length c0_0, .int .i64 a0_1, .int .i64 a0_2] 30 (0, 0))) ∧ (w'.heap[gb423]? = some (.cells #[.slice none 0 0, .int .i64 0, .int .i64 0] 30 (0, 0))) ∧ (w'.heap[s_.2]? = some (.cells #[.slice none 0 0, .int .i64 0, .int .i64 0] 30 (0, 0))) ∧ (w.heap.size ≤ s_.2) ∧ (w.heap.size ≤ s_.2) ∧ (gb422 ≠ s_.2) ∧ (s_.2 ≠ gb422) ∧ (gb423 ≠ s_.2) ∧ (s_.2 ≠ gb423) ∧ (Below w.heap.size w w')) ?_ ?_
 rotate_left
 ·intro hCont
  refine two_ (i := 2) (j := 8) (Ni := some 11) (Nj := some 5) (on_ 7 3) #[i',i',o',i',i',i',i',o',i',o'] rfl rfl rfl rfl (two_of HT_.out (by kernel_rfl)) (by decide) (by decide) (fun K hK => ?_) (fun K hK => ?_)
  ·skip
   refine goes_ Try.func23 (by kernel_rfl) rfl #[.slice A0_0 l0_0.length c0_0] (by rfl) rfl rfl ar_ ?_
   with_reducible refine (impl_copyDir.calls _ _ l0_0 t424 _ ?side1 ?side2 A3.out).mono ?_
   (case side1 => repeat (first | exact (Kd.C_below HR0_0.out HB.out) | (with_reducible refine Kd.C_alloc ?_ _) | (with_reducible refine Kd.C_drewN ?_ _) | (with_reducible refine Kd.C_drew ?_)))
   (case side2 => exact HC0_0.out)
   rintro e w7 ⟨v425, rfl, ho0, hb⟩
   refine ⟨_, rfl, ?_⟩
   have HO426 := Aside0.mk (Kd.R_lower ho0 (below_size (hu_ HB GE422 GE423)))
   replace BK422 := bb_ BK422 hb
   replace BK423 := bb_ BK423 hb
   replace HB := bu_ HB GE422 GE423 hb
   (try clear hb)
   (try clear hb2)
   (try clear hk)
   (try clear hi)
   (try clear ho0)
   obtain ⟨Ao8, co8, eo8⟩ := Kd.R_slice HO426.out
   (first | subst eo8 | (injection eo8 with f1_ f2_ f3_; have f4_ := f1_.symm; have f5_ := f3_.symm; clear f1_ f2_ f3_; subst f4_; subst f5_))
   refine hK.out _ _ (p3e_ BK422) (fun hHeld => ?_)
   clear hK K
   refine norm_ (a' := ?_) ?_ ?_
   rotate_left
   ·show Act.put _ (some 11) _ = _
    simp only [Act.put, la_, lz_, ls_, i64_w, i32_w]
    rfl
   refine pv_' 7 16 (on_ 8 2) rfl rfl HT_ ?_
   refine one_ (i := 8) (N := some 5) (on_ 9 1) rfl rfl (one_of HT_.out (by kernel_rfl)) (by decide) (fun K hK => ?_)
   refine box_step ?hg (N := 5) ?hd (cs := #[.slice none 0 0, .int .i64 0, .int .i64 0]) (t := 30) ?hr ?_; (case hd => rfl); (case hg => rfl); (case hr => first | (go_simp; done) | (go_simp; rfl))
   intro gb427 hg w9 hbox hb
   replace HO426 := rb_ HO426 hb
   have BK427 := Aside0.mk (hbox)
   have GW427 := ge_ hg (hu_ HB GE422 GE423)
   have GE427 := ge_ hg (hu_ HB GE422 GE423)
   replace HB := bu_ HB GE422 GE423 hb
   have NB422_427 := nl_ BK422 hg
   have NB427_422 := ng_ BK422 hg
   replace BK422 := bb_ BK422 hb
   have NB423_427 := nl_ BK423 hg
   have NB427_423 := ng_ BK423 hg
   replace BK423 := bb_ BK423 hb
   clear hb hbox hg
   refine hK.out _ _ (p3e_ BK422) (fun hHeld => ?_)
   clear hK K
   refine norm_ (a' := ?_) ?_ ?_
   rotate_left
   ·show Act.put _ (some 5) _ = _
    simp only [Act.put, la_, lz_, ls_, i64_w, i32_w]
    rfl
   exact norm_ (by simp only [putAll, Act.put, la_, lz_, ls_]) (hCont (.slice Ao8 t424.length co8, gb427) _ ⟨hHeld, (rr_ HO426), (bk_ BK422), (bk_ BK423), (bk_ BK427), GW427.out, GE427.out, NB422_427.out, NB427_422.out, NB423_427.out, NB427_423.out, (hv_ HB GE422 GE423 GE427)⟩)
  ·skip
   refine box_step ?hg (N := 5) ?hd (cs := #[.slice none 0 0, .int .i64 0, .int .i64 0]) (t := 30) ?hr ?_; (case hd => rfl); (case hg => rfl); (case hr => first | (go_simp; done) | (go_simp; rfl))
   intro gb427 hg w7 hbox hb
   have BK427 := Aside0.mk (hbox)
   have GW427 := ge_ hg (hu_ HB GE422 GE423)
   have GE427 := ge_ hg (hu_ HB GE422 GE423)
   replace HB := bu_ HB GE422 GE423 hb
   have NB422_427 := nl_ BK422 hg
   have NB427_422 := ng_ BK422 hg
   replace BK422 := bb_ BK422 hb
   have NB423_427 := nl_ BK423 hg
   have NB427_423 := ng_ BK423 hg
   replace BK423 := bb_ BK423 hb
   clear hb hbox hg
   refine hK.out _ _ (p3e_ BK422) (fun hHeld => ?_)
   clear hK K
   refine norm_ (a' := ?_) ?_ ?_
   rotate_left
   ·show Act.put _ (some 5) _ = _
    simp only [Act.put, la_, lz_, ls_, i64_w, i32_w]
    rfl
   refine one_ (i := 2) (N := some 11) #[i',i',i',i',i',i',i',o',i',o'] rfl rfl (one_of HT_.out (by kernel_rfl)) (by decide) (fun K hK => ?_)
   refine goes_ Try.func23 (by kernel_rfl) rfl #[.slice A0_0 l0_0.length c0_0] (by rfl) rfl rfl ar_ ?_
   with_reducible refine (impl_copyDir.calls _ _ l0_0 t424 _ ?side1 ?side2 A3.out).mono ?_
   (case side1 => repeat (first | exact (Kd.C_below HR0_0.out HB.out) | (with_reducible refine Kd.C_alloc ?_ _) | (with_reducible refine Kd.C_drewN ?_ _) | (with_reducible refine Kd.C_drew ?_)))
   (case side2 => exact HC0_0.out)
   rintro e w8 ⟨v425, rfl, ho0, hb⟩
   refine ⟨_, rfl, ?_⟩
   have HO426 := Aside0.mk (Kd.R_lower ho0 (below_size (hv_ HB GE422 GE423 GE427)))
   replace BK422 := bb_ BK422 hb
   replace BK423 := bb_ BK423 hb
   replace BK427 := bb_ BK427 hb
   replace HB := Aside0.mk (below_step (hv_ HB GE422 GE423 GE427) hb)
   (try clear hb)
   (try clear hb2)
   (try clear hk)
   (try clear hi)
   (try clear ho0)
   obtain ⟨Ao9, co9, eo9⟩ := Kd.R_slice HO426.out
   (first | subst eo9 | (injection eo9 with f1_ f2_ f3_; have f4_ := f1_.symm; have f5_ := f3_.symm; clear f1_ f2_ f3_; subst f4_; subst f5_))
   refine hK.out _ _ (p3e_ BK422) (fun hHeld => ?_)
   clear hK K
   refine norm_ (a' := ?_) ?_ ?_
   rotate_left
   ·show Act.put _ (some 11) _ = _
    simp only [Act.put, la_, lz_, ls_, i64_w, i32_w]
    rfl
   refine pv_' 7 16 (on_ 9 1) rfl rfl HT_ ?_
   exact norm_ (by simp only [putAll, Act.put, la_, lz_, ls_]) (hCont (.slice Ao9 t424.length co9, gb427) _ ⟨hHeld, (rr_ HO426), (bk_ BK422), (bk_ BK423), (bk_ BK427), GW427.out, GE427.out, NB422_427.out, NB427_422.out, NB423_427.out, NB427_423.out, (hv_ HB GE422 GE423 GE427)⟩)
 rintro ⟨v425, gb427⟩ w10 ⟨hS_, h0_, h1_, h2_, h3_, h4_, h5_, h6_, h7_, h8_, h9_, h10_⟩
 have n0_ : Aside0 (Kd.R k71 71 w10 w.heap.size (fun _ => True) v425 t424) := ⟨h0_⟩
 have n1_ : Aside0 (w10.heap[gb422]? = some (.cells #[.slice A0_0 l0_0.length c0_0, .int .i64 a0_1, .int .i64 a0_2] 30 (0, 0))) := ⟨h1_⟩
 have n2_ : Aside0 (w10.heap[gb423]? = some (.cells #[.slice none 0 0, .int .i64 0, .int .i64 0] 30 (0, 0))) := ⟨h2_⟩
 have n3_ : Aside0 (w10.heap[gb427]? = some (.cells #[.slice none 0 0, .int .i64 0, .int .i64 0] 30 (0, 0))) := ⟨h3_⟩
 have n4_ : Aside0 (w.heap.size ≤ gb427) := ⟨h4_⟩
 have n5_ : Aside0 (w.heap.size ≤ gb427) := ⟨h5_⟩
 have n6_ : Aside0 (gb422 ≠ gb427) := ⟨h6_⟩
 have n7_ : Aside0 (gb427 ≠ gb422) := ⟨h7_⟩
 have n8_ : Aside0 (gb423 ≠ gb427) := ⟨h8_⟩
 have n9_ : Aside0 (gb427 ≠ gb423) := ⟨h9_⟩
 have n10_ : Aside0 (Below w.heap.size w w10) := ⟨h10_⟩
 clear BK422
 clear BK423
 clear HB
 clear h0_ h1_ h2_ h3_ h4_ h5_ h6_ h7_ h8_ h9_ h10_
 have HO426 := n0_
 have BK422 := n1_
 have BK423 := n2_
 have BK427 := n3_
 have GW427 := n4_
 have GE427 := n5_
 have NB422_427 := n6_
 have NB427_422 := n7_
 have NB423_427 := n8_
 have NB427_423 := n9_
 have HB := n10_
 clear n0_ n1_ n2_ n3_ n4_ n5_ n6_ n7_ n8_ n9_ n10_
 have hHeld : w10.cell? ⟨gb422, 0, none⟩ = some (.slice A0_0 l0_0.length c0_0) ∧ w10.cell? ⟨gb422, 1, none⟩ = some (.int .i64 a0_1) ∧ w10.cell? ⟨gb422, 2, none⟩ = some (.int .i64 a0_2) := hS_
 obtain ⟨Ao11, co11, eo11⟩ := Kd.R_slice HO426.out
 (first | subst eo11 | (injection eo11 with f1_ f2_ f3_; have f4_ := f1_.symm; have f5_ := f3_.symm; clear f1_ f2_ f3_; subst f4_; subst f5_))
 refine norm_ (a' := ?_) ?_ ?_
 rotate_left
 ·simp only [putAll, Act.put, la_, lz_, ls_]
  rfl
 refine one_ (i := 9) (N := none) (on_ 10 0) rfl rfl (one_of HT_.out (by kernel_rfl)) (by decide) (fun K hK => ?_)
 have hs12 : w10.cell? ⟨gb427, 0, none⟩ = some (.slice none 0 0) := (blk_cell BK427.out 0).trans rfl
 have hfs12 := blk_frozen BK427.out 0
 have hns12_0 := NB422_427.out
 have hns12_1 := NB423_427.out
 have hms12_0 := NB427_422.out
 have hms12_1 := NB427_423.out
 have hs13 : w10.cell? ⟨gb427, 1, none⟩ = some (.int .i64 0) := (blk_cell BK427.out 1).trans rfl
 have hfs13 := blk_frozen BK427.out 1
 have hns13_0 := NB422_427.out
 have hns13_1 := NB423_427.out
 have hms13_0 := NB427_422.out
 have hms13_1 := NB427_423.out
 have hs14 : w10.cell? ⟨gb427, 2, none⟩ = some (.int .i64 0) := (blk_cell BK427.out 2).trans rfl
 have hfs14 := blk_frozen BK427.out 2
 have hns14_0 := NB422_427.out
 have hns14_1 := NB423_427.out
 have hms14_0 := NB427_422.out
 have hms14_1 := NB427_423.out
 refine skip_ (w1 := ?_) (by rfl) rfl ?_ ?_
 rotate_left
 ·go_simp
  rfl
 refine hK.out _ _ (r3e_ ((cell_far (p := ⟨gb427, _, none⟩) NB422_427.out _).trans (((cell_far (p := ⟨gb427, _, none⟩) NB422_427.out _).trans (((cell_far (p := ⟨gb427, _, none⟩) NB422_427.out _).trans (hHeld.1)))))) ((cell_far (p := ⟨gb427, _, none⟩) NB422_427.out _).trans (((cell_far (p := ⟨gb427, _, none⟩) NB422_427.out _).trans (((cell_far (p := ⟨gb427, _, none⟩) NB422_427.out _).trans (hHeld.2.1)))))) ((cell_far (p := ⟨gb427, _, none⟩) NB422_427.out _).trans (((cell_far (p := ⟨gb427, _, none⟩) NB422_427.out _).trans (((cell_far (p := ⟨gb427, _, none⟩) NB422_427.out _).trans (hHeld.2.2))))))) (fun hHeld => ?_)
 clear hK K
 refine done_ (done_of HT_.out (by kernel_rfl)) ?_
 try go_wp2
 go_loopg [19] k (fun kq v19 w' => ∃ (x19_1 : Int) (x424001_1 : Int) (x424002_1 : Int) (x428000_1 : List (S71)) (x428001_1 : Int) (x428002_1 : Int) (u428000 : Value), v19 = .int .i64 x19_1 ∧ Aside0 (impl_Regroup.l0 kq l1 l1 (l1.length : Int) x19_1 x428000_1 x428001_1 x428002_1 = some (r1, r2, r3)) ∧ Aside0 (kq ≤ k) ∧ Aside0 (Kd.R k71 71 w' w.heap.size (fun _ => True) u428000 x428000_1) ∧ Aside0 (w'.heap[gb422]? = some (.cells #[(.slice A0_0 l0_0.length c0_0), .int .i64 a0_1, .int .i64 a0_2] 30 (0, 0))) ∧ Aside0 (w'.heap[gb423]? = some (.cells #[(.slice none 0 0), .int .i64 x424001_1, .int .i64 x424002_1] 30 (0, 0))) ∧ Aside0 (w'.heap[gb427]? = some (.cells #[u428000, .int .i64 x428001_1, .int .i64 x428002_1] 30 (0, 0))) ∧ Aside0 (Below w.heap.size w w'))
 case atStart => exact ⟨(0), (0), (0), (t424), (a0_1), (a0_2), (.slice Ao11 t424.length co11), rs_, H', ⟨Nat.le_refl _⟩, ⟨by (with_reducible repeat (first | apply Kd.R_alloc | apply Kd.R_drewN | apply Kd.R_drew)); exact Kd.R_mono (Kd.R_far (p := ⟨gb427, 2, none⟩) (Kd.R_far (p := ⟨gb427, 1, none⟩) (Kd.R_far (p := ⟨gb427, 0, none⟩) (Kd.R_types HO426.out BK427.out (by decide)) (fun _ hk => hk.2) (.slice Ao11 t424.length co11)) (fun _ hk => hk.2) (.int .i64 a0_1)) (fun _ hk => hk.2) (.int .i64 a0_2)) (fun _ hk => trivial)⟩, ⟨uq_ BK422 fun h_ => ⟨_, ua_, ub_⟩⟩, ⟨uq_ BK423 fun h_ => ⟨_, ua_, ub_⟩⟩, ⟨uq_ BK427 fun h_ => ⟨_, ua_, ub_⟩⟩, ⟨hz_ HB⟩⟩
 case round =>
  clear H'
  (try clear c1)
  obtain ⟨x19_1, x424001_1, x424002_1, x428000_1, x428001_1, x428002_1, u428000, rfl, HA, HK1, HO_428000, BK422, BK423, BK427, HB⟩ := hrel
  cases gk with
  | zero => exact absurd HA.out (by simp [impl_Regroup.l0])
  | succ k1 =>
   have H := HA.out
   clear HA
   simp only [impl_Regroup.l0] at H
   by_cases c15 : x19_1 < (l1.length : Int)
   ·rw [if_pos c15] at H
    have c15b0 : decide (x19_1 < (l1.length : Int)) = true := decide_eq_true c15
    clear c15
    by_cases c16 : 0 ≤ x19_1
    ·rw [if_pos c16] at H
     have c16b0 : decide (0 ≤ x19_1) = true := decide_eq_true c16
     clear c16
     by_cases c17 : x19_1 < (l1.length : Int)
     ·rw [if_pos c17] at H
      have c17b0 : decide (x19_1 < (l1.length : Int)) = true := decide_eq_true c17
      clear c17
      by_cases c18 : x428002_1 = 0
      ·rw [if_pos c18] at H
       have c18b0 : (x428002_1 == 0) = true := beq_iff_eq.mpr c18
       have c18b1 : (x428002_1 != 0) = false := bne_eq_false_iff_eq.mpr c18
       clear c18
       obtain ⟨ji19, hji19⟩ : ∃ j_ : Int, (mx x428001_1 ((rd_T48 l1 x19_1).f3.f1)) = j_ := ⟨_, rfl⟩
       (first | rw [hji19] at H | simp only [hji19] at H)
       have hji19_ : (if x428001_1 < ((rd_T48 l1 x19_1).f3.f1) then ((rd_T48 l1 x19_1).f3.f1) else x428001_1) = ji19 := hji19
       have HC20 := Aside0.mk H
       clear H
       have p428 : 0 ≤ (x19_1 : Int) := of_decide_eq_true as_
       have q428 : x19_1 < (l1.length : Int) := of_decide_eq_true as_
       obtain ⟨ad428, e428, hx428_0, hx428_1, hx428_2, hx428_3, hx428_4, hx428_5, hx428_6, hx428_7, hx428_8⟩ := at_T48 HR1.out x19_1 p428 q428
       cases e428
       (try replace hx428_0 := cb_ HB hx428_0)
       (try replace hx428_1 := cb_ HB hx428_1)
       (try replace hx428_2 := cb_ HB hx428_2)
       (try replace hx428_3 := cb_ HB hx428_3)
       (try replace hx428_4 := cb_ HB hx428_4)
       (try replace hx428_5 := cb_ HB hx428_5)
       (try replace hx428_6 := cb_ HB hx428_6)
       (try replace hx428_7 := cb_ HB hx428_7)
       (try replace hx428_8 := cb_ HB hx428_8)
       replace p428 := eq_true p428
       replace q428 := eq_true q428
       go_upto_region 8 with (first | ((with_reducible refine gate_dst (N := 7) rfl ?_); (try (refine gate_guard (by rfl) ?_; dsimp only)); refine box_event ?hg (N := 7) ?hd (cs := #[.int .i64 0, .int .i64 0, .int .i64 0, .int .i64 0, .int .i64 0, .string (⟨#[]⟩ : ByteArray), .string (⟨#[]⟩ : ByteArray), .int .i64 0, .int .i64 0]) (t := 48) ?hr ?_; (case hd => rfl); (case hg => rfl); (case hr => first | (go_simp; done) | (go_simp; rfl)); intro gb429 hg w21 hbox hb; replace HO_428000 := rb_ HO_428000 hb; have BK429 := Aside0.mk (hbox); have GE429 := ge_ hg (hv_ HB GE422 GE423 GE427); replace HB := Aside0.mk (below_step (hv_ HB GE422 GE423 GE427) hb); have NB422_429 := nl_ BK422 hg; have NB429_422 := ng_ BK422 hg; replace BK422 := bb_ BK422 hb; have NB423_429 := nl_ BK423 hg; have NB429_423 := ng_ BK423 hg; replace BK423 := bb_ BK423 hb; have NB427_429 := nl_ BK427 hg; have NB429_427 := ng_ BK427 hg; replace BK427 := bb_ BK427 hb; (try replace hx428_0 := cx_ hb hx428_0); (try replace hx428_1 := cx_ hb hx428_1); (try replace hx428_2 := cx_ hb hx428_2); (try replace hx428_3 := cx_ hb hx428_3); (try replace hx428_4 := cx_ hb hx428_4); (try replace hx428_5 := cx_ hb hx428_5); (try replace hx428_6 := cx_ hb hx428_6); (try replace hx428_7 := cx_ hb hx428_7); (try replace hx428_8 := cx_ hb hx428_8); clear hb hbox hg; have hnb22 := NB429_422.out; have hnc22 := NB422_429.out; have hnb23 := NB429_423.out; have hnc23 := NB423_429.out; have hnb24 := NB429_427.out; have hnc24 := NB427_429.out; obtain ⟨hcz25_0, hcz25_1, hcz25_2, hcz25_3, hcz25_4, hcz25_5, hcz25_6, hcz25_7, hcz25_8, hfz25_0, hfz25_1, hfz25_2, hfz25_3, hfz25_4, hfz25_5, hfz25_6, hfz25_7, hfz25_8⟩ := bc9_ BK429; have hnb26 := NB427_422.out; have hnc26 := NB422_427.out; have hnb27 := NB427_423.out; have hnc27 := NB423_427.out; obtain ⟨hcz28_0, hcz28_1, hcz28_2, hfz28_0, hfz28_1, hfz28_2⟩ := bc3_ BK427))
       (try simp only [Act.put, la_, lz_, ls_])
       go_cut [44] (fun v44 wc => ∃ (kq : Nat) (x44_19 : Bool), v44 = .bool x44_19 ∧ Aside0 (impl_Regroup.j1 kq l1 x19_1 l1 (l1.length : Int) x19_1 x44_19 x428000_1 ji19 x428002_1 ((rd_T48 l1 x19_1).f0) ((rd_T48 l1 x19_1).f1) ((rd_T48 l1 x19_1).f2) ((rd_T48 l1 x19_1).f3.f0) ((rd_T48 l1 x19_1).f3.f1) ((rd_T48 l1 x19_1).f3.f2) ((rd_T48 l1 x19_1).f3.f3) ((rd_T48 l1 x19_1).f3.f4) ((rd_T48 l1 x19_1).f3.f5) = some (r1, r2, r3)) ∧ Aside0 (kq ≤ k1) ∧ Aside0 (Kd.R k71 71 wc w.heap.size (fun _ => True) u428000 x428000_1) ∧ Aside0 (wc.heap[gb422]? = some (.cells #[(.slice A0_0 l0_0.length c0_0), .int .i64 a0_1, .int .i64 a0_2] 30 (0, 0))) ∧ Aside0 (wc.heap[gb423]? = some (.cells #[(.slice none 0 0), .int .i64 x424001_1, .int .i64 x424002_1] 30 (0, 0))) ∧ Aside0 (wc.heap[gb427]? = some (.cells #[u428000, .int .i64 ji19, .int .i64 x428002_1] 30 (0, 0))) ∧ Aside0 (wc.heap[gb429]? = some (.cells #[.int .i64 ((rd_T48 l1 x19_1).f0), .int .i64 ((rd_T48 l1 x19_1).f1), .int .i64 ((rd_T48 l1 x19_1).f2), .int .i64 ((rd_T48 l1 x19_1).f3.f0), .int .i64 ((rd_T48 l1 x19_1).f3.f1), .string ((rd_T48 l1 x19_1).f3.f2), .string ((rd_T48 l1 x19_1).f3.f3), .int .i64 ((rd_T48 l1 x19_1).f3.f4), .int .i64 ((rd_T48 l1 x19_1).f3.f5)] 48 (0, 0))) ∧ Aside0 (Below w.heap.size w wc))
       case first =>
        have H := HC20.out
        clear HC20
        by_cases c29 : ((rd_T48 l1 x19_1).f3.f0) = 3
        ·rw [if_pos c29] at H
         have c29b0 : (((rd_T48 l1 x19_1).f3.f0) == 3) = true := beq_iff_eq.mpr c29
         have c29b1 : (((rd_T48 l1 x19_1).f3.f0) != 3) = false := bne_eq_false_iff_eq.mpr c29
         clear c29
         (first | rw [c29b0] | (simp only [i64_w, i32_w]; rw [c29b0]) | skip)
         have H' := Aside0.mk H
         clear H
         have hnb30 := NB429_422.out
         have hnc30 := NB422_429.out
         have hnb31 := NB429_423.out
         have hnc31 := NB423_429.out
         have hnb32 := NB429_427.out
         have hnc32 := NB427_429.out
         obtain ⟨hcz33_0, hcz33_1, hcz33_2, hcz33_3, hcz33_4, hcz33_5, hcz33_6, hcz33_7, hcz33_8, hfz33_0, hfz33_1, hfz33_2, hfz33_3, hfz33_4, hfz33_5, hfz33_6, hfz33_7, hfz33_8⟩ := bc9_ BK429
         go_wp2
         go_meet
         case rel => exact ⟨_, (false), rs_, (by first | exact H' | (simp only [hji19]; exact H')), ⟨by have := HK1.out; first | exact Nat.le_refl _ | exact Nat.le_of_succ_le this | omega⟩, ⟨by (with_reducible repeat (first | apply Kd.R_alloc | apply Kd.R_drewN | apply Kd.R_drew)); exact Kd.R_mono (Kd.R_far (p := ⟨gb427, 1, none⟩) (Kd.R_far (p := ⟨gb429, 8, none⟩) (Kd.R_far (p := ⟨gb429, 7, none⟩) (Kd.R_far (p := ⟨gb429, 6, none⟩) (Kd.R_far (p := ⟨gb429, 5, none⟩) (Kd.R_far (p := ⟨gb429, 4, none⟩) (Kd.R_far (p := ⟨gb429, 3, none⟩) (Kd.R_far (p := ⟨gb429, 2, none⟩) (Kd.R_far (p := ⟨gb429, 1, none⟩) (Kd.R_far (p := ⟨gb429, 0, none⟩) (Kd.R_types (Kd.R_types HO_428000.out BK429.out (by decide)) BK427.out (by decide)) (fun _ hk => hk.1.2) (.int .i64 ((rd_T48 l1 x19_1).f0))) (fun _ hk => hk.1.2) (.int .i64 ((rd_T48 l1 x19_1).f1))) (fun _ hk => hk.1.2) (.int .i64 ((rd_T48 l1 x19_1).f2))) (fun _ hk => hk.1.2) (.int .i64 ((rd_T48 l1 x19_1).f3.f0))) (fun _ hk => hk.1.2) (.int .i64 ((rd_T48 l1 x19_1).f3.f1))) (fun _ hk => hk.1.2) (.string ((rd_T48 l1 x19_1).f3.f2))) (fun _ hk => hk.1.2) (.string ((rd_T48 l1 x19_1).f3.f3))) (fun _ hk => hk.1.2) (.int .i64 ((rd_T48 l1 x19_1).f3.f4))) (fun _ hk => hk.1.2) (.int .i64 ((rd_T48 l1 x19_1).f3.f5))) (fun _ hk => hk.2) (.int .i64 ji19)) (fun _ hk => trivial)⟩, ⟨uq_ BK422 fun h_ => ⟨_, ua_, ub_⟩⟩, ⟨uq_ BK423 fun h_ => ⟨_, ua_, ub_⟩⟩, ⟨uq_ BK427 fun h_ => ⟨_, ua_, ub_⟩⟩, ⟨uq_ BK429 fun h_ => ⟨_, ua_, ub_⟩⟩, ⟨hz_ HB⟩⟩
        ·rw [if_neg c29] at H
         have c29b0 : (((rd_T48 l1 x19_1).f3.f0) == 3) = false := beq_eq_false_iff_ne.mpr c29
         have c29b1 : (((rd_T48 l1 x19_1).f3.f0) != 3) = true := bne_iff_ne.mpr c29
         (first | rw [c29b0] | (simp only [i64_w, i32_w]; rw [c29b0]) | skip)
         have H' := Aside0.mk H
         clear H
         have hnb34 := NB429_422.out
         have hnc34 := NB422_429.out
         have hnb35 := NB429_423.out
         have hnc35 := NB423_429.out
         have hnb36 := NB429_427.out
         have hnc36 := NB427_429.out
         obtain ⟨hcz37_0, hcz37_1, hcz37_2, hcz37_3, hcz37_4, hcz37_5, hcz37_6, hcz37_7, hcz37_8, hfz37_0, hfz37_1, hfz37_2, hfz37_3, hfz37_4, hfz37_5, hfz37_6, hfz37_7, hfz37_8⟩ := bc9_ BK429
         go_wp2
         go_meet
         case rel => exact ⟨_, ((((rd_T48 l1 x19_1).f3.f0) != 5)), rs_, (by first | exact H' | (simp only [hji19]; exact H')), ⟨by have := HK1.out; first | exact Nat.le_refl _ | exact Nat.le_of_succ_le this | omega⟩, ⟨by (with_reducible repeat (first | apply Kd.R_alloc | apply Kd.R_drewN | apply Kd.R_drew)); exact Kd.R_mono (Kd.R_far (p := ⟨gb427, 1, none⟩) (Kd.R_far (p := ⟨gb429, 8, none⟩) (Kd.R_far (p := ⟨gb429, 7, none⟩) (Kd.R_far (p := ⟨gb429, 6, none⟩) (Kd.R_far (p := ⟨gb429, 5, none⟩) (Kd.R_far (p := ⟨gb429, 4, none⟩) (Kd.R_far (p := ⟨gb429, 3, none⟩) (Kd.R_far (p := ⟨gb429, 2, none⟩) (Kd.R_far (p := ⟨gb429, 1, none⟩) (Kd.R_far (p := ⟨gb429, 0, none⟩) (Kd.R_types (Kd.R_types HO_428000.out BK429.out (by decide)) BK427.out (by decide)) (fun _ hk => hk.1.2) (.int .i64 ((rd_T48 l1 x19_1).f0))) (fun _ hk => hk.1.2) (.int .i64 ((rd_T48 l1 x19_1).f1))) (fun _ hk => hk.1.2) (.int .i64 ((rd_T48 l1 x19_1).f2))) (fun _ hk => hk.1.2) (.int .i64 ((rd_T48 l1 x19_1).f3.f0))) (fun _ hk => hk.1.2) (.int .i64 ((rd_T48 l1 x19_1).f3.f1))) (fun _ hk => hk.1.2) (.string ((rd_T48 l1 x19_1).f3.f2))) (fun _ hk => hk.1.2) (.string ((rd_T48 l1 x19_1).f3.f3))) (fun _ hk => hk.1.2) (.int .i64 ((rd_T48 l1 x19_1).f3.f4))) (fun _ hk => hk.1.2) (.int .i64 ((rd_T48 l1 x19_1).f3.f5))) (fun _ hk => hk.2) (.int .i64 ji19)) (fun _ hk => trivial)⟩, ⟨uq_ BK422 fun h_ => ⟨_, ua_, ub_⟩⟩, ⟨uq_ BK423 fun h_ => ⟨_, ua_, ub_⟩⟩, ⟨uq_ BK427 fun h_ => ⟨_, ua_, ub_⟩⟩, ⟨uq_ BK429 fun h_ => ⟨_, ua_, ub_⟩⟩, ⟨hz_ HB⟩⟩
       case rest =>
        clear HC20
        (try clear c1);(try clear c15);(try clear c15b0);(try clear c16);(try clear c16b0);(try clear c17);(try clear c17b0);(try clear c18);(try clear c18b0);(try clear c18b1);(try clear c29);(try clear c29b0);(try clear c29b1);(try clear hcz25_0 hcz25_1 hcz25_2 hcz25_3 hcz25_4 hcz25_5 hcz25_6 hcz25_7 hcz25_8 hfz25_0 hfz25_1 hfz25_2 hfz25_3 hfz25_4 hfz25_5 hfz25_6 hfz25_7 hfz25_8);(try clear hcz28_0 hcz28_1 hcz28_2 hfz28_0 hfz28_1 hfz28_2);(try clear hcz33_0 hcz33_1 hcz33_2 hcz33_3 hcz33_4 hcz33_5 hcz33_6 hcz33_7 hcz33_8 hfz33_0 hfz33_1 hfz33_2 hfz33_3 hfz33_4 hfz33_5 hfz33_6 hfz33_7 hfz33_8);(try clear hcz37_0 hcz37_1 hcz37_2 hcz37_3 hcz37_4 hcz37_5 hcz37_6 hcz37_7 hcz37_8 hfz37_0 hfz37_1 hfz37_2 hfz37_3 hfz37_4 hfz37_5 hfz37_6 hfz37_7 hfz37_8);(try clear hx428_0);(try clear hx428_1);(try clear hx428_2);(try clear hx428_3);(try clear hx428_4);(try clear hx428_5);(try clear hx428_6);(try clear hx428_7);(try clear hx428_8);(try clear p428);(try clear q428)
        obtain ⟨kq, x44_19, rfl, HA, HJ19, HO_428000, BK422, BK423, BK427, BK429, HB⟩ := hcut
        cases kq with
        | zero => exact absurd HA.out (by simp [impl_Regroup.j1])
        | succ kj19 =>
         have H := HA.out
         clear HA
         simp only [impl_Regroup.j1] at H
         by_cases c38 : x44_19 = true
         ·subst c38
          rw [if_pos rfl] at H
          have H' := Aside0.mk H
          clear H
          go_wp2
          go_roundg kj19
          case measure => have := HK1.out; have := HJ19.out; omega
          case rel => exact ⟨(wrap64 (x19_1 + 1)), (x424001_1), (x424002_1), (x428000_1), (ji19), (x428002_1), (u428000), rs_, (by first | exact H' | (simp only [hji19]; exact H')), ⟨by have := HK1.out; have := HJ19.out; omega⟩, ⟨rr_ HO_428000⟩, ⟨bk_ BK422⟩, ⟨bk_ BK423⟩, ⟨bk_ BK427⟩, ⟨hz_ HB⟩⟩
         ·replace c38 := Bool.eq_false_iff.mpr c38
          subst c38
          rw [if_neg ff_] at H
          by_cases c39 : 0 ≤ x19_1
          ·rw [if_pos c39] at H
           have c39b0 := eq_true c39
           have c39b1 : decide (0 ≤ x19_1) = true := decide_eq_true c39
           clear c39
           by_cases c40 : x19_1 ≤ (l1.length : Int)
           ·rw [if_pos c40] at H
            have c40b0 := eq_true c40
            have c40b1 : decide (x19_1 ≤ (l1.length : Int)) = true := decide_eq_true c40
            clear c40
            obtain ⟨y430, hy430⟩ : ∃ y_ : List (S48), y_ = (l1.take (x19_1 : Int).toNat) := ⟨_, rfl⟩
            rw [← hy430] at H
            have Ny430 := Aside0.mk hy430
            clear hy430
            replace H := Option.bind_eq_some_iff.mp H
            obtain ⟨t434, A410, H⟩ := H
            have A41 := Aside0.mk A410
            clear A410
            replace H := Option.bind_eq_some_iff.mp H
            obtain ⟨t437, A420, H⟩ := H
            have A42 := Aside0.mk A420
            clear A420
            by_cases c43 : t437 = true
            ·subst c43
             rw [if_pos rfl] at H
             replace H := Option.bind_eq_some_iff.mp H
             obtain ⟨⟨t438, t441, t442⟩, A440, H⟩ := H
             have A44 := Aside0.mk A440
             clear A440
             have H' := Aside0.mk H
             clear H
             try go_wp2
             replace HO_428000 := rd_ HO_428000
             replace BK422 := bd_ BK422
             replace BK423 := bd_ BK423
             replace BK427 := bd_ BK427
             replace BK429 := bd_ BK429
             replace HB := hd_ HB
             have q46 : (x19_1 : Int) ≤ ((l1.length : Int) : Int) := of_decide_eq_true as_
             obtain ⟨i046, hi046, _, hsz46, _⟩ := info_parts info48
             have hroom46 : l1.length ≤ c1 := HC1.out
             have hC46 : Kd.C k48 _ (some ad428) l1.length l1 := HR1.out
             have hcut46 := cut_to (P := Try.prog) 33 48 .i64 Try.underlying33 hi046 (some ad428) l1.length c1 x19_1 (of_decide_eq_true as_) q46 hroom46
             have hr46 := Kd.C_take (m := (x19_1 : Int).toNat) hC46 (by omega)
             have hy46 : y430.length = (x19_1 : Int).toNat := (by rw [Ny430.out, List.length_take]; omega)
             rw [← Ny430.out] at hr46
             rw [← hy46] at hcut46
             have HR433 := Aside0.mk hr46
             have HC433 := Aside0.mk (show y430.length ≤ c1 from by omega)
             clear hr46 hC46 hroom46 hi046 hsz46
             have KY46 := Aside0.mk hy46
             clear hy46
             replace q46 := eq_true q46
             refine start_ (n := 7) (S := k9e_ gb429 (.int .i64 ((rd_T48 l1 x19_1).f0)) (.int .i64 ((rd_T48 l1 x19_1).f1)) (.int .i64 ((rd_T48 l1 x19_1).f2)) (.int .i64 ((rd_T48 l1 x19_1).f3.f0)) (.int .i64 ((rd_T48 l1 x19_1).f3.f1)) (.string ((rd_T48 l1 x19_1).f3.f2)) (.string ((rd_T48 l1 x19_1).f3.f3)) (.int .i64 ((rd_T48 l1 x19_1).f3.f4)) (.int .i64 ((rd_T48 l1 x19_1).f3.f5))) (ds := []) (on_ 0 7) (by kernel_rfl) rfl rfl (p9e_ BK429) (fun hHeld => ?_)
             generalize wc.drew = w45 at HO_428000 BK422 BK423 BK427 BK429 HB HR433 hHeld ⊢
             refine pure_ (i := 0) (N := some 45) (v := ?_) (a' := ?_) (on_ 1 6) rfl rfl (by kernel_rfl) (fun _ _ _ h => h) (Or.inl ⟨by rfl, ?_⟩) ?_ ?_
             rotate_left;·intro w';go_simp;with_reducible rfl
             rotate_left;·simp only [Act.put, la_, lz_, ls_, i64_w, i32_w];rfl
             refine pure_ (i := 1) (N := some 46) (v := ?_) (a' := ?_) (on_ 2 5) rfl rfl (by kernel_rfl) (fun _ _ _ h => h) (Or.inl ⟨by rfl, ?_⟩) ?_ ?_
             rotate_left;·intro w';go_simp;with_reducible rfl
             rotate_left;·simp only [Act.put, la_, lz_, ls_, i64_w, i32_w];rfl
             refine pure_ (i := 2) (N := some 47) (v := ?_) (a' := ?_) (on_ 3 4) rfl rfl (by kernel_rfl) (fun _ _ _ h => h) (Or.inl ⟨by rfl, ?_⟩) ?_ ?_
             rotate_left;·intro w';go_simp;with_reducible rfl
             rotate_left;·simp only [Act.put, la_, lz_, ls_, i64_w, i32_w];rfl
             refine pure_ (i := 3) (N := some 48) (v := ?_) (a' := ?_) (on_ 4 3) rfl rfl (by kernel_rfl) (fun _ _ _ h => h) (Or.inl ⟨by rfl, ?_⟩) ?_ ?_
             rotate_left;·intro w';go_simp;with_reducible rfl
             rotate_left;·simp only [Act.put, la_, lz_, ls_, i64_w, i32_w];rfl
             refine take_ (i := 4) (N := some 49) (v := ?_) (a' := ?_) (on_ 5 2) rfl rfl (by kernel_rfl) (fun _ _ _ h => h) (Or.inl ⟨by rfl, ?_⟩) hHeld ?_ ?_
             rotate_left
             ·rintro w' ⟨s0, s1, s2, s3, s4, s5, s6, s7, s8⟩
              go_simp
              with_reducible rfl
             rotate_left
             ·simp only [Act.put, la_, lz_, ls_, i64_w, i32_w]
              rfl
             refine one_ (i := 5) (N := some 50) (on_ 6 1) rfl rfl (by kernel_rfl) (by decide) (fun K hK => ?_)
             refine goes_ Try.func24 (by kernel_rfl) rfl #[.slice (some ad428) y430.length c1, .agg #[.int .i64 ((rd_T48 l1 x19_1).f3.f0), .int .i64 ((rd_T48 l1 x19_1).f3.f1), .string ((rd_T48 l1 x19_1).f3.f2), .string ((rd_T48 l1 x19_1).f3.f3), .int .i64 ((rd_T48 l1 x19_1).f3.f4), .int .i64 ((rd_T48 l1 x19_1).f3.f5)]] (by rfl) rfl rfl ar_ ?_
             with_reducible refine (impl_ownOf.calls kj19 _ _ y430 ((rd_T48 l1 x19_1).f3.f0) ((rd_T48 l1 x19_1).f3.f1) ((rd_T48 l1 x19_1).f3.f2) ((rd_T48 l1 x19_1).f3.f3) ((rd_T48 l1 x19_1).f3.f4) ((rd_T48 l1 x19_1).f3.f5) t434 _ ?side1 ?side2 A41.out).mono ?_
             (case side1 => repeat (first | exact (Kd.C_below HR433.out HB.out) | (with_reducible refine Kd.C_alloc ?_ _) | (with_reducible refine Kd.C_drewN ?_ _) | (with_reducible refine Kd.C_drew ?_)))
             (case side2 => exact HC433.out)
             rintro e w47 ⟨v435, rfl, ho0, hb⟩
             refine ⟨_, rfl, ?_⟩
             replace HO_428000 := rb_ HO_428000 hb
             have HO436 := Aside0.mk (Kd.R_lower (Kd.R_newB ho0 (g := gb429) (o := .cells #[.int .i64 ((rd_T48 l1 x19_1).f0), .int .i64 ((rd_T48 l1 x19_1).f1), .int .i64 ((rd_T48 l1 x19_1).f2), .int .i64 ((rd_T48 l1 x19_1).f3.f0), .int .i64 ((rd_T48 l1 x19_1).f3.f1), .string ((rd_T48 l1 x19_1).f3.f2), .string ((rd_T48 l1 x19_1).f3.f3), .int .i64 ((rd_T48 l1 x19_1).f3.f4), .int .i64 ((rd_T48 l1 x19_1).f3.f5)] 48 (0, 0)) (bk_ BK429)) (below_size (hw_ HB GE422 GE423 GE427 GE429)))
             replace BK422 := bb_ BK422 hb
             replace BK423 := bb_ BK423 hb
             replace BK427 := bb_ BK427 hb
             replace BK429 := bb_ BK429 hb
             replace HB := Aside0.mk (below_step (hw_ HB GE422 GE423 GE427 GE429) hb)
             (try clear hb)
             (try clear hb2)
             (try clear hk)
             (try clear hi)
             (try clear ho0)
             refine hK.out _ _ (p9e_ BK429) (fun hHeld => ?_)
             clear hK K
             refine norm_ (a' := ?_) ?_ ?_
             rotate_left
             ·show Act.put _ (some 50) _ = _
              simp only [Act.put, la_, lz_, ls_, i64_w, i32_w]
              rfl
             refine pure_ (i := 6) (N := some 8) (v := ?_) (a' := ?_) (on_ 7 0) rfl rfl (by kernel_rfl) (fun _ _ _ h => h) (Or.inl ⟨by rfl, ?_⟩) ?_ ?_
             rotate_left;·intro w';go_simp;with_reducible rfl
             rotate_left;·simp only [Act.put, la_, lz_, ls_, i64_w, i32_w];rfl
             refine done_ (by kernel_rfl) ?_
             have hnb48 := NB429_422.out
             have hnc48 := NB422_429.out
             have hnb49 := NB429_423.out
             have hnc49 := NB423_429.out
             have hnb50 := NB429_427.out
             have hnc50 := NB427_429.out
             obtain ⟨hcz51_0, hcz51_1, hcz51_2, hcz51_3, hcz51_4, hcz51_5, hcz51_6, hcz51_7, hcz51_8, hfz51_0, hfz51_1, hfz51_2, hfz51_3, hfz51_4, hfz51_5, hfz51_6, hfz51_7, hfz51_8⟩ := bc9_ BK429
             obtain ⟨Ao52, co52, eo52⟩ := Kd.R_slice HO436.out
             subst eo52
             try go_wp2_with (first | ((with_reducible refine gate_callee (f := 25) rfl ?_); refine goesL_ (some 55) rfl rfl Try.func25 (by kernel_rfl) rfl #[.agg #[.int .i64 ((rd_T48 l1 x19_1).f3.f0), .int .i64 ((rd_T48 l1 x19_1).f3.f1), .string ((rd_T48 l1 x19_1).f3.f2), .string ((rd_T48 l1 x19_1).f3.f3), .int .i64 ((rd_T48 l1 x19_1).f3.f4), .int .i64 ((rd_T48 l1 x19_1).f3.f5)], .slice Ao52 t434.length co52] rfl ar_ ?_; (with_reducible refine (impl_fits.calls kj19 ((rd_T48 l1 x19_1).f3.f0) ((rd_T48 l1 x19_1).f3.f1) ((rd_T48 l1 x19_1).f3.f2) ((rd_T48 l1 x19_1).f3.f3) ((rd_T48 l1 x19_1).f3.f4) ((rd_T48 l1 x19_1).f3.f5) _ _ t434 true _ ?side1 ?side2 A42.out).mono ?_); (case side1 => repeat (first | exact (Kd.R_reads' HO436.out).2.2 | (with_reducible refine Kd.C_alloc ?_ _) | (with_reducible refine Kd.C_drewN ?_ _) | (with_reducible refine Kd.C_drew ?_))); (case side2 => exact (Kd.R_reads' HO436.out).2.1); rintro e w53 ⟨rfl, hb⟩; refine ⟨_, rfl, ?_⟩; replace HO_428000 := rb_ HO_428000 hb; replace HO436 := rb_ HO436 hb; replace BK422 := bb_ BK422 hb; replace BK423 := bb_ BK423 hb; replace BK427 := bb_ BK427 hb; replace BK429 := bb_ BK429 hb; replace HB := Aside0.mk (below_step (hw_ HB GE422 GE423 GE427 GE429) hb); (try clear hb); (try clear hb2); (try clear hk); (try clear hi); have hnb54 := NB427_422.out; have hnc54 := NB422_427.out; have hnb55 := NB427_423.out; have hnc55 := NB423_427.out; obtain ⟨hcz56_0, hcz56_1, hcz56_2, hfz56_0, hfz56_1, hfz56_2⟩ := bc3_ BK427; obtain ⟨Ao57, co57, eo57⟩ := Kd.R_slice HO_428000.out; subst eo57) | ((with_reducible refine gate_callee (f := 26) rfl ?_); refine goesL_ (some 57) rfl rfl Try.func26 (by kernel_rfl) rfl #[.pointer (some ⟨gb427, 0, none⟩), .slice Ao52 t434.length co52] rfl (by (try simp only [List.map_toArray, List.map_cons, List.map_nil]); first | done | (simp only [hji19]; rfl) | rfl | (simp only [List.length_drop, List.length_take]; rfl)) ?_; (with_reducible refine (impl_Group_apply.calls kj19 gb427 (.slice Ao57 x428000_1.length co57) x428000_1 ji19 x428002_1 Ao52 co52 t434 t438 t441 t442 w _ ?side1 ?side2 ?side3 ?side4 ?side5 A44.out).mono ?_); (case side1 => exact (hw_ HB GE422 GE423 GE427 GE429)); (case side2 => exact GE427.out); (case side3 => exact (bk_ BK427)); (case side4 => exact (Kd.R_mono (rr_ HO_428000) (fun _ _ => trivial))); (case side5 => exact (Kd.R_mono (rr_ HO436) (fun _ _ => trivial))); rintro e w58 ⟨v439, rfl, ho0, hbk, hb, hk⟩; refine ⟨_, rfl, ?_⟩; replace BK422 := kb_ BK422 NB422_427 hk; replace BK423 := kb_ BK423 NB423_427 hk; replace BK429 := kb_ BK429 NB429_427 hk; replace BK427 := Aside0.mk hbk; replace HB := Aside0.mk hb; have HO440 := Aside0.mk ho0; clear HO_428000 HO436 ho0 hbk hb hk))
             go_roundg kj19
             case measure => have := HK1.out; have := HJ19.out; omega
             case rel => exact ⟨(wrap64 (x19_1 + 1)), (x424001_1), (x424002_1), (t438), (t441), (t442), v439, rs_, (by first | exact H' | (simp only [hji19]; exact H')), ⟨by have := HK1.out; have := HJ19.out; omega⟩, ⟨rr_ HO440⟩, ⟨bk_ BK422⟩, ⟨bk_ BK423⟩, ⟨bk_ BK427⟩, ⟨hw_ HB GE422 GE423 GE427 GE429⟩⟩
            ·replace c43 := Bool.eq_false_iff.mpr c43
             subst c43
             rw [if_neg ff_] at H
             by_cases c61 : ((rd_T48 l1 x19_1).f3.f0) = 5
             ·rw [if_pos c61] at H
              have c61b0 : (((rd_T48 l1 x19_1).f3.f0) == 5) = true := beq_iff_eq.mpr c61
              have c61b1 : (((rd_T48 l1 x19_1).f3.f0) != 5) = false := bne_eq_false_iff_eq.mpr c61
              clear c61
              have H' := Aside0.mk H
              clear H
              try go_wp2
              replace HO_428000 := rd_ HO_428000
              replace BK422 := bd_ BK422
              replace BK423 := bd_ BK423
              replace BK427 := bd_ BK427
              replace BK429 := bd_ BK429
              replace HB := hd_ HB
              have q63 : (x19_1 : Int) ≤ ((l1.length : Int) : Int) := of_decide_eq_true as_
              obtain ⟨i063, hi063, _, hsz63, _⟩ := info_parts info48
              have hroom63 : l1.length ≤ c1 := HC1.out
              have hC63 : Kd.C k48 _ (some ad428) l1.length l1 := HR1.out
              have hcut63 := cut_to (P := Try.prog) 33 48 .i64 Try.underlying33 hi063 (some ad428) l1.length c1 x19_1 (of_decide_eq_true as_) q63 hroom63
              have hr63 := Kd.C_take (m := (x19_1 : Int).toNat) hC63 (by omega)
              have hy63 : y430.length = (x19_1 : Int).toNat := (by rw [Ny430.out, List.length_take]; omega)
              rw [← Ny430.out] at hr63
              rw [← hy63] at hcut63
              have HR433 := Aside0.mk hr63
              have HC433 := Aside0.mk (show y430.length ≤ c1 from by omega)
              clear hr63 hC63 hroom63 hi063 hsz63
              have KY63 := Aside0.mk hy63
              clear hy63
              replace q63 := eq_true q63
              refine start_ (n := 7) (S := k9e_ gb429 (.int .i64 ((rd_T48 l1 x19_1).f0)) (.int .i64 ((rd_T48 l1 x19_1).f1)) (.int .i64 ((rd_T48 l1 x19_1).f2)) (.int .i64 ((rd_T48 l1 x19_1).f3.f0)) (.int .i64 ((rd_T48 l1 x19_1).f3.f1)) (.string ((rd_T48 l1 x19_1).f3.f2)) (.string ((rd_T48 l1 x19_1).f3.f3)) (.int .i64 ((rd_T48 l1 x19_1).f3.f4)) (.int .i64 ((rd_T48 l1 x19_1).f3.f5))) (ds := []) (on_ 0 7) (by kernel_rfl) rfl rfl (p9e_ BK429) (fun hHeld => ?_)
              generalize wc.drew = w62 at HO_428000 BK422 BK423 BK427 BK429 HB HR433 hHeld ⊢
              refine pure_ (i := 0) (N := some 45) (v := ?_) (a' := ?_) (on_ 1 6) rfl rfl (by kernel_rfl) (fun _ _ _ h => h) (Or.inl ⟨by rfl, ?_⟩) ?_ ?_
              rotate_left;·intro w';go_simp;with_reducible rfl
              rotate_left;·simp only [Act.put, la_, lz_, ls_, i64_w, i32_w];rfl
              refine pure_ (i := 1) (N := some 46) (v := ?_) (a' := ?_) (on_ 2 5) rfl rfl (by kernel_rfl) (fun _ _ _ h => h) (Or.inl ⟨by rfl, ?_⟩) ?_ ?_
              rotate_left;·intro w';go_simp;with_reducible rfl
              rotate_left;·simp only [Act.put, la_, lz_, ls_, i64_w, i32_w];rfl
              refine pure_ (i := 2) (N := some 47) (v := ?_) (a' := ?_) (on_ 3 4) rfl rfl (by kernel_rfl) (fun _ _ _ h => h) (Or.inl ⟨by rfl, ?_⟩) ?_ ?_
              rotate_left;·intro w';go_simp;with_reducible rfl
              rotate_left;·simp only [Act.put, la_, lz_, ls_, i64_w, i32_w];rfl
              refine pure_ (i := 3) (N := some 48) (v := ?_) (a' := ?_) (on_ 4 3) rfl rfl (by kernel_rfl) (fun _ _ _ h => h) (Or.inl ⟨by rfl, ?_⟩) ?_ ?_
              rotate_left;·intro w';go_simp;with_reducible rfl
              rotate_left;·simp only [Act.put, la_, lz_, ls_, i64_w, i32_w];rfl
              refine take_ (i := 4) (N := some 49) (v := ?_) (a' := ?_) (on_ 5 2) rfl rfl (by kernel_rfl) (fun _ _ _ h => h) (Or.inl ⟨by rfl, ?_⟩) hHeld ?_ ?_
              rotate_left
              ·rintro w' ⟨s0, s1, s2, s3, s4, s5, s6, s7, s8⟩
               go_simp
               with_reducible rfl
              rotate_left
              ·simp only [Act.put, la_, lz_, ls_, i64_w, i32_w]
               rfl
              refine one_ (i := 5) (N := some 50) (on_ 6 1) rfl rfl (by kernel_rfl) (by decide) (fun K hK => ?_)
              refine goes_ Try.func24 (by kernel_rfl) rfl #[.slice (some ad428) y430.length c1, .agg #[.int .i64 ((rd_T48 l1 x19_1).f3.f0), .int .i64 ((rd_T48 l1 x19_1).f3.f1), .string ((rd_T48 l1 x19_1).f3.f2), .string ((rd_T48 l1 x19_1).f3.f3), .int .i64 ((rd_T48 l1 x19_1).f3.f4), .int .i64 ((rd_T48 l1 x19_1).f3.f5)]] (by rfl) rfl rfl ar_ ?_
              with_reducible refine (impl_ownOf.calls kj19 _ _ y430 ((rd_T48 l1 x19_1).f3.f0) ((rd_T48 l1 x19_1).f3.f1) ((rd_T48 l1 x19_1).f3.f2) ((rd_T48 l1 x19_1).f3.f3) ((rd_T48 l1 x19_1).f3.f4) ((rd_T48 l1 x19_1).f3.f5) t434 _ ?side1 ?side2 A41.out).mono ?_
              (case side1 => repeat (first | exact (Kd.C_below HR433.out HB.out) | (with_reducible refine Kd.C_alloc ?_ _) | (with_reducible refine Kd.C_drewN ?_ _) | (with_reducible refine Kd.C_drew ?_)))
              (case side2 => exact HC433.out)
              rintro e w64 ⟨v435, rfl, ho0, hb⟩
              refine ⟨_, rfl, ?_⟩
              replace HO_428000 := rb_ HO_428000 hb
              have HO436 := Aside0.mk (Kd.R_lower (Kd.R_newB ho0 (g := gb429) (o := .cells #[.int .i64 ((rd_T48 l1 x19_1).f0), .int .i64 ((rd_T48 l1 x19_1).f1), .int .i64 ((rd_T48 l1 x19_1).f2), .int .i64 ((rd_T48 l1 x19_1).f3.f0), .int .i64 ((rd_T48 l1 x19_1).f3.f1), .string ((rd_T48 l1 x19_1).f3.f2), .string ((rd_T48 l1 x19_1).f3.f3), .int .i64 ((rd_T48 l1 x19_1).f3.f4), .int .i64 ((rd_T48 l1 x19_1).f3.f5)] 48 (0, 0)) (bk_ BK429)) (below_size (hw_ HB GE422 GE423 GE427 GE429)))
              replace BK422 := bb_ BK422 hb
              replace BK423 := bb_ BK423 hb
              replace BK427 := bb_ BK427 hb
              replace BK429 := bb_ BK429 hb
              replace HB := Aside0.mk (below_step (hw_ HB GE422 GE423 GE427 GE429) hb)
              (try clear hb)
              (try clear hb2)
              (try clear hk)
              (try clear hi)
              (try clear ho0)
              refine hK.out _ _ (p9e_ BK429) (fun hHeld => ?_)
              clear hK K
              refine norm_ (a' := ?_) ?_ ?_
              rotate_left
              ·show Act.put _ (some 50) _ = _
               simp only [Act.put, la_, lz_, ls_, i64_w, i32_w]
               rfl
              refine pure_ (i := 6) (N := some 8) (v := ?_) (a' := ?_) (on_ 7 0) rfl rfl (by kernel_rfl) (fun _ _ _ h => h) (Or.inl ⟨by rfl, ?_⟩) ?_ ?_
              rotate_left;·intro w';go_simp;with_reducible rfl
              rotate_left;·simp only [Act.put, la_, lz_, ls_, i64_w, i32_w];rfl
              refine done_ (by kernel_rfl) ?_
              have hnb65 := NB429_422.out
              have hnc65 := NB422_429.out
              have hnb66 := NB429_423.out
              have hnc66 := NB423_429.out
              have hnb67 := NB429_427.out
              have hnc67 := NB427_429.out
              obtain ⟨hcz68_0, hcz68_1, hcz68_2, hcz68_3, hcz68_4, hcz68_5, hcz68_6, hcz68_7, hcz68_8, hfz68_0, hfz68_1, hfz68_2, hfz68_3, hfz68_4, hfz68_5, hfz68_6, hfz68_7, hfz68_8⟩ := bc9_ BK429
              obtain ⟨Ao69, co69, eo69⟩ := Kd.R_slice HO436.out
              subst eo69
              try go_wp2_with (first | ((with_reducible refine gate_callee (f := 25) rfl ?_); refine goesL_ (some 55) rfl rfl Try.func25 (by kernel_rfl) rfl #[.agg #[.int .i64 ((rd_T48 l1 x19_1).f3.f0), .int .i64 ((rd_T48 l1 x19_1).f3.f1), .string ((rd_T48 l1 x19_1).f3.f2), .string ((rd_T48 l1 x19_1).f3.f3), .int .i64 ((rd_T48 l1 x19_1).f3.f4), .int .i64 ((rd_T48 l1 x19_1).f3.f5)], .slice Ao69 t434.length co69] rfl ar_ ?_; (with_reducible refine (impl_fits.calls kj19 ((rd_T48 l1 x19_1).f3.f0) ((rd_T48 l1 x19_1).f3.f1) ((rd_T48 l1 x19_1).f3.f2) ((rd_T48 l1 x19_1).f3.f3) ((rd_T48 l1 x19_1).f3.f4) ((rd_T48 l1 x19_1).f3.f5) _ _ t434 false _ ?side1 ?side2 A42.out).mono ?_); (case side1 => repeat (first | exact (Kd.R_reads' HO436.out).2.2 | (with_reducible refine Kd.C_alloc ?_ _) | (with_reducible refine Kd.C_drewN ?_ _) | (with_reducible refine Kd.C_drew ?_))); (case side2 => exact (Kd.R_reads' HO436.out).2.1); rintro e w70 ⟨rfl, hb⟩; refine ⟨_, rfl, ?_⟩; replace HO_428000 := rb_ HO_428000 hb; replace HO436 := rb_ HO436 hb; replace BK422 := bb_ BK422 hb; replace BK423 := bb_ BK423 hb; replace BK427 := bb_ BK427 hb; replace BK429 := bb_ BK429 hb; replace HB := Aside0.mk (below_step (hw_ HB GE422 GE423 GE427 GE429) hb); (try clear hb); (try clear hb2); (try clear hk); (try clear hi); obtain ⟨hcz71_0, hcz71_1, hcz71_2, hcz71_3, hcz71_4, hcz71_5, hcz71_6, hcz71_7, hcz71_8, hfz71_0, hfz71_1, hfz71_2, hfz71_3, hfz71_4, hfz71_5, hfz71_6, hfz71_7, hfz71_8⟩ := bc9_ BK429; have hnb72 := NB427_422.out; have hnc72 := NB422_427.out; have hnb73 := NB427_423.out; have hnc73 := NB423_427.out; obtain ⟨hcz74_0, hcz74_1, hcz74_2, hfz74_0, hfz74_1, hfz74_2⟩ := bc3_ BK427))
              go_roundg kj19
              case measure => have := HK1.out; have := HJ19.out; omega
              case rel => exact ⟨(wrap64 (x19_1 + 1)), (x424001_1), (x424002_1), (x428000_1), (ji19), (1), (u428000), rs_, (by first | exact H' | (simp only [hji19]; exact H')), ⟨by have := HK1.out; have := HJ19.out; omega⟩, ⟨by (with_reducible repeat (first | apply Kd.R_alloc | apply Kd.R_drewN | apply Kd.R_drew)); exact Kd.R_mono (Kd.R_far (p := ⟨gb427, 2, none⟩) (Kd.R_types HO_428000.out BK427.out (by decide)) (fun _ hk => hk.2) (.int .i64 1)) (fun _ hk => trivial)⟩, ⟨uq_ BK422 fun h_ => ⟨_, ua_, ub_⟩⟩, ⟨uq_ BK423 fun h_ => ⟨_, ua_, ub_⟩⟩, ⟨uq_ BK427 fun h_ => ⟨_, ua_, ub_⟩⟩, ⟨hz_ HB⟩⟩
             ·rw [if_neg c61] at H
              have c61b0 : (((rd_T48 l1 x19_1).f3.f0) == 5) = false := beq_eq_false_iff_ne.mpr c61
              have c61b1 : (((rd_T48 l1 x19_1).f3.f0) != 5) = true := bne_iff_ne.mpr c61
              have H' := Aside0.mk H
              clear H
              try go_wp2
              replace HO_428000 := rd_ HO_428000
              replace BK422 := bd_ BK422
              replace BK423 := bd_ BK423
              replace BK427 := bd_ BK427
              replace BK429 := bd_ BK429
              replace HB := hd_ HB
              have q76 : (x19_1 : Int) ≤ ((l1.length : Int) : Int) := of_decide_eq_true as_
              obtain ⟨i076, hi076, _, hsz76, _⟩ := info_parts info48
              have hroom76 : l1.length ≤ c1 := HC1.out
              have hC76 : Kd.C k48 _ (some ad428) l1.length l1 := HR1.out
              have hcut76 := cut_to (P := Try.prog) 33 48 .i64 Try.underlying33 hi076 (some ad428) l1.length c1 x19_1 (of_decide_eq_true as_) q76 hroom76
              have hr76 := Kd.C_take (m := (x19_1 : Int).toNat) hC76 (by omega)
              have hy76 : y430.length = (x19_1 : Int).toNat := (by rw [Ny430.out, List.length_take]; omega)
              rw [← Ny430.out] at hr76
              rw [← hy76] at hcut76
              have HR433 := Aside0.mk hr76
              have HC433 := Aside0.mk (show y430.length ≤ c1 from by omega)
              clear hr76 hC76 hroom76 hi076 hsz76
              have KY76 := Aside0.mk hy76
              clear hy76
              replace q76 := eq_true q76
              refine start_ (n := 7) (S := k9e_ gb429 (.int .i64 ((rd_T48 l1 x19_1).f0)) (.int .i64 ((rd_T48 l1 x19_1).f1)) (.int .i64 ((rd_T48 l1 x19_1).f2)) (.int .i64 ((rd_T48 l1 x19_1).f3.f0)) (.int .i64 ((rd_T48 l1 x19_1).f3.f1)) (.string ((rd_T48 l1 x19_1).f3.f2)) (.string ((rd_T48 l1 x19_1).f3.f3)) (.int .i64 ((rd_T48 l1 x19_1).f3.f4)) (.int .i64 ((rd_T48 l1 x19_1).f3.f5))) (ds := []) (on_ 0 7) (by kernel_rfl) rfl rfl (p9e_ BK429) (fun hHeld => ?_)
              generalize wc.drew = w75 at HO_428000 BK422 BK423 BK427 BK429 HB HR433 hHeld ⊢
              refine pure_ (i := 0) (N := some 45) (v := ?_) (a' := ?_) (on_ 1 6) rfl rfl (by kernel_rfl) (fun _ _ _ h => h) (Or.inl ⟨by rfl, ?_⟩) ?_ ?_
              rotate_left;·intro w';go_simp;with_reducible rfl
              rotate_left;·simp only [Act.put, la_, lz_, ls_, i64_w, i32_w];rfl
              refine pure_ (i := 1) (N := some 46) (v := ?_) (a' := ?_) (on_ 2 5) rfl rfl (by kernel_rfl) (fun _ _ _ h => h) (Or.inl ⟨by rfl, ?_⟩) ?_ ?_
              rotate_left;·intro w';go_simp;with_reducible rfl
              rotate_left;·simp only [Act.put, la_, lz_, ls_, i64_w, i32_w];rfl
              refine pure_ (i := 2) (N := some 47) (v := ?_) (a' := ?_) (on_ 3 4) rfl rfl (by kernel_rfl) (fun _ _ _ h => h) (Or.inl ⟨by rfl, ?_⟩) ?_ ?_
              rotate_left;·intro w';go_simp;with_reducible rfl
              rotate_left;·simp only [Act.put, la_, lz_, ls_, i64_w, i32_w];rfl
              refine pure_ (i := 3) (N := some 48) (v := ?_) (a' := ?_) (on_ 4 3) rfl rfl (by kernel_rfl) (fun _ _ _ h => h) (Or.inl ⟨by rfl, ?_⟩) ?_ ?_
              rotate_left;·intro w';go_simp;with_reducible rfl
              rotate_left;·simp only [Act.put, la_, lz_, ls_, i64_w, i32_w];rfl
              refine take_ (i := 4) (N := some 49) (v := ?_) (a' := ?_) (on_ 5 2) rfl rfl (by kernel_rfl) (fun _ _ _ h => h) (Or.inl ⟨by rfl, ?_⟩) hHeld ?_ ?_
              rotate_left
              ·rintro w' ⟨s0, s1, s2, s3, s4, s5, s6, s7, s8⟩
               go_simp
               with_reducible rfl
              rotate_left
              ·simp only [Act.put, la_, lz_, ls_, i64_w, i32_w]
               rfl
              refine one_ (i := 5) (N := some 50) (on_ 6 1) rfl rfl (by kernel_rfl) (by decide) (fun K hK => ?_)
              refine goes_ Try.func24 (by kernel_rfl) rfl #[.slice (some ad428) y430.length c1, .agg #[.int .i64 ((rd_T48 l1 x19_1).f3.f0), .int .i64 ((rd_T48 l1 x19_1).f3.f1), .string ((rd_T48 l1 x19_1).f3.f2), .string ((rd_T48 l1 x19_1).f3.f3), .int .i64 ((rd_T48 l1 x19_1).f3.f4), .int .i64 ((rd_T48 l1 x19_1).f3.f5)]] (by rfl) rfl rfl ar_ ?_
              with_reducible refine (impl_ownOf.calls kj19 _ _ y430 ((rd_T48 l1 x19_1).f3.f0) ((rd_T48 l1 x19_1).f3.f1) ((rd_T48 l1 x19_1).f3.f2) ((rd_T48 l1 x19_1).f3.f3) ((rd_T48 l1 x19_1).f3.f4) ((rd_T48 l1 x19_1).f3.f5) t434 _ ?side1 ?side2 A41.out).mono ?_
              (case side1 => repeat (first | exact (Kd.C_below HR433.out HB.out) | (with_reducible refine Kd.C_alloc ?_ _) | (with_reducible refine Kd.C_drewN ?_ _) | (with_reducible refine Kd.C_drew ?_)))
              (case side2 => exact HC433.out)
              rintro e w77 ⟨v435, rfl, ho0, hb⟩
              refine ⟨_, rfl, ?_⟩
              replace HO_428000 := rb_ HO_428000 hb
              have HO436 := Aside0.mk (Kd.R_lower (Kd.R_newB ho0 (g := gb429) (o := .cells #[.int .i64 ((rd_T48 l1 x19_1).f0), .int .i64 ((rd_T48 l1 x19_1).f1), .int .i64 ((rd_T48 l1 x19_1).f2), .int .i64 ((rd_T48 l1 x19_1).f3.f0), .int .i64 ((rd_T48 l1 x19_1).f3.f1), .string ((rd_T48 l1 x19_1).f3.f2), .string ((rd_T48 l1 x19_1).f3.f3), .int .i64 ((rd_T48 l1 x19_1).f3.f4), .int .i64 ((rd_T48 l1 x19_1).f3.f5)] 48 (0, 0)) (bk_ BK429)) (below_size (hw_ HB GE422 GE423 GE427 GE429)))
              replace BK422 := bb_ BK422 hb
              replace BK423 := bb_ BK423 hb
              replace BK427 := bb_ BK427 hb
              replace BK429 := bb_ BK429 hb
              replace HB := Aside0.mk (below_step (hw_ HB GE422 GE423 GE427 GE429) hb)
              (try clear hb)
              (try clear hb2)
              (try clear hk)
              (try clear hi)
              (try clear ho0)
              refine hK.out _ _ (p9e_ BK429) (fun hHeld => ?_)
              clear hK K
              refine norm_ (a' := ?_) ?_ ?_
              rotate_left
              ·show Act.put _ (some 50) _ = _
               simp only [Act.put, la_, lz_, ls_, i64_w, i32_w]
               rfl
              refine pure_ (i := 6) (N := some 8) (v := ?_) (a' := ?_) (on_ 7 0) rfl rfl (by kernel_rfl) (fun _ _ _ h => h) (Or.inl ⟨by rfl, ?_⟩) ?_ ?_
              rotate_left;·intro w';go_simp;with_reducible rfl
              rotate_left;·simp only [Act.put, la_, lz_, ls_, i64_w, i32_w];rfl
              refine done_ (by kernel_rfl) ?_
              have hnb78 := NB429_422.out
              have hnc78 := NB422_429.out
              have hnb79 := NB429_423.out
              have hnc79 := NB423_429.out
              have hnb80 := NB429_427.out
              have hnc80 := NB427_429.out
              obtain ⟨hcz81_0, hcz81_1, hcz81_2, hcz81_3, hcz81_4, hcz81_5, hcz81_6, hcz81_7, hcz81_8, hfz81_0, hfz81_1, hfz81_2, hfz81_3, hfz81_4, hfz81_5, hfz81_6, hfz81_7, hfz81_8⟩ := bc9_ BK429
              obtain ⟨Ao82, co82, eo82⟩ := Kd.R_slice HO436.out
              subst eo82
              try go_wp2_with (first | ((with_reducible refine gate_callee (f := 25) rfl ?_); refine goesL_ (some 55) rfl rfl Try.func25 (by kernel_rfl) rfl #[.agg #[.int .i64 ((rd_T48 l1 x19_1).f3.f0), .int .i64 ((rd_T48 l1 x19_1).f3.f1), .string ((rd_T48 l1 x19_1).f3.f2), .string ((rd_T48 l1 x19_1).f3.f3), .int .i64 ((rd_T48 l1 x19_1).f3.f4), .int .i64 ((rd_T48 l1 x19_1).f3.f5)], .slice Ao82 t434.length co82] rfl ar_ ?_; (with_reducible refine (impl_fits.calls kj19 ((rd_T48 l1 x19_1).f3.f0) ((rd_T48 l1 x19_1).f3.f1) ((rd_T48 l1 x19_1).f3.f2) ((rd_T48 l1 x19_1).f3.f3) ((rd_T48 l1 x19_1).f3.f4) ((rd_T48 l1 x19_1).f3.f5) _ _ t434 false _ ?side1 ?side2 A42.out).mono ?_); (case side1 => repeat (first | exact (Kd.R_reads' HO436.out).2.2 | (with_reducible refine Kd.C_alloc ?_ _) | (with_reducible refine Kd.C_drewN ?_ _) | (with_reducible refine Kd.C_drew ?_))); (case side2 => exact (Kd.R_reads' HO436.out).2.1); rintro e w83 ⟨rfl, hb⟩; refine ⟨_, rfl, ?_⟩; replace HO_428000 := rb_ HO_428000 hb; replace HO436 := rb_ HO436 hb; replace BK422 := bb_ BK422 hb; replace BK423 := bb_ BK423 hb; replace BK427 := bb_ BK427 hb; replace BK429 := bb_ BK429 hb; replace HB := Aside0.mk (below_step (hw_ HB GE422 GE423 GE427 GE429) hb); (try clear hb); (try clear hb2); (try clear hk); (try clear hi); obtain ⟨hcz84_0, hcz84_1, hcz84_2, hcz84_3, hcz84_4, hcz84_5, hcz84_6, hcz84_7, hcz84_8, hfz84_0, hfz84_1, hfz84_2, hfz84_3, hfz84_4, hfz84_5, hfz84_6, hfz84_7, hfz84_8⟩ := bc9_ BK429))
              go_roundg kj19
              case measure => have := HK1.out; have := HJ19.out; omega
              case rel => exact ⟨(wrap64 (x19_1 + 1)), (x424001_1), (x424002_1), (x428000_1), (ji19), (x428002_1), (u428000), rs_, (by first | exact H' | (simp only [hji19]; exact H')), ⟨by have := HK1.out; have := HJ19.out; omega⟩, ⟨rr_ HO_428000⟩, ⟨bk_ BK422⟩, ⟨bk_ BK423⟩, ⟨bk_ BK427⟩, ⟨hz_ HB⟩⟩
           ·rw [if_neg c40] at H
            exact absurd H (by simp)
          ·rw [if_neg c39] at H
           exact absurd H (by simp)
      ·rw [if_neg c18] at H
       have c18b0 : (x428002_1 == 0) = false := beq_eq_false_iff_ne.mpr c18
       have c18b1 : (x428002_1 != 0) = true := bne_iff_ne.mpr c18
       simp only [Option.some.injEq, Prod.mk.injEq] at H
       obtain ⟨rfl, rfl, rfl⟩ := H
       have p428 : 0 ≤ (x19_1 : Int) := of_decide_eq_true as_
       have q428 : x19_1 < (l1.length : Int) := of_decide_eq_true as_
       obtain ⟨ad428, e428, hx428_0, hx428_1, hx428_2, hx428_3, hx428_4, hx428_5, hx428_6, hx428_7, hx428_8⟩ := at_T48 HR1.out x19_1 p428 q428
       cases e428
       (try replace hx428_0 := cb_ HB hx428_0)
       (try replace hx428_1 := cb_ HB hx428_1)
       (try replace hx428_2 := cb_ HB hx428_2)
       (try replace hx428_3 := cb_ HB hx428_3)
       (try replace hx428_4 := cb_ HB hx428_4)
       (try replace hx428_5 := cb_ HB hx428_5)
       (try replace hx428_6 := cb_ HB hx428_6)
       (try replace hx428_7 := cb_ HB hx428_7)
       (try replace hx428_8 := cb_ HB hx428_8)
       replace p428 := eq_true p428
       replace q428 := eq_true q428
       go_wp2_with (first | ((with_reducible refine gate_dst (N := 7) rfl ?_); (try (refine gate_guard (by rfl) ?_; dsimp only)); refine box_event ?hg (N := 7) ?hd (cs := #[.int .i64 0, .int .i64 0, .int .i64 0, .int .i64 0, .int .i64 0, .string (⟨#[]⟩ : ByteArray), .string (⟨#[]⟩ : ByteArray), .int .i64 0, .int .i64 0]) (t := 48) ?hr ?_; (case hd => rfl); (case hg => rfl); (case hr => first | (go_simp; done) | (go_simp; rfl)); intro gb429 hg w85 hbox hb; replace HO_428000 := rb_ HO_428000 hb; have BK429 := Aside0.mk (hbox); have GE429 := ge_ hg (hv_ HB GE422 GE423 GE427); replace HB := Aside0.mk (below_step (hv_ HB GE422 GE423 GE427) hb); have NB422_429 := nl_ BK422 hg; have NB429_422 := ng_ BK422 hg; replace BK422 := bb_ BK422 hb; have NB423_429 := nl_ BK423 hg; have NB429_423 := ng_ BK423 hg; replace BK423 := bb_ BK423 hb; have NB427_429 := nl_ BK427 hg; have NB429_427 := ng_ BK427 hg; replace BK427 := bb_ BK427 hb; (try replace hx428_0 := cx_ hb hx428_0); (try replace hx428_1 := cx_ hb hx428_1); (try replace hx428_2 := cx_ hb hx428_2); (try replace hx428_3 := cx_ hb hx428_3); (try replace hx428_4 := cx_ hb hx428_4); (try replace hx428_5 := cx_ hb hx428_5); (try replace hx428_6 := cx_ hb hx428_6); (try replace hx428_7 := cx_ hb hx428_7); (try replace hx428_8 := cx_ hb hx428_8); clear hb hbox hg; have hnb86 := NB429_422.out; have hnc86 := NB422_429.out; have hnb87 := NB429_423.out; have hnc87 := NB423_429.out; have hnb88 := NB429_427.out; have hnc88 := NB427_429.out; obtain ⟨hcz89_0, hcz89_1, hcz89_2, hcz89_3, hcz89_4, hcz89_5, hcz89_6, hcz89_7, hcz89_8, hfz89_0, hfz89_1, hfz89_2, hfz89_3, hfz89_4, hfz89_5, hfz89_6, hfz89_7, hfz89_8⟩ := bc9_ BK429; have hnb90 := NB427_422.out; have hnc90 := NB422_427.out; have hnb91 := NB427_423.out; have hnc91 := NB423_427.out; obtain ⟨hcz92_0, hcz92_1, hcz92_2, hfz92_0, hfz92_1, hfz92_2⟩ := bc3_ BK427; obtain ⟨Ao93, co93, eo93⟩ := Kd.R_slice HO_428000.out; subst eo93; have hnb94 := NB423_422.out; have hnc94 := NB422_423.out; obtain ⟨hcz95_0, hcz95_1, hcz95_2, hfz95_0, hfz95_1, hfz95_2⟩ := bc3_ BK423))
       refine bodyPost_ret (results_cell_row rfl _ _ gb423 30 #[.slice Ao93 x428000_1.length co93, .int .i64 x428001_1, .int .i64 x428002_1] (0, 0) _ rfl (uq_ BK423 fun h_ => ⟨_, ua_, ub_⟩) Try.underlying30 rfl (by kernel_rfl)) rfl ?_
       exact ⟨_, by first | rfl | (simp [errW_none, errW_some] <;> rfl) | (simp [*, errW_none, errW_some] <;> rfl), by (with_reducible repeat (first | apply Kd.R_alloc | apply Kd.R_drewN | apply Kd.R_drew)); exact Kd.R_mono (Kd.R_far (p := ⟨gb423, 2, none⟩) (Kd.R_far (p := ⟨gb423, 1, none⟩) (Kd.R_far (p := ⟨gb423, 0, none⟩) (Kd.R_far (p := ⟨gb429, 8, none⟩) (Kd.R_far (p := ⟨gb429, 7, none⟩) (Kd.R_far (p := ⟨gb429, 6, none⟩) (Kd.R_far (p := ⟨gb429, 5, none⟩) (Kd.R_far (p := ⟨gb429, 4, none⟩) (Kd.R_far (p := ⟨gb429, 3, none⟩) (Kd.R_far (p := ⟨gb429, 2, none⟩) (Kd.R_far (p := ⟨gb429, 1, none⟩) (Kd.R_far (p := ⟨gb429, 0, none⟩) (Kd.R_types (Kd.R_types HO_428000.out BK429.out (by decide)) BK423.out (by decide)) (fun _ hk => hk.1.2) (.int .i64 ((rd_T48 l1 x19_1).f0))) (fun _ hk => hk.1.2) (.int .i64 ((rd_T48 l1 x19_1).f1))) (fun _ hk => hk.1.2) (.int .i64 ((rd_T48 l1 x19_1).f2))) (fun _ hk => hk.1.2) (.int .i64 ((rd_T48 l1 x19_1).f3.f0))) (fun _ hk => hk.1.2) (.int .i64 ((rd_T48 l1 x19_1).f3.f1))) (fun _ hk => hk.1.2) (.string ((rd_T48 l1 x19_1).f3.f2))) (fun _ hk => hk.1.2) (.string ((rd_T48 l1 x19_1).f3.f3))) (fun _ hk => hk.1.2) (.int .i64 ((rd_T48 l1 x19_1).f3.f4))) (fun _ hk => hk.1.2) (.int .i64 ((rd_T48 l1 x19_1).f3.f5))) (fun _ hk => hk.2) (.slice Ao93 x428000_1.length co93)) (fun _ hk => hk.2) (.int .i64 x428001_1)) (fun _ hk => hk.2) (.int .i64 x428002_1)) (fun _ hk => trivial), hz_ HB⟩
     ·rw [if_neg c17] at H
      exact absurd H (by simp)
    ·rw [if_neg c16] at H
     exact absurd H (by simp)
   ·rw [if_neg c15] at H
    have c15b0 : decide (x19_1 < (l1.length : Int)) = false := decide_eq_false c15
    clear c15
    by_cases c96 : x428002_1 = 0
    ·rw [if_pos c96] at H
     have c96b0 : (x428002_1 == 0) = true := beq_iff_eq.mpr c96
     have c96b1 : (x428002_1 != 0) = false := bne_eq_false_iff_eq.mpr c96
     clear c96
     replace H := Option.bind_eq_some_iff.mp H
     obtain ⟨t443, A970, H⟩ := H
     have A97 := Aside0.mk A970
     clear A970
     by_cases c98 : (t443.length : Int) > 0
     ·rw [if_pos c98] at H
      have c98b0 : decide (0 < (t443.length : Int)) = true := decide_eq_true c98
      have c98b1 : decide (0 < t443.length) = true := decide_eq_true (by omega)
      clear c98
      simp only [Option.some.injEq, Prod.mk.injEq] at H
      obtain ⟨rfl, rfl, rfl⟩ := H
      have hnb99 := NB427_422.out
      have hnc99 := NB422_427.out
      have hnb100 := NB427_423.out
      have hnc100 := NB423_427.out
      obtain ⟨hcz101_0, hcz101_1, hcz101_2, hfz101_0, hfz101_1, hfz101_2⟩ := bc3_ BK427
      go_wp2_with (first | (go_at_call 24; (with_reducible refine (impl_ownOf.calls k1 _ _ l1 5 0 (⟨#[]⟩ : ByteArray) (⟨#[]⟩ : ByteArray) 0 0 t443 _ ?side1 ?side2 A97.out).mono ?_); (case side1 => repeat (first | exact (Kd.C_below HR1.out HB.out) | (with_reducible refine Kd.C_alloc ?_ _) | (with_reducible refine Kd.C_drewN ?_ _) | (with_reducible refine Kd.C_drew ?_))); (case side2 => exact HC1.out); rintro e w102 ⟨v444, rfl, ho0, hb⟩; replace HO_428000 := rb_ HO_428000 hb; have HO445 := Aside0.mk (Kd.R_lower ho0 (below_size (hv_ HB GE422 GE423 GE427))); replace BK422 := bb_ BK422 hb; replace BK423 := bb_ BK423 hb; replace BK427 := bb_ BK427 hb; replace HB := Aside0.mk (below_step (hv_ HB GE422 GE423 GE427) hb); (try clear hb); (try clear hb2); (try clear hk); (try clear hi); (try clear ho0); obtain ⟨Ao103, co103, eo103⟩ := Kd.R_slice HO445.out; subst eo103; obtain ⟨hcz104_0, hcz104_1, hcz104_2, hfz104_0, hfz104_1, hfz104_2⟩ := bc3_ BK427; obtain ⟨Ao105, co105, eo105⟩ := Kd.R_slice HO_428000.out; subst eo105; have hnb106 := NB423_422.out; have hnc106 := NB422_423.out; obtain ⟨hcz107_0, hcz107_1, hcz107_2, hfz107_0, hfz107_1, hfz107_2⟩ := bc3_ BK423))
      refine bodyPost_ret (results_cell_row rfl _ _ gb423 30 #[.slice Ao105 x428000_1.length co105, .int .i64 x428001_1, .int .i64 1] (0, 0) _ rfl (uq_ BK423 fun h_ => ⟨_, ua_, ub_⟩) Try.underlying30 rfl (by kernel_rfl)) rfl ?_
      exact ⟨_, by first | rfl | (simp [errW_none, errW_some] <;> rfl) | (simp [*, errW_none, errW_some] <;> rfl), by (with_reducible repeat (first | apply Kd.R_alloc | apply Kd.R_drewN | apply Kd.R_drew)); exact Kd.R_mono (Kd.R_far (p := ⟨gb423, 2, none⟩) (Kd.R_far (p := ⟨gb423, 1, none⟩) (Kd.R_far (p := ⟨gb423, 0, none⟩) (Kd.R_far (p := ⟨gb427, 2, none⟩) (Kd.R_types (Kd.R_types HO_428000.out BK427.out (by decide)) BK423.out (by decide)) (fun _ hk => hk.1.2) (.int .i64 1)) (fun _ hk => hk.2) (.slice Ao105 x428000_1.length co105)) (fun _ hk => hk.2) (.int .i64 x428001_1)) (fun _ hk => hk.2) (.int .i64 1)) (fun _ hk => trivial), hz_ HB⟩
     ·rw [if_neg c98] at H
      have c98b0 : decide (0 < (t443.length : Int)) = false := decide_eq_false c98
      have c98b1 : decide (0 < t443.length) = false := decide_eq_false (by omega)
      clear c98
      simp only [Option.some.injEq, Prod.mk.injEq] at H
      obtain ⟨rfl, rfl, rfl⟩ := H
      have hnb108 := NB427_422.out
      have hnc108 := NB422_427.out
      have hnb109 := NB427_423.out
      have hnc109 := NB423_427.out
      obtain ⟨hcz110_0, hcz110_1, hcz110_2, hfz110_0, hfz110_1, hfz110_2⟩ := bc3_ BK427
      go_wp2_with (first | (go_at_call 24; (with_reducible refine (impl_ownOf.calls k1 _ _ l1 5 0 (⟨#[]⟩ : ByteArray) (⟨#[]⟩ : ByteArray) 0 0 t443 _ ?side1 ?side2 A97.out).mono ?_); (case side1 => repeat (first | exact (Kd.C_below HR1.out HB.out) | (with_reducible refine Kd.C_alloc ?_ _) | (with_reducible refine Kd.C_drewN ?_ _) | (with_reducible refine Kd.C_drew ?_))); (case side2 => exact HC1.out); rintro e w111 ⟨v444, rfl, ho0, hb⟩; replace HO_428000 := rb_ HO_428000 hb; have HO445 := Aside0.mk (Kd.R_lower ho0 (below_size (hv_ HB GE422 GE423 GE427))); replace BK422 := bb_ BK422 hb; replace BK423 := bb_ BK423 hb; replace BK427 := bb_ BK427 hb; replace HB := Aside0.mk (below_step (hv_ HB GE422 GE423 GE427) hb); (try clear hb); (try clear hb2); (try clear hk); (try clear hi); (try clear ho0); obtain ⟨Ao112, co112, eo112⟩ := Kd.R_slice HO445.out; subst eo112; obtain ⟨hcz113_0, hcz113_1, hcz113_2, hfz113_0, hfz113_1, hfz113_2⟩ := bc3_ BK427; obtain ⟨Ao114, co114, eo114⟩ := Kd.R_slice HO_428000.out; subst eo114; have hnb115 := NB423_422.out; have hnc115 := NB422_423.out; obtain ⟨hcz116_0, hcz116_1, hcz116_2, hfz116_0, hfz116_1, hfz116_2⟩ := bc3_ BK423))
      refine bodyPost_ret (results_cell_row rfl _ _ gb423 30 #[.slice Ao114 x428000_1.length co114, .int .i64 x428001_1, .int .i64 x428002_1] (0, 0) _ rfl (uq_ BK423 fun h_ => ⟨_, ua_, ub_⟩) Try.underlying30 rfl (by kernel_rfl)) rfl ?_
      exact ⟨_, by first | rfl | (simp [errW_none, errW_some] <;> rfl) | (simp [*, errW_none, errW_some] <;> rfl), by (with_reducible repeat (first | apply Kd.R_alloc | apply Kd.R_drewN | apply Kd.R_drew)); exact Kd.R_mono (Kd.R_far (p := ⟨gb423, 2, none⟩) (Kd.R_far (p := ⟨gb423, 1, none⟩) (Kd.R_far (p := ⟨gb423, 0, none⟩) (Kd.R_types HO_428000.out BK423.out (by decide)) (fun _ hk => hk.2) (.slice Ao114 x428000_1.length co114)) (fun _ hk => hk.2) (.int .i64 x428001_1)) (fun _ hk => hk.2) (.int .i64 x428002_1)) (fun _ hk => trivial), hz_ HB⟩
    ·rw [if_neg c96] at H
     have c96b0 : (x428002_1 == 0) = false := beq_eq_false_iff_ne.mpr c96
     have c96b1 : (x428002_1 != 0) = true := bne_iff_ne.mpr c96
     simp only [Option.some.injEq, Prod.mk.injEq] at H
     obtain ⟨rfl, rfl, rfl⟩ := H
     have hnb117 := NB427_422.out
     have hnc117 := NB422_427.out
     have hnb118 := NB427_423.out
     have hnc118 := NB423_427.out
     obtain ⟨hcz119_0, hcz119_1, hcz119_2, hfz119_0, hfz119_1, hfz119_2⟩ := bc3_ BK427
     obtain ⟨Ao120, co120, eo120⟩ := Kd.R_slice HO_428000.out
     subst eo120
     have hnb121 := NB423_422.out
     have hnc121 := NB422_423.out
     obtain ⟨hcz122_0, hcz122_1, hcz122_2, hfz122_0, hfz122_1, hfz122_2⟩ := bc3_ BK423
     go_wp2
     refine bodyPost_ret (results_cell_row rfl _ _ gb423 30 #[.slice Ao120 x428000_1.length co120, .int .i64 x428001_1, .int .i64 x428002_1] (0, 0) _ rfl (uq_ BK423 fun h_ => ⟨_, ua_, ub_⟩) Try.underlying30 rfl (by kernel_rfl)) rfl ?_
     exact ⟨_, by first | rfl | (simp [errW_none, errW_some] <;> rfl) | (simp [*, errW_none, errW_some] <;> rfl), by (with_reducible repeat (first | apply Kd.R_alloc | apply Kd.R_drewN | apply Kd.R_drew)); exact Kd.R_mono (Kd.R_far (p := ⟨gb423, 2, none⟩) (Kd.R_far (p := ⟨gb423, 1, none⟩) (Kd.R_far (p := ⟨gb423, 0, none⟩) (Kd.R_types HO_428000.out BK423.out (by decide)) (fun _ hk => hk.2) (.slice Ao120 x428000_1.length co120)) (fun _ hk => hk.2) (.int .i64 x428001_1)) (fun _ hk => hk.2) (.int .i64 x428002_1)) (fun _ hk => trivial), hz_ HB⟩

end Go.Proofs.Ytcnmdjibogojnaa.PFnExactRegroup
