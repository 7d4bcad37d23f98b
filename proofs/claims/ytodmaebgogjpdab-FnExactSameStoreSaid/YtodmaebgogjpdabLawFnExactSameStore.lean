-- Laid by a program of this session, a copy of the kit's printer with additions (wip/patch_print.py): myhead. Lean checks it.
import Derived.Test.YtodmaebgogjpdabRows
import Derived.Test.YtodmaebgogjpdabPFnExactSameStorex6
import Derived.Test.YtodmaebgogjpdabPureFnExactSameStore
import Derived.Test.YtodmaebgogjpdabOpens
import Derived.WalkKit
import Derived.ProofKit
import Derived.OpenShut
import Derived.ShutString
import Derived.ChangeOld
import Derived.Below
import Derived.SizedLaws
import Derived.Carry
import Derived.ChangeSlices
namespace Go.Proofs.Ytodmaebgogjpdab.fnExactSameStore
open Go.ChangeShapes Go.WideShapes Go.ChangeAt Go.RowKit Go.Proofs.Ytodmaebgogjpdab.PFnExactSameStore Go.Proofs.Ytodmaebgogjpdab.Opened Go.Proofs.YtodmaebgogjpdabW.PrintWords
open Go.ChangeMaps (open_string shut_string)
set_option linter.unusedVariables false
theorem own : ownKnob Try.prog.godebug = none := by kernel_rfl
theorem laidOut : laidOutB Try.prog = true := by kernel_rfl
set_option maxRecDepth 100000 in
set_option maxHeartbeats 4000000 in
theorem lifted (os : Os) (started : os.Started) (H : Type) (enc : TypeId × Value → H) :
  ReturnsInHanded {} Try.checked os 13 .any (Rows.fnExactSameStoreSpec.pre6 enc Try.prog Try.f13 Rows.fnExactSameStoreRow.domain false) (Rows.fnExactSameStoreSpec.post enc Try.prog Try.f13 false true false false) := by
 refine returnsInHanded_of_change_sized (C := Try.checked) own started (by kernel_rfl) Try.func13
  (ChangeSpec.witness6 (enc := enc) (C := Try.checked) false ⟨#[], #[.agg #[.int .i64 0, .slice none 0 0, .slice none 0 0, .int .i64 0, .int .i64 0, .int .i64 0], .agg #[.int .i64 0, .slice none 0 0, .slice none 0 0, .int .i64 0, .int .i64 0, .int .i64 0]], []⟩ 8 (by kernel_rfl) (by kernel_rfl) (by kernel_rfl) (by kernel_rfl)) ?_
 intro W base args ds gs before hval0 hW hcnd hsz0 _
 have hsz : (DataW.weightsEach Try.prog (Try.f13.params.toList ++ Rows.fnExactSameStoreSpec.plain.varTypes Try.prog) (ds ++ gs)).all (· ≤ reachBytes) = true := hsz0
 have hval : ∀ (j : Nat) t v, Try.f13.params[j]? = some t → args[j]? = some v → Value.okWide Try.prog W .any base t v := hval0
 have hW' := hW
 obtain ⟨p, q, hA0, hV, rfl, hfz, hnd⟩ := hW
 have hA : DataW.TrodAll enc Try.prog W 0 (fun _ => true) true Try.f13.params.toList args.toList ds p := hA0
 rw [Try.params13] at hA hval hsz
 obtain ⟨v0, vs0, d0, ds0, p0, q0, hargs, rfl, rfl, h0, r0⟩ := trodAll_cons hA
 obtain ⟨v1, vs1, d1, ds1, p1, q1, rfl, rfl, rfl, h1, r1⟩ := trodAll_cons r0
 obtain ⟨rfl, rfl, rfl⟩ := trodAll_nil r1
 obtain rfl : args = #[v0, v1] := by cases args; simp_all
 obtain ⟨rfl, rfl⟩ := trodVars_none hV
 have lt0 : ∀ x ∈ p0, x.block < W.heap.size := by obtain ⟨m, hm⟩ := h0; exact DataW.trod_lt m _ _ _ hm
 obtain ⟨cs0, rfl, _⟩ := okWide_struct Try.underlying80 (hval 0 80 v0 rfl rfl)
 obtain ⟨y0, hk0, hg0⟩ := opens_trod (d := (Kd.pair (Kd.pair (Kd.int .i64) (Kd.slice 3 (Kd.int .i64))) (Kd.pair (Kd.slice 59 k59) (Kd.pair (Kd.int .i64) (Kd.pair (Kd.int .i64) (Kd.int .i64)))))) (opens_tuple Try.underlying80 (by kernel_rfl) (opens_cons rfl (by kernel_rfl) (opens_tuple Try.underlying72 (by kernel_rfl) (opens_cons rfl (by kernel_rfl) (opens_int Try.underlying3) (opens_last rfl (by kernel_rfl) (opens_slice Try.underlying70 (by kernel_rfl) (opens_int Try.underlying3))))) (opens_cons rfl (by kernel_rfl) (opens_slice Try.underlying58 (by kernel_rfl) (opens_struct (fun p => ⟨p.1, p.2.1, p.2.2.1, p.2.2.2.1, p.2.2.2.2⟩) (fun _ => rfl) Try.underlying59 (by kernel_rfl) (opens_cons rfl (by kernel_rfl) (opens_string Try.underlying9) (opens_cons rfl (by kernel_rfl) (opens_int Try.underlying3) (opens_cons rfl (by kernel_rfl) (opens_int Try.underlying3) (opens_cons rfl (by kernel_rfl) (opens_int Try.underlying3) (opens_last rfl (by kernel_rfl) (opens_int Try.underlying3)))))))) (opens_cons rfl (by kernel_rfl) (opens_int Try.underlying3) (opens_cons rfl (by kernel_rfl) (opens_int Try.underlying3) (opens_last rfl (by kernel_rfl) (opens_int Try.underlying3))))))) h0
 obtain ⟨⟨a0_0, l0_1⟩, l0_2, a0_3, a0_4, a0_5⟩ := y0
 obtain ⟨cs0⟩ := cs0
 obtain ⟨zs0, hzs0⟩ : ∃ zs, zs = cs0 := ⟨_, rfl⟩
 have hk0' : ((Kd.pair (Kd.pair (Kd.int .i64) (Kd.slice 3 (Kd.int .i64))) (Kd.pair (Kd.slice 59 k59) (Kd.pair (Kd.int .i64) (Kd.pair (Kd.int .i64) (Kd.int .i64)))))).K W ⟨⟨a0_0, l0_1⟩, l0_2, a0_3, a0_4, a0_5⟩ zs0 := by rw [hzs0]; exact hk0
 clear hk0
 obtain ⟨_, _, rfl, ⟨_, _, rfl, rfl, ⟨A0_1, c0_1, rfl, hc0_1, hr0_1⟩⟩, ⟨_, _, rfl, ⟨A0_2, c0_2, rfl, hc0_2, hr0_2⟩, ⟨_, _, rfl, rfl, ⟨_, _, rfl, rfl, rfl⟩⟩⟩⟩ := hk0'
 subst hzs0
 obtain ⟨⟨hg0_0, hg0_1⟩, hg0_2, hg0_3, hg0_4, hg0_5⟩ := hg0
 have lt1 : ∀ x ∈ p1, x.block < W.heap.size := by obtain ⟨m, hm⟩ := h1; exact DataW.trod_lt m _ _ _ hm
 obtain ⟨cs1, rfl, _⟩ := okWide_struct Try.underlying80 (hval 1 80 v1 rfl rfl)
 obtain ⟨y1, hk1, hg1⟩ := opens_trod (d := (Kd.pair (Kd.pair (Kd.int .i64) (Kd.slice 3 (Kd.int .i64))) (Kd.pair (Kd.slice 59 k59) (Kd.pair (Kd.int .i64) (Kd.pair (Kd.int .i64) (Kd.int .i64)))))) (opens_tuple Try.underlying80 (by kernel_rfl) (opens_cons rfl (by kernel_rfl) (opens_tuple Try.underlying72 (by kernel_rfl) (opens_cons rfl (by kernel_rfl) (opens_int Try.underlying3) (opens_last rfl (by kernel_rfl) (opens_slice Try.underlying70 (by kernel_rfl) (opens_int Try.underlying3))))) (opens_cons rfl (by kernel_rfl) (opens_slice Try.underlying58 (by kernel_rfl) (opens_struct (fun p => ⟨p.1, p.2.1, p.2.2.1, p.2.2.2.1, p.2.2.2.2⟩) (fun _ => rfl) Try.underlying59 (by kernel_rfl) (opens_cons rfl (by kernel_rfl) (opens_string Try.underlying9) (opens_cons rfl (by kernel_rfl) (opens_int Try.underlying3) (opens_cons rfl (by kernel_rfl) (opens_int Try.underlying3) (opens_cons rfl (by kernel_rfl) (opens_int Try.underlying3) (opens_last rfl (by kernel_rfl) (opens_int Try.underlying3)))))))) (opens_cons rfl (by kernel_rfl) (opens_int Try.underlying3) (opens_cons rfl (by kernel_rfl) (opens_int Try.underlying3) (opens_last rfl (by kernel_rfl) (opens_int Try.underlying3))))))) h1
 obtain ⟨⟨a1_0, l1_1⟩, l1_2, a1_3, a1_4, a1_5⟩ := y1
 obtain ⟨cs1⟩ := cs1
 obtain ⟨zs1, hzs1⟩ : ∃ zs, zs = cs1 := ⟨_, rfl⟩
 have hk1' : ((Kd.pair (Kd.pair (Kd.int .i64) (Kd.slice 3 (Kd.int .i64))) (Kd.pair (Kd.slice 59 k59) (Kd.pair (Kd.int .i64) (Kd.pair (Kd.int .i64) (Kd.int .i64)))))).K W ⟨⟨a1_0, l1_1⟩, l1_2, a1_3, a1_4, a1_5⟩ zs1 := by rw [hzs1]; exact hk1
 clear hk1
 obtain ⟨_, _, rfl, ⟨_, _, rfl, rfl, ⟨A1_1, c1_1, rfl, hc1_1, hr1_1⟩⟩, ⟨_, _, rfl, ⟨A1_2, c1_2, rfl, hc1_2, hr1_2⟩, ⟨_, _, rfl, rfl, ⟨_, _, rfl, rfl, rfl⟩⟩⟩⟩ := hk1'
 subst hzs1
 obtain ⟨⟨hg1_0, hg1_1⟩, hg1_2, hg1_3, hg1_4, hg1_5⟩ := hg1
 clear hA0 hval0 hsz0 hsz
 obtain ⟨k, hp⟩ := Pure.FnExactSameStore a0_0 l0_1 l0_2 a0_3 a0_4 a0_5 a1_0 l1_1 l1_2 a1_3 a1_4 a1_5 hg0_0 hg0_1 hg0_2 hg0_3 hg0_4 hg0_5 hg1_0 hg1_1 hg1_2 hg1_3 hg1_4 hg1_5
 refine (PFnExactSameStore.laws_FnExactSameStore.calls k a0_0 _ _ l0_1 _ _ l0_2 a0_3 a0_4 a0_5 a1_0 _ _ l1_1 _ _ l1_2 a1_3 a1_4 a1_5 true W hr0_1 hc0_1 hr0_2 hc0_2 hr1_1 hc1_1 hr1_2 hc1_2 rfl hp).mono ?_
 rintro e W' ⟨rfl, bel⟩
 exact ⟨_, rfl, _, _, _, [], _, [], hW', trodAll_mk1 (shut_bool Try.underlying4 _), (trodAll_cons_mk (Below.trod laidOut (by kernel_rfl) (of_decide_eq_true (by kernel_rfl)) h0 bel lt0) (trodAll_cons_mk (Below.trod laidOut (by kernel_rfl) (of_decide_eq_true (by kernel_rfl)) h1 bel lt1) trodAll_mk0)), rfl, bel.frame _, fun h => by cases h⟩
theorem over : Rows.fnExactSameStoreRow.holds Try.pinned (OpenSpec.ofChange Rows.fnExactSameStoreSpec) :=
 OpenClaim.holds_of_wide 13 Try.f13 rfl rfl rfl rfl rfl rfl rfl ⟨rfl, rfl, rfl, rfl, rfl⟩ rfl rfl rfl rfl rfl (by kernel_rfl) Try.func13 (by kernel_rfl)
  (of_decide_eq_true (by kernel_rfl)) (by unfold Func.isWrapper; first | (rw [if_pos (by decide +kernel)]; kernel_rfl) | (rw [if_neg (by decide +kernel)]; exact ⟨rfl, rfl⟩))
  (fun os started H enc _ => lifted os started H enc)
theorem proved : Rows.FnExactSameStoreSaid := over
#print axioms proved
end Go.Proofs.Ytodmaebgogjpdab.fnExactSameStore
namespace Go.Proofs.Ytodmaebgogjpdab
/-- The row, under a short name, for the claim. -/
theorem fnExactSameStore_holds : Rows.FnExactSameStoreSaid := fnExactSameStore.proved
end Go.Proofs.Ytodmaebgogjpdab
