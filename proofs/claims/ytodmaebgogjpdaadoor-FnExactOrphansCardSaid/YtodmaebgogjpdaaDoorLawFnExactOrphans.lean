-- Laid by a program of this session, a copy of the kit's printer with additions (wip/patch_print.py): myhead. Lean checks it.
import Derived.Test.YtodmaebgogjpdaaDoorRows
import Derived.Test.YtodmaebgogjpdaaDoorPFnExactOrphansx11
import Derived.Test.YtodmaebgogjpdaaDoorPureFnExactOrphans
import Derived.Test.YtodmaebgogjpdaaDoorOpens
import Derived.WalkKit
import Derived.Test.YtodmaebgogjpdaaDoorCards
import Derived.Test.YtodmaebgogjpdaaDoorTie
import Derived.Deep.DeepHandedRow
import Derived.LaidMore
import Derived.Lib.LaidU8
import Derived.SevenTiedAt
import Derived.MakeChecks
import Derived.Deep.DeepWitnessRef
import Derived.Stop.LaidErr
import Derived.Stop.JoinedAt
import Derived.RowKitTokens
import Derived.ProofKit
import Derived.OpenShut
import Derived.ShutString
import Derived.ChangeOld
import Derived.Below
import Derived.SizedLaws
import Derived.Carry
import Derived.ChangeSlices
namespace Go.Proofs.YtodmaebgogjpdaaDoor.fnExactOrphans
open Go.ChangeShapes Go.WideShapes Go.ChangeAt Go.RowKit Go.Proofs.YtodmaebgogjpdaaDoor.PFnExactOrphans Go.Proofs.YtodmaebgogjpdaaDoor.Opened Go.Proofs.YtodmaebgogjpdaaDoorW.PrintWords
open Go.ChangeMaps (open_string shut_string)
set_option linter.unusedVariables false
theorem own : ownKnob Tryd.prog.godebug = none := by kernel_rfl
theorem laidOut : laidOutB Tryd.prog = true := by kernel_rfl
theorem star : "*" ++ "errors.errorString" = "*errors.errorString" := by decide
theorem rowE (u : TypeId) (h : Tryd.prog.typeName? 3 u = some "*errors.errorString") : u = 92 :=
  typeName_ptr_named (nm := "errors.errorString") (by rw [star]; kernel_rfl) (by kernel_rfl) (by decide) u (by rw [star]; exact h)
theorem cET : Tryd.prog.cellsOf 94 = 1 := by kernel_rfl
theorem cST : Tryd.prog.cellsOf 9 = 1 := by kernel_rfl
theorem gErrSyntax : Tryd.prog.globalNamed "strconv.ErrSyntax" = some 0 := by kernel_rfl
theorem tErrSyntax : (Tryd.prog.globals[0]?).map (·.type) = some 70 := by kernel_rfl
theorem gErrRange : Tryd.prog.globalNamed "strconv.ErrRange" = some 1 := by kernel_rfl
theorem tErrRange : (Tryd.prog.globals[1]?).map (·.type) = some 70 := by kernel_rfl
theorem gPow : Tryd.prog.globalNamed "internal/strconv.uint64pow10" = some 2 := by kernel_rfl
theorem tPow : (Tryd.prog.globals[2]?).map (·.type) = some 102 := by kernel_rfl
theorem cA : Tryd.prog.cellsOf 102 = 20 := by kernel_rfl
theorem cE : Tryd.prog.cellsOf 81 = 1 := by kernel_rfl
theorem dPow : (Rows.laid_internal_strconv_uint64pow10 : DataW Unit) = Lib.tabData .u64 Lib.pow10Tab := by kernel_rfl
/-- What the row's list gives. -/
theorem tabs_of {W : World} (h : laidMetH Tryd.prog Rows.fnExactOrphansRow.laid W) : PFnExactOrphans.Tabs W := by
  rw [MakeChecks.laidMetH_plain _ _ _ (by kernel_rfl)] at h
  obtain ⟨g', t', cs, fuel, p, h1, h2, h3, h4⟩ := Lib.laidMet.reads h (n := "internal/strconv.uint64pow10") (d := Rows.laid_internal_strconv_uint64pow10) (by unfold Rows.fnExactOrphansRow; simp)
  obtain rfl := Option.some.inj (gPow.symm.trans h1)
  obtain rfl := Option.some.inj (tPow.symm.trans h2)
  rw [dPow] at h4
  have hp : Lib.TabIs Tryd.prog W "internal/strconv.uint64pow10" .u64 Lib.pow10Tab := by
    unfold Lib.TabIs
    rw [h3, ← Lib.cells_of_tab Tryd.underlying102 Tryd.underlying81 cE cA h4]
  obtain ⟨aErrSyntax, sErrSyntax, hvErrSyntax, _, _, _⟩ := laid_sentinel (h.tail.tail.tail.tail) gErrSyntax tErrSyntax Tryd.underlying70 rowE Tryd.underlying92 Tryd.underlying94 rfl rfl Tryd.underlying9 cET cST
  obtain ⟨aErrRange, sErrRange, hvErrRange, _, _, _⟩ := laid_sentinel (h.tail.tail.tail) gErrRange tErrRange Tryd.underlying70 rowE Tryd.underlying92 Tryd.underlying94 rfl rfl Tryd.underlying9 cET cST
  exact ⟨hp, ⟨_, _, by simpa using World.var?_cell gErrSyntax hvErrSyntax 0⟩, ⟨_, _, by simpa using World.var?_cell gErrRange hvErrRange 0⟩⟩
/-- A world for the witness: the heap that the door's own run leaves. -/
noncomputable def laidWorld (os : Os) : World := World.doorLaid Tryd.prog 62 os
theorem laid_met (os : Os) : laidMet Tryd.prog Rows.fnExactOrphansRow.laid ((laidWorld os).forCall (fun _ _ => 0) ⟨#[], #[.agg #[.slice none 0 0, .int .i64 0, .int .i64 0, .bool false], .agg #[.int .i64 0, .slice none 0 0]], []⟩).memory :=
  laidMet_of_run' 8 (by kernel_rfl) (by kernel_rfl)
theorem reads (os : Os) {H : Type} (enc : TypeId × Value → H) : ∃ places, DataW.whole enc Tryd.prog ((laidWorld os).forCall (fun _ _ => 0) ⟨#[], #[.agg #[.slice none 0 0, .int .i64 0, .int .i64 0, .bool false], .agg #[.int .i64 0, .slice none 0 0]], []⟩).memory Tryd.f3.params.toList Rows.fnExactOrphansSpec.vars false #[.agg #[.slice none 0 0, .int .i64 0, .int .i64 0, .bool false], .agg #[.int .i64 0, .slice none 0 0]].toList 8 = some ([.agg [.nil, .lit (.int .i64 0), .lit (.int .i64 0), .lit (.bool false)], .agg [.lit (.int .i64 0), .nil]], [], places) :=
  ⟨[], by kernel_rfl⟩
set_option maxRecDepth 100000 in
set_option maxHeartbeats 4000000 in
theorem lifted (os : Os) (started : os.Started) (H : Type) (enc : TypeId × Value → H) (F : Stop.Interp) :
    ReturnsInHanded {} Tryd.checked os 3 .any ((OpenSpec.ofChange Rows.fnExactOrphansSpec).preRow enc Tryd.prog Tryd.f3 Rows.fnExactOrphansRow.domain false Rows.fnExactOrphansRow.laid) (((OpenSpec.ofChange Rows.fnExactOrphansSpec).at F).post enc Tryd.prog Tryd.f3 false true false false) := by
  obtain ⟨places, hx⟩ := reads os enc
  refine returnsInHanded_of_row (C := Tryd.checked) (s := OpenSpec.ofChange Rows.fnExactOrphansSpec) own started (by kernel_rfl) Tryd.func3
    (witness_row_at (enc := enc) (C := Tryd.checked) false (laidWorld os) #[.agg #[.slice none 0 0, .int .i64 0, .int .i64 0, .bool false], .agg #[.int .i64 0, .slice none 0 0]] rfl (by kernel_rfl) (by kernel_rfl) (by kernel_rfl)
      (OpenSpec.preRow_of_cond 8 hx (by kernel_rfl) (fun k hk => by cases hk) (by kernel_rfl) (laid_met os))) ?_
  intro W base args ds gs before hval0 hW hcnd _ hsz0 hL _ _
  have hsz : (DataW.weightsEach Tryd.prog (Tryd.f3.params.toList ++ Rows.fnExactOrphansSpec.plain.varTypes Tryd.prog) (ds ++ gs)).all (· ≤ reachBytes) = true := hsz0
  have hval : ∀ (j : Nat) t v, Tryd.f3.params[j]? = some t → args[j]? = some v → Value.okWide Tryd.prog W .any base t v := hval0
  have hW' := hW
  obtain ⟨p, q, hA0, hV, rfl, hfz, hnd⟩ := hW
  have hA : DataW.TrodAll enc Tryd.prog W 0 (fun _ => true) true Tryd.f3.params.toList args.toList ds p := hA0
  rw [Tryd.params3] at hA hval hsz
  obtain ⟨v0, vs0, d0, ds0, p0, q0, hargs, rfl, rfl, h0, r0⟩ := trodAll_cons hA
  obtain ⟨v1, vs1, d1, ds1, p1, q1, rfl, rfl, rfl, h1, r1⟩ := trodAll_cons r0
  obtain ⟨rfl, rfl, rfl⟩ := trodAll_nil r1
  obtain rfl : args = #[v0, v1] := by cases args; simp_all
  obtain ⟨rfl, rfl⟩ := trodVars_none hV
  have lt0 : ∀ x ∈ p0, x.block < W.heap.size := by obtain ⟨m, hm⟩ := h0; exact DataW.trod_lt m _ _ _ hm
  obtain ⟨cs0, rfl, _⟩ := okWide_struct Tryd.underlying24 (hval 0 24 v0 rfl rfl)
  obtain ⟨y0, hk0, hg0⟩ := opens_trod (d := (Kd.pair (Kd.slice 60 k60) (Kd.pair (Kd.int .i64) (Kd.pair (Kd.int .i64) Kd.bool)))) (opens_tuple Tryd.underlying24 (by kernel_rfl) (opens_cons rfl (by kernel_rfl) (opens_slice Tryd.underlying22 (by kernel_rfl) (opens_struct (fun p => ⟨p.1, p.2.1, p.2.2⟩) (fun _ => rfl) Tryd.underlying60 (by kernel_rfl) (opens_cons rfl (by kernel_rfl) (opens_string Tryd.underlying9) (opens_cons rfl (by kernel_rfl) (opens_string Tryd.underlying9) (opens_last rfl (by kernel_rfl) (opens_int Tryd.underlying3)))))) (opens_cons rfl (by kernel_rfl) (opens_int Tryd.underlying3) (opens_cons rfl (by kernel_rfl) (opens_int Tryd.underlying3) (opens_last rfl (by kernel_rfl) (opens_bool Tryd.underlying4)))))) h0
  obtain ⟨l0_0, a0_1, a0_2, a0_3⟩ := y0
  obtain ⟨cs0⟩ := cs0
  obtain ⟨zs0, hzs0⟩ : ∃ zs, zs = cs0 := ⟨_, rfl⟩
  have hk0' : ((Kd.pair (Kd.slice 60 k60) (Kd.pair (Kd.int .i64) (Kd.pair (Kd.int .i64) Kd.bool)))).K W ⟨l0_0, a0_1, a0_2, a0_3⟩ zs0 := by rw [hzs0]; exact hk0
  clear hk0
  obtain ⟨_, _, rfl, ⟨A0_0, c0_0, rfl, hc0_0, hr0_0⟩, ⟨_, _, rfl, rfl, ⟨_, _, rfl, rfl, rfl⟩⟩⟩ := hk0'
  subst hzs0
  obtain ⟨hg0_0, hg0_1, hg0_2, hg0_3⟩ := hg0
  have lt1 : ∀ x ∈ p1, x.block < W.heap.size := by obtain ⟨m, hm⟩ := h1; exact DataW.trod_lt m _ _ _ hm
  obtain ⟨cs1, rfl, _⟩ := okWide_struct Tryd.underlying27 (hval 1 27 v1 rfl rfl)
  obtain ⟨y1, hk1, hg1⟩ := opens_trod (d := (Kd.pair (Kd.int .i64) (Kd.slice 3 (Kd.int .i64)))) (opens_tuple Tryd.underlying27 (by kernel_rfl) (opens_cons rfl (by kernel_rfl) (opens_int Tryd.underlying3) (opens_last rfl (by kernel_rfl) (opens_slice Tryd.underlying25 (by kernel_rfl) (opens_int Tryd.underlying3))))) h1
  obtain ⟨a1_0, l1_1⟩ := y1
  obtain ⟨cs1⟩ := cs1
  obtain ⟨zs1, hzs1⟩ : ∃ zs, zs = cs1 := ⟨_, rfl⟩
  have hk1' : ((Kd.pair (Kd.int .i64) (Kd.slice 3 (Kd.int .i64)))).K W ⟨a1_0, l1_1⟩ zs1 := by rw [hzs1]; exact hk1
  clear hk1
  obtain ⟨_, _, rfl, rfl, ⟨A1_1, c1_1, rfl, hc1_1, hr1_1⟩⟩ := hk1'
  subst hzs1
  obtain ⟨hg1_0, hg1_1⟩ := hg1
  clear hA0 hval0 hsz0 hsz
  obtain ⟨k, hp⟩ := Pure.FnExactOrphans l0_0 a0_1 a0_2 a0_3 a1_0 l1_1 hg0_0 hg0_1 hg0_2 hg1_0 hg1_1
  refine (PFnExactOrphans.laws_FnExactOrphans.calls k _ _ l0_0 a0_1 a0_2 a0_3 a1_0 _ _ l1_1 true W (tabs_of hL) hr0_0 hc0_0 hr1_1 hc1_1 rfl hp).mono ?_
  rintro e W' ⟨rfl, bel⟩
  exact ⟨_, rfl, _, _, _, [], _, [], hW', trodAll_mk1 (shut_bool Tryd.underlying4 _), (trodAll_cons_mk (Below.trod laidOut (by kernel_rfl) (of_decide_eq_true (by kernel_rfl)) h0 bel lt0) (trodAll_cons_mk (Below.trod laidOut (by kernel_rfl) (of_decide_eq_true (by kernel_rfl)) h1 bel lt1) trodAll_mk0)), rfl, bel.frame _, fun h => by cases h⟩
theorem over : Rows.fnExactOrphansRow.holds Tryd.pinned (OpenSpec.ofChange Rows.fnExactOrphansSpec) :=
  OpenClaim.holds_of_cond 3 Tryd.f3 rfl rfl rfl rfl rfl rfl rfl ⟨rfl, rfl, rfl, rfl, rfl⟩ rfl rfl rfl rfl rfl (by kernel_rfl) Tryd.func3 (by kernel_rfl)
    (of_decide_eq_true (by kernel_rfl)) (by unfold Func.isWrapper; first | (rw [if_pos (by decide +kernel)]; kernel_rfl) | (rw [if_neg (by decide +kernel)]; exact ⟨rfl, rfl⟩))
    (fun os started H enc _ F => by rw [OpenClaim.pre_eq_preRow]; exact lifted os started H enc F)
theorem proved : Rows.FnExactOrphansSaid := over
set_option maxRecDepth 100000 in
/-- No parameter wants a stand-in; the program's own looks are off. -/
theorem plain (f : FuncId) (fn : Func) (hf : Tryd.pinned.checked.prog.funcNamed Rows.fnExactOrphansRow.func = some f) (hfn : Tryd.pinned.checked.prog.funcs[f]? = some fn) :
    true = Tryd.pinned.checked.prog.looks [] ∧ ∀ (j : Nat) t, fn.params[j]? = some t → Tryd.pinned.checked.prog.wantsStandIn t = false := by
  obtain rfl : f = 3 := Option.some.inj ((show Tryd.prog.funcNamed Rows.fnExactOrphansRow.func = some 3 by kernel_rfl).symm.trans hf) |>.symm
  obtain rfl : fn = Tryd.f3 := (Option.some.inj (Tryd.func3.symm.trans hfn)).symm
  refine ⟨by kernel_rfl, fun j t ht => ?_⟩
  rw [Tryd.params3] at ht
  have hm := Array.mem_of_getElem? ht
  simp only [List.mem_toArray, List.mem_cons, List.not_mem_nil, or_false] at hm
  rcases hm with rfl | rfl
  all_goals first | exact (show Tryd.prog.wantsStandIn 24 = false by kernel_rfl) | exact (show Tryd.prog.wantsStandIn 27 = false by kernel_rfl)
set_option maxRecDepth 100000 in
theorem card : Rows.FnExactOrphansCardSaid :=
  Claim7.holds_tied_plain_at .later [] _ _ _ _ proved (fun _ h => by cases h) (by kernel_rfl) (fun _ h => by cases h) fnExactOrphans_row_tie rfl ⟨rfl, rfl⟩ (by kernel_rfl) rfl plain (by kernel_rfl)
#print axioms card
end Go.Proofs.YtodmaebgogjpdaaDoor.fnExactOrphans
namespace Go.Proofs.YtodmaebgogjpdaaDoor
/-- The row, under a short name, for the claim. -/
theorem fnExactOrphans_holds : Rows.FnExactOrphansCardSaid := fnExactOrphans.card
end Go.Proofs.YtodmaebgogjpdaaDoor
