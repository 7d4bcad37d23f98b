-- Laid by a program of this session, a copy of the kit's printer with additions (wip/patch_print.py): myhead. Lean checks it.
import Derived.Test.YtcnmdjibogojnaaPFnExactRegroupx0
namespace Go.Proofs.Ytcnmdjibogojnaa.PFnExactRegroup
open Go.RowKit Go.Proofs.YtcnmdjibogojnaaW.PrintWords Go.Proofs.YtcnmdjibogojnaaW.PrintLast Go.Proofs.YtcnmdjibogojnaaW.PrintMore
attribute [local go_sem] max2_int min2_int max_two min_two max_three min_three max_four min_four   -- for this text's walks alone
set_option linter.unusedVariables false
set_option linter.unusedSimpArgs false

/-! ### spec_l9Of: function 17 -/
mutual
def spec_l9Of.l0 : Nat → List (S48) → Int → Int → List (S48) → Int → Option ((List (S48)))
 | 0, _, _, _, _, _ => none
 | k + 1, x0, x1, x2, x7, x8 => if x8 < x1 then (if 0 ≤ x8 then (if x8 < (x0.length : Int) then (if ((rd_T48 x0 x8).f3.f1) = x2 then (spec_l9Of.j1 k x0 x1 x2 x7 x8 (((rd_T48 x0 x8).f3.f0) == 3) ((rd_T48 x0 x8).f3.f0) ((rd_T48 x0 x8).f3.f1) ((rd_T48 x0 x8).f3.f2) ((rd_T48 x0 x8).f3.f3) ((rd_T48 x0 x8).f3.f4) ((rd_T48 x0 x8).f3.f5)) else (spec_l9Of.j1 k x0 x1 x2 x7 x8 false ((rd_T48 x0 x8).f3.f0) ((rd_T48 x0 x8).f3.f1) ((rd_T48 x0 x8).f3.f2) ((rd_T48 x0 x8).f3.f3) ((rd_T48 x0 x8).f3.f4) ((rd_T48 x0 x8).f3.f5))) else (none)) else (none)) else (some x7)
def spec_l9Of.j1 : Nat → List (S48) → Int → Int → List (S48) → Int → Bool → Int → Int → ByteArray → ByteArray → Int → Int → Option ((List (S48)))
 | 0, _, _, _, _, _, _, _, _, _, _, _, _ => none
 | k + 1, x0, x1, x2, x7, x8, x29, x116000, x116001, x116002, x116003, x116004, x116005 => if x29 = true then (spec_l9Of.j2 k x0 x1 x2 (([] : List (S48))) x8 x116000 x116001 x116002 x116003 x116004 x116005) else (spec_l9Of.j2 k x0 x1 x2 x7 x8 x116000 x116001 x116002 x116003 x116004 x116005)
def spec_l9Of.j2 : Nat → List (S48) → Int → Int → List (S48) → Int → Int → Int → ByteArray → ByteArray → Int → Int → Option ((List (S48)))
 | 0, _, _, _, _, _, _, _, _, _, _, _ => none
 | k + 1, x0, x1, x2, x7, x8, x116000, x116001, x116002, x116003, x116004, x116005 => if x116001 = x2 then (if x116000 = 1 then (spec_l9Of.j3 k x0 x1 x2 x7 x8 true) else (spec_l9Of.j3 k x0 x1 x2 x7 x8 (x116000 == 2))) else (spec_l9Of.j3 k x0 x1 x2 x7 x8 false)
def spec_l9Of.j3 : Nat → List (S48) → Int → Int → List (S48) → Int → Bool → Option ((List (S48)))
 | 0, _, _, _, _, _, _ => none
 | k + 1, x0, x1, x2, x7, x8, x44 => if x44 = true then (if 0 ≤ x8 then (if x8 < (x0.length : Int) then (if x7.length < 1599289640401 then (spec_l9Of.l0 k x0 x1 x2 (x7 ++ [(⟨(rd_T48 x0 x8).f0, (rd_T48 x0 x8).f1, (rd_T48 x0 x8).f2, (⟨(rd_T48 x0 x8).f3.f0, (rd_T48 x0 x8).f3.f1, (rd_T48 x0 x8).f3.f2, (rd_T48 x0 x8).f3.f3, (rd_T48 x0 x8).f3.f4, (rd_T48 x0 x8).f3.f5⟩ : S46)⟩ : S48)]) (wrap64 (x8 + 1))) else (none)) else (none)) else (none)) else (spec_l9Of.l0 k x0 x1 x2 x7 (wrap64 (x8 + 1)))
end
def spec_l9Of.f (k : Nat) (l0 : List (S48)) (a1 : Int) (a2 : Int) : Option ((List (S48))) := spec_l9Of.l0 k l0 a1 a2 (([] : List (S48))) 0
set_option maxHeartbeats 80000000 in
set_option maxRecDepth 100000 in
theorem spec_l9Of.calls (k : Nat) (A0 : Option Addr) (c0 : Nat) (l0 : List (S48)) (a1 : Int) (a2 : Int) (r : List (S48)) (w : World) (hr0 : Kd.C k48 w A0 l0.length l0) (hc0 : l0.length ≤ c0) (h : spec_l9Of.f k l0 a1 a2 = some r) :
  Calls Try.prog 17 #[.slice A0 l0.length c0, .int .i64 a1, .int .i64 a2] w fun e w' => ∃ v0_ : Value, e = .returned (v0_) ∧ Kd.R k48 48 w' w.heap.size (fun _ => True) v0_ r ∧ Below w.heap.size w w' := by
 have hu46 := Try.underlying46
 have hu48 := Try.underlying48
 have HR0 := Aside0.mk hr0
 have HC0 := Aside0.mk hc0
 clear hr0 hc0
 have HB := Aside0.mk (Below.refl w.heap.size w)
 unfold spec_l9Of.f at h; have H := h
 clear h
 obtain ⟨y111, hy111⟩ : ∃ y_ : List (S48), y_ = (([] : List (S48))) := ⟨_, rfl⟩
 replace H : (spec_l9Of.l0 k l0 a1 a2 y111 0) = some r := by first | (rw [hy111]; with_reducible exact H) | (have H2_ := (Option.bind_some _ _).symm.trans H; rw [hy111]; with_reducible exact H2_) | (have H2_ := (Option.bind_some _ _).symm.trans H; with_reducible exact H2_) | with_reducible exact H | (rw [hy111]; exact H) | exact H
 have Ny111 := Aside0.mk hy111
 clear hy111
 have H' := Aside0.mk H
 clear H
 go_enter Try.func17, Try.ntmps17
 go_wp2_with (first | ((with_reducible refine gate_dst (N := 10) rfl ?_); refine Kd.R_lit k48 _ 48 ?hg (N := 10) ?hd (xs := ([] : List (S48))) (inner := []) (ok := fun _ => True) (okp := fun _ => True) ?hr ?hp (fun _ hk => hk) trivial (Below.refl _ _) (Nat.le_refl _) (by simp) ?_; (case hd => rfl); (case hg => rfl); (case hr => first | (go_simp; done) | (go_simp; rfl)); (case hp => exact (Reps.none _ _)); intro v112 w4 ho5 hb hg_ hnew_; clear hg_ hnew_; (first | rw [← Ny111.out] at ho5 | (simp only [Int.reduceToNat] at ho5; rw [← Ny111.out] at ho5)); have HO113 := Aside0.mk (Kd.R_lower ho5 (below_size (hb_ HB))); replace HB := bs_ HB hb; clear hb ho5))
 go_loopg [7, 8] k (fun kq v7 v8 w' => ∃ (x7_1 : List (S48)) (x8_1 : Int), v8 = .int .i64 x8_1 ∧ Aside0 (spec_l9Of.l0 kq l0 a1 a2 x7_1 x8_1 = some r) ∧ Aside0 (kq ≤ k) ∧ Aside0 (Kd.R k48 48 w' w.heap.size (fun _ => True) v7 x7_1) ∧ Aside0 (Below w.heap.size w w'))
 case atStart => exact ⟨(y111), (0), rs_, H', ⟨Nat.le_refl _⟩, ⟨rr_ HO113⟩, ⟨hb_ HB⟩⟩
 case round =>
  clear H'
  obtain ⟨x7_1, x8_1, rfl, HA, HK1, HO_7, HB⟩ := hrel
  cases gk with
  | zero => exact absurd HA.out (by simp [spec_l9Of.l0])
  | succ k1 =>
   have H := HA.out
   clear HA
   simp only [spec_l9Of.l0] at H
   by_cases c6 : x8_1 < a1
   ·rw [if_pos c6] at H
    have c6b0 : decide (x8_1 < a1) = true := decide_eq_true c6
    clear c6
    by_cases c7 : 0 ≤ x8_1
    ·rw [if_pos c7] at H
     have c7b0 : decide (0 ≤ x8_1) = true := decide_eq_true c7
     clear c7
     by_cases c8 : x8_1 < (l0.length : Int)
     ·rw [if_pos c8] at H
      have c8b0 : decide (x8_1 < (l0.length : Int)) = true := decide_eq_true c8
      clear c8
      have HC9 := Aside0.mk H
      clear H
      have p114 : 0 ≤ (x8_1 : Int) := of_decide_eq_true as_
      have q114 : x8_1 < (l0.length : Int) := of_decide_eq_true as_
      obtain ⟨ad114, e114, hx114_0, hx114_1, hx114_2, hx114_3, hx114_4, hx114_5, hx114_6, hx114_7, hx114_8⟩ := at_T48 HR0.out x8_1 p114 q114
      cases e114
      (try replace hx114_0 := cb_ HB hx114_0)
      (try replace hx114_1 := cb_ HB hx114_1)
      (try replace hx114_2 := cb_ HB hx114_2)
      (try replace hx114_3 := cb_ HB hx114_3)
      (try replace hx114_4 := cb_ HB hx114_4)
      (try replace hx114_5 := cb_ HB hx114_5)
      (try replace hx114_6 := cb_ HB hx114_6)
      (try replace hx114_7 := cb_ HB hx114_7)
      (try replace hx114_8 := cb_ HB hx114_8)
      replace p114 := eq_true p114
      replace q114 := eq_true q114
      go_upto_region 6 with (first | ((with_reducible refine gate_dst (N := 9) rfl ?_); refine box_event ?hg (N := 9) ?hd (cs := #[.int .i64 0, .int .i64 0, .string (⟨#[]⟩ : ByteArray), .string (⟨#[]⟩ : ByteArray), .int .i64 0, .int .i64 0]) (t := 46) ?hr ?_; (case hd => rfl); (case hg => rfl); (case hr => first | (go_simp; done) | (go_simp; rfl)); intro gb115 hg w10 hbox hb; replace HO_7 := rb_ HO_7 hb; have BK115 := Aside0.mk (hbox); have GE115 := ge_ hg (hb_ HB); replace HB := bs_ HB hb; (try replace hx114_0 := cx_ hb hx114_0); (try replace hx114_1 := cx_ hb hx114_1); (try replace hx114_2 := cx_ hb hx114_2); (try replace hx114_3 := cx_ hb hx114_3); (try replace hx114_4 := cx_ hb hx114_4); (try replace hx114_5 := cx_ hb hx114_5); (try replace hx114_6 := cx_ hb hx114_6); (try replace hx114_7 := cx_ hb hx114_7); (try replace hx114_8 := cx_ hb hx114_8); clear hb hbox hg; obtain ⟨hcz11_0, hcz11_1, hcz11_2, hcz11_3, hcz11_4, hcz11_5, hfz11_0, hfz11_1, hfz11_2, hfz11_3, hfz11_4, hfz11_5⟩ := bc6_ BK115))
      (try simp only [Act.put, la_, lz_, ls_])
      go_cut [29] (fun v29 wc => ∃ (kq : Nat) (x29_8 : Bool), v29 = .bool x29_8 ∧ Aside0 (spec_l9Of.j1 kq l0 a1 a2 x7_1 x8_1 x29_8 ((rd_T48 l0 x8_1).f3.f0) ((rd_T48 l0 x8_1).f3.f1) ((rd_T48 l0 x8_1).f3.f2) ((rd_T48 l0 x8_1).f3.f3) ((rd_T48 l0 x8_1).f3.f4) ((rd_T48 l0 x8_1).f3.f5) = some r) ∧ Aside0 (kq ≤ k1) ∧ Aside0 (Kd.R k48 48 wc w.heap.size (fun _ => True) u7 x7_1) ∧ Aside0 (wc.heap[gb115]? = some (.cells #[.int .i64 ((rd_T48 l0 x8_1).f3.f0), .int .i64 ((rd_T48 l0 x8_1).f3.f1), .string ((rd_T48 l0 x8_1).f3.f2), .string ((rd_T48 l0 x8_1).f3.f3), .int .i64 ((rd_T48 l0 x8_1).f3.f4), .int .i64 ((rd_T48 l0 x8_1).f3.f5)] 46 (0, 0))) ∧ Aside0 (Below w.heap.size w wc))
      case first =>
       have H := HC9.out
       clear HC9
       by_cases c12 : ((rd_T48 l0 x8_1).f3.f1) = a2
       ·rw [if_pos c12] at H
        have c12b0 : (((rd_T48 l0 x8_1).f3.f1) == a2) = true := beq_iff_eq.mpr c12
        have c12b1 : (((rd_T48 l0 x8_1).f3.f1) != a2) = false := bne_eq_false_iff_eq.mpr c12
        clear c12
        (first | rw [c12b0] | (simp only [i64_w, i32_w]; rw [c12b0]) | skip)
        have H' := Aside0.mk H
        clear H
        obtain ⟨hcz13_0, hcz13_1, hcz13_2, hcz13_3, hcz13_4, hcz13_5, hfz13_0, hfz13_1, hfz13_2, hfz13_3, hfz13_4, hfz13_5⟩ := bc6_ BK115
        go_wp2
        go_meet
        case rel => exact ⟨_, ((((rd_T48 l0 x8_1).f3.f0) == 3)), rs_, H', ⟨by have := HK1.out; first | exact Nat.le_refl _ | exact Nat.le_of_succ_le this | omega⟩, ⟨by (with_reducible repeat (first | apply Kd.R_alloc | apply Kd.R_drewN | apply Kd.R_drew)); exact Kd.R_mono (Kd.R_far (p := ⟨gb115, 5, none⟩) (Kd.R_far (p := ⟨gb115, 4, none⟩) (Kd.R_far (p := ⟨gb115, 3, none⟩) (Kd.R_far (p := ⟨gb115, 2, none⟩) (Kd.R_far (p := ⟨gb115, 1, none⟩) (Kd.R_far (p := ⟨gb115, 0, none⟩) (Kd.R_types HO_7.out BK115.out (by decide)) (fun _ hk => hk.2) (.int .i64 ((rd_T48 l0 x8_1).f3.f0))) (fun _ hk => hk.2) (.int .i64 ((rd_T48 l0 x8_1).f3.f1))) (fun _ hk => hk.2) (.string ((rd_T48 l0 x8_1).f3.f2))) (fun _ hk => hk.2) (.string ((rd_T48 l0 x8_1).f3.f3))) (fun _ hk => hk.2) (.int .i64 ((rd_T48 l0 x8_1).f3.f4))) (fun _ hk => hk.2) (.int .i64 ((rd_T48 l0 x8_1).f3.f5))) (fun _ hk => trivial)⟩, ⟨uq_ BK115 fun h_ => ⟨_, ua_, ub_⟩⟩, ⟨hs_ HB GE115⟩⟩
       ·rw [if_neg c12] at H
        have c12b0 : (((rd_T48 l0 x8_1).f3.f1) == a2) = false := beq_eq_false_iff_ne.mpr c12
        have c12b1 : (((rd_T48 l0 x8_1).f3.f1) != a2) = true := bne_iff_ne.mpr c12
        (first | rw [c12b0] | (simp only [i64_w, i32_w]; rw [c12b0]) | skip)
        have H' := Aside0.mk H
        clear H
        obtain ⟨hcz14_0, hcz14_1, hcz14_2, hcz14_3, hcz14_4, hcz14_5, hfz14_0, hfz14_1, hfz14_2, hfz14_3, hfz14_4, hfz14_5⟩ := bc6_ BK115
        go_wp2
        go_meet
        case rel => exact ⟨_, (false), rs_, H', ⟨by have := HK1.out; first | exact Nat.le_refl _ | exact Nat.le_of_succ_le this | omega⟩, ⟨by (with_reducible repeat (first | apply Kd.R_alloc | apply Kd.R_drewN | apply Kd.R_drew)); exact Kd.R_mono (Kd.R_far (p := ⟨gb115, 5, none⟩) (Kd.R_far (p := ⟨gb115, 4, none⟩) (Kd.R_far (p := ⟨gb115, 3, none⟩) (Kd.R_far (p := ⟨gb115, 2, none⟩) (Kd.R_far (p := ⟨gb115, 1, none⟩) (Kd.R_far (p := ⟨gb115, 0, none⟩) (Kd.R_types HO_7.out BK115.out (by decide)) (fun _ hk => hk.2) (.int .i64 ((rd_T48 l0 x8_1).f3.f0))) (fun _ hk => hk.2) (.int .i64 ((rd_T48 l0 x8_1).f3.f1))) (fun _ hk => hk.2) (.string ((rd_T48 l0 x8_1).f3.f2))) (fun _ hk => hk.2) (.string ((rd_T48 l0 x8_1).f3.f3))) (fun _ hk => hk.2) (.int .i64 ((rd_T48 l0 x8_1).f3.f4))) (fun _ hk => hk.2) (.int .i64 ((rd_T48 l0 x8_1).f3.f5))) (fun _ hk => trivial)⟩, ⟨uq_ BK115 fun h_ => ⟨_, ua_, ub_⟩⟩, ⟨hs_ HB GE115⟩⟩
      case rest =>
       clear HC9
       (try clear c6);(try clear c6b0);(try clear c7);(try clear c7b0);(try clear c8);(try clear c8b0);(try clear c12);(try clear c12b0);(try clear c12b1);(try clear hcz11_0 hcz11_1 hcz11_2 hcz11_3 hcz11_4 hcz11_5 hfz11_0 hfz11_1 hfz11_2 hfz11_3 hfz11_4 hfz11_5);(try clear hcz13_0 hcz13_1 hcz13_2 hcz13_3 hcz13_4 hcz13_5 hfz13_0 hfz13_1 hfz13_2 hfz13_3 hfz13_4 hfz13_5);(try clear hcz14_0 hcz14_1 hcz14_2 hcz14_3 hcz14_4 hcz14_5 hfz14_0 hfz14_1 hfz14_2 hfz14_3 hfz14_4 hfz14_5);(try clear hx114_0);(try clear hx114_1);(try clear hx114_2);(try clear hx114_3);(try clear hx114_4);(try clear hx114_5);(try clear hx114_6);(try clear hx114_7);(try clear hx114_8);(try clear p114);(try clear q114)
       obtain ⟨kq, x29_8, rfl, HA, HJ8, HO_7, BK115, HB⟩ := hcut
       cases kq with
       | zero => exact absurd HA.out (by simp [spec_l9Of.j1])
       | succ kj8 =>
        have H := HA.out
        clear HA
        simp only [spec_l9Of.j1] at H
        have HC15 := Aside0.mk H
        clear H
        go_upto_if 29 with (fail)
        go_cut [7] (fun v7 wc => ∃ (kq : Nat) (x7_14 : List (S48)), Aside0 (spec_l9Of.j2 kq l0 a1 a2 x7_14 x8_1 ((rd_T48 l0 x8_1).f3.f0) ((rd_T48 l0 x8_1).f3.f1) ((rd_T48 l0 x8_1).f3.f2) ((rd_T48 l0 x8_1).f3.f3) ((rd_T48 l0 x8_1).f3.f4) ((rd_T48 l0 x8_1).f3.f5) = some r) ∧ Aside0 (kq ≤ kj8) ∧ Aside0 (Kd.R k48 48 wc w.heap.size (fun _ => True) v7 x7_14) ∧ Aside0 (wc.heap[gb115]? = some (.cells #[.int .i64 ((rd_T48 l0 x8_1).f3.f0), .int .i64 ((rd_T48 l0 x8_1).f3.f1), .string ((rd_T48 l0 x8_1).f3.f2), .string ((rd_T48 l0 x8_1).f3.f3), .int .i64 ((rd_T48 l0 x8_1).f3.f4), .int .i64 ((rd_T48 l0 x8_1).f3.f5)] 46 (0, 0))) ∧ Aside0 (Below w.heap.size w wc))
        case first =>
         have H := HC15.out
         clear HC15
         by_cases c16 : x29_8 = true
         ·subst c16
          rw [if_pos rfl] at H
          obtain ⟨y116, hy116⟩ : ∃ y_ : List (S48), y_ = (([] : List (S48))) := ⟨_, rfl⟩
          replace H : (spec_l9Of.j2 kj8 l0 a1 a2 y116 x8_1 ((rd_T48 l0 x8_1).f3.f0) ((rd_T48 l0 x8_1).f3.f1) ((rd_T48 l0 x8_1).f3.f2) ((rd_T48 l0 x8_1).f3.f3) ((rd_T48 l0 x8_1).f3.f4) ((rd_T48 l0 x8_1).f3.f5)) = some r := by first | (rw [hy116]; with_reducible exact H) | (have H2_ := (Option.bind_some _ _).symm.trans H; rw [hy116]; with_reducible exact H2_) | (have H2_ := (Option.bind_some _ _).symm.trans H; with_reducible exact H2_) | with_reducible exact H | (rw [hy116]; exact H) | exact H
          have Ny116 := Aside0.mk hy116
          clear hy116
          have H' := Aside0.mk H
          clear H
          go_wp2_with (first | ((with_reducible refine gate_dst (N := 30) rfl ?_); refine Kd.R_lit k48 _ 48 ?hg (N := 30) ?hd (xs := ([] : List (S48))) (inner := []) (ok := fun _ => True) (okp := fun _ => True) ?hr ?hp (fun _ hk => hk) trivial (Below.refl _ _) (Nat.le_refl _) (by simp) ?_; (case hd => rfl); (case hg => rfl); (case hr => first | (go_simp; done) | (go_simp; rfl)); (case hp => exact (Reps.none _ _)); intro v117 w17 ho18 hb hg_ hnew_; clear hg_ hnew_; (first | rw [← Ny116.out] at ho18 | (simp only [Int.reduceToNat] at ho18; rw [← Ny116.out] at ho18)); have HO118 := Aside0.mk (Kd.R_lower (Kd.R_new' ho18 (Kd.R_lt (rr_ HO_7))) (below_size (hs_ HB GE115))); replace HO_7 := Aside0.mk (Kd.R_elder' (rr_ HO_7) (Kd.R_base ho18) hb); replace BK115 := bb_ BK115 hb; replace HB := bt_ HB GE115 hb; clear hb ho18))
          go_meet
          case rel => exact ⟨_, (y116), H', ⟨by have := HK1.out; have := HJ8.out; first | exact Nat.le_refl _ | exact Nat.le_of_succ_le this | omega⟩, ⟨by (with_reducible repeat (first | apply Kd.R_alloc | apply Kd.R_drewN | apply Kd.R_drew)); exact Kd.R_mono HO118.out (fun _ hk => trivial)⟩, ⟨bk_ BK115⟩, ⟨hs_ HB GE115⟩⟩
         ·replace c16 := Bool.eq_false_iff.mpr c16
          subst c16
          rw [if_neg ff_] at H
          have H' := Aside0.mk H
          clear H
          go_wp2
          go_meet
          case rel => exact ⟨_, (x7_1), H', ⟨by have := HK1.out; have := HJ8.out; first | exact Nat.le_refl _ | exact Nat.le_of_succ_le this | omega⟩, ⟨rr_ HO_7⟩, ⟨bk_ BK115⟩, ⟨hs_ HB GE115⟩⟩
        case rest =>
         clear HC15
         (try clear c6);(try clear c6b0);(try clear c7);(try clear c7b0);(try clear c8);(try clear c8b0);(try clear c12);(try clear c12b0);(try clear c12b1);(try clear c16);(try clear hcz11_0 hcz11_1 hcz11_2 hcz11_3 hcz11_4 hcz11_5 hfz11_0 hfz11_1 hfz11_2 hfz11_3 hfz11_4 hfz11_5);(try clear hcz13_0 hcz13_1 hcz13_2 hcz13_3 hcz13_4 hcz13_5 hfz13_0 hfz13_1 hfz13_2 hfz13_3 hfz13_4 hfz13_5);(try clear hcz14_0 hcz14_1 hcz14_2 hcz14_3 hcz14_4 hcz14_5 hfz14_0 hfz14_1 hfz14_2 hfz14_3 hfz14_4 hfz14_5);(try clear hx114_0);(try clear hx114_1);(try clear hx114_2);(try clear hx114_3);(try clear hx114_4);(try clear hx114_5);(try clear hx114_6);(try clear hx114_7);(try clear hx114_8);(try clear p114);(try clear q114)
         obtain ⟨kq, x7_14, HA, HJ14, HO_7, BK115, HB⟩ := hcut
         cases kq with
         | zero => exact absurd HA.out (by simp [spec_l9Of.j2])
         | succ kj14 =>
          have H := HA.out
          clear HA
          simp only [spec_l9Of.j2] at H
          have HC19 := Aside0.mk H
          clear H
          go_upto_region 8 with (fail)
          go_cut [44] (fun v44 wc => ∃ (kq : Nat) (x44_18 : Bool), v44 = .bool x44_18 ∧ Aside0 (spec_l9Of.j3 kq l0 a1 a2 x7_14 x8_1 x44_18 = some r) ∧ Aside0 (kq ≤ kj14) ∧ Aside0 (Kd.R k48 48 wc w.heap.size (fun _ => True) u7 x7_14) ∧ Aside0 (wc.heap[gb115]? = some (.cells #[.int .i64 ((rd_T48 l0 x8_1).f3.f0), .int .i64 ((rd_T48 l0 x8_1).f3.f1), .string ((rd_T48 l0 x8_1).f3.f2), .string ((rd_T48 l0 x8_1).f3.f3), .int .i64 ((rd_T48 l0 x8_1).f3.f4), .int .i64 ((rd_T48 l0 x8_1).f3.f5)] 46 (0, 0))) ∧ Aside0 (Below w.heap.size w wc))
          case first =>
           have H := HC19.out
           clear HC19
           by_cases c20 : ((rd_T48 l0 x8_1).f3.f1) = a2
           ·rw [if_pos c20] at H
            have c20b0 : (((rd_T48 l0 x8_1).f3.f1) == a2) = true := beq_iff_eq.mpr c20
            have c20b1 : (((rd_T48 l0 x8_1).f3.f1) != a2) = false := bne_eq_false_iff_eq.mpr c20
            clear c20
            (first | rw [c20b0] | (simp only [i64_w, i32_w]; rw [c20b0]) | skip)
            by_cases c21 : ((rd_T48 l0 x8_1).f3.f0) = 1
            ·rw [if_pos c21] at H
             have c21b0 : (((rd_T48 l0 x8_1).f3.f0) == 1) = true := beq_iff_eq.mpr c21
             have c21b1 : (((rd_T48 l0 x8_1).f3.f0) != 1) = false := bne_eq_false_iff_eq.mpr c21
             clear c21
             have H' := Aside0.mk H
             clear H
             obtain ⟨hcz22_0, hcz22_1, hcz22_2, hcz22_3, hcz22_4, hcz22_5, hfz22_0, hfz22_1, hfz22_2, hfz22_3, hfz22_4, hfz22_5⟩ := bc6_ BK115
             go_wp2
             go_meet
             case rel => exact ⟨_, (true), rs_, H', ⟨by have := HK1.out; have := HJ8.out; have := HJ14.out; first | exact Nat.le_refl _ | exact Nat.le_of_succ_le this | omega⟩, ⟨rr_ HO_7⟩, ⟨bk_ BK115⟩, ⟨hs_ HB GE115⟩⟩
            ·rw [if_neg c21] at H
             have c21b0 : (((rd_T48 l0 x8_1).f3.f0) == 1) = false := beq_eq_false_iff_ne.mpr c21
             have c21b1 : (((rd_T48 l0 x8_1).f3.f0) != 1) = true := bne_iff_ne.mpr c21
             have H' := Aside0.mk H
             clear H
             obtain ⟨hcz23_0, hcz23_1, hcz23_2, hcz23_3, hcz23_4, hcz23_5, hfz23_0, hfz23_1, hfz23_2, hfz23_3, hfz23_4, hfz23_5⟩ := bc6_ BK115
             go_wp2
             go_meet
             case rel => exact ⟨_, ((((rd_T48 l0 x8_1).f3.f0) == 2)), rs_, H', ⟨by have := HK1.out; have := HJ8.out; have := HJ14.out; first | exact Nat.le_refl _ | exact Nat.le_of_succ_le this | omega⟩, ⟨rr_ HO_7⟩, ⟨bk_ BK115⟩, ⟨hs_ HB GE115⟩⟩
           ·rw [if_neg c20] at H
            have c20b0 : (((rd_T48 l0 x8_1).f3.f1) == a2) = false := beq_eq_false_iff_ne.mpr c20
            have c20b1 : (((rd_T48 l0 x8_1).f3.f1) != a2) = true := bne_iff_ne.mpr c20
            (first | rw [c20b0] | (simp only [i64_w, i32_w]; rw [c20b0]) | skip)
            have H' := Aside0.mk H
            clear H
            obtain ⟨hcz24_0, hcz24_1, hcz24_2, hcz24_3, hcz24_4, hcz24_5, hfz24_0, hfz24_1, hfz24_2, hfz24_3, hfz24_4, hfz24_5⟩ := bc6_ BK115
            go_wp2
            go_meet
            case rel => exact ⟨_, (false), rs_, H', ⟨by have := HK1.out; have := HJ8.out; have := HJ14.out; first | exact Nat.le_refl _ | exact Nat.le_of_succ_le this | omega⟩, ⟨rr_ HO_7⟩, ⟨bk_ BK115⟩, ⟨hs_ HB GE115⟩⟩
          case rest =>
           clear HC19
           (try clear c6);(try clear c6b0);(try clear c7);(try clear c7b0);(try clear c8);(try clear c8b0);(try clear c12);(try clear c12b0);(try clear c12b1);(try clear c16);(try clear c20);(try clear c20b0);(try clear c20b1);(try clear c21);(try clear c21b0);(try clear c21b1);(try clear hcz11_0 hcz11_1 hcz11_2 hcz11_3 hcz11_4 hcz11_5 hfz11_0 hfz11_1 hfz11_2 hfz11_3 hfz11_4 hfz11_5);(try clear hcz13_0 hcz13_1 hcz13_2 hcz13_3 hcz13_4 hcz13_5 hfz13_0 hfz13_1 hfz13_2 hfz13_3 hfz13_4 hfz13_5);(try clear hcz14_0 hcz14_1 hcz14_2 hcz14_3 hcz14_4 hcz14_5 hfz14_0 hfz14_1 hfz14_2 hfz14_3 hfz14_4 hfz14_5);(try clear hcz22_0 hcz22_1 hcz22_2 hcz22_3 hcz22_4 hcz22_5 hfz22_0 hfz22_1 hfz22_2 hfz22_3 hfz22_4 hfz22_5);(try clear hcz23_0 hcz23_1 hcz23_2 hcz23_3 hcz23_4 hcz23_5 hfz23_0 hfz23_1 hfz23_2 hfz23_3 hfz23_4 hfz23_5);(try clear hcz24_0 hcz24_1 hcz24_2 hcz24_3 hcz24_4 hcz24_5 hfz24_0 hfz24_1 hfz24_2 hfz24_3 hfz24_4 hfz24_5);(try clear hx114_0);(try clear hx114_1);(try clear hx114_2);(try clear hx114_3);(try clear hx114_4);(try clear hx114_5);(try clear hx114_6);(try clear hx114_7);(try clear hx114_8);(try clear p114);(try clear q114)
           obtain ⟨kq, x44_18, rfl, HA, HJ18, HO_7, BK115, HB⟩ := hcut
           cases kq with
           | zero => exact absurd HA.out (by simp [spec_l9Of.j3])
           | succ kj18 =>
            have H := HA.out
            clear HA
            simp only [spec_l9Of.j3] at H
            by_cases c25 : x44_18 = true
            ·subst c25
             rw [if_pos rfl] at H
             by_cases c26 : 0 ≤ x8_1
             ·rw [if_pos c26] at H
              have c26b0 : decide (0 ≤ x8_1) = true := decide_eq_true c26
              clear c26
              by_cases c27 : x8_1 < (l0.length : Int)
              ·rw [if_pos c27] at H
               have c27b0 : decide (x8_1 < (l0.length : Int)) = true := decide_eq_true c27
               clear c27
               by_cases c28 : x7_14.length < 1599289640401
               ·rw [if_pos c28] at H
                have LMc28 := Aside0.mk c28
                clear c28
                obtain ⟨y120, hy120⟩ : ∃ y_ : List (S48), y_ = (x7_14 ++ [(⟨(rd_T48 l0 x8_1).f0, (rd_T48 l0 x8_1).f1, (rd_T48 l0 x8_1).f2, (⟨(rd_T48 l0 x8_1).f3.f0, (rd_T48 l0 x8_1).f3.f1, (rd_T48 l0 x8_1).f3.f2, (rd_T48 l0 x8_1).f3.f3, (rd_T48 l0 x8_1).f3.f4, (rd_T48 l0 x8_1).f3.f5⟩ : S46)⟩ : S48)]) := ⟨_, rfl⟩
                rw [← hy120] at H
                have Ny120 := Aside0.mk hy120
                clear hy120
                have H' := Aside0.mk H
                clear H
                have p119 : 0 ≤ (x8_1 : Int) := of_decide_eq_true as_
                have q119 : x8_1 < (l0.length : Int) := of_decide_eq_true as_
                obtain ⟨ad119, e119, hx119_0, hx119_1, hx119_2, hx119_3, hx119_4, hx119_5, hx119_6, hx119_7, hx119_8⟩ := at_T48 HR0.out x8_1 p119 q119
                obtain rfl : ad114 = ad119 := (by injection e119)
                (try replace hx119_0 := cb_ HB hx119_0)
                (try replace hx119_1 := cb_ HB hx119_1)
                (try replace hx119_2 := cb_ HB hx119_2)
                (try replace hx119_3 := cb_ HB hx119_3)
                (try replace hx119_4 := cb_ HB hx119_4)
                (try replace hx119_5 := cb_ HB hx119_5)
                (try replace hx119_6 := cb_ HB hx119_6)
                (try replace hx119_7 := cb_ HB hx119_7)
                (try replace hx119_8 := cb_ HB hx119_8)
                replace p119 := eq_true p119
                replace q119 := eq_true q119
                go_wp2_with (first | (at_builtin; (with_reducible refine gate_builtin (b := .append) (xs := #[.tmp 45, .tmp 50]) rfl ?_); refine Kd.R_append k48 (w0 := w) w.heap.size rfl (.tmp 45) (.tmp 50) 33 48 (.agg #[(.int .i64 0), (.int .i64 0), (.int .i64 0), (.int .i64 0), (.int .i64 0), (.string ⟨#[]⟩), (.string ⟨#[]⟩), (.int .i64 0), (.int .i64 0)]) 88 rfl Try.underlying33 info48 rfl (by decide) (by omega) u7 x7_14 (⟨(rd_T48 l0 x8_1).f0, (rd_T48 l0 x8_1).f1, (rd_T48 l0 x8_1).f2, (⟨(rd_T48 l0 x8_1).f3.f0, (rd_T48 l0 x8_1).f3.f1, (rd_T48 l0 x8_1).f3.f2, (rd_T48 l0 x8_1).f3.f3, (rd_T48 l0 x8_1).f3.f4, (rd_T48 l0 x8_1).f3.f5⟩ : S46)⟩ : S48) [.int .i64 ((rd_T48 l0 x8_1).f0), .int .i64 ((rd_T48 l0 x8_1).f1), .int .i64 ((rd_T48 l0 x8_1).f2), .int .i64 ((rd_T48 l0 x8_1).f3.f0), .int .i64 ((rd_T48 l0 x8_1).f3.f1), .string ((rd_T48 l0 x8_1).f3.f2), .string ((rd_T48 l0 x8_1).f3.f3), .int .i64 ((rd_T48 l0 x8_1).f3.f4), .int .i64 ((rd_T48 l0 x8_1).f3.f5)] (fun _ => True) (fun _ => False) rfl rfl ?aP (fun _ hk => hk.elim) ?aF ?aO ?aB ?aS ?aL ?_; (case aP => exact k48_mkM _ _ _ (⟨(rd_T48 l0 x8_1).f0, (rd_T48 l0 x8_1).f1, (rd_T48 l0 x8_1).f2, (⟨(rd_T48 l0 x8_1).f3.f0, (rd_T48 l0 x8_1).f3.f1, (rd_T48 l0 x8_1).f3.f2, (rd_T48 l0 x8_1).f3.f3, (rd_T48 l0 x8_1).f3.f4, (rd_T48 l0 x8_1).f3.f5⟩ : S46)⟩ : S48)); (case aB => exact (hs_ HB GE115)); (case aF => exact (fun _ _ => trivial)); (case aO => exact (rr_ HO_7)); (case aS => exact (below_size (hs_ HB GE115))); (case aL => have := LMc28.out; omega); intro v121 w29 ho hb hg hat; rw [← Ny120.out] at ho; replace BK115 := bg_ BK115 hg (Kd.R_ne HO_7.out BK115.out (by decide)); replace HB := Aside0.mk (hb); have HO122 := Aside0.mk (ho); clear HO_7; clear ho hb hg hat))
                go_roundg kj18
                case measure => have := HK1.out; have := HJ8.out; have := HJ14.out; have := HJ18.out; omega
                case rel => exact ⟨(y120), (wrap64 (x8_1 + 1)), rs_, H', ⟨by have := HK1.out; have := HJ8.out; have := HJ14.out; have := HJ18.out; omega⟩, ⟨rr_ HO122⟩, ⟨hs_ HB GE115⟩⟩
               ·rw [if_neg c28] at H
                exact absurd H (by simp)
              ·rw [if_neg c27] at H
               exact absurd H (by simp)
             ·rw [if_neg c26] at H
              exact absurd H (by simp)
            ·replace c25 := Bool.eq_false_iff.mpr c25
             subst c25
             rw [if_neg ff_] at H
             have H' := Aside0.mk H
             clear H
             go_wp2
             go_roundg kj18
             case measure => have := HK1.out; have := HJ8.out; have := HJ14.out; have := HJ18.out; omega
             case rel => exact ⟨(x7_14), (wrap64 (x8_1 + 1)), rs_, H', ⟨by have := HK1.out; have := HJ8.out; have := HJ14.out; have := HJ18.out; omega⟩, ⟨rr_ HO_7⟩, ⟨hs_ HB GE115⟩⟩
     ·rw [if_neg c8] at H
      exact absurd H (by simp)
    ·rw [if_neg c7] at H
     exact absurd H (by simp)
   ·rw [if_neg c6] at H
    have c6b0 : decide (x8_1 < a1) = false := decide_eq_false c6
    clear c6
    obtain rfl := Option.some.inj H
    go_wp2
    go_ret
    exact ⟨_, by first | rfl | (simp [errW_none, errW_some] <;> rfl) | (simp [*, errW_none, errW_some] <;> rfl), rr_ HO_7, hb_ HB⟩

/-! ### spec_l1In: function 57 -/
def spec_l1In.f (a0 : Int) (a1 : Int) (a2 : Int) : Option (Bool) := if a0 ≥ a1 then (some (decide (a0 ≤ a2))) else (some false)
set_option maxHeartbeats 80000000 in
set_option maxRecDepth 100000 in
theorem spec_l1In.calls (a0 : Int) (a1 : Int) (a2 : Int) (r : Bool) (w : World) (h : spec_l1In.f a0 a1 a2 = some r) :
  Calls Try.prog 57 #[.int .i64 a0, .int .i64 a1, .int .i64 a2] w fun e w' => e = .returned (.bool r) ∧ Drawn0 w w' := by
 unfold spec_l1In.f at h; have H := h
 clear h
 by_cases c4 : a0 ≥ a1
 ·rw [if_pos c4] at H
  have c4b0 : decide (a1 ≤ a0) = true := decide_eq_true c4
  clear c4
  obtain rfl := Option.some.inj H
  go_enter Try.func57, Try.ntmps57
  go_wp2
  go_ret
  exact ⟨by first | rfl | (simp; done) | (simp [*]; done), by repeat (first | exact Drawn0.refl _ | apply Drawn0.step)⟩
 ·rw [if_neg c4] at H
  have c4b0 : decide (a1 ≤ a0) = false := decide_eq_false c4
  clear c4
  obtain rfl := Option.some.inj H
  go_enter Try.func57, Try.ntmps57
  go_wp2
  go_ret
  exact ⟨by first | rfl | (simp; done) | (simp [*]; done), by repeat (first | exact Drawn0.refl _ | apply Drawn0.step)⟩

/-! ### spec_KeyOk: function 58 -/
def spec_KeyOk.f (a0 : ByteArray) : Option (Bool) := (spec_l1In.f (a0.size : Int) 1 8).bind fun t123 => (some t123)
set_option maxHeartbeats 80000000 in
set_option maxRecDepth 100000 in
theorem spec_KeyOk.calls (a0 : ByteArray) (r : Bool) (w : World) (h : spec_KeyOk.f a0 = some r) :
  Calls Try.prog 58 #[.string a0] w fun e w' => e = .returned (.bool r) ∧ Drawn0 w w' := by
 unfold spec_KeyOk.f at h; have H := h
 clear h
 replace H := Option.bind_eq_some_iff.mp H
 obtain ⟨t123, A20, H⟩ := H
 have A2 := Aside0.mk A20
 clear A20
 obtain rfl := Option.some.inj H
 go_enter Try.func58, Try.ntmps58
 go_wp2_with (first | ((with_reducible refine gate_callee (f := 57) rfl ?_); refine goesL_ (some 5) rfl rfl Try.func57 (by kernel_rfl) rfl #[.int .i64 (a0.size : Int), .int .i64 1, .int .i64 8] rfl ar_ ?_; (with_reducible refine (spec_l1In.calls (a0.size : Int) 1 8 t123 _ A2.out).mono ?_); rintro e w' ⟨rfl, ⟨nd, rfl⟩⟩; refine ⟨_, rfl, ?_⟩))
 go_ret
 exact ⟨by first | rfl | (simp; done) | (simp [*]; done), by repeat (first | exact Drawn0.refl _ | apply Drawn0.step)⟩

end Go.Proofs.Ytcnmdjibogojnaa.PFnExactRegroup
