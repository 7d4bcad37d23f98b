-- Laid by a program of this session, a copy of the kit's printer with additions (wip/patch_print.py): myhead. Lean checks it.
import Derived.Test.YtcnmdjibogojnaaPFnExactRegroupx0
namespace Go.Proofs.Ytcnmdjibogojnaa.PFnExactRegroup
open Go.RowKit Go.Proofs.YtcnmdjibogojnaaW.PrintWords Go.Proofs.YtcnmdjibogojnaaW.PrintLast Go.Proofs.YtcnmdjibogojnaaW.PrintMore
theorem bl_swq66872 : ∀ x y : List UInt8, (Op.bytesLess x y || x == y) = !(Op.bytesLess y x)
 | [], [] => by simp [Op.bytesLess]
 | [], _ :: _ => by simp [Op.bytesLess]
 | _ :: _, [] => by simp [Op.bytesLess]
 | a :: x, b :: y => by
  have ih := bl_swq66872 x y
  by_cases e : a = b
  ·subst e
   simp only [Op.bytesLess, List.cons_beq_cons, BEq.rfl, Bool.true_and, UInt8.lt_irrefl, decide_false, Bool.false_or]
   exact ih
  ·have e' : ¬ b = a := fun h => e h.symm
   have h1 : (a == b) = false := by simpa using e
   have h2 : (b == a) = false := by simpa using e'
   simp only [Op.bytesLess, List.cons_beq_cons, h1, h2, Bool.false_and, Bool.or_false]
   by_cases l : a < b
   ·have : ¬ b < a := fun h => UInt8.lt_asymm h l
    simp [l, this]
   ·have : b < a := UInt8.lt_of_le_of_ne (UInt8.not_lt.1 l) e'
    simp [l, this]
theorem bl_leqq66872 (t : TypeId) (a b : ByteArray) : binOp .leq t (.string a) (.string b) = pure (.bool (!(Op.bytesLess b.toList a.toList))) := by simp only [binOp, Op.stringOp, bl_swq66872]
theorem bl_gtrq66872 (t : TypeId) (a b : ByteArray) : binOp .gtr t (.string a) (.string b) = pure (.bool (Op.bytesLess b.toList a.toList)) := by simp only [binOp, Op.stringOp, bl_swq66872, Bool.not_not]
theorem bl_geqq66872 (t : TypeId) (a b : ByteArray) : binOp .geq t (.string a) (.string b) = pure (.bool (!(Op.bytesLess a.toList b.toList))) := by simp only [binOp, Op.stringOp]
attribute [local go_sem] bl_leqq66872 bl_gtrq66872 bl_geqq66872
attribute [local go_sem] max2_int min2_int max_two min_two max_three min_three max_four min_four   -- for this text's walks alone
set_option linter.unusedVariables false
set_option linter.unusedSimpArgs false

/-! ### spec_l9Kept: function 19 -/
mutual
def spec_l9Kept.l0 : Nat → List (S48) → Int → List (S48) → Int → Option ((List (S48)))
 | 0, _, _, _, _ => none
 | k + 1, x0, x1, x5, x6 => if x6 < x1 then (if 0 ≤ x6 then (if x6 < (x0.length : Int) then (if ((rd_T48 x0 x6).f3.f0) = 5 then (spec_l9Kept.j1 k x0 x1 (([] : List (S48))) x6) else (spec_l9Kept.j1 k x0 x1 x5 x6)) else (none)) else (none)) else (some x5)
def spec_l9Kept.j1 : Nat → List (S48) → Int → List (S48) → Int → Option ((List (S48)))
 | 0, _, _, _, _ => none
 | k + 1, x0, x1, x5, x6 => if 0 ≤ x6 then (if x6 < (x0.length : Int) then (if ((rd_T48 x0 x6).f3.f0) = 4 then (if x5.length < 1599289640401 then (spec_l9Kept.l0 k x0 x1 (x5 ++ [(⟨(rd_T48 x0 x6).f0, (rd_T48 x0 x6).f1, (rd_T48 x0 x6).f2, (⟨(rd_T48 x0 x6).f3.f0, (rd_T48 x0 x6).f3.f1, (rd_T48 x0 x6).f3.f2, (rd_T48 x0 x6).f3.f3, (rd_T48 x0 x6).f3.f4, (rd_T48 x0 x6).f3.f5⟩ : S46)⟩ : S48)]) (wrap64 (x6 + 1))) else (none)) else (spec_l9Kept.l0 k x0 x1 x5 (wrap64 (x6 + 1)))) else (none)) else (none)
end
def spec_l9Kept.f (k : Nat) (l0 : List (S48)) (a1 : Int) : Option ((List (S48))) := spec_l9Kept.l0 k l0 a1 (([] : List (S48))) 0
set_option maxHeartbeats 80000000 in
set_option maxRecDepth 100000 in
theorem spec_l9Kept.calls (k : Nat) (A0 : Option Addr) (c0 : Nat) (l0 : List (S48)) (a1 : Int) (r : List (S48)) (w : World) (hr0 : Kd.C k48 w A0 l0.length l0) (hc0 : l0.length ≤ c0) (h : spec_l9Kept.f k l0 a1 = some r) :
  Calls Try.prog 19 #[.slice A0 l0.length c0, .int .i64 a1] w fun e w' => ∃ v0_ : Value, e = .returned (v0_) ∧ Kd.R k48 48 w' w.heap.size (fun _ => True) v0_ r ∧ Below w.heap.size w w' := by
 have hu48 := Try.underlying48
 have HR0 := Aside0.mk hr0
 have HC0 := Aside0.mk hc0
 clear hr0 hc0
 have HB := Aside0.mk (Below.refl w.heap.size w)
 unfold spec_l9Kept.f at h; have H := h
 clear h
 obtain ⟨y170, hy170⟩ : ∃ y_ : List (S48), y_ = (([] : List (S48))) := ⟨_, rfl⟩
 replace H : (spec_l9Kept.l0 k l0 a1 y170 0) = some r := by first | (rw [hy170]; with_reducible exact H) | (have H2_ := (Option.bind_some _ _).symm.trans H; rw [hy170]; with_reducible exact H2_) | (have H2_ := (Option.bind_some _ _).symm.trans H; with_reducible exact H2_) | with_reducible exact H | (rw [hy170]; exact H) | exact H
 have Ny170 := Aside0.mk hy170
 clear hy170
 have H' := Aside0.mk H
 clear H
 go_enter Try.func19, Try.ntmps19
 go_wp2_with (first | ((with_reducible refine gate_dst (N := 7) rfl ?_); refine Kd.R_lit k48 _ 48 ?hg (N := 7) ?hd (xs := ([] : List (S48))) (inner := []) (ok := fun _ => True) (okp := fun _ => True) ?hr ?hp (fun _ hk => hk) trivial (Below.refl _ _) (Nat.le_refl _) (by simp) ?_; (case hd => rfl); (case hg => rfl); (case hr => first | (go_simp; done) | (go_simp; rfl)); (case hp => exact (Reps.none _ _)); intro v171 w3 ho4 hb hg_ hnew_; clear hg_ hnew_; (first | rw [← Ny170.out] at ho4 | (simp only [Int.reduceToNat] at ho4; rw [← Ny170.out] at ho4)); have HO172 := Aside0.mk (Kd.R_lower ho4 (below_size (hb_ HB))); replace HB := bs_ HB hb; clear hb ho4))
 go_loopg [5, 6] k (fun kq v5 v6 w' => ∃ (x5_1 : List (S48)) (x6_1 : Int), v6 = .int .i64 x6_1 ∧ Aside0 (spec_l9Kept.l0 kq l0 a1 x5_1 x6_1 = some r) ∧ Aside0 (kq ≤ k) ∧ Aside0 (Kd.R k48 48 w' w.heap.size (fun _ => True) v5 x5_1) ∧ Aside0 (Below w.heap.size w w'))
 case atStart => exact ⟨(y170), (0), rs_, H', ⟨Nat.le_refl _⟩, ⟨rr_ HO172⟩, ⟨hb_ HB⟩⟩
 case round =>
  clear H'
  obtain ⟨x5_1, x6_1, rfl, HA, HK1, HO_5, HB⟩ := hrel
  cases gk with
  | zero => exact absurd HA.out (by simp [spec_l9Kept.l0])
  | succ k1 =>
   have H := HA.out
   clear HA
   simp only [spec_l9Kept.l0] at H
   by_cases c5 : x6_1 < a1
   ·rw [if_pos c5] at H
    have c5b0 : decide (x6_1 < a1) = true := decide_eq_true c5
    clear c5
    by_cases c6 : 0 ≤ x6_1
    ·rw [if_pos c6] at H
     have c6b0 : decide (0 ≤ x6_1) = true := decide_eq_true c6
     clear c6
     by_cases c7 : x6_1 < (l0.length : Int)
     ·rw [if_pos c7] at H
      have c7b0 : decide (x6_1 < (l0.length : Int)) = true := decide_eq_true c7
      clear c7
      have HC8 := Aside0.mk H
      clear H
      have p173 : 0 ≤ (x6_1 : Int) := of_decide_eq_true as_
      have q173 : x6_1 < (l0.length : Int) := of_decide_eq_true as_
      obtain ⟨ad173, e173, hx173_0, hx173_1, hx173_2, hx173_3, hx173_4, hx173_5, hx173_6, hx173_7, hx173_8⟩ := at_T48 HR0.out x6_1 p173 q173
      cases e173
      (try replace hx173_0 := cb_ HB hx173_0)
      (try replace hx173_1 := cb_ HB hx173_1)
      (try replace hx173_2 := cb_ HB hx173_2)
      (try replace hx173_3 := cb_ HB hx173_3)
      (try replace hx173_4 := cb_ HB hx173_4)
      (try replace hx173_5 := cb_ HB hx173_5)
      (try replace hx173_6 := cb_ HB hx173_6)
      (try replace hx173_7 := cb_ HB hx173_7)
      (try replace hx173_8 := cb_ HB hx173_8)
      replace p173 := eq_true p173
      replace q173 := eq_true q173
      go_upto_if 19 with (fail)
      go_cut [5] (fun v5 wc => ∃ (kq : Nat) (x5_7 : List (S48)), Aside0 (spec_l9Kept.j1 kq l0 a1 x5_7 x6_1 = some r) ∧ Aside0 (kq ≤ k1) ∧ Aside0 (Kd.R k48 48 wc w.heap.size (fun _ => True) v5 x5_7) ∧ Aside0 (Below w.heap.size w wc))
      case first =>
       have H := HC8.out
       clear HC8
       by_cases c9 : ((rd_T48 l0 x6_1).f3.f0) = 5
       ·rw [if_pos c9] at H
        have c9b0 : (((rd_T48 l0 x6_1).f3.f0) == 5) = true := beq_iff_eq.mpr c9
        have c9b1 : (((rd_T48 l0 x6_1).f3.f0) != 5) = false := bne_eq_false_iff_eq.mpr c9
        clear c9
        (first | rw [c9b0] | (simp only [i64_w, i32_w]; rw [c9b0]) | skip)
        obtain ⟨y174, hy174⟩ : ∃ y_ : List (S48), y_ = (([] : List (S48))) := ⟨_, rfl⟩
        replace H : (spec_l9Kept.j1 k1 l0 a1 y174 x6_1) = some r := by first | (rw [hy174]; with_reducible exact H) | (have H2_ := (Option.bind_some _ _).symm.trans H; rw [hy174]; with_reducible exact H2_) | (have H2_ := (Option.bind_some _ _).symm.trans H; with_reducible exact H2_) | with_reducible exact H | (rw [hy174]; exact H) | exact H
        have Ny174 := Aside0.mk hy174
        clear hy174
        have H' := Aside0.mk H
        clear H
        go_wp2_with (first | ((with_reducible refine gate_dst (N := 20) rfl ?_); refine Kd.R_lit k48 _ 48 ?hg (N := 20) ?hd (xs := ([] : List (S48))) (inner := []) (ok := fun _ => True) (okp := fun _ => True) ?hr ?hp (fun _ hk => hk) trivial (Below.refl _ _) (Nat.le_refl _) (by simp) ?_; (case hd => rfl); (case hg => rfl); (case hr => first | (go_simp; done) | (go_simp; rfl)); (case hp => exact (Reps.none _ _)); intro v175 w10 ho11 hb hg_ hnew_; clear hg_ hnew_; (first | rw [← Ny174.out] at ho11 | (simp only [Int.reduceToNat] at ho11; rw [← Ny174.out] at ho11)); have HO176 := Aside0.mk (Kd.R_lower (Kd.R_new' ho11 (Kd.R_lt (rr_ HO_5))) (below_size (hb_ HB))); replace HO_5 := Aside0.mk (Kd.R_elder' (rr_ HO_5) (Kd.R_base ho11) hb); replace HB := bs_ HB hb; clear hb ho11))
        go_meet
        case rel => exact ⟨_, (y174), H', ⟨by have := HK1.out; first | exact Nat.le_refl _ | exact Nat.le_of_succ_le this | omega⟩, ⟨by (with_reducible repeat (first | apply Kd.R_alloc | apply Kd.R_drewN | apply Kd.R_drew)); exact Kd.R_mono HO176.out (fun _ hk => trivial)⟩, ⟨hb_ HB⟩⟩
       ·rw [if_neg c9] at H
        have c9b0 : (((rd_T48 l0 x6_1).f3.f0) == 5) = false := beq_eq_false_iff_ne.mpr c9
        have c9b1 : (((rd_T48 l0 x6_1).f3.f0) != 5) = true := bne_iff_ne.mpr c9
        (first | rw [c9b0] | (simp only [i64_w, i32_w]; rw [c9b0]) | skip)
        have H' := Aside0.mk H
        clear H
        go_wp2
        go_meet
        case rel => exact ⟨_, (x5_1), H', ⟨by have := HK1.out; first | exact Nat.le_refl _ | exact Nat.le_of_succ_le this | omega⟩, ⟨rr_ HO_5⟩, ⟨hb_ HB⟩⟩
      case rest =>
       clear HC8
       (try clear c5);(try clear c5b0);(try clear c6);(try clear c6b0);(try clear c7);(try clear c7b0);(try clear c9);(try clear c9b0);(try clear c9b1);(try clear hx173_0);(try clear hx173_1);(try clear hx173_2);(try clear hx173_3);(try clear hx173_4);(try clear hx173_5);(try clear hx173_6);(try clear hx173_7);(try clear hx173_8);(try clear p173);(try clear q173)
       obtain ⟨kq, x5_7, HA, HJ7, HO_5, HB⟩ := hcut
       cases kq with
       | zero => exact absurd HA.out (by simp [spec_l9Kept.j1])
       | succ kj7 =>
        have H := HA.out
        clear HA
        simp only [spec_l9Kept.j1] at H
        by_cases c12 : 0 ≤ x6_1
        ·rw [if_pos c12] at H
         have c12b0 : decide (0 ≤ x6_1) = true := decide_eq_true c12
         clear c12
         by_cases c13 : x6_1 < (l0.length : Int)
         ·rw [if_pos c13] at H
          have c13b0 : decide (x6_1 < (l0.length : Int)) = true := decide_eq_true c13
          clear c13
          by_cases c14 : ((rd_T48 l0 x6_1).f3.f0) = 4
          ·rw [if_pos c14] at H
           have c14b0 : (((rd_T48 l0 x6_1).f3.f0) == 4) = true := beq_iff_eq.mpr c14
           have c14b1 : (((rd_T48 l0 x6_1).f3.f0) != 4) = false := bne_eq_false_iff_eq.mpr c14
           clear c14
           by_cases c15 : x5_7.length < 1599289640401
           ·rw [if_pos c15] at H
            have LMc15 := Aside0.mk c15
            clear c15
            obtain ⟨y179, hy179⟩ : ∃ y_ : List (S48), y_ = (x5_7 ++ [(⟨(rd_T48 l0 x6_1).f0, (rd_T48 l0 x6_1).f1, (rd_T48 l0 x6_1).f2, (⟨(rd_T48 l0 x6_1).f3.f0, (rd_T48 l0 x6_1).f3.f1, (rd_T48 l0 x6_1).f3.f2, (rd_T48 l0 x6_1).f3.f3, (rd_T48 l0 x6_1).f3.f4, (rd_T48 l0 x6_1).f3.f5⟩ : S46)⟩ : S48)]) := ⟨_, rfl⟩
            rw [← hy179] at H
            have Ny179 := Aside0.mk hy179
            clear hy179
            have H' := Aside0.mk H
            clear H
            have p177 : 0 ≤ (x6_1 : Int) := of_decide_eq_true as_
            have q177 : x6_1 < (l0.length : Int) := of_decide_eq_true as_
            obtain ⟨ad177, e177, hx177_0, hx177_1, hx177_2, hx177_3, hx177_4, hx177_5, hx177_6, hx177_7, hx177_8⟩ := at_T48 HR0.out x6_1 p177 q177
            obtain rfl : ad173 = ad177 := (by injection e177)
            (try replace hx177_0 := cb_ HB hx177_0)
            (try replace hx177_1 := cb_ HB hx177_1)
            (try replace hx177_2 := cb_ HB hx177_2)
            (try replace hx177_3 := cb_ HB hx177_3)
            (try replace hx177_4 := cb_ HB hx177_4)
            (try replace hx177_5 := cb_ HB hx177_5)
            (try replace hx177_6 := cb_ HB hx177_6)
            (try replace hx177_7 := cb_ HB hx177_7)
            (try replace hx177_8 := cb_ HB hx177_8)
            replace p177 := eq_true p177
            replace q177 := eq_true q177
            have p178 : 0 ≤ (x6_1 : Int) := of_decide_eq_true as_
            have q178 : x6_1 < (l0.length : Int) := of_decide_eq_true as_
            obtain ⟨ad178, e178, hx178_0, hx178_1, hx178_2, hx178_3, hx178_4, hx178_5, hx178_6, hx178_7, hx178_8⟩ := at_T48 HR0.out x6_1 p178 q178
            obtain rfl : ad173 = ad178 := (by injection e178)
            (try replace hx178_0 := cb_ HB hx178_0)
            (try replace hx178_1 := cb_ HB hx178_1)
            (try replace hx178_2 := cb_ HB hx178_2)
            (try replace hx178_3 := cb_ HB hx178_3)
            (try replace hx178_4 := cb_ HB hx178_4)
            (try replace hx178_5 := cb_ HB hx178_5)
            (try replace hx178_6 := cb_ HB hx178_6)
            (try replace hx178_7 := cb_ HB hx178_7)
            (try replace hx178_8 := cb_ HB hx178_8)
            replace p178 := eq_true p178
            replace q178 := eq_true q178
            go_wp2_with (first | (at_builtin; (with_reducible refine gate_builtin (b := .append) (xs := #[.tmp 28, .tmp 33]) rfl ?_); refine Kd.R_append k48 (w0 := w) w.heap.size rfl (.tmp 28) (.tmp 33) 33 48 (.agg #[(.int .i64 0), (.int .i64 0), (.int .i64 0), (.int .i64 0), (.int .i64 0), (.string ⟨#[]⟩), (.string ⟨#[]⟩), (.int .i64 0), (.int .i64 0)]) 88 rfl Try.underlying33 info48 rfl (by decide) (by omega) u5 x5_7 (⟨(rd_T48 l0 x6_1).f0, (rd_T48 l0 x6_1).f1, (rd_T48 l0 x6_1).f2, (⟨(rd_T48 l0 x6_1).f3.f0, (rd_T48 l0 x6_1).f3.f1, (rd_T48 l0 x6_1).f3.f2, (rd_T48 l0 x6_1).f3.f3, (rd_T48 l0 x6_1).f3.f4, (rd_T48 l0 x6_1).f3.f5⟩ : S46)⟩ : S48) [.int .i64 ((rd_T48 l0 x6_1).f0), .int .i64 ((rd_T48 l0 x6_1).f1), .int .i64 ((rd_T48 l0 x6_1).f2), .int .i64 ((rd_T48 l0 x6_1).f3.f0), .int .i64 ((rd_T48 l0 x6_1).f3.f1), .string ((rd_T48 l0 x6_1).f3.f2), .string ((rd_T48 l0 x6_1).f3.f3), .int .i64 ((rd_T48 l0 x6_1).f3.f4), .int .i64 ((rd_T48 l0 x6_1).f3.f5)] (fun _ => True) (fun _ => False) rfl rfl ?aP (fun _ hk => hk.elim) ?aF ?aO ?aB ?aS ?aL ?_; (case aP => exact k48_mkM _ _ _ (⟨(rd_T48 l0 x6_1).f0, (rd_T48 l0 x6_1).f1, (rd_T48 l0 x6_1).f2, (⟨(rd_T48 l0 x6_1).f3.f0, (rd_T48 l0 x6_1).f3.f1, (rd_T48 l0 x6_1).f3.f2, (rd_T48 l0 x6_1).f3.f3, (rd_T48 l0 x6_1).f3.f4, (rd_T48 l0 x6_1).f3.f5⟩ : S46)⟩ : S48)); (case aB => exact (hb_ HB)); (case aF => exact (fun _ _ => trivial)); (case aO => exact (rr_ HO_5)); (case aS => exact (below_size (hb_ HB))); (case aL => have := LMc15.out; omega); intro v180 w16 ho hb hg hat; rw [← Ny179.out] at ho; replace HB := Aside0.mk (hb); have HO181 := Aside0.mk (ho); clear HO_5; clear ho hb hg hat))
            go_roundg kj7
            case measure => have := HK1.out; have := HJ7.out; omega
            case rel => exact ⟨(y179), (wrap64 (x6_1 + 1)), rs_, H', ⟨by have := HK1.out; have := HJ7.out; omega⟩, ⟨rr_ HO181⟩, ⟨hb_ HB⟩⟩
           ·rw [if_neg c15] at H
            exact absurd H (by simp)
          ·rw [if_neg c14] at H
           have c14b0 : (((rd_T48 l0 x6_1).f3.f0) == 4) = false := beq_eq_false_iff_ne.mpr c14
           have c14b1 : (((rd_T48 l0 x6_1).f3.f0) != 4) = true := bne_iff_ne.mpr c14
           have H' := Aside0.mk H
           clear H
           have p177 : 0 ≤ (x6_1 : Int) := of_decide_eq_true as_
           have q177 : x6_1 < (l0.length : Int) := of_decide_eq_true as_
           obtain ⟨ad177, e177, hx177_0, hx177_1, hx177_2, hx177_3, hx177_4, hx177_5, hx177_6, hx177_7, hx177_8⟩ := at_T48 HR0.out x6_1 p177 q177
           obtain rfl : ad173 = ad177 := (by injection e177)
           (try replace hx177_0 := cb_ HB hx177_0)
           (try replace hx177_1 := cb_ HB hx177_1)
           (try replace hx177_2 := cb_ HB hx177_2)
           (try replace hx177_3 := cb_ HB hx177_3)
           (try replace hx177_4 := cb_ HB hx177_4)
           (try replace hx177_5 := cb_ HB hx177_5)
           (try replace hx177_6 := cb_ HB hx177_6)
           (try replace hx177_7 := cb_ HB hx177_7)
           (try replace hx177_8 := cb_ HB hx177_8)
           replace p177 := eq_true p177
           replace q177 := eq_true q177
           go_wp2
           go_roundg kj7
           case measure => have := HK1.out; have := HJ7.out; omega
           case rel => exact ⟨(x5_7), (wrap64 (x6_1 + 1)), rs_, H', ⟨by have := HK1.out; have := HJ7.out; omega⟩, ⟨rr_ HO_5⟩, ⟨hb_ HB⟩⟩
         ·rw [if_neg c13] at H
          exact absurd H (by simp)
        ·rw [if_neg c12] at H
         exact absurd H (by simp)
     ·rw [if_neg c7] at H
      exact absurd H (by simp)
    ·rw [if_neg c6] at H
     exact absurd H (by simp)
   ·rw [if_neg c5] at H
    have c5b0 : decide (x6_1 < a1) = false := decide_eq_false c5
    clear c5
    obtain rfl := Option.some.inj H
    go_wp2
    go_ret
    exact ⟨_, by first | rfl | (simp [errW_none, errW_some] <;> rfl) | (simp [*, errW_none, errW_some] <;> rfl), rr_ HO_5, hb_ HB⟩

/-! ### spec_DirDrop: function 36 -/
def spec_DirDrop.l0 : Nat → List (S71) → ByteArray → List (S71) → Int → Option ((List (S71)))
 | 0, _, _, _, _ => none
 | k + 1, x0, x1, x5, x6 => if x6 < (x0.length : Int) then (if 0 ≤ x6 then (if ((rd_T71 x0 x6).f0).toList = x1.toList then (spec_DirDrop.l0 k x0 x1 x5 (wrap64 (x6 + 1))) else (if x5.length < 2932031007402 then (spec_DirDrop.l0 k x0 x1 (x5 ++ [(⟨(rd_T71 x0 x6).f0, (rd_T71 x0 x6).f1, (rd_T71 x0 x6).f2, (rd_T71 x0 x6).f3, (rd_T71 x0 x6).f4⟩ : S71)]) (wrap64 (x6 + 1))) else (none))) else (none)) else (some x5)
def spec_DirDrop.f (k : Nat) (l0 : List (S71)) (a1 : ByteArray) : Option ((List (S71))) := spec_DirDrop.l0 k l0 a1 (([] : List (S71))) 0
set_option maxHeartbeats 80000000 in
set_option maxRecDepth 100000 in
theorem spec_DirDrop.calls (k : Nat) (A0 : Option Addr) (c0 : Nat) (l0 : List (S71)) (a1 : ByteArray) (r : List (S71)) (w : World) (hr0 : Kd.C k71 w A0 l0.length l0) (hc0 : l0.length ≤ c0) (h : spec_DirDrop.f k l0 a1 = some r) :
  Calls Try.prog 36 #[.slice A0 l0.length c0, .string a1] w fun e w' => ∃ v0_ : Value, e = .returned (v0_) ∧ Kd.R k71 71 w' w.heap.size (fun _ => True) v0_ r ∧ Below w.heap.size w w' := by
 have hu71 := Try.underlying71
 have HR0 := Aside0.mk hr0
 have HC0 := Aside0.mk hc0
 clear hr0 hc0
 have HB := Aside0.mk (Below.refl w.heap.size w)
 unfold spec_DirDrop.f at h; have H := h
 clear h
 obtain ⟨y182, hy182⟩ : ∃ y_ : List (S71), y_ = (([] : List (S71))) := ⟨_, rfl⟩
 replace H : (spec_DirDrop.l0 k l0 a1 y182 0) = some r := by first | (rw [hy182]; with_reducible exact H) | (have H2_ := (Option.bind_some _ _).symm.trans H; rw [hy182]; with_reducible exact H2_) | (have H2_ := (Option.bind_some _ _).symm.trans H; with_reducible exact H2_) | with_reducible exact H | (rw [hy182]; exact H) | exact H
 have Ny182 := Aside0.mk hy182
 clear hy182
 have H' := Aside0.mk H
 clear H
 go_enter Try.func36, Try.ntmps36
 go_wp2_with (first | ((with_reducible refine gate_dst (N := 7) rfl ?_); refine Kd.R_lit k71 _ 71 ?hg (N := 7) ?hd (xs := ([] : List (S71))) (inner := []) (ok := fun _ => True) (okp := fun _ => True) ?hr ?hp (fun _ hk => hk) trivial (Below.refl _ _) (Nat.le_refl _) (by simp) ?_; (case hd => rfl); (case hg => rfl); (case hr => first | (go_simp; done) | (go_simp; rfl)); (case hp => exact (Reps.none _ _)); intro v183 w3 ho4 hb hg_ hnew_; clear hg_ hnew_; (first | rw [← Ny182.out] at ho4 | (simp only [Int.reduceToNat] at ho4; rw [← Ny182.out] at ho4)); have HO184 := Aside0.mk (Kd.R_lower ho4 (below_size (hb_ HB))); replace HB := bs_ HB hb; clear hb ho4))
 go_loopg [5, 6] k (fun kq v5 v6 w' => ∃ (x5_1 : List (S71)) (x6_1 : Int), v6 = .int .i64 x6_1 ∧ Aside0 (spec_DirDrop.l0 kq l0 a1 x5_1 x6_1 = some r) ∧ Aside0 (kq ≤ k) ∧ Aside0 (Kd.R k71 71 w' w.heap.size (fun _ => True) v5 x5_1) ∧ Aside0 (Below w.heap.size w w'))
 case atStart => exact ⟨(y182), (0), rs_, H', ⟨Nat.le_refl _⟩, ⟨rr_ HO184⟩, ⟨hb_ HB⟩⟩
 case round =>
  clear H'
  obtain ⟨x5_1, x6_1, rfl, HA, HK1, HO_5, HB⟩ := hrel
  cases gk with
  | zero => exact absurd HA.out (by simp [spec_DirDrop.l0])
  | succ k1 =>
   have H := HA.out
   clear HA
   simp only [spec_DirDrop.l0] at H
   by_cases c5 : x6_1 < (l0.length : Int)
   ·rw [if_pos c5] at H
    have c5b0 : decide (x6_1 < (l0.length : Int)) = true := decide_eq_true c5
    clear c5
    by_cases c6 : 0 ≤ x6_1
    ·rw [if_pos c6] at H
     have c6b0 : decide (0 ≤ x6_1) = true := decide_eq_true c6
     clear c6
     by_cases c7 : ((rd_T71 l0 x6_1).f0).toList = a1.toList
     ·rw [if_pos c7] at H
      have c7b0 : (((rd_T71 l0 x6_1).f0).toList == a1.toList) = true := beq_iff_eq.mpr c7
      have c7b1 : (((rd_T71 l0 x6_1).f0).toList != a1.toList) = false := bne_eq_false_iff_eq.mpr c7
      clear c7
      have H' := Aside0.mk H
      clear H
      have p185 : 0 ≤ (x6_1 : Int) := of_decide_eq_true as_
      have q185 : x6_1 < (l0.length : Int) := of_decide_eq_true as_
      obtain ⟨ad185, e185, hx185_0, hx185_1, hx185_2, hx185_3, hx185_4⟩ := at_T71 HR0.out x6_1 p185 q185
      cases e185
      (try replace hx185_0 := cb_ HB hx185_0)
      (try replace hx185_1 := cb_ HB hx185_1)
      (try replace hx185_2 := cb_ HB hx185_2)
      (try replace hx185_3 := cb_ HB hx185_3)
      (try replace hx185_4 := cb_ HB hx185_4)
      replace p185 := eq_true p185
      replace q185 := eq_true q185
      go_wp2
      go_roundg k1
      case measure => have := HK1.out; first | exact this | exact Nat.le_of_succ_le this | exact Nat.le_refl _ | omega
      case rel => exact ⟨(x5_1), (wrap64 (x6_1 + 1)), rs_, H', ⟨by have := HK1.out; first | exact this | exact Nat.le_of_succ_le this | exact Nat.le_refl _ | omega⟩, ⟨rr_ HO_5⟩, ⟨hb_ HB⟩⟩
     ·rw [if_neg c7] at H
      have c7b0 : (((rd_T71 l0 x6_1).f0).toList == a1.toList) = false := beq_eq_false_iff_ne.mpr c7
      have c7b1 : (((rd_T71 l0 x6_1).f0).toList != a1.toList) = true := bne_iff_ne.mpr c7
      by_cases c8 : x5_1.length < 2932031007402
      ·rw [if_pos c8] at H
       have LMc8 := Aside0.mk c8
       clear c8
       obtain ⟨y187, hy187⟩ : ∃ y_ : List (S71), y_ = (x5_1 ++ [(⟨(rd_T71 l0 x6_1).f0, (rd_T71 l0 x6_1).f1, (rd_T71 l0 x6_1).f2, (rd_T71 l0 x6_1).f3, (rd_T71 l0 x6_1).f4⟩ : S71)]) := ⟨_, rfl⟩
       rw [← hy187] at H
       have Ny187 := Aside0.mk hy187
       clear hy187
       have H' := Aside0.mk H
       clear H
       have p185 : 0 ≤ (x6_1 : Int) := of_decide_eq_true as_
       have q185 : x6_1 < (l0.length : Int) := of_decide_eq_true as_
       obtain ⟨ad185, e185, hx185_0, hx185_1, hx185_2, hx185_3, hx185_4⟩ := at_T71 HR0.out x6_1 p185 q185
       cases e185
       (try replace hx185_0 := cb_ HB hx185_0)
       (try replace hx185_1 := cb_ HB hx185_1)
       (try replace hx185_2 := cb_ HB hx185_2)
       (try replace hx185_3 := cb_ HB hx185_3)
       (try replace hx185_4 := cb_ HB hx185_4)
       replace p185 := eq_true p185
       replace q185 := eq_true q185
       have p186 : 0 ≤ (x6_1 : Int) := of_decide_eq_true as_
       have q186 : x6_1 < (l0.length : Int) := of_decide_eq_true as_
       obtain ⟨ad186, e186, hx186_0, hx186_1, hx186_2, hx186_3, hx186_4⟩ := at_T71 HR0.out x6_1 p186 q186
       obtain rfl : ad185 = ad186 := (by injection e186)
       (try replace hx186_0 := cb_ HB hx186_0)
       (try replace hx186_1 := cb_ HB hx186_1)
       (try replace hx186_2 := cb_ HB hx186_2)
       (try replace hx186_3 := cb_ HB hx186_3)
       (try replace hx186_4 := cb_ HB hx186_4)
       replace p186 := eq_true p186
       replace q186 := eq_true q186
       go_wp2_with (first | (at_builtin; (with_reducible refine gate_builtin (b := .append) (xs := #[.tmp 21, .tmp 26]) rfl ?_); refine Kd.R_append k71 (w0 := w) w.heap.size rfl (.tmp 21) (.tmp 26) 28 71 (.agg #[(.string ⟨#[]⟩), (.int .i64 0), (.int .i64 0), (.int .i64 0), (.int .i64 0)]) 48 rfl Try.underlying28 info71 rfl (by decide) (by omega) u5 x5_1 (⟨(rd_T71 l0 x6_1).f0, (rd_T71 l0 x6_1).f1, (rd_T71 l0 x6_1).f2, (rd_T71 l0 x6_1).f3, (rd_T71 l0 x6_1).f4⟩ : S71) [.string ((rd_T71 l0 x6_1).f0), .int .i64 ((rd_T71 l0 x6_1).f1), .int .i64 ((rd_T71 l0 x6_1).f2), .int .i64 ((rd_T71 l0 x6_1).f3), .int .i64 ((rd_T71 l0 x6_1).f4)] (fun _ => True) (fun _ => False) rfl rfl ?aP (fun _ hk => hk.elim) ?aF ?aO ?aB ?aS ?aL ?_; (case aP => exact k71_mkM _ _ _ (⟨(rd_T71 l0 x6_1).f0, (rd_T71 l0 x6_1).f1, (rd_T71 l0 x6_1).f2, (rd_T71 l0 x6_1).f3, (rd_T71 l0 x6_1).f4⟩ : S71)); (case aB => exact (hb_ HB)); (case aF => exact (fun _ _ => trivial)); (case aO => exact (rr_ HO_5)); (case aS => exact (below_size (hb_ HB))); (case aL => have := LMc8.out; omega); intro v188 w9 ho hb hg hat; rw [← Ny187.out] at ho; replace HB := Aside0.mk (hb); have HO189 := Aside0.mk (ho); clear HO_5; clear ho hb hg hat))
       go_roundg k1
       case measure => have := HK1.out; first | exact this | exact Nat.le_of_succ_le this | exact Nat.le_refl _ | omega
       case rel => exact ⟨(y187), (wrap64 (x6_1 + 1)), rs_, H', ⟨by have := HK1.out; first | exact this | exact Nat.le_of_succ_le this | exact Nat.le_refl _ | omega⟩, ⟨rr_ HO189⟩, ⟨hb_ HB⟩⟩
      ·rw [if_neg c8] at H
       exact absurd H (by simp)
    ·rw [if_neg c6] at H
     exact absurd H (by simp)
   ·rw [if_neg c5] at H
    have c5b0 : decide (x6_1 < (l0.length : Int)) = false := decide_eq_false c5
    clear c5
    obtain rfl := Option.some.inj H
    go_wp2
    go_ret
    exact ⟨_, by first | rfl | (simp [errW_none, errW_some] <;> rfl) | (simp [*, errW_none, errW_some] <;> rfl), rr_ HO_5, hb_ HB⟩

/-! ### spec_DirPut: function 37 -/
def spec_DirPut.l0 : Nat → List (S71) → List (S71) → Bool → Int → ByteArray → Int → Int → Int → Int → Option ((List (S71)))
 | 0, _, _, _, _, _, _, _, _, _ => none
 | k + 1, x0, x5, x6, x7, x191000, x191001, x191002, x191003, x191004 => if x7 < (x0.length : Int) then (if 0 ≤ x7 then (if ((rd_T71 x0 x7).f0).toList = x191000.toList then (spec_DirPut.l0 k x0 x5 x6 (wrap64 (x7 + 1)) x191000 x191001 x191002 x191003 x191004) else (if x6 = true then (if x5.length < 2932031007402 then (spec_DirPut.l0 k x0 (x5 ++ [(⟨(rd_T71 x0 x7).f0, (rd_T71 x0 x7).f1, (rd_T71 x0 x7).f2, (rd_T71 x0 x7).f3, (rd_T71 x0 x7).f4⟩ : S71)]) x6 (wrap64 (x7 + 1)) x191000 x191001 x191002 x191003 x191004) else (none)) else (if (Op.bytesLess x191000.toList (((rd_T71 x0 x7).f0).toList)) = true then (if x5.length < 2932031007402 then ((some (x5 ++ [(⟨x191000, x191001, x191002, x191003, x191004⟩ : S71)] : List (S71))).bind fun y200 => (if y200.length < 2932031007402 then (spec_DirPut.l0 k x0 (y200 ++ [(⟨(rd_T71 x0 x7).f0, (rd_T71 x0 x7).f1, (rd_T71 x0 x7).f2, (rd_T71 x0 x7).f3, (rd_T71 x0 x7).f4⟩ : S71)]) true (wrap64 (x7 + 1)) x191000 x191001 x191002 x191003 x191004) else (none))) else (none)) else (if x5.length < 2932031007402 then (spec_DirPut.l0 k x0 (x5 ++ [(⟨(rd_T71 x0 x7).f0, (rd_T71 x0 x7).f1, (rd_T71 x0 x7).f2, (rd_T71 x0 x7).f3, (rd_T71 x0 x7).f4⟩ : S71)]) x6 (wrap64 (x7 + 1)) x191000 x191001 x191002 x191003 x191004) else (none))))) else (none)) else (if x6 = true then (some x5) else (if x5.length < 2932031007402 then (some (x5 ++ [(⟨x191000, x191001, x191002, x191003, x191004⟩ : S71)])) else (none)))
def spec_DirPut.f (k : Nat) (l0 : List (S71)) (a1_0 : ByteArray) (a1_1 : Int) (a1_2 : Int) (a1_3 : Int) (a1_4 : Int) : Option ((List (S71))) := spec_DirPut.l0 k l0 (([] : List (S71))) false 0 a1_0 a1_1 a1_2 a1_3 a1_4
set_option maxHeartbeats 80000000 in
set_option maxRecDepth 100000 in
theorem spec_DirPut.calls (k : Nat) (A0 : Option Addr) (c0 : Nat) (l0 : List (S71)) (a1_0 : ByteArray) (a1_1 : Int) (a1_2 : Int) (a1_3 : Int) (a1_4 : Int) (r : List (S71)) (w : World) (hr0 : Kd.C k71 w A0 l0.length l0) (hc0 : l0.length ≤ c0) (h : spec_DirPut.f k l0 a1_0 a1_1 a1_2 a1_3 a1_4 = some r) :
  Calls Try.prog 37 #[.slice A0 l0.length c0, .agg #[.string a1_0, .int .i64 a1_1, .int .i64 a1_2, .int .i64 a1_3, .int .i64 a1_4]] w fun e w' => ∃ v0_ : Value, e = .returned (v0_) ∧ Kd.R k71 71 w' w.heap.size (fun _ => True) v0_ r ∧ Below w.heap.size w w' := by
 have hu71 := Try.underlying71
 have HR0 := Aside0.mk hr0
 have HC0 := Aside0.mk hc0
 clear hr0 hc0
 have HB := Aside0.mk (Below.refl w.heap.size w)
 unfold spec_DirPut.f at h; have H := h
 clear h
 obtain ⟨y191, hy191⟩ : ∃ y_ : List (S71), y_ = (([] : List (S71))) := ⟨_, rfl⟩
 replace H : (spec_DirPut.l0 k l0 y191 false 0 a1_0 a1_1 a1_2 a1_3 a1_4) = some r := by first | (rw [hy191]; with_reducible exact H) | (have H2_ := (Option.bind_some _ _).symm.trans H; rw [hy191]; with_reducible exact H2_) | (have H2_ := (Option.bind_some _ _).symm.trans H; with_reducible exact H2_) | with_reducible exact H | (rw [hy191]; exact H) | exact H
 have Ny191 := Aside0.mk hy191
 clear hy191
 have H' := Aside0.mk H
 clear H
 go_enter Try.func37, Try.ntmps37
 go_wp2_with (first | ((with_reducible refine gate_dst (N := 3) rfl ?_); refine box_event ?hg (N := 3) ?hd (cs := #[.string a1_0, .int .i64 a1_1, .int .i64 a1_2, .int .i64 a1_3, .int .i64 a1_4]) (t := 71) ?hr ?_; (case hd => rfl); (case hg => rfl); (case hr => first | (go_simp; done) | (go_simp; rfl)); intro gb190 hg w3 hbox hb; have BK190 := Aside0.mk (hbox); have GE190 := ge_ hg (hb_ HB); replace HB := bs_ HB hb; clear hb hbox hg) | ((with_reducible refine gate_dst (N := 8) rfl ?_); refine Kd.R_lit k71 _ 71 ?hg (N := 8) ?hd (xs := ([] : List (S71))) (inner := []) (ok := fun _ => True) (okp := fun _ => True) ?hr ?hp (fun _ hk => hk) trivial (Below.refl _ _) (Nat.le_refl _) (by simp) ?_; (case hd => rfl); (case hg => rfl); (case hr => first | (go_simp; done) | (go_simp; rfl)); (case hp => exact (Reps.none _ _)); intro v192 w4 ho5 hb hg_ hnew_; clear hg_ hnew_; (first | rw [← Ny191.out] at ho5 | (simp only [Int.reduceToNat] at ho5; rw [← Ny191.out] at ho5)); have HO193 := Aside0.mk (Kd.R_lower (Kd.R_newB ho5 (g := gb190) (o := .cells #[.string a1_0, .int .i64 a1_1, .int .i64 a1_2, .int .i64 a1_3, .int .i64 a1_4] 71 (0, 0)) (bk_ BK190)) (below_size (hs_ HB GE190))); replace BK190 := bb_ BK190 hb; replace HB := bt_ HB GE190 hb; clear hb ho5))
 repeat (go_quiet (first | ((with_reducible refine gate_dst (N := 3) rfl ?_); refine box_event ?hg (N := 3) ?hd (cs := #[.string a1_0, .int .i64 a1_1, .int .i64 a1_2, .int .i64 a1_3, .int .i64 a1_4]) (t := 71) ?hr ?_; (case hd => rfl); (case hg => rfl); (case hr => first | (go_simp; done) | (go_simp; rfl)); intro gb190 hg w3 hbox hb; have BK190 := Aside0.mk (hbox); have GE190 := ge_ hg (hb_ HB); replace HB := bs_ HB hb; clear hb hbox hg) | ((with_reducible refine gate_dst (N := 8) rfl ?_); refine Kd.R_lit k71 _ 71 ?hg (N := 8) ?hd (xs := ([] : List (S71))) (inner := []) (ok := fun _ => True) (okp := fun _ => True) ?hr ?hp (fun _ hk => hk) trivial (Below.refl _ _) (Nat.le_refl _) (by simp) ?_; (case hd => rfl); (case hg => rfl); (case hr => first | (go_simp; done) | (go_simp; rfl)); (case hp => exact (Reps.none _ _)); intro v192 w4 ho5 hb hg_ hnew_; clear hg_ hnew_; (first | rw [← Ny191.out] at ho5 | (simp only [Int.reduceToNat] at ho5; rw [← Ny191.out] at ho5)); have HO193 := Aside0.mk (Kd.R_lower (Kd.R_newB ho5 (g := gb190) (o := .cells #[.string a1_0, .int .i64 a1_1, .int .i64 a1_2, .int .i64 a1_3, .int .i64 a1_4] 71 (0, 0)) (bk_ BK190)) (below_size (hs_ HB GE190))); replace BK190 := bb_ BK190 hb; replace HB := bt_ HB GE190 hb; clear hb ho5)); try go_wp2_with (first | ((with_reducible refine gate_dst (N := 3) rfl ?_); refine box_event ?hg (N := 3) ?hd (cs := #[.string a1_0, .int .i64 a1_1, .int .i64 a1_2, .int .i64 a1_3, .int .i64 a1_4]) (t := 71) ?hr ?_; (case hd => rfl); (case hg => rfl); (case hr => first | (go_simp; done) | (go_simp; rfl)); intro gb190 hg w3 hbox hb; have BK190 := Aside0.mk (hbox); have GE190 := ge_ hg (hb_ HB); replace HB := bs_ HB hb; clear hb hbox hg) | ((with_reducible refine gate_dst (N := 8) rfl ?_); refine Kd.R_lit k71 _ 71 ?hg (N := 8) ?hd (xs := ([] : List (S71))) (inner := []) (ok := fun _ => True) (okp := fun _ => True) ?hr ?hp (fun _ hk => hk) trivial (Below.refl _ _) (Nat.le_refl _) (by simp) ?_; (case hd => rfl); (case hg => rfl); (case hr => first | (go_simp; done) | (go_simp; rfl)); (case hp => exact (Reps.none _ _)); intro v192 w4 ho5 hb hg_ hnew_; clear hg_ hnew_; (first | rw [← Ny191.out] at ho5 | (simp only [Int.reduceToNat] at ho5; rw [← Ny191.out] at ho5)); have HO193 := Aside0.mk (Kd.R_lower (Kd.R_newB ho5 (g := gb190) (o := .cells #[.string a1_0, .int .i64 a1_1, .int .i64 a1_2, .int .i64 a1_3, .int .i64 a1_4] 71 (0, 0)) (bk_ BK190)) (below_size (hs_ HB GE190))); replace BK190 := bb_ BK190 hb; replace HB := bt_ HB GE190 hb; clear hb ho5)))
 go_loopg [5, 6, 7] k (fun kq v5 v6 v7 w' => ∃ (x5_1 : List (S71)) (x6_1 : Bool) (x7_1 : Int), v6 = .bool x6_1 ∧ v7 = .int .i64 x7_1 ∧ Aside0 (spec_DirPut.l0 kq l0 x5_1 x6_1 x7_1 a1_0 a1_1 a1_2 a1_3 a1_4 = some r) ∧ Aside0 (kq ≤ k) ∧ Aside0 (Kd.R k71 71 w' w.heap.size (fun k_ => k_ ≠ gb190) v5 x5_1) ∧ Aside0 (w'.heap[gb190]? = some (.cells #[.string a1_0, .int .i64 a1_1, .int .i64 a1_2, .int .i64 a1_3, .int .i64 a1_4] 71 (0, 0))) ∧ Aside0 (Below w.heap.size w w'))
 case atStart => exact ⟨(y191), (false), (0), rs_, rs_, H', ⟨Nat.le_refl _⟩, ⟨by (with_reducible repeat (first | apply Kd.R_alloc | apply Kd.R_drewN | apply Kd.R_drew)); exact Kd.R_mono HO193.out (fun _ hk => hk.2)⟩, ⟨bk_ BK190⟩, ⟨hs_ HB GE190⟩⟩
 case round =>
  clear H'
  obtain ⟨x5_1, x6_1, x7_1, rfl, rfl, HA, HK1, HO_5, BK190, HB⟩ := hrel
  cases gk with
  | zero => exact absurd HA.out (by simp [spec_DirPut.l0])
  | succ k1 =>
   have H := HA.out
   clear HA
   simp only [spec_DirPut.l0] at H
   by_cases c6 : x7_1 < (l0.length : Int)
   ·rw [if_pos c6] at H
    have c6b0 : decide (x7_1 < (l0.length : Int)) = true := decide_eq_true c6
    clear c6
    by_cases c7 : 0 ≤ x7_1
    ·rw [if_pos c7] at H
     have c7b0 : decide (0 ≤ x7_1) = true := decide_eq_true c7
     clear c7
     by_cases c8 : ((rd_T71 l0 x7_1).f0).toList = a1_0.toList
     ·rw [if_pos c8] at H
      have c8b0 : (((rd_T71 l0 x7_1).f0).toList == a1_0.toList) = true := beq_iff_eq.mpr c8
      have c8b1 : (((rd_T71 l0 x7_1).f0).toList != a1_0.toList) = false := bne_eq_false_iff_eq.mpr c8
      clear c8
      have H' := Aside0.mk H
      clear H
      have p194 : 0 ≤ (x7_1 : Int) := of_decide_eq_true as_
      have q194 : x7_1 < (l0.length : Int) := of_decide_eq_true as_
      obtain ⟨ad194, e194, hx194_0, hx194_1, hx194_2, hx194_3, hx194_4⟩ := at_T71 HR0.out x7_1 p194 q194
      cases e194
      (try replace hx194_0 := cb_ HB hx194_0)
      (try replace hx194_1 := cb_ HB hx194_1)
      (try replace hx194_2 := cb_ HB hx194_2)
      (try replace hx194_3 := cb_ HB hx194_3)
      (try replace hx194_4 := cb_ HB hx194_4)
      replace p194 := eq_true p194
      replace q194 := eq_true q194
      obtain ⟨hcz9_0, hcz9_1, hcz9_2, hcz9_3, hcz9_4, hfz9_0, hfz9_1, hfz9_2, hfz9_3, hfz9_4⟩ := bc5_ BK190
      go_wp2
      repeat (go_quiet (fail); try go_wp2)
      go_roundg k1
      case measure => have := HK1.out; first | exact this | exact Nat.le_of_succ_le this | exact Nat.le_refl _ | omega
      case rel => exact ⟨(x5_1), (x6_1), (wrap64 (x7_1 + 1)), rs_, rs_, H', ⟨by have := HK1.out; first | exact this | exact Nat.le_of_succ_le this | exact Nat.le_refl _ | omega⟩, ⟨rr_ HO_5⟩, ⟨bk_ BK190⟩, ⟨hs_ HB GE190⟩⟩
     ·rw [if_neg c8] at H
      have c8b0 : (((rd_T71 l0 x7_1).f0).toList == a1_0.toList) = false := beq_eq_false_iff_ne.mpr c8
      have c8b1 : (((rd_T71 l0 x7_1).f0).toList != a1_0.toList) = true := bne_iff_ne.mpr c8
      by_cases c10 : x6_1 = true
      ·subst c10
       rw [if_pos rfl] at H
       by_cases c11 : x5_1.length < 2932031007402
       ·rw [if_pos c11] at H
        have LMc11 := Aside0.mk c11
        clear c11
        obtain ⟨y197, hy197⟩ : ∃ y_ : List (S71), y_ = (x5_1 ++ [(⟨(rd_T71 l0 x7_1).f0, (rd_T71 l0 x7_1).f1, (rd_T71 l0 x7_1).f2, (rd_T71 l0 x7_1).f3, (rd_T71 l0 x7_1).f4⟩ : S71)]) := ⟨_, rfl⟩
        rw [← hy197] at H
        have Ny197 := Aside0.mk hy197
        clear hy197
        have H' := Aside0.mk H
        clear H
        have p194 : 0 ≤ (x7_1 : Int) := of_decide_eq_true as_
        have q194 : x7_1 < (l0.length : Int) := of_decide_eq_true as_
        obtain ⟨ad194, e194, hx194_0, hx194_1, hx194_2, hx194_3, hx194_4⟩ := at_T71 HR0.out x7_1 p194 q194
        cases e194
        (try replace hx194_0 := cb_ HB hx194_0)
        (try replace hx194_1 := cb_ HB hx194_1)
        (try replace hx194_2 := cb_ HB hx194_2)
        (try replace hx194_3 := cb_ HB hx194_3)
        (try replace hx194_4 := cb_ HB hx194_4)
        replace p194 := eq_true p194
        replace q194 := eq_true q194
        obtain ⟨hcz12_0, hcz12_1, hcz12_2, hcz12_3, hcz12_4, hfz12_0, hfz12_1, hfz12_2, hfz12_3, hfz12_4⟩ := bc5_ BK190
        have p196 : 0 ≤ (x7_1 : Int) := of_decide_eq_true as_
        have q196 : x7_1 < (l0.length : Int) := of_decide_eq_true as_
        obtain ⟨ad196, e196, hx196_0, hx196_1, hx196_2, hx196_3, hx196_4⟩ := at_T71 HR0.out x7_1 p196 q196
        obtain rfl : ad194 = ad196 := (by injection e196)
        (try replace hx196_0 := cb_ HB hx196_0)
        (try replace hx196_1 := cb_ HB hx196_1)
        (try replace hx196_2 := cb_ HB hx196_2)
        (try replace hx196_3 := cb_ HB hx196_3)
        (try replace hx196_4 := cb_ HB hx196_4)
        replace p196 := eq_true p196
        replace q196 := eq_true q196
        go_wp2_with (first | (at_builtin; (with_reducible refine gate_builtin (b := .append) (xs := #[.tmp 39, .tmp 44]) rfl ?_); refine Kd.R_append k71 (w0 := w) w.heap.size rfl (.tmp 39) (.tmp 44) 28 71 (.agg #[(.string ⟨#[]⟩), (.int .i64 0), (.int .i64 0), (.int .i64 0), (.int .i64 0)]) 48 rfl Try.underlying28 info71 rfl (by decide) (by omega) u5 x5_1 (⟨(rd_T71 l0 x7_1).f0, (rd_T71 l0 x7_1).f1, (rd_T71 l0 x7_1).f2, (rd_T71 l0 x7_1).f3, (rd_T71 l0 x7_1).f4⟩ : S71) [.string ((rd_T71 l0 x7_1).f0), .int .i64 ((rd_T71 l0 x7_1).f1), .int .i64 ((rd_T71 l0 x7_1).f2), .int .i64 ((rd_T71 l0 x7_1).f3), .int .i64 ((rd_T71 l0 x7_1).f4)] (fun k_ => k_ ≠ gb190) (fun _ => False) rfl rfl ?aP (fun _ hk => hk.elim) ?aF ?aO ?aB ?aS ?aL ?_; (case aP => exact k71_mkM _ _ _ (⟨(rd_T71 l0 x7_1).f0, (rd_T71 l0 x7_1).f1, (rd_T71 l0 x7_1).f2, (rd_T71 l0 x7_1).f3, (rd_T71 l0 x7_1).f4⟩ : S71)); (case aB => exact (hs_ HB GE190)); (case aF => exact (fun k_ hk => Kd.freshB (g := gb190) (o := .cells #[.string a1_0, .int .i64 a1_1, .int .i64 a1_2, .int .i64 a1_3, .int .i64 a1_4] 71 (0, 0)) (bk_ BK190) k_ hk)); (case aO => exact (rr_ HO_5)); (case aS => exact (below_size (hs_ HB GE190))); (case aL => have := LMc11.out; omega); intro v198 w13 ho hb hg hat; rw [← Ny197.out] at ho; replace BK190 := bg_ BK190 hg (Kd.R_away HO_5.out (fun _ hk => hk)); replace HB := Aside0.mk (hb); have HO199 := Aside0.mk (ho); clear HO_5; clear ho hb hg hat))
        repeat (go_quiet (first | (at_builtin; (with_reducible refine gate_builtin (b := .append) (xs := #[.tmp 39, .tmp 44]) rfl ?_); refine Kd.R_append k71 (w0 := w) w.heap.size rfl (.tmp 39) (.tmp 44) 28 71 (.agg #[(.string ⟨#[]⟩), (.int .i64 0), (.int .i64 0), (.int .i64 0), (.int .i64 0)]) 48 rfl Try.underlying28 info71 rfl (by decide) (by omega) u5 x5_1 (⟨(rd_T71 l0 x7_1).f0, (rd_T71 l0 x7_1).f1, (rd_T71 l0 x7_1).f2, (rd_T71 l0 x7_1).f3, (rd_T71 l0 x7_1).f4⟩ : S71) [.string ((rd_T71 l0 x7_1).f0), .int .i64 ((rd_T71 l0 x7_1).f1), .int .i64 ((rd_T71 l0 x7_1).f2), .int .i64 ((rd_T71 l0 x7_1).f3), .int .i64 ((rd_T71 l0 x7_1).f4)] (fun k_ => k_ ≠ gb190) (fun _ => False) rfl rfl ?aP (fun _ hk => hk.elim) ?aF ?aO ?aB ?aS ?aL ?_; (case aP => exact k71_mkM _ _ _ (⟨(rd_T71 l0 x7_1).f0, (rd_T71 l0 x7_1).f1, (rd_T71 l0 x7_1).f2, (rd_T71 l0 x7_1).f3, (rd_T71 l0 x7_1).f4⟩ : S71)); (case aB => exact (hs_ HB GE190)); (case aF => exact (fun k_ hk => Kd.freshB (g := gb190) (o := .cells #[.string a1_0, .int .i64 a1_1, .int .i64 a1_2, .int .i64 a1_3, .int .i64 a1_4] 71 (0, 0)) (bk_ BK190) k_ hk)); (case aO => exact (rr_ HO_5)); (case aS => exact (below_size (hs_ HB GE190))); (case aL => have := LMc11.out; omega); intro v198 w13 ho hb hg hat; rw [← Ny197.out] at ho; replace BK190 := bg_ BK190 hg (Kd.R_away HO_5.out (fun _ hk => hk)); replace HB := Aside0.mk (hb); have HO199 := Aside0.mk (ho); clear HO_5; clear ho hb hg hat)); try go_wp2_with (first | (at_builtin; (with_reducible refine gate_builtin (b := .append) (xs := #[.tmp 39, .tmp 44]) rfl ?_); refine Kd.R_append k71 (w0 := w) w.heap.size rfl (.tmp 39) (.tmp 44) 28 71 (.agg #[(.string ⟨#[]⟩), (.int .i64 0), (.int .i64 0), (.int .i64 0), (.int .i64 0)]) 48 rfl Try.underlying28 info71 rfl (by decide) (by omega) u5 x5_1 (⟨(rd_T71 l0 x7_1).f0, (rd_T71 l0 x7_1).f1, (rd_T71 l0 x7_1).f2, (rd_T71 l0 x7_1).f3, (rd_T71 l0 x7_1).f4⟩ : S71) [.string ((rd_T71 l0 x7_1).f0), .int .i64 ((rd_T71 l0 x7_1).f1), .int .i64 ((rd_T71 l0 x7_1).f2), .int .i64 ((rd_T71 l0 x7_1).f3), .int .i64 ((rd_T71 l0 x7_1).f4)] (fun k_ => k_ ≠ gb190) (fun _ => False) rfl rfl ?aP (fun _ hk => hk.elim) ?aF ?aO ?aB ?aS ?aL ?_; (case aP => exact k71_mkM _ _ _ (⟨(rd_T71 l0 x7_1).f0, (rd_T71 l0 x7_1).f1, (rd_T71 l0 x7_1).f2, (rd_T71 l0 x7_1).f3, (rd_T71 l0 x7_1).f4⟩ : S71)); (case aB => exact (hs_ HB GE190)); (case aF => exact (fun k_ hk => Kd.freshB (g := gb190) (o := .cells #[.string a1_0, .int .i64 a1_1, .int .i64 a1_2, .int .i64 a1_3, .int .i64 a1_4] 71 (0, 0)) (bk_ BK190) k_ hk)); (case aO => exact (rr_ HO_5)); (case aS => exact (below_size (hs_ HB GE190))); (case aL => have := LMc11.out; omega); intro v198 w13 ho hb hg hat; rw [← Ny197.out] at ho; replace BK190 := bg_ BK190 hg (Kd.R_away HO_5.out (fun _ hk => hk)); replace HB := Aside0.mk (hb); have HO199 := Aside0.mk (ho); clear HO_5; clear ho hb hg hat)))
        go_roundg k1
        case measure => have := HK1.out; first | exact this | exact Nat.le_of_succ_le this | exact Nat.le_refl _ | omega
        case rel => exact ⟨(y197), (true), (wrap64 (x7_1 + 1)), rs_, rs_, H', ⟨by have := HK1.out; first | exact this | exact Nat.le_of_succ_le this | exact Nat.le_refl _ | omega⟩, ⟨rr_ HO199⟩, ⟨bk_ BK190⟩, ⟨hs_ HB GE190⟩⟩
       ·rw [if_neg c11] at H
        exact absurd H (by simp)
      ·replace c10 := Bool.eq_false_iff.mpr c10
       subst c10
       rw [if_neg ff_] at H
       by_cases c14 : (Op.bytesLess a1_0.toList (((rd_T71 l0 x7_1).f0).toList)) = true
       ·rw [if_pos c14] at H
        have c14b0 : (Op.bytesLess a1_0.toList (((rd_T71 l0 x7_1).f0).toList)) = true := c14
        clear c14
        by_cases c15 : x5_1.length < 2932031007402
        ·rw [if_pos c15] at H
         have LMc15 := Aside0.mk c15
         clear c15
         obtain ⟨y200, hy200, H⟩ := ov_ H
         have Ny200 := Aside0.mk hy200
         clear hy200
         by_cases c16 : y200.length < 2932031007402
         ·rw [if_pos c16] at H
          have LMc16 := Aside0.mk c16
          clear c16
          obtain ⟨y204, hy204⟩ : ∃ y_ : List (S71), y_ = (y200 ++ [(⟨(rd_T71 l0 x7_1).f0, (rd_T71 l0 x7_1).f1, (rd_T71 l0 x7_1).f2, (rd_T71 l0 x7_1).f3, (rd_T71 l0 x7_1).f4⟩ : S71)]) := ⟨_, rfl⟩
          rw [← hy204] at H
          have Ny204 := Aside0.mk hy204
          clear hy204
          have H' := Aside0.mk H
          clear H
          have p194 : 0 ≤ (x7_1 : Int) := of_decide_eq_true as_
          have q194 : x7_1 < (l0.length : Int) := of_decide_eq_true as_
          obtain ⟨ad194, e194, hx194_0, hx194_1, hx194_2, hx194_3, hx194_4⟩ := at_T71 HR0.out x7_1 p194 q194
          cases e194
          (try replace hx194_0 := cb_ HB hx194_0)
          (try replace hx194_1 := cb_ HB hx194_1)
          (try replace hx194_2 := cb_ HB hx194_2)
          (try replace hx194_3 := cb_ HB hx194_3)
          (try replace hx194_4 := cb_ HB hx194_4)
          replace p194 := eq_true p194
          replace q194 := eq_true q194
          obtain ⟨hcz17_0, hcz17_1, hcz17_2, hcz17_3, hcz17_4, hfz17_0, hfz17_1, hfz17_2, hfz17_3, hfz17_4⟩ := bc5_ BK190
          have p195 : 0 ≤ (x7_1 : Int) := of_decide_eq_true as_
          have q195 : x7_1 < (l0.length : Int) := of_decide_eq_true as_
          obtain ⟨ad195, e195, hx195_0, hx195_1, hx195_2, hx195_3, hx195_4⟩ := at_T71 HR0.out x7_1 p195 q195
          obtain rfl : ad194 = ad195 := (by injection e195)
          (try replace hx195_0 := cb_ HB hx195_0)
          (try replace hx195_1 := cb_ HB hx195_1)
          (try replace hx195_2 := cb_ HB hx195_2)
          (try replace hx195_3 := cb_ HB hx195_3)
          (try replace hx195_4 := cb_ HB hx195_4)
          replace p195 := eq_true p195
          replace q195 := eq_true q195
          go_wp2_with (first | (at_builtin; (with_reducible refine gate_builtin (b := .append) (xs := #[.tmp 35, .tmp 37]) rfl ?_); refine Kd.R_append k71 (w0 := w) w.heap.size rfl (.tmp 35) (.tmp 37) 28 71 (.agg #[(.string ⟨#[]⟩), (.int .i64 0), (.int .i64 0), (.int .i64 0), (.int .i64 0)]) 48 rfl Try.underlying28 info71 rfl (by decide) (by omega) u5 x5_1 (⟨a1_0, a1_1, a1_2, a1_3, a1_4⟩ : S71) [.string a1_0, .int .i64 a1_1, .int .i64 a1_2, .int .i64 a1_3, .int .i64 a1_4] (fun k_ => k_ ≠ gb190) (fun _ => False) rfl rfl ?aP (fun _ hk => hk.elim) ?aF ?aO ?aB ?aS ?aL ?_; (case aP => exact k71_mkM _ _ _ (⟨a1_0, a1_1, a1_2, a1_3, a1_4⟩ : S71)); (case aB => exact (hs_ HB GE190)); (case aF => exact (fun k_ hk => Kd.freshB (g := gb190) (o := .cells #[.string a1_0, .int .i64 a1_1, .int .i64 a1_2, .int .i64 a1_3, .int .i64 a1_4] 71 (0, 0)) (bk_ BK190) k_ hk)); (case aO => exact (rr_ HO_5)); (case aS => exact (below_size (hs_ HB GE190))); (case aL => have := LMc15.out; omega); intro v201 w18 ho hb hg hat; rw [← Ny200.out] at ho; replace BK190 := bg_ BK190 hg (Kd.R_away HO_5.out (fun _ hk => hk)); replace HB := Aside0.mk (hb); have HO202 := Aside0.mk (ho); clear HO_5; clear ho hb hg hat; have p203 : 0 ≤ (x7_1 : Int) := of_decide_eq_true as_; have q203 : x7_1 < (l0.length : Int) := of_decide_eq_true as_; obtain ⟨ad203, e203, hx203_0, hx203_1, hx203_2, hx203_3, hx203_4⟩ := at_T71 HR0.out x7_1 p203 q203; obtain rfl : ad194 = ad203 := (by injection e203); replace hx203_0 := cb_ HB hx203_0; replace hx203_1 := cb_ HB hx203_1; replace hx203_2 := cb_ HB hx203_2; replace hx203_3 := cb_ HB hx203_3; replace hx203_4 := cb_ HB hx203_4; replace p203 := eq_true p203; replace q203 := eq_true q203) | (at_builtin; (with_reducible refine gate_builtin (b := .append) (xs := #[.tmp 39, .tmp 44]) rfl ?_); refine Kd.R_append k71 (w0 := w) w.heap.size rfl (.tmp 39) (.tmp 44) 28 71 (.agg #[(.string ⟨#[]⟩), (.int .i64 0), (.int .i64 0), (.int .i64 0), (.int .i64 0)]) 48 rfl Try.underlying28 info71 rfl (by decide) (by omega) v201 y200 (⟨(rd_T71 l0 x7_1).f0, (rd_T71 l0 x7_1).f1, (rd_T71 l0 x7_1).f2, (rd_T71 l0 x7_1).f3, (rd_T71 l0 x7_1).f4⟩ : S71) [.string ((rd_T71 l0 x7_1).f0), .int .i64 ((rd_T71 l0 x7_1).f1), .int .i64 ((rd_T71 l0 x7_1).f2), .int .i64 ((rd_T71 l0 x7_1).f3), .int .i64 ((rd_T71 l0 x7_1).f4)] (fun k_ => k_ ≠ gb190) (fun _ => False) rfl rfl ?aP (fun _ hk => hk.elim) ?aF ?aO ?aB ?aS ?aL ?_; (case aP => exact k71_mkM _ _ _ (⟨(rd_T71 l0 x7_1).f0, (rd_T71 l0 x7_1).f1, (rd_T71 l0 x7_1).f2, (rd_T71 l0 x7_1).f3, (rd_T71 l0 x7_1).f4⟩ : S71)); (case aB => exact (hs_ HB GE190)); (case aF => exact (fun k_ hk => Kd.freshB (g := gb190) (o := .cells #[.string a1_0, .int .i64 a1_1, .int .i64 a1_2, .int .i64 a1_3, .int .i64 a1_4] 71 (0, 0)) (bk_ BK190) k_ hk)); (case aO => exact (rr_ HO202)); (case aS => exact (below_size (hs_ HB GE190))); (case aL => have := LMc16.out; omega); intro v205 w19 ho hb hg hat; rw [← Ny204.out] at ho; replace BK190 := bg_ BK190 hg (Kd.R_away HO202.out (fun _ hk => hk)); replace HB := Aside0.mk (hb); have HO206 := Aside0.mk (ho); clear HO202; clear ho hb hg hat))
          repeat (go_quiet (first | (at_builtin; (with_reducible refine gate_builtin (b := .append) (xs := #[.tmp 35, .tmp 37]) rfl ?_); refine Kd.R_append k71 (w0 := w) w.heap.size rfl (.tmp 35) (.tmp 37) 28 71 (.agg #[(.string ⟨#[]⟩), (.int .i64 0), (.int .i64 0), (.int .i64 0), (.int .i64 0)]) 48 rfl Try.underlying28 info71 rfl (by decide) (by omega) u5 x5_1 (⟨a1_0, a1_1, a1_2, a1_3, a1_4⟩ : S71) [.string a1_0, .int .i64 a1_1, .int .i64 a1_2, .int .i64 a1_3, .int .i64 a1_4] (fun k_ => k_ ≠ gb190) (fun _ => False) rfl rfl ?aP (fun _ hk => hk.elim) ?aF ?aO ?aB ?aS ?aL ?_; (case aP => exact k71_mkM _ _ _ (⟨a1_0, a1_1, a1_2, a1_3, a1_4⟩ : S71)); (case aB => exact (hs_ HB GE190)); (case aF => exact (fun k_ hk => Kd.freshB (g := gb190) (o := .cells #[.string a1_0, .int .i64 a1_1, .int .i64 a1_2, .int .i64 a1_3, .int .i64 a1_4] 71 (0, 0)) (bk_ BK190) k_ hk)); (case aO => exact (rr_ HO_5)); (case aS => exact (below_size (hs_ HB GE190))); (case aL => have := LMc15.out; omega); intro v201 w18 ho hb hg hat; rw [← Ny200.out] at ho; replace BK190 := bg_ BK190 hg (Kd.R_away HO_5.out (fun _ hk => hk)); replace HB := Aside0.mk (hb); have HO202 := Aside0.mk (ho); clear HO_5; clear ho hb hg hat; have p203 : 0 ≤ (x7_1 : Int) := of_decide_eq_true as_; have q203 : x7_1 < (l0.length : Int) := of_decide_eq_true as_; obtain ⟨ad203, e203, hx203_0, hx203_1, hx203_2, hx203_3, hx203_4⟩ := at_T71 HR0.out x7_1 p203 q203; obtain rfl : ad194 = ad203 := (by injection e203); replace hx203_0 := cb_ HB hx203_0; replace hx203_1 := cb_ HB hx203_1; replace hx203_2 := cb_ HB hx203_2; replace hx203_3 := cb_ HB hx203_3; replace hx203_4 := cb_ HB hx203_4; replace p203 := eq_true p203; replace q203 := eq_true q203) | (at_builtin; (with_reducible refine gate_builtin (b := .append) (xs := #[.tmp 39, .tmp 44]) rfl ?_); refine Kd.R_append k71 (w0 := w) w.heap.size rfl (.tmp 39) (.tmp 44) 28 71 (.agg #[(.string ⟨#[]⟩), (.int .i64 0), (.int .i64 0), (.int .i64 0), (.int .i64 0)]) 48 rfl Try.underlying28 info71 rfl (by decide) (by omega) v201 y200 (⟨(rd_T71 l0 x7_1).f0, (rd_T71 l0 x7_1).f1, (rd_T71 l0 x7_1).f2, (rd_T71 l0 x7_1).f3, (rd_T71 l0 x7_1).f4⟩ : S71) [.string ((rd_T71 l0 x7_1).f0), .int .i64 ((rd_T71 l0 x7_1).f1), .int .i64 ((rd_T71 l0 x7_1).f2), .int .i64 ((rd_T71 l0 x7_1).f3), .int .i64 ((rd_T71 l0 x7_1).f4)] (fun k_ => k_ ≠ gb190) (fun _ => False) rfl rfl ?aP (fun _ hk => hk.elim) ?aF ?aO ?aB ?aS ?aL ?_; (case aP => exact k71_mkM _ _ _ (⟨(rd_T71 l0 x7_1).f0, (rd_T71 l0 x7_1).f1, (rd_T71 l0 x7_1).f2, (rd_T71 l0 x7_1).f3, (rd_T71 l0 x7_1).f4⟩ : S71)); (case aB => exact (hs_ HB GE190)); (case aF => exact (fun k_ hk => Kd.freshB (g := gb190) (o := .cells #[.string a1_0, .int .i64 a1_1, .int .i64 a1_2, .int .i64 a1_3, .int .i64 a1_4] 71 (0, 0)) (bk_ BK190) k_ hk)); (case aO => exact (rr_ HO202)); (case aS => exact (below_size (hs_ HB GE190))); (case aL => have := LMc16.out; omega); intro v205 w19 ho hb hg hat; rw [← Ny204.out] at ho; replace BK190 := bg_ BK190 hg (Kd.R_away HO202.out (fun _ hk => hk)); replace HB := Aside0.mk (hb); have HO206 := Aside0.mk (ho); clear HO202; clear ho hb hg hat)); try go_wp2_with (first | (at_builtin; (with_reducible refine gate_builtin (b := .append) (xs := #[.tmp 35, .tmp 37]) rfl ?_); refine Kd.R_append k71 (w0 := w) w.heap.size rfl (.tmp 35) (.tmp 37) 28 71 (.agg #[(.string ⟨#[]⟩), (.int .i64 0), (.int .i64 0), (.int .i64 0), (.int .i64 0)]) 48 rfl Try.underlying28 info71 rfl (by decide) (by omega) u5 x5_1 (⟨a1_0, a1_1, a1_2, a1_3, a1_4⟩ : S71) [.string a1_0, .int .i64 a1_1, .int .i64 a1_2, .int .i64 a1_3, .int .i64 a1_4] (fun k_ => k_ ≠ gb190) (fun _ => False) rfl rfl ?aP (fun _ hk => hk.elim) ?aF ?aO ?aB ?aS ?aL ?_; (case aP => exact k71_mkM _ _ _ (⟨a1_0, a1_1, a1_2, a1_3, a1_4⟩ : S71)); (case aB => exact (hs_ HB GE190)); (case aF => exact (fun k_ hk => Kd.freshB (g := gb190) (o := .cells #[.string a1_0, .int .i64 a1_1, .int .i64 a1_2, .int .i64 a1_3, .int .i64 a1_4] 71 (0, 0)) (bk_ BK190) k_ hk)); (case aO => exact (rr_ HO_5)); (case aS => exact (below_size (hs_ HB GE190))); (case aL => have := LMc15.out; omega); intro v201 w18 ho hb hg hat; rw [← Ny200.out] at ho; replace BK190 := bg_ BK190 hg (Kd.R_away HO_5.out (fun _ hk => hk)); replace HB := Aside0.mk (hb); have HO202 := Aside0.mk (ho); clear HO_5; clear ho hb hg hat; have p203 : 0 ≤ (x7_1 : Int) := of_decide_eq_true as_; have q203 : x7_1 < (l0.length : Int) := of_decide_eq_true as_; obtain ⟨ad203, e203, hx203_0, hx203_1, hx203_2, hx203_3, hx203_4⟩ := at_T71 HR0.out x7_1 p203 q203; obtain rfl : ad194 = ad203 := (by injection e203); replace hx203_0 := cb_ HB hx203_0; replace hx203_1 := cb_ HB hx203_1; replace hx203_2 := cb_ HB hx203_2; replace hx203_3 := cb_ HB hx203_3; replace hx203_4 := cb_ HB hx203_4; replace p203 := eq_true p203; replace q203 := eq_true q203) | (at_builtin; (with_reducible refine gate_builtin (b := .append) (xs := #[.tmp 39, .tmp 44]) rfl ?_); refine Kd.R_append k71 (w0 := w) w.heap.size rfl (.tmp 39) (.tmp 44) 28 71 (.agg #[(.string ⟨#[]⟩), (.int .i64 0), (.int .i64 0), (.int .i64 0), (.int .i64 0)]) 48 rfl Try.underlying28 info71 rfl (by decide) (by omega) v201 y200 (⟨(rd_T71 l0 x7_1).f0, (rd_T71 l0 x7_1).f1, (rd_T71 l0 x7_1).f2, (rd_T71 l0 x7_1).f3, (rd_T71 l0 x7_1).f4⟩ : S71) [.string ((rd_T71 l0 x7_1).f0), .int .i64 ((rd_T71 l0 x7_1).f1), .int .i64 ((rd_T71 l0 x7_1).f2), .int .i64 ((rd_T71 l0 x7_1).f3), .int .i64 ((rd_T71 l0 x7_1).f4)] (fun k_ => k_ ≠ gb190) (fun _ => False) rfl rfl ?aP (fun _ hk => hk.elim) ?aF ?aO ?aB ?aS ?aL ?_; (case aP => exact k71_mkM _ _ _ (⟨(rd_T71 l0 x7_1).f0, (rd_T71 l0 x7_1).f1, (rd_T71 l0 x7_1).f2, (rd_T71 l0 x7_1).f3, (rd_T71 l0 x7_1).f4⟩ : S71)); (case aB => exact (hs_ HB GE190)); (case aF => exact (fun k_ hk => Kd.freshB (g := gb190) (o := .cells #[.string a1_0, .int .i64 a1_1, .int .i64 a1_2, .int .i64 a1_3, .int .i64 a1_4] 71 (0, 0)) (bk_ BK190) k_ hk)); (case aO => exact (rr_ HO202)); (case aS => exact (below_size (hs_ HB GE190))); (case aL => have := LMc16.out; omega); intro v205 w19 ho hb hg hat; rw [← Ny204.out] at ho; replace BK190 := bg_ BK190 hg (Kd.R_away HO202.out (fun _ hk => hk)); replace HB := Aside0.mk (hb); have HO206 := Aside0.mk (ho); clear HO202; clear ho hb hg hat)))
          go_roundg k1
          case measure => have := HK1.out; first | exact this | exact Nat.le_of_succ_le this | exact Nat.le_refl _ | omega
          case rel => exact ⟨(y204), (true), (wrap64 (x7_1 + 1)), rs_, rs_, H', ⟨by have := HK1.out; first | exact this | exact Nat.le_of_succ_le this | exact Nat.le_refl _ | omega⟩, ⟨rr_ HO206⟩, ⟨bk_ BK190⟩, ⟨hs_ HB GE190⟩⟩
         ·rw [if_neg c16] at H
          exact absurd H (by simp)
        ·rw [if_neg c15] at H
         exact absurd H (by simp)
       ·rw [if_neg c14] at H
        have c14b0 : (Op.bytesLess a1_0.toList (((rd_T71 l0 x7_1).f0).toList)) = false := by simpa using c14
        clear c14
        by_cases c20 : x5_1.length < 2932031007402
        ·rw [if_pos c20] at H
         have LMc20 := Aside0.mk c20
         clear c20
         obtain ⟨y208, hy208⟩ : ∃ y_ : List (S71), y_ = (x5_1 ++ [(⟨(rd_T71 l0 x7_1).f0, (rd_T71 l0 x7_1).f1, (rd_T71 l0 x7_1).f2, (rd_T71 l0 x7_1).f3, (rd_T71 l0 x7_1).f4⟩ : S71)]) := ⟨_, rfl⟩
         rw [← hy208] at H
         have Ny208 := Aside0.mk hy208
         clear hy208
         have H' := Aside0.mk H
         clear H
         have p194 : 0 ≤ (x7_1 : Int) := of_decide_eq_true as_
         have q194 : x7_1 < (l0.length : Int) := of_decide_eq_true as_
         obtain ⟨ad194, e194, hx194_0, hx194_1, hx194_2, hx194_3, hx194_4⟩ := at_T71 HR0.out x7_1 p194 q194
         cases e194
         (try replace hx194_0 := cb_ HB hx194_0)
         (try replace hx194_1 := cb_ HB hx194_1)
         (try replace hx194_2 := cb_ HB hx194_2)
         (try replace hx194_3 := cb_ HB hx194_3)
         (try replace hx194_4 := cb_ HB hx194_4)
         replace p194 := eq_true p194
         replace q194 := eq_true q194
         obtain ⟨hcz21_0, hcz21_1, hcz21_2, hcz21_3, hcz21_4, hfz21_0, hfz21_1, hfz21_2, hfz21_3, hfz21_4⟩ := bc5_ BK190
         have p195 : 0 ≤ (x7_1 : Int) := of_decide_eq_true as_
         have q195 : x7_1 < (l0.length : Int) := of_decide_eq_true as_
         obtain ⟨ad195, e195, hx195_0, hx195_1, hx195_2, hx195_3, hx195_4⟩ := at_T71 HR0.out x7_1 p195 q195
         obtain rfl : ad194 = ad195 := (by injection e195)
         (try replace hx195_0 := cb_ HB hx195_0)
         (try replace hx195_1 := cb_ HB hx195_1)
         (try replace hx195_2 := cb_ HB hx195_2)
         (try replace hx195_3 := cb_ HB hx195_3)
         (try replace hx195_4 := cb_ HB hx195_4)
         replace p195 := eq_true p195
         replace q195 := eq_true q195
         have p207 : 0 ≤ (x7_1 : Int) := of_decide_eq_true as_
         have q207 : x7_1 < (l0.length : Int) := of_decide_eq_true as_
         obtain ⟨ad207, e207, hx207_0, hx207_1, hx207_2, hx207_3, hx207_4⟩ := at_T71 HR0.out x7_1 p207 q207
         obtain rfl : ad194 = ad207 := (by injection e207)
         (try replace hx207_0 := cb_ HB hx207_0)
         (try replace hx207_1 := cb_ HB hx207_1)
         (try replace hx207_2 := cb_ HB hx207_2)
         (try replace hx207_3 := cb_ HB hx207_3)
         (try replace hx207_4 := cb_ HB hx207_4)
         replace p207 := eq_true p207
         replace q207 := eq_true q207
         go_wp2_with (first | (at_builtin; (with_reducible refine gate_builtin (b := .append) (xs := #[.tmp 39, .tmp 44]) rfl ?_); refine Kd.R_append k71 (w0 := w) w.heap.size rfl (.tmp 39) (.tmp 44) 28 71 (.agg #[(.string ⟨#[]⟩), (.int .i64 0), (.int .i64 0), (.int .i64 0), (.int .i64 0)]) 48 rfl Try.underlying28 info71 rfl (by decide) (by omega) u5 x5_1 (⟨(rd_T71 l0 x7_1).f0, (rd_T71 l0 x7_1).f1, (rd_T71 l0 x7_1).f2, (rd_T71 l0 x7_1).f3, (rd_T71 l0 x7_1).f4⟩ : S71) [.string ((rd_T71 l0 x7_1).f0), .int .i64 ((rd_T71 l0 x7_1).f1), .int .i64 ((rd_T71 l0 x7_1).f2), .int .i64 ((rd_T71 l0 x7_1).f3), .int .i64 ((rd_T71 l0 x7_1).f4)] (fun k_ => k_ ≠ gb190) (fun _ => False) rfl rfl ?aP (fun _ hk => hk.elim) ?aF ?aO ?aB ?aS ?aL ?_; (case aP => exact k71_mkM _ _ _ (⟨(rd_T71 l0 x7_1).f0, (rd_T71 l0 x7_1).f1, (rd_T71 l0 x7_1).f2, (rd_T71 l0 x7_1).f3, (rd_T71 l0 x7_1).f4⟩ : S71)); (case aB => exact (hs_ HB GE190)); (case aF => exact (fun k_ hk => Kd.freshB (g := gb190) (o := .cells #[.string a1_0, .int .i64 a1_1, .int .i64 a1_2, .int .i64 a1_3, .int .i64 a1_4] 71 (0, 0)) (bk_ BK190) k_ hk)); (case aO => exact (rr_ HO_5)); (case aS => exact (below_size (hs_ HB GE190))); (case aL => have := LMc20.out; omega); intro v209 w22 ho hb hg hat; rw [← Ny208.out] at ho; replace BK190 := bg_ BK190 hg (Kd.R_away HO_5.out (fun _ hk => hk)); replace HB := Aside0.mk (hb); have HO210 := Aside0.mk (ho); clear HO_5; clear ho hb hg hat))
         repeat (go_quiet (first | (at_builtin; (with_reducible refine gate_builtin (b := .append) (xs := #[.tmp 39, .tmp 44]) rfl ?_); refine Kd.R_append k71 (w0 := w) w.heap.size rfl (.tmp 39) (.tmp 44) 28 71 (.agg #[(.string ⟨#[]⟩), (.int .i64 0), (.int .i64 0), (.int .i64 0), (.int .i64 0)]) 48 rfl Try.underlying28 info71 rfl (by decide) (by omega) u5 x5_1 (⟨(rd_T71 l0 x7_1).f0, (rd_T71 l0 x7_1).f1, (rd_T71 l0 x7_1).f2, (rd_T71 l0 x7_1).f3, (rd_T71 l0 x7_1).f4⟩ : S71) [.string ((rd_T71 l0 x7_1).f0), .int .i64 ((rd_T71 l0 x7_1).f1), .int .i64 ((rd_T71 l0 x7_1).f2), .int .i64 ((rd_T71 l0 x7_1).f3), .int .i64 ((rd_T71 l0 x7_1).f4)] (fun k_ => k_ ≠ gb190) (fun _ => False) rfl rfl ?aP (fun _ hk => hk.elim) ?aF ?aO ?aB ?aS ?aL ?_; (case aP => exact k71_mkM _ _ _ (⟨(rd_T71 l0 x7_1).f0, (rd_T71 l0 x7_1).f1, (rd_T71 l0 x7_1).f2, (rd_T71 l0 x7_1).f3, (rd_T71 l0 x7_1).f4⟩ : S71)); (case aB => exact (hs_ HB GE190)); (case aF => exact (fun k_ hk => Kd.freshB (g := gb190) (o := .cells #[.string a1_0, .int .i64 a1_1, .int .i64 a1_2, .int .i64 a1_3, .int .i64 a1_4] 71 (0, 0)) (bk_ BK190) k_ hk)); (case aO => exact (rr_ HO_5)); (case aS => exact (below_size (hs_ HB GE190))); (case aL => have := LMc20.out; omega); intro v209 w22 ho hb hg hat; rw [← Ny208.out] at ho; replace BK190 := bg_ BK190 hg (Kd.R_away HO_5.out (fun _ hk => hk)); replace HB := Aside0.mk (hb); have HO210 := Aside0.mk (ho); clear HO_5; clear ho hb hg hat)); try go_wp2_with (first | (at_builtin; (with_reducible refine gate_builtin (b := .append) (xs := #[.tmp 39, .tmp 44]) rfl ?_); refine Kd.R_append k71 (w0 := w) w.heap.size rfl (.tmp 39) (.tmp 44) 28 71 (.agg #[(.string ⟨#[]⟩), (.int .i64 0), (.int .i64 0), (.int .i64 0), (.int .i64 0)]) 48 rfl Try.underlying28 info71 rfl (by decide) (by omega) u5 x5_1 (⟨(rd_T71 l0 x7_1).f0, (rd_T71 l0 x7_1).f1, (rd_T71 l0 x7_1).f2, (rd_T71 l0 x7_1).f3, (rd_T71 l0 x7_1).f4⟩ : S71) [.string ((rd_T71 l0 x7_1).f0), .int .i64 ((rd_T71 l0 x7_1).f1), .int .i64 ((rd_T71 l0 x7_1).f2), .int .i64 ((rd_T71 l0 x7_1).f3), .int .i64 ((rd_T71 l0 x7_1).f4)] (fun k_ => k_ ≠ gb190) (fun _ => False) rfl rfl ?aP (fun _ hk => hk.elim) ?aF ?aO ?aB ?aS ?aL ?_; (case aP => exact k71_mkM _ _ _ (⟨(rd_T71 l0 x7_1).f0, (rd_T71 l0 x7_1).f1, (rd_T71 l0 x7_1).f2, (rd_T71 l0 x7_1).f3, (rd_T71 l0 x7_1).f4⟩ : S71)); (case aB => exact (hs_ HB GE190)); (case aF => exact (fun k_ hk => Kd.freshB (g := gb190) (o := .cells #[.string a1_0, .int .i64 a1_1, .int .i64 a1_2, .int .i64 a1_3, .int .i64 a1_4] 71 (0, 0)) (bk_ BK190) k_ hk)); (case aO => exact (rr_ HO_5)); (case aS => exact (below_size (hs_ HB GE190))); (case aL => have := LMc20.out; omega); intro v209 w22 ho hb hg hat; rw [← Ny208.out] at ho; replace BK190 := bg_ BK190 hg (Kd.R_away HO_5.out (fun _ hk => hk)); replace HB := Aside0.mk (hb); have HO210 := Aside0.mk (ho); clear HO_5; clear ho hb hg hat)))
         go_roundg k1
         case measure => have := HK1.out; first | exact this | exact Nat.le_of_succ_le this | exact Nat.le_refl _ | omega
         case rel => exact ⟨(y208), (false), (wrap64 (x7_1 + 1)), rs_, rs_, H', ⟨by have := HK1.out; first | exact this | exact Nat.le_of_succ_le this | exact Nat.le_refl _ | omega⟩, ⟨rr_ HO210⟩, ⟨bk_ BK190⟩, ⟨hs_ HB GE190⟩⟩
        ·rw [if_neg c20] at H
         exact absurd H (by simp)
    ·rw [if_neg c7] at H
     exact absurd H (by simp)
   ·rw [if_neg c6] at H
    have c6b0 : decide (x7_1 < (l0.length : Int)) = false := decide_eq_false c6
    clear c6
    by_cases c23 : x6_1 = true
    ·subst c23
     rw [if_pos rfl] at H
     obtain rfl := Option.some.inj H
     go_wp2
     repeat (go_quiet (fail); try go_wp2)
     go_ret
     exact ⟨_, by first | rfl | (simp [errW_none, errW_some] <;> rfl) | (simp [*, errW_none, errW_some] <;> rfl), by (with_reducible repeat (first | apply Kd.R_alloc | apply Kd.R_drewN | apply Kd.R_drew)); exact Kd.R_mono HO_5.out (fun _ hk => trivial), hs_ HB GE190⟩
    ·replace c23 := Bool.eq_false_iff.mpr c23
     subst c23
     rw [if_neg ff_] at H
     by_cases c24 : x5_1.length < 2932031007402
     ·rw [if_pos c24] at H
      have LMc24 := Aside0.mk c24
      clear c24
      obtain ⟨y211, hy211⟩ : ∃ y_ : List (S71), y_ = (x5_1 ++ [(⟨a1_0, a1_1, a1_2, a1_3, a1_4⟩ : S71)]) := ⟨_, rfl⟩
      rw [← hy211] at H
      have Ny211 := Aside0.mk hy211
      clear hy211
      obtain rfl := Option.some.inj H
      obtain ⟨hcz25_0, hcz25_1, hcz25_2, hcz25_3, hcz25_4, hfz25_0, hfz25_1, hfz25_2, hfz25_3, hfz25_4⟩ := bc5_ BK190
      go_wp2_with (first | (at_builtin; (with_reducible refine gate_builtin (b := .append) (xs := #[.tmp 48, .tmp 50]) rfl ?_); refine Kd.R_append k71 (w0 := w) w.heap.size rfl (.tmp 48) (.tmp 50) 28 71 (.agg #[(.string ⟨#[]⟩), (.int .i64 0), (.int .i64 0), (.int .i64 0), (.int .i64 0)]) 48 rfl Try.underlying28 info71 rfl (by decide) (by omega) u5 x5_1 (⟨a1_0, a1_1, a1_2, a1_3, a1_4⟩ : S71) [.string a1_0, .int .i64 a1_1, .int .i64 a1_2, .int .i64 a1_3, .int .i64 a1_4] (fun k_ => k_ ≠ gb190) (fun _ => False) rfl rfl ?aP (fun _ hk => hk.elim) ?aF ?aO ?aB ?aS ?aL ?_; (case aP => exact k71_mkM _ _ _ (⟨a1_0, a1_1, a1_2, a1_3, a1_4⟩ : S71)); (case aB => exact (hs_ HB GE190)); (case aF => exact (fun k_ hk => Kd.freshB (g := gb190) (o := .cells #[.string a1_0, .int .i64 a1_1, .int .i64 a1_2, .int .i64 a1_3, .int .i64 a1_4] 71 (0, 0)) (bk_ BK190) k_ hk)); (case aO => exact (rr_ HO_5)); (case aS => exact (below_size (hs_ HB GE190))); (case aL => have := LMc24.out; omega); intro v212 w26 ho hb hg hat; rw [← Ny211.out] at ho; replace BK190 := bg_ BK190 hg (Kd.R_away HO_5.out (fun _ hk => hk)); replace HB := Aside0.mk (hb); have HO213 := Aside0.mk (ho); clear HO_5; clear ho hb hg hat))
      repeat (go_quiet (first | (at_builtin; (with_reducible refine gate_builtin (b := .append) (xs := #[.tmp 48, .tmp 50]) rfl ?_); refine Kd.R_append k71 (w0 := w) w.heap.size rfl (.tmp 48) (.tmp 50) 28 71 (.agg #[(.string ⟨#[]⟩), (.int .i64 0), (.int .i64 0), (.int .i64 0), (.int .i64 0)]) 48 rfl Try.underlying28 info71 rfl (by decide) (by omega) u5 x5_1 (⟨a1_0, a1_1, a1_2, a1_3, a1_4⟩ : S71) [.string a1_0, .int .i64 a1_1, .int .i64 a1_2, .int .i64 a1_3, .int .i64 a1_4] (fun k_ => k_ ≠ gb190) (fun _ => False) rfl rfl ?aP (fun _ hk => hk.elim) ?aF ?aO ?aB ?aS ?aL ?_; (case aP => exact k71_mkM _ _ _ (⟨a1_0, a1_1, a1_2, a1_3, a1_4⟩ : S71)); (case aB => exact (hs_ HB GE190)); (case aF => exact (fun k_ hk => Kd.freshB (g := gb190) (o := .cells #[.string a1_0, .int .i64 a1_1, .int .i64 a1_2, .int .i64 a1_3, .int .i64 a1_4] 71 (0, 0)) (bk_ BK190) k_ hk)); (case aO => exact (rr_ HO_5)); (case aS => exact (below_size (hs_ HB GE190))); (case aL => have := LMc24.out; omega); intro v212 w26 ho hb hg hat; rw [← Ny211.out] at ho; replace BK190 := bg_ BK190 hg (Kd.R_away HO_5.out (fun _ hk => hk)); replace HB := Aside0.mk (hb); have HO213 := Aside0.mk (ho); clear HO_5; clear ho hb hg hat)); try go_wp2_with (first | (at_builtin; (with_reducible refine gate_builtin (b := .append) (xs := #[.tmp 48, .tmp 50]) rfl ?_); refine Kd.R_append k71 (w0 := w) w.heap.size rfl (.tmp 48) (.tmp 50) 28 71 (.agg #[(.string ⟨#[]⟩), (.int .i64 0), (.int .i64 0), (.int .i64 0), (.int .i64 0)]) 48 rfl Try.underlying28 info71 rfl (by decide) (by omega) u5 x5_1 (⟨a1_0, a1_1, a1_2, a1_3, a1_4⟩ : S71) [.string a1_0, .int .i64 a1_1, .int .i64 a1_2, .int .i64 a1_3, .int .i64 a1_4] (fun k_ => k_ ≠ gb190) (fun _ => False) rfl rfl ?aP (fun _ hk => hk.elim) ?aF ?aO ?aB ?aS ?aL ?_; (case aP => exact k71_mkM _ _ _ (⟨a1_0, a1_1, a1_2, a1_3, a1_4⟩ : S71)); (case aB => exact (hs_ HB GE190)); (case aF => exact (fun k_ hk => Kd.freshB (g := gb190) (o := .cells #[.string a1_0, .int .i64 a1_1, .int .i64 a1_2, .int .i64 a1_3, .int .i64 a1_4] 71 (0, 0)) (bk_ BK190) k_ hk)); (case aO => exact (rr_ HO_5)); (case aS => exact (below_size (hs_ HB GE190))); (case aL => have := LMc24.out; omega); intro v212 w26 ho hb hg hat; rw [← Ny211.out] at ho; replace BK190 := bg_ BK190 hg (Kd.R_away HO_5.out (fun _ hk => hk)); replace HB := Aside0.mk (hb); have HO213 := Aside0.mk (ho); clear HO_5; clear ho hb hg hat)))
      go_ret
      exact ⟨_, by first | rfl | (simp [errW_none, errW_some] <;> rfl) | (simp [*, errW_none, errW_some] <;> rfl), by (with_reducible repeat (first | apply Kd.R_alloc | apply Kd.R_drewN | apply Kd.R_drew)); exact Kd.R_mono HO213.out (fun _ hk => trivial), hs_ HB GE190⟩
     ·rw [if_neg c24] at H
      exact absurd H (by simp)

/-! ### spec_l9Put: function 20 -/
def spec_l9Put.f (k : Nat) (l0 : List (S71)) (a1_0 : Int) (a1_1 : Int) (a1_2 : Int) (a1_3 : Int) (a1_4 : Int) (a1_5 : ByteArray) (a1_6 : ByteArray) (a1_7 : Int) (a1_8 : Int) : Option ((List (S71))) := if a1_3 = 2 then ((spec_DirDrop.f k l0 a1_5).bind fun t215 => (some t215)) else ((spec_DirPut.f k l0 a1_5 a1_0 a1_1 a1_2 a1_4).bind fun t218 => (some t218))
set_option maxHeartbeats 80000000 in
set_option maxRecDepth 100000 in
theorem spec_l9Put.calls (k : Nat) (A0 : Option Addr) (c0 : Nat) (l0 : List (S71)) (a1_0 : Int) (a1_1 : Int) (a1_2 : Int) (a1_3 : Int) (a1_4 : Int) (a1_5 : ByteArray) (a1_6 : ByteArray) (a1_7 : Int) (a1_8 : Int) (r : List (S71)) (w : World) (hr0 : Kd.C k71 w A0 l0.length l0) (hc0 : l0.length ≤ c0) (h : spec_l9Put.f k l0 a1_0 a1_1 a1_2 a1_3 a1_4 a1_5 a1_6 a1_7 a1_8 = some r) :
  Calls Try.prog 20 #[.slice A0 l0.length c0, .agg #[.int .i64 a1_0, .int .i64 a1_1, .int .i64 a1_2, .int .i64 a1_3, .int .i64 a1_4, .string a1_5, .string a1_6, .int .i64 a1_7, .int .i64 a1_8]] w fun e w' => ∃ v0_ : Value, e = .returned (v0_) ∧ Kd.R k71 71 w' w.heap.size (fun _ => True) v0_ r ∧ Below w.heap.size w w' := by
 have hu48 := Try.underlying48
 have hu71 := Try.underlying71
 have HR0 := Aside0.mk hr0
 have HC0 := Aside0.mk hc0
 clear hr0 hc0
 have HB := Aside0.mk (Below.refl w.heap.size w)
 unfold spec_l9Put.f at h; have H := h
 clear h
 by_cases c3 : a1_3 = 2
 ·rw [if_pos c3] at H
  have c3b0 : (a1_3 == 2) = true := beq_iff_eq.mpr c3
  have c3b1 : (a1_3 != 2) = false := bne_eq_false_iff_eq.mpr c3
  clear c3
  replace H := Option.bind_eq_some_iff.mp H
  obtain ⟨t215, A40, H⟩ := H
  have A4 := Aside0.mk A40
  clear A40
  obtain rfl := Option.some.inj H
  go_enter Try.func20, Try.ntmps20
  go_wp2_with (first | ((with_reducible refine gate_dst (N := 3) rfl ?_); refine box_event ?hg (N := 3) ?hd (cs := #[.int .i64 a1_0, .int .i64 a1_1, .int .i64 a1_2, .int .i64 a1_3, .int .i64 a1_4, .string a1_5, .string a1_6, .int .i64 a1_7, .int .i64 a1_8]) (t := 48) ?hr ?_; (case hd => rfl); (case hg => rfl); (case hr => first | (go_simp; done) | (go_simp; rfl)); intro gb214 hg w5 hbox hb; have BK214 := Aside0.mk (hbox); have GE214 := ge_ hg (hb_ HB); replace HB := bs_ HB hb; clear hb hbox hg; obtain ⟨hcz6_0, hcz6_1, hcz6_2, hcz6_3, hcz6_4, hcz6_5, hcz6_6, hcz6_7, hcz6_8, hfz6_0, hfz6_1, hfz6_2, hfz6_3, hfz6_4, hfz6_5, hfz6_6, hfz6_7, hfz6_8⟩ := bc9_ BK214) | ((with_reducible refine gate_callee (f := 36) rfl ?_); refine goesL_ (some 13) rfl rfl Try.func36 (by kernel_rfl) rfl #[.slice A0 l0.length c0, .string a1_5] rfl ar_ ?_; (with_reducible refine (spec_DirDrop.calls k _ _ l0 a1_5 t215 _ ?side1 ?side2 A4.out).mono ?_); (case side1 => repeat (first | exact (Kd.C_below HR0.out HB.out) | (with_reducible refine Kd.C_alloc ?_ _) | (with_reducible refine Kd.C_drewN ?_ _) | (with_reducible refine Kd.C_drew ?_))); (case side2 => exact HC0.out); rintro e w7 ⟨v216, rfl, ho0, hb⟩; refine ⟨_, rfl, ?_⟩; have HO217 := Aside0.mk (Kd.R_lower ho0 (below_size (hs_ HB GE214))); replace BK214 := bb_ BK214 hb; replace HB := bt_ HB GE214 hb; (try clear hb); (try clear hb2); (try clear hk); (try clear hi); (try clear ho0)))
  go_ret
  exact ⟨_, by first | rfl | (simp [errW_none, errW_some] <;> rfl) | (simp [*, errW_none, errW_some] <;> rfl), rr_ HO217, hs_ HB GE214⟩
 ·rw [if_neg c3] at H
  have c3b0 : (a1_3 == 2) = false := beq_eq_false_iff_ne.mpr c3
  have c3b1 : (a1_3 != 2) = true := bne_iff_ne.mpr c3
  replace H := Option.bind_eq_some_iff.mp H
  obtain ⟨t218, A80, H⟩ := H
  have A8 := Aside0.mk A80
  clear A80
  obtain rfl := Option.some.inj H
  go_enter Try.func20, Try.ntmps20
  go_wp2_with (first | ((with_reducible refine gate_dst (N := 3) rfl ?_); refine box_event ?hg (N := 3) ?hd (cs := #[.int .i64 a1_0, .int .i64 a1_1, .int .i64 a1_2, .int .i64 a1_3, .int .i64 a1_4, .string a1_5, .string a1_6, .int .i64 a1_7, .int .i64 a1_8]) (t := 48) ?hr ?_; (case hd => rfl); (case hg => rfl); (case hr => first | (go_simp; done) | (go_simp; rfl)); intro gb214 hg w9 hbox hb; have BK214 := Aside0.mk (hbox); have GE214 := ge_ hg (hb_ HB); replace HB := bs_ HB hb; clear hb hbox hg; obtain ⟨hcz10_0, hcz10_1, hcz10_2, hcz10_3, hcz10_4, hcz10_5, hcz10_6, hcz10_7, hcz10_8, hfz10_0, hfz10_1, hfz10_2, hfz10_3, hfz10_4, hfz10_5, hfz10_6, hfz10_7, hfz10_8⟩ := bc9_ BK214) | ((with_reducible refine gate_callee (f := 37) rfl ?_); refine goesL_ (some 28) rfl rfl Try.func37 (by kernel_rfl) rfl #[.slice A0 l0.length c0, .agg #[.string a1_5, .int .i64 a1_0, .int .i64 a1_1, .int .i64 a1_2, .int .i64 a1_4]] rfl ar_ ?_; (with_reducible refine (spec_DirPut.calls k _ _ l0 a1_5 a1_0 a1_1 a1_2 a1_4 t218 _ ?side1 ?side2 A8.out).mono ?_); (case side1 => repeat (first | exact (Kd.C_below HR0.out HB.out) | (with_reducible refine Kd.C_alloc ?_ _) | (with_reducible refine Kd.C_drewN ?_ _) | (with_reducible refine Kd.C_drew ?_))); (case side2 => exact HC0.out); rintro e w11 ⟨v219, rfl, ho0, hb⟩; refine ⟨_, rfl, ?_⟩; have HO220 := Aside0.mk (Kd.R_lower ho0 (below_size (hs_ HB GE214))); replace BK214 := bb_ BK214 hb; replace HB := bt_ HB GE214 hb; (try clear hb); (try clear hb2); (try clear hk); (try clear hi); (try clear ho0)))
  go_ret
  exact ⟨_, by first | rfl | (simp [errW_none, errW_some] <;> rfl) | (simp [*, errW_none, errW_some] <;> rfl), rr_ HO220, hs_ HB GE214⟩

end Go.Proofs.Ytcnmdjibogojnaa.PFnExactRegroup
