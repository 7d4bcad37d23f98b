-- Laid by a program of this session, a copy of the kit's printer with additions (wip/patch_print.py): myhead. Lean checks it.
import Derived.Test.YtcnmdjibogojnaaPFnExactRegroupx0
namespace Go.Proofs.Ytcnmdjibogojnaa.PFnExactRegroup
open Go.RowKit Go.Proofs.YtcnmdjibogojnaaW.PrintWords Go.Proofs.YtcnmdjibogojnaaW.PrintLast Go.Proofs.YtcnmdjibogojnaaW.PrintMore
attribute [local go_sem] max2_int min2_int max_two min_two max_three min_three max_four min_four   -- for this text's walks alone
set_option linter.unusedVariables false
set_option linter.unusedSimpArgs false

/-! ### impl_ownOf: function 24 -/
mutual
def impl_ownOf.l0 : Nat → List (S48) → List (S48) → Int → Int → Int → Int → ByteArray → ByteArray → Int → Int → Option ((List (S48)))
 | 0, _, _, _, _, _, _, _, _, _, _ => none
 | k + 1, x5, x9, x10, x11, x299000, x299001, x299002, x299003, x299004, x299005 => if x11 < x10 then (if 0 ≤ x11 then (if x11 < (x9.length : Int) then (if x299000 = 3 then (impl_ownOf.j1 k x5 x9 x10 x11 (((rd_T48 x9 x11).f3.f1) != x299001) x299000 x299001 x299002 x299003 x299004 x299005 ((rd_T48 x9 x11).f0) ((rd_T48 x9 x11).f1) ((rd_T48 x9 x11).f2) ((rd_T48 x9 x11).f3.f0) ((rd_T48 x9 x11).f3.f1) ((rd_T48 x9 x11).f3.f2) ((rd_T48 x9 x11).f3.f3) ((rd_T48 x9 x11).f3.f4) ((rd_T48 x9 x11).f3.f5) ((rd_T48 x9 x11).f3.f0) ((rd_T48 x9 x11).f3.f1) ((rd_T48 x9 x11).f3.f2) ((rd_T48 x9 x11).f3.f3) ((rd_T48 x9 x11).f3.f4) ((rd_T48 x9 x11).f3.f5)) else (impl_ownOf.j1 k x5 x9 x10 x11 false x299000 x299001 x299002 x299003 x299004 x299005 ((rd_T48 x9 x11).f0) ((rd_T48 x9 x11).f1) ((rd_T48 x9 x11).f2) ((rd_T48 x9 x11).f3.f0) ((rd_T48 x9 x11).f3.f1) ((rd_T48 x9 x11).f3.f2) ((rd_T48 x9 x11).f3.f3) ((rd_T48 x9 x11).f3.f4) ((rd_T48 x9 x11).f3.f5) ((rd_T48 x9 x11).f3.f0) ((rd_T48 x9 x11).f3.f1) ((rd_T48 x9 x11).f3.f2) ((rd_T48 x9 x11).f3.f3) ((rd_T48 x9 x11).f3.f4) ((rd_T48 x9 x11).f3.f5))) else (none)) else (none)) else (some x5)
def impl_ownOf.j1 : Nat → List (S48) → List (S48) → Int → Int → Bool → Int → Int → ByteArray → ByteArray → Int → Int → Int → Int → Int → Int → Int → ByteArray → ByteArray → Int → Int → Int → Int → ByteArray → ByteArray → Int → Int → Option ((List (S48)))
 | 0, _, _, _, _, _, _, _, _, _, _, _, _, _, _, _, _, _, _, _, _, _, _, _, _, _, _ => none
 | k + 1, x5, x9, x10, x11, x17, x299000, x299001, x299002, x299003, x299004, x299005, x301000, x301001, x301002, x301003, x301004, x301005, x301006, x301007, x301008, x302000, x302001, x302002, x302003, x302004, x302005 => if x17 = true then (impl_ownOf.l0 k x5 x9 x10 (wrap64 (x11 + 1)) x299000 x299001 x299002 x299003 x299004 x299005) else (if x302000 = x299000 then (impl_ownOf.l0 k ([] : List (S48)) x9 x10 (wrap64 (x11 + 1)) x299000 x299001 x299002 x299003 x299004 x299005) else (if x299000 = 3 then (if x302000 = 1 then (impl_ownOf.j2 k x5 x9 x10 x11 true x299000 x299001 x299002 x299003 x299004 x299005 x301000 x301001 x301002 x301003 x301004 x301005 x301006 x301007 x301008 x302000 x302001 x302002 x302003 x302004 x302005) else (impl_ownOf.j2 k x5 x9 x10 x11 (x302000 == 2) x299000 x299001 x299002 x299003 x299004 x299005 x301000 x301001 x301002 x301003 x301004 x301005 x301006 x301007 x301008 x302000 x302001 x302002 x302003 x302004 x302005)) else (impl_ownOf.j2 k x5 x9 x10 x11 false x299000 x299001 x299002 x299003 x299004 x299005 x301000 x301001 x301002 x301003 x301004 x301005 x301006 x301007 x301008 x302000 x302001 x302002 x302003 x302004 x302005)))
def impl_ownOf.j2 : Nat → List (S48) → List (S48) → Int → Int → Bool → Int → Int → ByteArray → ByteArray → Int → Int → Int → Int → Int → Int → Int → ByteArray → ByteArray → Int → Int → Int → Int → ByteArray → ByteArray → Int → Int → Option ((List (S48)))
 | 0, _, _, _, _, _, _, _, _, _, _, _, _, _, _, _, _, _, _, _, _, _, _, _, _, _, _ => none
 | k + 1, x5, x9, x10, x11, x34, x299000, x299001, x299002, x299003, x299004, x299005, x301000, x301001, x301002, x301003, x301004, x301005, x301006, x301007, x301008, x302000, x302001, x302002, x302003, x302004, x302005 => if x34 = true then (impl_ownOf.j3 k x5 x9 x10 x11 x34 x299000 x299001 x299002 x299003 x299004 x299005 x301000 x301001 x301002 x301003 x301004 x301005 x301006 x301007 x301008) else (if x299000 = 5 then (impl_ownOf.j3 k x5 x9 x10 x11 (x302000 == 4) x299000 x299001 x299002 x299003 x299004 x299005 x301000 x301001 x301002 x301003 x301004 x301005 x301006 x301007 x301008) else (impl_ownOf.j3 k x5 x9 x10 x11 false x299000 x299001 x299002 x299003 x299004 x299005 x301000 x301001 x301002 x301003 x301004 x301005 x301006 x301007 x301008))
def impl_ownOf.j3 : Nat → List (S48) → List (S48) → Int → Int → Bool → Int → Int → ByteArray → ByteArray → Int → Int → Int → Int → Int → Int → Int → ByteArray → ByteArray → Int → Int → Option ((List (S48)))
 | 0, _, _, _, _, _, _, _, _, _, _, _, _, _, _, _, _, _, _, _, _ => none
 | k + 1, x5, x9, x10, x11, x34, x299000, x299001, x299002, x299003, x299004, x299005, x301000, x301001, x301002, x301003, x301004, x301005, x301006, x301007, x301008 => if x34 = true then (if x5.length < 1599289640401 then (impl_ownOf.l0 k (x5 ++ [(⟨x301000, x301001, x301002, (⟨x301003, x301004, x301005, x301006, x301007, x301008⟩ : S46)⟩ : S48)]) x9 x10 (wrap64 (x11 + 1)) x299000 x299001 x299002 x299003 x299004 x299005) else (none)) else (impl_ownOf.l0 k x5 x9 x10 (wrap64 (x11 + 1)) x299000 x299001 x299002 x299003 x299004 x299005)
end
def impl_ownOf.f (k : Nat) (l0 : List (S48)) (a1_0 : Int) (a1_1 : Int) (a1_2 : ByteArray) (a1_3 : ByteArray) (a1_4 : Int) (a1_5 : Int) : Option ((List (S48))) := impl_ownOf.l0 k ([] : List (S48)) l0 (l0.length : Int) 0 a1_0 a1_1 a1_2 a1_3 a1_4 a1_5
set_option maxHeartbeats 80000000 in
set_option maxRecDepth 100000 in
theorem impl_ownOf.calls (k : Nat) (A0 : Option Addr) (c0 : Nat) (l0 : List (S48)) (a1_0 : Int) (a1_1 : Int) (a1_2 : ByteArray) (a1_3 : ByteArray) (a1_4 : Int) (a1_5 : Int) (r : List (S48)) (w : World) (hr0 : Kd.C k48 w A0 l0.length l0) (hc0 : l0.length ≤ c0) (h : impl_ownOf.f k l0 a1_0 a1_1 a1_2 a1_3 a1_4 a1_5 = some r) :
  Calls Try.prog 24 #[.slice A0 l0.length c0, .agg #[.int .i64 a1_0, .int .i64 a1_1, .string a1_2, .string a1_3, .int .i64 a1_4, .int .i64 a1_5]] w fun e w' => ∃ v0_ : Value, e = .returned (v0_) ∧ Kd.R k48 48 w' w.heap.size (fun _ => True) v0_ r ∧ Below w.heap.size w w' := by
 have hu46 := Try.underlying46
 have hu48 := Try.underlying48
 have HR0 := Aside0.mk hr0
 have HC0 := Aside0.mk hc0
 clear hr0 hc0
 have HB := Aside0.mk (Below.refl w.heap.size w)
 unfold impl_ownOf.f at h; have H := h
 clear h
 have H' := Aside0.mk H
 clear H
 go_enter Try.func24, Try.ntmps24
 go_wp2_with (first | ((with_reducible refine gate_dst (N := 3) rfl ?_); refine box_event ?hg (N := 3) ?hd (cs := #[.int .i64 a1_0, .int .i64 a1_1, .string a1_2, .string a1_3, .int .i64 a1_4, .int .i64 a1_5]) (t := 46) ?hr ?_; (case hd => rfl); (case hg => rfl); (case hr => first | (go_simp; done) | (go_simp; rfl)); intro gb298 hg w3 hbox hb; have BK298 := Aside0.mk (hbox); have GE298 := ge_ hg (hb_ HB); replace HB := bs_ HB hb; clear hb hbox hg))
 go_loopg [5, 11] k (fun kq v5 v11 w' => ∃ (x5_1 : List (S48)) (x11_1 : Int), v11 = .int .i64 x11_1 ∧ Aside0 (impl_ownOf.l0 kq x5_1 l0 (l0.length : Int) x11_1 a1_0 a1_1 a1_2 a1_3 a1_4 a1_5 = some r) ∧ Aside0 (kq ≤ k) ∧ Aside0 (Kd.R k48 48 w' w.heap.size (fun _ => True) v5 x5_1) ∧ Aside0 (w'.heap[gb298]? = some (.cells #[.int .i64 a1_0, .int .i64 a1_1, .string a1_2, .string a1_3, .int .i64 a1_4, .int .i64 a1_5] 46 (0, 0))) ∧ Aside0 (Below w.heap.size w w'))
 case atStart => exact ⟨(([] : List (S48))), (0), rs_, H', ⟨Nat.le_refl _⟩, ⟨by first | exact Kd.R_nil _ _ _ _ _ | exact Kd.N_nil _ _ _ _ _ | exact Kd.V_nil _ _ _ _ _ | exact Kd.Q_nil _ _ _ _ _ | exact Kd.S_nil _ _ _ _ _⟩, ⟨bk_ BK298⟩, ⟨hs_ HB GE298⟩⟩
 case round =>
  clear H'
  obtain ⟨x5_1, x11_1, rfl, HA, HK1, HO_5, BK298, HB⟩ := hrel
  cases gk with
  | zero => exact absurd HA.out (by simp [impl_ownOf.l0])
  | succ k1 =>
   have H := HA.out
   clear HA
   simp only [impl_ownOf.l0] at H
   by_cases c4 : x11_1 < (l0.length : Int)
   ·rw [if_pos c4] at H
    have c4b0 : decide (x11_1 < (l0.length : Int)) = true := decide_eq_true c4
    clear c4
    by_cases c5 : 0 ≤ x11_1
    ·rw [if_pos c5] at H
     have c5b0 : decide (0 ≤ x11_1) = true := decide_eq_true c5
     clear c5
     by_cases c6 : x11_1 < (l0.length : Int)
     ·rw [if_pos c6] at H
      have c6b0 : decide (x11_1 < (l0.length : Int)) = true := decide_eq_true c6
      clear c6
      have HC7 := Aside0.mk H
      clear H
      have p299 : 0 ≤ (x11_1 : Int) := of_decide_eq_true as_
      have q299 : x11_1 < (l0.length : Int) := of_decide_eq_true as_
      obtain ⟨ad299, e299, hx299_0, hx299_1, hx299_2, hx299_3, hx299_4, hx299_5, hx299_6, hx299_7, hx299_8⟩ := at_T48 HR0.out x11_1 p299 q299
      cases e299
      (try replace hx299_0 := cb_ HB hx299_0)
      (try replace hx299_1 := cb_ HB hx299_1)
      (try replace hx299_2 := cb_ HB hx299_2)
      (try replace hx299_3 := cb_ HB hx299_3)
      (try replace hx299_4 := cb_ HB hx299_4)
      (try replace hx299_5 := cb_ HB hx299_5)
      (try replace hx299_6 := cb_ HB hx299_6)
      (try replace hx299_7 := cb_ HB hx299_7)
      (try replace hx299_8 := cb_ HB hx299_8)
      replace p299 := eq_true p299
      replace q299 := eq_true q299
      go_upto_region 6 with (first | ((with_reducible refine gate_dst (N := 7) rfl ?_); refine box_event ?hg (N := 7) ?hd (cs := #[.int .i64 0, .int .i64 0, .int .i64 0, .int .i64 0, .int .i64 0, .string (⟨#[]⟩ : ByteArray), .string (⟨#[]⟩ : ByteArray), .int .i64 0, .int .i64 0]) (t := 48) ?hr ?_; (case hd => rfl); (case hg => rfl); (case hr => first | (go_simp; done) | (go_simp; rfl)); intro gb300 hg w8 hbox hb; replace HO_5 := Aside0.mk (Kd.R_below (Kd.R_elderB (rr_ HO_5) gb300 (Nat.le_of_eq hg.symm)) hb); have BK300 := Aside0.mk (hbox); have GE300 := ge_ hg (hs_ HB GE298); replace HB := bt_ HB GE298 hb; have NB298_300 := nl_ BK298 hg; have NB300_298 := ng_ BK298 hg; replace BK298 := bb_ BK298 hb; (try replace hx299_0 := cx_ hb hx299_0); (try replace hx299_1 := cx_ hb hx299_1); (try replace hx299_2 := cx_ hb hx299_2); (try replace hx299_3 := cx_ hb hx299_3); (try replace hx299_4 := cx_ hb hx299_4); (try replace hx299_5 := cx_ hb hx299_5); (try replace hx299_6 := cx_ hb hx299_6); (try replace hx299_7 := cx_ hb hx299_7); (try replace hx299_8 := cx_ hb hx299_8); clear hb hbox hg; have hnb9 := NB300_298.out; have hnc9 := NB298_300.out; obtain ⟨hcz10_0, hcz10_1, hcz10_2, hcz10_3, hcz10_4, hcz10_5, hcz10_6, hcz10_7, hcz10_8, hfz10_0, hfz10_1, hfz10_2, hfz10_3, hfz10_4, hfz10_5, hfz10_6, hfz10_7, hfz10_8⟩ := bc9_ BK300) | ((with_reducible refine gate_dst (N := 8) rfl ?_); refine box_event ?hg (N := 8) ?hd (cs := #[.int .i64 0, .int .i64 0, .string (⟨#[]⟩ : ByteArray), .string (⟨#[]⟩ : ByteArray), .int .i64 0, .int .i64 0]) (t := 46) ?hr ?_; (case hd => rfl); (case hg => rfl); (case hr => first | (go_simp; done) | (go_simp; rfl)); intro gb301 hg w11 hbox hb; replace HO_5 := Aside0.mk (Kd.R_below (by (with_reducible repeat (first | apply Kd.R_alloc | apply Kd.R_drewN | apply Kd.R_drew)); exact (Kd.R_mono (Kd.R_far (p := ⟨gb300, 8, none⟩) (Kd.R_far (p := ⟨gb300, 7, none⟩) (Kd.R_far (p := ⟨gb300, 6, none⟩) (Kd.R_far (p := ⟨gb300, 5, none⟩) (Kd.R_far (p := ⟨gb300, 4, none⟩) (Kd.R_far (p := ⟨gb300, 3, none⟩) (Kd.R_far (p := ⟨gb300, 2, none⟩) (Kd.R_far (p := ⟨gb300, 1, none⟩) (Kd.R_far (p := ⟨gb300, 0, none⟩) (Kd.R_mono HO_5.out (fun k_ hk => (⟨hk, hk.2⟩ : _ ∧ k_ ≠ gb300))) (fun _ hk => hk.2) (.int .i64 ((rd_T48 l0 x11_1).f0))) (fun _ hk => hk.2) (.int .i64 ((rd_T48 l0 x11_1).f1))) (fun _ hk => hk.2) (.int .i64 ((rd_T48 l0 x11_1).f2))) (fun _ hk => hk.2) (.int .i64 ((rd_T48 l0 x11_1).f3.f0))) (fun _ hk => hk.2) (.int .i64 ((rd_T48 l0 x11_1).f3.f1))) (fun _ hk => hk.2) (.string ((rd_T48 l0 x11_1).f3.f2))) (fun _ hk => hk.2) (.string ((rd_T48 l0 x11_1).f3.f3))) (fun _ hk => hk.2) (.int .i64 ((rd_T48 l0 x11_1).f3.f4))) (fun _ hk => hk.2) (.int .i64 ((rd_T48 l0 x11_1).f3.f5))) (fun _ h_ => h_.1))) hb); have BK301 := Aside0.mk (hbox); have GE301 := ge_ hg (hu_ HB GE298 GE300); replace HB := bu_ HB GE298 GE300 hb; have NB298_301 := nx_ BK298 hg; have NB301_298 := ny_ BK298 hg; replace BK298 := bf_ BK298 NB298_300 hb; have NB300_301 := nx_ BK300 hg; have NB301_300 := ny_ BK300 hg; replace BK300 := bp_ #[.int .i64 ((rd_T48 l0 x11_1).f0), .int .i64 ((rd_T48 l0 x11_1).f1), .int .i64 ((rd_T48 l0 x11_1).f2), .int .i64 ((rd_T48 l0 x11_1).f3.f0), .int .i64 ((rd_T48 l0 x11_1).f3.f1), .string ((rd_T48 l0 x11_1).f3.f2), .string ((rd_T48 l0 x11_1).f3.f3), .int .i64 ((rd_T48 l0 x11_1).f3.f4), .int .i64 ((rd_T48 l0 x11_1).f3.f5)] BK300 hb; (try replace hx299_0 := cx_ hb hx299_0); (try replace hx299_1 := cx_ hb hx299_1); (try replace hx299_2 := cx_ hb hx299_2); (try replace hx299_3 := cx_ hb hx299_3); (try replace hx299_4 := cx_ hb hx299_4); (try replace hx299_5 := cx_ hb hx299_5); (try replace hx299_6 := cx_ hb hx299_6); (try replace hx299_7 := cx_ hb hx299_7); (try replace hx299_8 := cx_ hb hx299_8); clear hb hbox hg; have hnb12 := NB301_298.out; have hnc12 := NB298_301.out; have hnb13 := NB301_300.out; have hnc13 := NB300_301.out; obtain ⟨hcz14_0, hcz14_1, hcz14_2, hcz14_3, hcz14_4, hcz14_5, hfz14_0, hfz14_1, hfz14_2, hfz14_3, hfz14_4, hfz14_5⟩ := bc6_ BK301))
      (try simp only [Act.put, la_, lz_, ls_])
      go_cut [17] (fun v17 wc => ∃ (kq : Nat) (x17_6 : Bool), v17 = .bool x17_6 ∧ Aside0 (impl_ownOf.j1 kq x5_1 l0 (l0.length : Int) x11_1 x17_6 a1_0 a1_1 a1_2 a1_3 a1_4 a1_5 ((rd_T48 l0 x11_1).f0) ((rd_T48 l0 x11_1).f1) ((rd_T48 l0 x11_1).f2) ((rd_T48 l0 x11_1).f3.f0) ((rd_T48 l0 x11_1).f3.f1) ((rd_T48 l0 x11_1).f3.f2) ((rd_T48 l0 x11_1).f3.f3) ((rd_T48 l0 x11_1).f3.f4) ((rd_T48 l0 x11_1).f3.f5) ((rd_T48 l0 x11_1).f3.f0) ((rd_T48 l0 x11_1).f3.f1) ((rd_T48 l0 x11_1).f3.f2) ((rd_T48 l0 x11_1).f3.f3) ((rd_T48 l0 x11_1).f3.f4) ((rd_T48 l0 x11_1).f3.f5) = some r) ∧ Aside0 (kq ≤ k1) ∧ Aside0 (Kd.R k48 48 wc w.heap.size (fun k_ => k_ ≠ gb300) u5 x5_1) ∧ Aside0 (wc.heap[gb298]? = some (.cells #[.int .i64 a1_0, .int .i64 a1_1, .string a1_2, .string a1_3, .int .i64 a1_4, .int .i64 a1_5] 46 (0, 0))) ∧ Aside0 (wc.heap[gb300]? = some (.cells #[.int .i64 ((rd_T48 l0 x11_1).f0), .int .i64 ((rd_T48 l0 x11_1).f1), .int .i64 ((rd_T48 l0 x11_1).f2), .int .i64 ((rd_T48 l0 x11_1).f3.f0), .int .i64 ((rd_T48 l0 x11_1).f3.f1), .string ((rd_T48 l0 x11_1).f3.f2), .string ((rd_T48 l0 x11_1).f3.f3), .int .i64 ((rd_T48 l0 x11_1).f3.f4), .int .i64 ((rd_T48 l0 x11_1).f3.f5)] 48 (0, 0))) ∧ Aside0 (wc.heap[gb301]? = some (.cells #[.int .i64 ((rd_T48 l0 x11_1).f3.f0), .int .i64 ((rd_T48 l0 x11_1).f3.f1), .string ((rd_T48 l0 x11_1).f3.f2), .string ((rd_T48 l0 x11_1).f3.f3), .int .i64 ((rd_T48 l0 x11_1).f3.f4), .int .i64 ((rd_T48 l0 x11_1).f3.f5)] 46 (0, 0))) ∧ Aside0 (Below w.heap.size w wc))
      case first =>
       have H := HC7.out
       clear HC7
       by_cases c15 : a1_0 = 3
       ·rw [if_pos c15] at H
        have c15b0 : (a1_0 == 3) = true := beq_iff_eq.mpr c15
        have c15b1 : (a1_0 != 3) = false := bne_eq_false_iff_eq.mpr c15
        clear c15
        (first | rw [c15b0] | (simp only [i64_w, i32_w]; rw [c15b0]) | skip)
        have H' := Aside0.mk H
        clear H
        have hnb16 := NB298_300.out
        have hnc16 := NB300_298.out
        have hnb17 := NB298_301.out
        have hnc17 := NB301_298.out
        obtain ⟨hcz18_0, hcz18_1, hcz18_2, hcz18_3, hcz18_4, hcz18_5, hfz18_0, hfz18_1, hfz18_2, hfz18_3, hfz18_4, hfz18_5⟩ := bc6_ BK298
        have hnb19 := NB301_300.out
        have hnc19 := NB300_301.out
        obtain ⟨hcz20_0, hcz20_1, hcz20_2, hcz20_3, hcz20_4, hcz20_5, hfz20_0, hfz20_1, hfz20_2, hfz20_3, hfz20_4, hfz20_5⟩ := bc6_ BK301
        go_wp2
        go_meet
        case rel => exact ⟨_, ((((rd_T48 l0 x11_1).f3.f1) != a1_1)), rs_, H', ⟨by have := HK1.out; first | exact Nat.le_refl _ | exact Nat.le_of_succ_le this | omega⟩, ⟨by (with_reducible repeat (first | apply Kd.R_alloc | apply Kd.R_drewN | apply Kd.R_drew)); exact Kd.R_mono (Kd.R_far (p := ⟨gb301, 5, none⟩) (Kd.R_far (p := ⟨gb301, 4, none⟩) (Kd.R_far (p := ⟨gb301, 3, none⟩) (Kd.R_far (p := ⟨gb301, 2, none⟩) (Kd.R_far (p := ⟨gb301, 1, none⟩) (Kd.R_far (p := ⟨gb301, 0, none⟩) (Kd.R_types HO_5.out BK301.out (by decide)) (fun _ hk => hk.2) (.int .i64 ((rd_T48 l0 x11_1).f3.f0))) (fun _ hk => hk.2) (.int .i64 ((rd_T48 l0 x11_1).f3.f1))) (fun _ hk => hk.2) (.string ((rd_T48 l0 x11_1).f3.f2))) (fun _ hk => hk.2) (.string ((rd_T48 l0 x11_1).f3.f3))) (fun _ hk => hk.2) (.int .i64 ((rd_T48 l0 x11_1).f3.f4))) (fun _ hk => hk.2) (.int .i64 ((rd_T48 l0 x11_1).f3.f5))) (fun _ hk => hk.1.2)⟩, ⟨uq_ BK298 fun h_ => ⟨_, ua_, ub_⟩⟩, ⟨uq_ BK300 fun h_ => ⟨_, ua_, ub_⟩⟩, ⟨uq_ BK301 fun h_ => ⟨_, ua_, ub_⟩⟩, ⟨hz_ HB⟩⟩
       ·rw [if_neg c15] at H
        have c15b0 : (a1_0 == 3) = false := beq_eq_false_iff_ne.mpr c15
        have c15b1 : (a1_0 != 3) = true := bne_iff_ne.mpr c15
        (first | rw [c15b0] | (simp only [i64_w, i32_w]; rw [c15b0]) | skip)
        have H' := Aside0.mk H
        clear H
        have hnb21 := NB298_300.out
        have hnc21 := NB300_298.out
        have hnb22 := NB298_301.out
        have hnc22 := NB301_298.out
        obtain ⟨hcz23_0, hcz23_1, hcz23_2, hcz23_3, hcz23_4, hcz23_5, hfz23_0, hfz23_1, hfz23_2, hfz23_3, hfz23_4, hfz23_5⟩ := bc6_ BK298
        go_wp2
        go_meet
        case rel => exact ⟨_, (false), rs_, H', ⟨by have := HK1.out; first | exact Nat.le_refl _ | exact Nat.le_of_succ_le this | omega⟩, ⟨by (with_reducible repeat (first | apply Kd.R_alloc | apply Kd.R_drewN | apply Kd.R_drew)); exact Kd.R_mono (Kd.R_far (p := ⟨gb301, 5, none⟩) (Kd.R_far (p := ⟨gb301, 4, none⟩) (Kd.R_far (p := ⟨gb301, 3, none⟩) (Kd.R_far (p := ⟨gb301, 2, none⟩) (Kd.R_far (p := ⟨gb301, 1, none⟩) (Kd.R_far (p := ⟨gb301, 0, none⟩) (Kd.R_types HO_5.out BK301.out (by decide)) (fun _ hk => hk.2) (.int .i64 ((rd_T48 l0 x11_1).f3.f0))) (fun _ hk => hk.2) (.int .i64 ((rd_T48 l0 x11_1).f3.f1))) (fun _ hk => hk.2) (.string ((rd_T48 l0 x11_1).f3.f2))) (fun _ hk => hk.2) (.string ((rd_T48 l0 x11_1).f3.f3))) (fun _ hk => hk.2) (.int .i64 ((rd_T48 l0 x11_1).f3.f4))) (fun _ hk => hk.2) (.int .i64 ((rd_T48 l0 x11_1).f3.f5))) (fun _ hk => hk.1.2)⟩, ⟨uq_ BK298 fun h_ => ⟨_, ua_, ub_⟩⟩, ⟨uq_ BK300 fun h_ => ⟨_, ua_, ub_⟩⟩, ⟨uq_ BK301 fun h_ => ⟨_, ua_, ub_⟩⟩, ⟨hz_ HB⟩⟩
      case rest =>
       clear HC7
       (try clear c4);(try clear c4b0);(try clear c5);(try clear c5b0);(try clear c6);(try clear c6b0);(try clear c15);(try clear c15b0);(try clear c15b1);(try clear hcz10_0 hcz10_1 hcz10_2 hcz10_3 hcz10_4 hcz10_5 hcz10_6 hcz10_7 hcz10_8 hfz10_0 hfz10_1 hfz10_2 hfz10_3 hfz10_4 hfz10_5 hfz10_6 hfz10_7 hfz10_8);(try clear hcz14_0 hcz14_1 hcz14_2 hcz14_3 hcz14_4 hcz14_5 hfz14_0 hfz14_1 hfz14_2 hfz14_3 hfz14_4 hfz14_5);(try clear hcz18_0 hcz18_1 hcz18_2 hcz18_3 hcz18_4 hcz18_5 hfz18_0 hfz18_1 hfz18_2 hfz18_3 hfz18_4 hfz18_5);(try clear hcz20_0 hcz20_1 hcz20_2 hcz20_3 hcz20_4 hcz20_5 hfz20_0 hfz20_1 hfz20_2 hfz20_3 hfz20_4 hfz20_5);(try clear hcz23_0 hcz23_1 hcz23_2 hcz23_3 hcz23_4 hcz23_5 hfz23_0 hfz23_1 hfz23_2 hfz23_3 hfz23_4 hfz23_5);(try clear hx299_0);(try clear hx299_1);(try clear hx299_2);(try clear hx299_3);(try clear hx299_4);(try clear hx299_5);(try clear hx299_6);(try clear hx299_7);(try clear hx299_8);(try clear p299);(try clear q299)
       obtain ⟨kq, x17_6, rfl, HA, HJ6, HO_5, BK298, BK300, BK301, HB⟩ := hcut
       cases kq with
       | zero => exact absurd HA.out (by simp [impl_ownOf.j1])
       | succ kj6 =>
        have H := HA.out
        clear HA
        simp only [impl_ownOf.j1] at H
        by_cases c24 : x17_6 = true
        ·subst c24
         rw [if_pos rfl] at H
         have H' := Aside0.mk H
         clear H
         go_wp2
         go_roundg kj6
         case measure => have := HK1.out; have := HJ6.out; omega
         case rel => exact ⟨(x5_1), (wrap64 (x11_1 + 1)), rs_, H', ⟨by have := HK1.out; have := HJ6.out; omega⟩, ⟨by (with_reducible repeat (first | apply Kd.R_alloc | apply Kd.R_drewN | apply Kd.R_drew)); exact Kd.R_mono HO_5.out (fun _ hk => trivial)⟩, ⟨bk_ BK298⟩, ⟨hz_ HB⟩⟩
        ·replace c24 := Bool.eq_false_iff.mpr c24
         subst c24
         rw [if_neg ff_] at H
         by_cases c25 : ((rd_T48 l0 x11_1).f3.f0) = a1_0
         ·rw [if_pos c25] at H
          have c25b0 : (((rd_T48 l0 x11_1).f3.f0) == a1_0) = true := beq_iff_eq.mpr c25
          have c25b1 : (((rd_T48 l0 x11_1).f3.f0) != a1_0) = false := bne_eq_false_iff_eq.mpr c25
          clear c25
          have H' := Aside0.mk H
          clear H
          have hnb26 := NB301_298.out
          have hnc26 := NB298_301.out
          have hnb27 := NB301_300.out
          have hnc27 := NB300_301.out
          obtain ⟨hcz28_0, hcz28_1, hcz28_2, hcz28_3, hcz28_4, hcz28_5, hfz28_0, hfz28_1, hfz28_2, hfz28_3, hfz28_4, hfz28_5⟩ := bc6_ BK301
          have hnb29 := NB298_300.out
          have hnc29 := NB300_298.out
          obtain ⟨hcz30_0, hcz30_1, hcz30_2, hcz30_3, hcz30_4, hcz30_5, hfz30_0, hfz30_1, hfz30_2, hfz30_3, hfz30_4, hfz30_5⟩ := bc6_ BK298
          go_wp2
          go_roundg kj6
          case measure => have := HK1.out; have := HJ6.out; omega
          case rel => exact ⟨(([] : List (S48))), (wrap64 (x11_1 + 1)), rs_, H', ⟨by have := HK1.out; have := HJ6.out; omega⟩, ⟨by first | exact Kd.R_nil _ _ _ _ _ | exact Kd.N_nil _ _ _ _ _ | exact Kd.V_nil _ _ _ _ _ | exact Kd.Q_nil _ _ _ _ _ | exact Kd.S_nil _ _ _ _ _⟩, ⟨bk_ BK298⟩, ⟨hz_ HB⟩⟩
         ·rw [if_neg c25] at H
          have c25b0 : (((rd_T48 l0 x11_1).f3.f0) == a1_0) = false := beq_eq_false_iff_ne.mpr c25
          have c25b1 : (((rd_T48 l0 x11_1).f3.f0) != a1_0) = true := bne_iff_ne.mpr c25
          have HC31 := Aside0.mk H
          clear H
          have hnb32 := NB301_298.out
          have hnc32 := NB298_301.out
          have hnb33 := NB301_300.out
          have hnc33 := NB300_301.out
          obtain ⟨hcz34_0, hcz34_1, hcz34_2, hcz34_3, hcz34_4, hcz34_5, hfz34_0, hfz34_1, hfz34_2, hfz34_3, hfz34_4, hfz34_5⟩ := bc6_ BK301
          have hnb35 := NB298_300.out
          have hnc35 := NB300_298.out
          obtain ⟨hcz36_0, hcz36_1, hcz36_2, hcz36_3, hcz36_4, hcz36_5, hfz36_0, hfz36_1, hfz36_2, hfz36_3, hfz36_4, hfz36_5⟩ := bc6_ BK298
          go_upto_region 9 with (fail)
          go_cut [34] (fun v34 wc => ∃ (kq : Nat) (x34_30 : Bool), v34 = .bool x34_30 ∧ Aside0 (impl_ownOf.j2 kq x5_1 l0 (l0.length : Int) x11_1 x34_30 a1_0 a1_1 a1_2 a1_3 a1_4 a1_5 ((rd_T48 l0 x11_1).f0) ((rd_T48 l0 x11_1).f1) ((rd_T48 l0 x11_1).f2) ((rd_T48 l0 x11_1).f3.f0) ((rd_T48 l0 x11_1).f3.f1) ((rd_T48 l0 x11_1).f3.f2) ((rd_T48 l0 x11_1).f3.f3) ((rd_T48 l0 x11_1).f3.f4) ((rd_T48 l0 x11_1).f3.f5) ((rd_T48 l0 x11_1).f3.f0) ((rd_T48 l0 x11_1).f3.f1) ((rd_T48 l0 x11_1).f3.f2) ((rd_T48 l0 x11_1).f3.f3) ((rd_T48 l0 x11_1).f3.f4) ((rd_T48 l0 x11_1).f3.f5) = some r) ∧ Aside0 (kq ≤ kj6) ∧ Aside0 (Kd.R k48 48 wc w.heap.size (fun k_ => k_ ≠ gb300) u5 x5_1) ∧ Aside0 (wc.heap[gb298]? = some (.cells #[.int .i64 a1_0, .int .i64 a1_1, .string a1_2, .string a1_3, .int .i64 a1_4, .int .i64 a1_5] 46 (0, 0))) ∧ Aside0 (wc.heap[gb300]? = some (.cells #[.int .i64 ((rd_T48 l0 x11_1).f0), .int .i64 ((rd_T48 l0 x11_1).f1), .int .i64 ((rd_T48 l0 x11_1).f2), .int .i64 ((rd_T48 l0 x11_1).f3.f0), .int .i64 ((rd_T48 l0 x11_1).f3.f1), .string ((rd_T48 l0 x11_1).f3.f2), .string ((rd_T48 l0 x11_1).f3.f3), .int .i64 ((rd_T48 l0 x11_1).f3.f4), .int .i64 ((rd_T48 l0 x11_1).f3.f5)] 48 (0, 0))) ∧ Aside0 (wc.heap[gb301]? = some (.cells #[.int .i64 ((rd_T48 l0 x11_1).f3.f0), .int .i64 ((rd_T48 l0 x11_1).f3.f1), .string ((rd_T48 l0 x11_1).f3.f2), .string ((rd_T48 l0 x11_1).f3.f3), .int .i64 ((rd_T48 l0 x11_1).f3.f4), .int .i64 ((rd_T48 l0 x11_1).f3.f5)] 46 (0, 0))) ∧ Aside0 (Below w.heap.size w wc))
          case first =>
           have H := HC31.out
           clear HC31
           by_cases c37 : a1_0 = 3
           ·rw [if_pos c37] at H
            have c37b0 : (a1_0 == 3) = true := beq_iff_eq.mpr c37
            have c37b1 : (a1_0 != 3) = false := bne_eq_false_iff_eq.mpr c37
            clear c37
            (first | rw [c37b0] | (simp only [i64_w, i32_w]; rw [c37b0]) | skip)
            by_cases c38 : ((rd_T48 l0 x11_1).f3.f0) = 1
            ·rw [if_pos c38] at H
             have c38b0 : (((rd_T48 l0 x11_1).f3.f0) == 1) = true := beq_iff_eq.mpr c38
             have c38b1 : (((rd_T48 l0 x11_1).f3.f0) != 1) = false := bne_eq_false_iff_eq.mpr c38
             clear c38
             have H' := Aside0.mk H
             clear H
             have hnb39 := NB298_300.out
             have hnc39 := NB300_298.out
             have hnb40 := NB298_301.out
             have hnc40 := NB301_298.out
             obtain ⟨hcz41_0, hcz41_1, hcz41_2, hcz41_3, hcz41_4, hcz41_5, hfz41_0, hfz41_1, hfz41_2, hfz41_3, hfz41_4, hfz41_5⟩ := bc6_ BK298
             have hnb42 := NB301_300.out
             have hnc42 := NB300_301.out
             obtain ⟨hcz43_0, hcz43_1, hcz43_2, hcz43_3, hcz43_4, hcz43_5, hfz43_0, hfz43_1, hfz43_2, hfz43_3, hfz43_4, hfz43_5⟩ := bc6_ BK301
             go_wp2
             go_meet
             case rel => exact ⟨_, (true), rs_, H', ⟨by have := HK1.out; have := HJ6.out; first | exact Nat.le_refl _ | exact Nat.le_of_succ_le this | omega⟩, ⟨rr_ HO_5⟩, ⟨bk_ BK298⟩, ⟨bk_ BK300⟩, ⟨bk_ BK301⟩, ⟨hz_ HB⟩⟩
            ·rw [if_neg c38] at H
             have c38b0 : (((rd_T48 l0 x11_1).f3.f0) == 1) = false := beq_eq_false_iff_ne.mpr c38
             have c38b1 : (((rd_T48 l0 x11_1).f3.f0) != 1) = true := bne_iff_ne.mpr c38
             have H' := Aside0.mk H
             clear H
             have hnb44 := NB298_300.out
             have hnc44 := NB300_298.out
             have hnb45 := NB298_301.out
             have hnc45 := NB301_298.out
             obtain ⟨hcz46_0, hcz46_1, hcz46_2, hcz46_3, hcz46_4, hcz46_5, hfz46_0, hfz46_1, hfz46_2, hfz46_3, hfz46_4, hfz46_5⟩ := bc6_ BK298
             have hnb47 := NB301_300.out
             have hnc47 := NB300_301.out
             obtain ⟨hcz48_0, hcz48_1, hcz48_2, hcz48_3, hcz48_4, hcz48_5, hfz48_0, hfz48_1, hfz48_2, hfz48_3, hfz48_4, hfz48_5⟩ := bc6_ BK301
             go_wp2
             go_meet
             case rel => exact ⟨_, ((((rd_T48 l0 x11_1).f3.f0) == 2)), rs_, H', ⟨by have := HK1.out; have := HJ6.out; first | exact Nat.le_refl _ | exact Nat.le_of_succ_le this | omega⟩, ⟨rr_ HO_5⟩, ⟨bk_ BK298⟩, ⟨bk_ BK300⟩, ⟨bk_ BK301⟩, ⟨hz_ HB⟩⟩
           ·rw [if_neg c37] at H
            have c37b0 : (a1_0 == 3) = false := beq_eq_false_iff_ne.mpr c37
            have c37b1 : (a1_0 != 3) = true := bne_iff_ne.mpr c37
            (first | rw [c37b0] | (simp only [i64_w, i32_w]; rw [c37b0]) | skip)
            have H' := Aside0.mk H
            clear H
            have hnb49 := NB298_300.out
            have hnc49 := NB300_298.out
            have hnb50 := NB298_301.out
            have hnc50 := NB301_298.out
            obtain ⟨hcz51_0, hcz51_1, hcz51_2, hcz51_3, hcz51_4, hcz51_5, hfz51_0, hfz51_1, hfz51_2, hfz51_3, hfz51_4, hfz51_5⟩ := bc6_ BK298
            go_wp2
            go_meet
            case rel => exact ⟨_, (false), rs_, H', ⟨by have := HK1.out; have := HJ6.out; first | exact Nat.le_refl _ | exact Nat.le_of_succ_le this | omega⟩, ⟨rr_ HO_5⟩, ⟨bk_ BK298⟩, ⟨bk_ BK300⟩, ⟨bk_ BK301⟩, ⟨hz_ HB⟩⟩
          case rest =>
           clear HC31
           (try clear c4);(try clear c4b0);(try clear c5);(try clear c5b0);(try clear c6);(try clear c6b0);(try clear c15);(try clear c15b0);(try clear c15b1);(try clear c24);(try clear c25);(try clear c25b0);(try clear c25b1);(try clear c37);(try clear c37b0);(try clear c37b1);(try clear c38);(try clear c38b0);(try clear c38b1);(try clear hcz10_0 hcz10_1 hcz10_2 hcz10_3 hcz10_4 hcz10_5 hcz10_6 hcz10_7 hcz10_8 hfz10_0 hfz10_1 hfz10_2 hfz10_3 hfz10_4 hfz10_5 hfz10_6 hfz10_7 hfz10_8);(try clear hcz14_0 hcz14_1 hcz14_2 hcz14_3 hcz14_4 hcz14_5 hfz14_0 hfz14_1 hfz14_2 hfz14_3 hfz14_4 hfz14_5);(try clear hcz18_0 hcz18_1 hcz18_2 hcz18_3 hcz18_4 hcz18_5 hfz18_0 hfz18_1 hfz18_2 hfz18_3 hfz18_4 hfz18_5);(try clear hcz20_0 hcz20_1 hcz20_2 hcz20_3 hcz20_4 hcz20_5 hfz20_0 hfz20_1 hfz20_2 hfz20_3 hfz20_4 hfz20_5);(try clear hcz23_0 hcz23_1 hcz23_2 hcz23_3 hcz23_4 hcz23_5 hfz23_0 hfz23_1 hfz23_2 hfz23_3 hfz23_4 hfz23_5);(try clear hcz28_0 hcz28_1 hcz28_2 hcz28_3 hcz28_4 hcz28_5 hfz28_0 hfz28_1 hfz28_2 hfz28_3 hfz28_4 hfz28_5);(try clear hcz30_0 hcz30_1 hcz30_2 hcz30_3 hcz30_4 hcz30_5 hfz30_0 hfz30_1 hfz30_2 hfz30_3 hfz30_4 hfz30_5);(try clear hcz34_0 hcz34_1 hcz34_2 hcz34_3 hcz34_4 hcz34_5 hfz34_0 hfz34_1 hfz34_2 hfz34_3 hfz34_4 hfz34_5);(try clear hcz36_0 hcz36_1 hcz36_2 hcz36_3 hcz36_4 hcz36_5 hfz36_0 hfz36_1 hfz36_2 hfz36_3 hfz36_4 hfz36_5);(try clear hcz41_0 hcz41_1 hcz41_2 hcz41_3 hcz41_4 hcz41_5 hfz41_0 hfz41_1 hfz41_2 hfz41_3 hfz41_4 hfz41_5);(try clear hcz43_0 hcz43_1 hcz43_2 hcz43_3 hcz43_4 hcz43_5 hfz43_0 hfz43_1 hfz43_2 hfz43_3 hfz43_4 hfz43_5);(try clear hcz46_0 hcz46_1 hcz46_2 hcz46_3 hcz46_4 hcz46_5 hfz46_0 hfz46_1 hfz46_2 hfz46_3 hfz46_4 hfz46_5);(try clear hcz48_0 hcz48_1 hcz48_2 hcz48_3 hcz48_4 hcz48_5 hfz48_0 hfz48_1 hfz48_2 hfz48_3 hfz48_4 hfz48_5);(try clear hcz51_0 hcz51_1 hcz51_2 hcz51_3 hcz51_4 hcz51_5 hfz51_0 hfz51_1 hfz51_2 hfz51_3 hfz51_4 hfz51_5);(try clear hx299_0);(try clear hx299_1);(try clear hx299_2);(try clear hx299_3);(try clear hx299_4);(try clear hx299_5);(try clear hx299_6);(try clear hx299_7);(try clear hx299_8);(try clear p299);(try clear q299)
           obtain ⟨kq, x34_30, rfl, HA, HJ30, HO_5, BK298, BK300, BK301, HB⟩ := hcut
           cases kq with
           | zero => exact absurd HA.out (by simp [impl_ownOf.j2])
           | succ kj30 =>
            have H := HA.out
            clear HA
            simp only [impl_ownOf.j2] at H
            have HC52 := Aside0.mk H
            clear H
            go_upto_if 34 with (fail)
            go_cut [34] (fun v34 wc => ∃ (kq : Nat) (x34_51 : Bool), v34 = .bool x34_51 ∧ Aside0 (impl_ownOf.j3 kq x5_1 l0 (l0.length : Int) x11_1 x34_51 a1_0 a1_1 a1_2 a1_3 a1_4 a1_5 ((rd_T48 l0 x11_1).f0) ((rd_T48 l0 x11_1).f1) ((rd_T48 l0 x11_1).f2) ((rd_T48 l0 x11_1).f3.f0) ((rd_T48 l0 x11_1).f3.f1) ((rd_T48 l0 x11_1).f3.f2) ((rd_T48 l0 x11_1).f3.f3) ((rd_T48 l0 x11_1).f3.f4) ((rd_T48 l0 x11_1).f3.f5) = some r) ∧ Aside0 (kq ≤ kj30) ∧ Aside0 (Kd.R k48 48 wc w.heap.size (fun k_ => k_ ≠ gb300) u5 x5_1) ∧ Aside0 (wc.heap[gb298]? = some (.cells #[.int .i64 a1_0, .int .i64 a1_1, .string a1_2, .string a1_3, .int .i64 a1_4, .int .i64 a1_5] 46 (0, 0))) ∧ Aside0 (wc.heap[gb300]? = some (.cells #[.int .i64 ((rd_T48 l0 x11_1).f0), .int .i64 ((rd_T48 l0 x11_1).f1), .int .i64 ((rd_T48 l0 x11_1).f2), .int .i64 ((rd_T48 l0 x11_1).f3.f0), .int .i64 ((rd_T48 l0 x11_1).f3.f1), .string ((rd_T48 l0 x11_1).f3.f2), .string ((rd_T48 l0 x11_1).f3.f3), .int .i64 ((rd_T48 l0 x11_1).f3.f4), .int .i64 ((rd_T48 l0 x11_1).f3.f5)] 48 (0, 0))) ∧ Aside0 (wc.heap[gb301]? = some (.cells #[.int .i64 ((rd_T48 l0 x11_1).f3.f0), .int .i64 ((rd_T48 l0 x11_1).f3.f1), .string ((rd_T48 l0 x11_1).f3.f2), .string ((rd_T48 l0 x11_1).f3.f3), .int .i64 ((rd_T48 l0 x11_1).f3.f4), .int .i64 ((rd_T48 l0 x11_1).f3.f5)] 46 (0, 0))) ∧ Aside0 (Below w.heap.size w wc))
            case first =>
             have H := HC52.out
             clear HC52
             by_cases c53 : x34_30 = true
             ·subst c53
              rw [if_pos rfl] at H
              have H' := Aside0.mk H
              clear H
              go_wp2
              go_meet
              case rel => exact ⟨_, (true), rs_, H', ⟨by have := HK1.out; have := HJ6.out; have := HJ30.out; first | exact Nat.le_refl _ | exact Nat.le_of_succ_le this | omega⟩, ⟨rr_ HO_5⟩, ⟨bk_ BK298⟩, ⟨bk_ BK300⟩, ⟨bk_ BK301⟩, ⟨hz_ HB⟩⟩
             ·replace c53 := Bool.eq_false_iff.mpr c53
              subst c53
              rw [if_neg ff_] at H
              by_cases c54 : a1_0 = 5
              ·rw [if_pos c54] at H
               have c54b0 : (a1_0 == 5) = true := beq_iff_eq.mpr c54
               have c54b1 : (a1_0 != 5) = false := bne_eq_false_iff_eq.mpr c54
               clear c54
               (first | rw [c54b0] | (simp only [i64_w, i32_w]; rw [c54b0]) | skip)
               have H' := Aside0.mk H
               clear H
               have hnb55 := NB298_300.out
               have hnc55 := NB300_298.out
               have hnb56 := NB298_301.out
               have hnc56 := NB301_298.out
               obtain ⟨hcz57_0, hcz57_1, hcz57_2, hcz57_3, hcz57_4, hcz57_5, hfz57_0, hfz57_1, hfz57_2, hfz57_3, hfz57_4, hfz57_5⟩ := bc6_ BK298
               have hnb58 := NB301_300.out
               have hnc58 := NB300_301.out
               obtain ⟨hcz59_0, hcz59_1, hcz59_2, hcz59_3, hcz59_4, hcz59_5, hfz59_0, hfz59_1, hfz59_2, hfz59_3, hfz59_4, hfz59_5⟩ := bc6_ BK301
               go_wp2
               go_meet
               case rel => exact ⟨_, ((((rd_T48 l0 x11_1).f3.f0) == 4)), rs_, H', ⟨by have := HK1.out; have := HJ6.out; have := HJ30.out; first | exact Nat.le_refl _ | exact Nat.le_of_succ_le this | omega⟩, ⟨rr_ HO_5⟩, ⟨bk_ BK298⟩, ⟨bk_ BK300⟩, ⟨bk_ BK301⟩, ⟨hz_ HB⟩⟩
              ·rw [if_neg c54] at H
               have c54b0 : (a1_0 == 5) = false := beq_eq_false_iff_ne.mpr c54
               have c54b1 : (a1_0 != 5) = true := bne_iff_ne.mpr c54
               (first | rw [c54b0] | (simp only [i64_w, i32_w]; rw [c54b0]) | skip)
               have H' := Aside0.mk H
               clear H
               have hnb60 := NB298_300.out
               have hnc60 := NB300_298.out
               have hnb61 := NB298_301.out
               have hnc61 := NB301_298.out
               obtain ⟨hcz62_0, hcz62_1, hcz62_2, hcz62_3, hcz62_4, hcz62_5, hfz62_0, hfz62_1, hfz62_2, hfz62_3, hfz62_4, hfz62_5⟩ := bc6_ BK298
               go_wp2
               go_meet
               case rel => exact ⟨_, (false), rs_, H', ⟨by have := HK1.out; have := HJ6.out; have := HJ30.out; first | exact Nat.le_refl _ | exact Nat.le_of_succ_le this | omega⟩, ⟨rr_ HO_5⟩, ⟨bk_ BK298⟩, ⟨bk_ BK300⟩, ⟨bk_ BK301⟩, ⟨hz_ HB⟩⟩
            case rest =>
             clear HC52
             (try clear c4);(try clear c4b0);(try clear c5);(try clear c5b0);(try clear c6);(try clear c6b0);(try clear c15);(try clear c15b0);(try clear c15b1);(try clear c24);(try clear c25);(try clear c25b0);(try clear c25b1);(try clear c37);(try clear c37b0);(try clear c37b1);(try clear c38);(try clear c38b0);(try clear c38b1);(try clear c53);(try clear c54);(try clear c54b0);(try clear c54b1);(try clear hcz10_0 hcz10_1 hcz10_2 hcz10_3 hcz10_4 hcz10_5 hcz10_6 hcz10_7 hcz10_8 hfz10_0 hfz10_1 hfz10_2 hfz10_3 hfz10_4 hfz10_5 hfz10_6 hfz10_7 hfz10_8);(try clear hcz14_0 hcz14_1 hcz14_2 hcz14_3 hcz14_4 hcz14_5 hfz14_0 hfz14_1 hfz14_2 hfz14_3 hfz14_4 hfz14_5);(try clear hcz18_0 hcz18_1 hcz18_2 hcz18_3 hcz18_4 hcz18_5 hfz18_0 hfz18_1 hfz18_2 hfz18_3 hfz18_4 hfz18_5);(try clear hcz20_0 hcz20_1 hcz20_2 hcz20_3 hcz20_4 hcz20_5 hfz20_0 hfz20_1 hfz20_2 hfz20_3 hfz20_4 hfz20_5);(try clear hcz23_0 hcz23_1 hcz23_2 hcz23_3 hcz23_4 hcz23_5 hfz23_0 hfz23_1 hfz23_2 hfz23_3 hfz23_4 hfz23_5);(try clear hcz28_0 hcz28_1 hcz28_2 hcz28_3 hcz28_4 hcz28_5 hfz28_0 hfz28_1 hfz28_2 hfz28_3 hfz28_4 hfz28_5);(try clear hcz30_0 hcz30_1 hcz30_2 hcz30_3 hcz30_4 hcz30_5 hfz30_0 hfz30_1 hfz30_2 hfz30_3 hfz30_4 hfz30_5);(try clear hcz34_0 hcz34_1 hcz34_2 hcz34_3 hcz34_4 hcz34_5 hfz34_0 hfz34_1 hfz34_2 hfz34_3 hfz34_4 hfz34_5);(try clear hcz36_0 hcz36_1 hcz36_2 hcz36_3 hcz36_4 hcz36_5 hfz36_0 hfz36_1 hfz36_2 hfz36_3 hfz36_4 hfz36_5);(try clear hcz41_0 hcz41_1 hcz41_2 hcz41_3 hcz41_4 hcz41_5 hfz41_0 hfz41_1 hfz41_2 hfz41_3 hfz41_4 hfz41_5);(try clear hcz43_0 hcz43_1 hcz43_2 hcz43_3 hcz43_4 hcz43_5 hfz43_0 hfz43_1 hfz43_2 hfz43_3 hfz43_4 hfz43_5);(try clear hcz46_0 hcz46_1 hcz46_2 hcz46_3 hcz46_4 hcz46_5 hfz46_0 hfz46_1 hfz46_2 hfz46_3 hfz46_4 hfz46_5);(try clear hcz48_0 hcz48_1 hcz48_2 hcz48_3 hcz48_4 hcz48_5 hfz48_0 hfz48_1 hfz48_2 hfz48_3 hfz48_4 hfz48_5);(try clear hcz51_0 hcz51_1 hcz51_2 hcz51_3 hcz51_4 hcz51_5 hfz51_0 hfz51_1 hfz51_2 hfz51_3 hfz51_4 hfz51_5);(try clear hcz57_0 hcz57_1 hcz57_2 hcz57_3 hcz57_4 hcz57_5 hfz57_0 hfz57_1 hfz57_2 hfz57_3 hfz57_4 hfz57_5);(try clear hcz59_0 hcz59_1 hcz59_2 hcz59_3 hcz59_4 hcz59_5 hfz59_0 hfz59_1 hfz59_2 hfz59_3 hfz59_4 hfz59_5);(try clear hcz62_0 hcz62_1 hcz62_2 hcz62_3 hcz62_4 hcz62_5 hfz62_0 hfz62_1 hfz62_2 hfz62_3 hfz62_4 hfz62_5);(try clear hx299_0);(try clear hx299_1);(try clear hx299_2);(try clear hx299_3);(try clear hx299_4);(try clear hx299_5);(try clear hx299_6);(try clear hx299_7);(try clear hx299_8);(try clear p299);(try clear q299)
             obtain ⟨kq, x34_51, rfl, HA, HJ51, HO_5, BK298, BK300, BK301, HB⟩ := hcut
             cases kq with
             | zero => exact absurd HA.out (by simp [impl_ownOf.j3])
             | succ kj51 =>
              have H := HA.out
              clear HA
              simp only [impl_ownOf.j3] at H
              by_cases c63 : x34_51 = true
              ·subst c63
               rw [if_pos rfl] at H
               by_cases c64 : x5_1.length < 1599289640401
               ·rw [if_pos c64] at H
                have LMc64 := Aside0.mk c64
                clear c64
                obtain ⟨y302, hy302⟩ : ∃ y_ : List (S48), y_ = (x5_1 ++ [(⟨((rd_T48 l0 x11_1).f0), ((rd_T48 l0 x11_1).f1), ((rd_T48 l0 x11_1).f2), (⟨((rd_T48 l0 x11_1).f3.f0), ((rd_T48 l0 x11_1).f3.f1), ((rd_T48 l0 x11_1).f3.f2), ((rd_T48 l0 x11_1).f3.f3), ((rd_T48 l0 x11_1).f3.f4), ((rd_T48 l0 x11_1).f3.f5)⟩ : S46)⟩ : S48)]) := ⟨_, rfl⟩
                rw [← hy302] at H
                have Ny302 := Aside0.mk hy302
                clear hy302
                have H' := Aside0.mk H
                clear H
                have hnb65 := NB300_298.out
                have hnc65 := NB298_300.out
                have hnb66 := NB300_301.out
                have hnc66 := NB301_300.out
                obtain ⟨hcz67_0, hcz67_1, hcz67_2, hcz67_3, hcz67_4, hcz67_5, hcz67_6, hcz67_7, hcz67_8, hfz67_0, hfz67_1, hfz67_2, hfz67_3, hfz67_4, hfz67_5, hfz67_6, hfz67_7, hfz67_8⟩ := bc9_ BK300
                go_wp2_with (first | (at_builtin; (with_reducible refine gate_builtin (b := .append) (xs := #[.tmp 56, .tmp 58]) rfl ?_); refine Kd.R_append k48 (w0 := w) w.heap.size rfl (.tmp 56) (.tmp 58) 33 48 (.agg #[(.int .i64 0), (.int .i64 0), (.int .i64 0), (.int .i64 0), (.int .i64 0), (.string ⟨#[]⟩), (.string ⟨#[]⟩), (.int .i64 0), (.int .i64 0)]) 88 rfl Try.underlying33 info48 rfl (by decide) (by omega) u5 x5_1 (⟨((rd_T48 l0 x11_1).f0), ((rd_T48 l0 x11_1).f1), ((rd_T48 l0 x11_1).f2), (⟨((rd_T48 l0 x11_1).f3.f0), ((rd_T48 l0 x11_1).f3.f1), ((rd_T48 l0 x11_1).f3.f2), ((rd_T48 l0 x11_1).f3.f3), ((rd_T48 l0 x11_1).f3.f4), ((rd_T48 l0 x11_1).f3.f5)⟩ : S46)⟩ : S48) [.int .i64 ((rd_T48 l0 x11_1).f0), .int .i64 ((rd_T48 l0 x11_1).f1), .int .i64 ((rd_T48 l0 x11_1).f2), .int .i64 ((rd_T48 l0 x11_1).f3.f0), .int .i64 ((rd_T48 l0 x11_1).f3.f1), .string ((rd_T48 l0 x11_1).f3.f2), .string ((rd_T48 l0 x11_1).f3.f3), .int .i64 ((rd_T48 l0 x11_1).f3.f4), .int .i64 ((rd_T48 l0 x11_1).f3.f5)] (fun k_ => k_ ≠ gb300) (fun _ => False) rfl rfl ?aP (fun _ hk => hk.elim) ?aF ?aO ?aB ?aS ?aL ?_; (case aP => exact k48_mkM _ _ _ (⟨((rd_T48 l0 x11_1).f0), ((rd_T48 l0 x11_1).f1), ((rd_T48 l0 x11_1).f2), (⟨((rd_T48 l0 x11_1).f3.f0), ((rd_T48 l0 x11_1).f3.f1), ((rd_T48 l0 x11_1).f3.f2), ((rd_T48 l0 x11_1).f3.f3), ((rd_T48 l0 x11_1).f3.f4), ((rd_T48 l0 x11_1).f3.f5)⟩ : S46)⟩ : S48)); (case aB => exact (hv_ HB GE298 GE300 GE301)); (case aF => exact (fun k_ hk => Kd.freshB (g := gb300) (o := .cells #[.int .i64 ((rd_T48 l0 x11_1).f0), .int .i64 ((rd_T48 l0 x11_1).f1), .int .i64 ((rd_T48 l0 x11_1).f2), .int .i64 ((rd_T48 l0 x11_1).f3.f0), .int .i64 ((rd_T48 l0 x11_1).f3.f1), .string ((rd_T48 l0 x11_1).f3.f2), .string ((rd_T48 l0 x11_1).f3.f3), .int .i64 ((rd_T48 l0 x11_1).f3.f4), .int .i64 ((rd_T48 l0 x11_1).f3.f5)] 48 (0, 0)) (bk_ BK300) k_ hk)); (case aO => exact (rr_ HO_5)); (case aS => exact (below_size (hv_ HB GE298 GE300 GE301))); (case aL => have := LMc64.out; omega); intro v303 w68 ho hb hg hat; rw [← Ny302.out] at ho; replace BK298 := bg_ BK298 hg (Kd.R_ne HO_5.out BK298.out (by decide)); replace BK300 := bg_ BK300 hg (Kd.R_away HO_5.out (fun _ hk => hk)); replace BK301 := bg_ BK301 hg (Kd.R_ne HO_5.out BK301.out (by decide)); replace HB := Aside0.mk (hb); have HO304 := Aside0.mk (ho); clear HO_5; clear ho hb hg hat))
                go_roundg kj51
                case measure => have := HK1.out; have := HJ6.out; have := HJ30.out; have := HJ51.out; omega
                case rel => exact ⟨(y302), (wrap64 (x11_1 + 1)), rs_, H', ⟨by have := HK1.out; have := HJ6.out; have := HJ30.out; have := HJ51.out; omega⟩, ⟨by (with_reducible repeat (first | apply Kd.R_alloc | apply Kd.R_drewN | apply Kd.R_drew)); exact Kd.R_mono HO304.out (fun _ hk => trivial)⟩, ⟨bk_ BK298⟩, ⟨hz_ HB⟩⟩
               ·rw [if_neg c64] at H
                exact absurd H (by simp)
              ·replace c63 := Bool.eq_false_iff.mpr c63
               subst c63
               rw [if_neg ff_] at H
               have H' := Aside0.mk H
               clear H
               go_wp2
               go_roundg kj51
               case measure => have := HK1.out; have := HJ6.out; have := HJ30.out; have := HJ51.out; omega
               case rel => exact ⟨(x5_1), (wrap64 (x11_1 + 1)), rs_, H', ⟨by have := HK1.out; have := HJ6.out; have := HJ30.out; have := HJ51.out; omega⟩, ⟨by (with_reducible repeat (first | apply Kd.R_alloc | apply Kd.R_drewN | apply Kd.R_drew)); exact Kd.R_mono HO_5.out (fun _ hk => trivial)⟩, ⟨bk_ BK298⟩, ⟨hz_ HB⟩⟩
     ·rw [if_neg c6] at H
      exact absurd H (by simp)
    ·rw [if_neg c5] at H
     exact absurd H (by simp)
   ·rw [if_neg c4] at H
    have c4b0 : decide (x11_1 < (l0.length : Int)) = false := decide_eq_false c4
    clear c4
    obtain rfl := Option.some.inj H
    go_wp2
    go_ret
    exact ⟨_, by first | rfl | (simp [errW_none, errW_some] <;> rfl) | (simp [*, errW_none, errW_some] <;> rfl), rr_ HO_5, hs_ HB GE298⟩

end Go.Proofs.Ytcnmdjibogojnaa.PFnExactRegroup
