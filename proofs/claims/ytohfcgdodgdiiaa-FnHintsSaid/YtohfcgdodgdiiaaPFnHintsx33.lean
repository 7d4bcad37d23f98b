import Derived.Test.YtohfcgdodgdiiaaPFnHintsx30
namespace Go.Proofs.Ytohfcgdodgdiiaa.PFnHints
open Go.RowKit Go.Proofs.YtohfcgdodgdiiaaW.PrintWords Go.Proofs.YtohfcgdodgdiiaaW.PrintLast Go.Proofs.YtohfcgdodgdiiaaW.PrintMore
attribute [local go_sem] max2_int min2_int max_two min_two max_three min_three max_four min_four
set_option linter.unusedVariables false
set_option linter.unusedSimpArgs false
set_option maxHeartbeats 80000000
set_option maxRecDepth 100000
section
attribute [local go_sem high] eqA55
def impl_SameDir.l0 : Nat → List (S55) → List (S55) → Int → Int → Option (Bool)
 | 0, _, _, _, _ => none
 | k + 1, x0, x1, x12, x13 => if x13 < x12 then (if 0 ≤ x13 then (if x13 < (x0.length : Int) then (if x13 < (x1.length : Int) then (if (!((((rd_T55 x0 x13).f0).toList) == (((rd_T55 x1 x13).f0).toList)) || (!(((rd_T55 x0 x13).f1) == ((rd_T55 x1 x13).f1)) || (!(((rd_T55 x0 x13).f2) == ((rd_T55 x1 x13).f2)) || (!(((rd_T55 x0 x13).f3) == ((rd_T55 x1 x13).f3)) || (!(((rd_T55 x0 x13).f4) == ((rd_T55 x1 x13).f4))))))) = true then (some false) else (impl_SameDir.l0 k x0 x1 x12 (wrap64 (x13 + 1)))) else (none)) else (none)) else (none)) else (some true)
def impl_SameDir.f (k : Nat) (l0 : List (S55)) (l1 : List (S55)) : Option (Bool) := if (l0.length : Int) = (l1.length : Int) then (impl_SameDir.l0 k l0 l1 (l0.length : Int) 0) else (some false)
theorem impl_SameDir.calls {k : Nat} {l0 l1 : List (S55)} {r : Bool} {w : World} (A0 : Option Addr) (c0 : Nat) (A1 : Option Addr) (c1 : Nat) (h : impl_SameDir.f k l0 l1 = some r) (hr0 : Kd.C k55 w A0 l0.length l0 := by exact sr_) (hc0 : l0.length ≤ c0 := by exact sc_) (hr1 : Kd.C k55 w A1 l1.length l1 := by exact sr_) (hc1 : l1.length ≤ c1 := by exact sc_) :
  Calls Try.prog 37 #[.slice A0 l0.length c0, .slice A1 l1.length c1] w fun e w' => e = .returned (.bool r) ∧ Drawn0 w w' := by
 have hu55 := Try.underlying55; have HR0 := am_ hr0; have HC0 := am_ hc0; clear hr0 hc0; have HR1 := am_ hr1; have HC1 := am_ hc1; clear hr1 hc1; unfold impl_SameDir.f at h; have H := h; clear h; by_cases c3 : (l0.length : Int) = (l1.length : Int)
 ·rw [if_pos c3] at H; have ⟨c3b0, c3b1⟩ := bq5_ c3; have c3b2 : (l0.length == l1.length) = true := by first | simpa using c3 | (simp at c3 ⊢; omega)
  clear c3; have H' := am_ H; clear H
  go_enter Try.func37, Try.ntmps37
  go_wp2
  repeat (go_quiet (fail); try go_wp2)
  go_loopg [13] k (fun kq v13 w' => ∃ (x13_1 : Int), v13 = .int .i64 x13_1 ∧ Aside0 (impl_SameDir.l0 kq l0 l1 (l0.length : Int) x13_1 = some r) ∧ Aside0 (kq ≤ k) ∧ Drawn0 w w')
  case atStart => exact ⟨_, rs_, H', ⟨Nat.le_refl _⟩, by repeat (first | exact Drawn0.refl _ | apply Drawn0.step)⟩
  case round =>
   clear H'
   (try clear c1); (try clear c3); (try clear c3b0); (try clear c3b1); (try clear c3b2)
   obtain ⟨x13_1, rfl, HA, HK1, ⟨m1, rfl⟩⟩ := hrel
   cases gk with
   | zero => exact zz_ HA
   | succ k1 =>
    have H := HA.1; clear HA; simp only [impl_SameDir.l0] at H; by_cases c4 : x13_1 < (l0.length : Int)
    ·rw [if_pos c4] at H; have c4b0 := dq_ c4; clear c4; replace H := ih_ H; obtain ⟨c5, H⟩ := H; have c5b0 := dq_ c5; clear c5; replace H := ih_ H; obtain ⟨c6, H⟩ := H; have c6b0 := dq_ c6; clear c6; replace H := ih_ H; obtain ⟨c7, H⟩ := H; have c7b0 := dq_ c7; clear c7; by_cases c8 : (!((((rd_T55 l0 x13_1).f0).toList) == (((rd_T55 l1 x13_1).f0).toList)) || (!(((rd_T55 l0 x13_1).f1) == ((rd_T55 l1 x13_1).f1)) || (!(((rd_T55 l0 x13_1).f2) == ((rd_T55 l1 x13_1).f2)) || (!(((rd_T55 l0 x13_1).f3) == ((rd_T55 l1 x13_1).f3)) || (!(((rd_T55 l0 x13_1).f4) == ((rd_T55 l1 x13_1).f4))))))) = true
     ·rw [if_pos c8] at H; have c8b0 : (!((((rd_T55 l0 x13_1).f0).toList) == (((rd_T55 l1 x13_1).f0).toList)) || (!(((rd_T55 l0 x13_1).f1) == ((rd_T55 l1 x13_1).f1)) || (!(((rd_T55 l0 x13_1).f2) == ((rd_T55 l1 x13_1).f2)) || (!(((rd_T55 l0 x13_1).f3) == ((rd_T55 l1 x13_1).f3)) || (!(((rd_T55 l0 x13_1).f4) == ((rd_T55 l1 x13_1).f4))))))) = true := c8; clear c8; obtain rfl := in_ H; have p795 : 0 ≤ (x13_1 : Int) := od_; have q795 : x13_1 < (l0.length : Int) := od_; obtain ⟨ad795, e795, hx795_0, hx795_1, hx795_2, hx795_3, hx795_4⟩ := at_T55 HR0.1 x13_1 p795 q795
      cases e795
      replace p795 := eq_true p795; replace q795 := eq_true q795; have p796 : 0 ≤ (x13_1 : Int) := od_; have q796 : x13_1 < (l1.length : Int) := od_; obtain ⟨ad796, e796, hx796_0, hx796_1, hx796_2, hx796_3, hx796_4⟩ := at_T55 HR1.1 x13_1 p796 q796
      cases e796
      replace p796 := eq_true p796; replace q796 := eq_true q796
      go_wp2
      repeat (go_quiet (fail); try go_wp2)
      go_ret
      exact ⟨by first | rfl | (simp; done) | (simp [*]; done), by repeat (first | exact Drawn0.refl _ | apply Drawn0.step)⟩
     ·rw [if_neg c8] at H; have c8b0 : (!((((rd_T55 l0 x13_1).f0).toList) == (((rd_T55 l1 x13_1).f0).toList)) || (!(((rd_T55 l0 x13_1).f1) == ((rd_T55 l1 x13_1).f1)) || (!(((rd_T55 l0 x13_1).f2) == ((rd_T55 l1 x13_1).f2)) || (!(((rd_T55 l0 x13_1).f3) == ((rd_T55 l1 x13_1).f3)) || (!(((rd_T55 l0 x13_1).f4) == ((rd_T55 l1 x13_1).f4))))))) = false := by simpa using c8
      clear c8; have H' := am_ H; clear H; have p795 : 0 ≤ (x13_1 : Int) := od_; have q795 : x13_1 < (l0.length : Int) := od_; obtain ⟨ad795, e795, hx795_0, hx795_1, hx795_2, hx795_3, hx795_4⟩ := at_T55 HR0.1 x13_1 p795 q795
      cases e795
      replace p795 := eq_true p795; replace q795 := eq_true q795; have p796 : 0 ≤ (x13_1 : Int) := od_; have q796 : x13_1 < (l1.length : Int) := od_; obtain ⟨ad796, e796, hx796_0, hx796_1, hx796_2, hx796_3, hx796_4⟩ := at_T55 HR1.1 x13_1 p796 q796
      cases e796
      replace p796 := eq_true p796; replace q796 := eq_true q796
      go_wp2
      repeat (go_quiet (fail); try go_wp2)
      go_roundg k1
      case measure => exact m1_ HK1
      case rel => exact ⟨_, rs_, H', ⟨m1_ HK1⟩, by repeat (first | exact Drawn0.refl _ | apply Drawn0.step)⟩
    ·rw [if_neg c4] at H; have c4b0 := df_ c4; clear c4; obtain rfl := in_ H
     go_wp2
     repeat (go_quiet (fail); try go_wp2)
     go_ret
     exact ⟨by first | rfl | (simp; done) | (simp [*]; done), by repeat (first | exact Drawn0.refl _ | apply Drawn0.step)⟩
 ·rw [if_neg c3] at H; have ⟨c3b0, c3b1⟩ := bq6_ c3; have c3b2 : (l0.length == l1.length) = false := by first | simpa using c3 | (simp at c3 ⊢; omega)
  obtain rfl := in_ H
  go_enter Try.func37, Try.ntmps37
  go_wp2
  repeat (go_quiet (fail); try go_wp2)
  go_ret
  exact ⟨by first | rfl | (simp; done) | (simp [*]; done), by repeat (first | exact Drawn0.refl _ | apply Drawn0.step)⟩
def impl_HintFits.f (k : Nat) (a0 : Int) (a1 : ByteArray) (a2_0 : Int) (a2_1 : Int) (l2_2 : List (S55)) : Option (Bool) := (impl_HintOf.f k a0 a1).bind fun bt798 => (if bt798.2.2.2 = true then (if bt798.1 = a2_0 then (if bt798.2.1 = a2_1 then ((impl_SameDir.f k bt798.2.2.1 l2_2).bind fun t805 => (some t805)) else (some false)) else (some false)) else (some false))
theorem impl_HintFits.calls {k : Nat} {a0 : Int} {a1 : ByteArray} {a2_0 a2_1 : Int} {l2_2 : List (S55)} {r : Bool} {w : World} (A2_2 : Option Addr) (c2_2 : Nat) (h : impl_HintFits.f k a0 a1 a2_0 a2_1 l2_2 = some r) (hr2_2 : Kd.C k55 w A2_2 l2_2.length l2_2 := by exact sr_) (hc2_2 : l2_2.length ≤ c2_2 := by exact sc_) :
  Calls Try.prog 12 #[.int .i64 a0, .string a1, .agg #[.int .i64 a2_0, .int .i64 a2_1, .slice A2_2 l2_2.length c2_2]] w fun e w' => e = .returned (.bool r) ∧ Below w.heap.size w w' := by
 have hu26 := Try.underlying26; have HR2_2 := am_ hr2_2; have HC2_2 := am_ hc2_2; clear hr2_2 hc2_2; have HB := am_ (Below.refl w.heap.size w); unfold impl_HintFits.f at h; have H := h; clear h; replace H := bnd_ H; obtain ⟨⟨t798, t799, t800, t803⟩, A4, H⟩ := H; by_cases c5 : t803 = true
 ·subst c5; rw [if_pos rfl] at H; by_cases c6 : t798 = a2_0
  ·rw [if_pos c6] at H; have ⟨c6b0, c6b1⟩ := bq5_ c6; clear c6; by_cases c7 : t799 = a2_1
   ·rw [if_pos c7] at H; have ⟨c7b0, c7b1⟩ := bq5_ c7; clear c7; replace H := bnd_ H; obtain ⟨t805, A8, H⟩ := H; obtain rfl := in_ H
    go_enter Try.func12, Try.ntmps12
    go_wp2_with (first | (refine gd_ 5 ?_; refine bx1_ 5 #[.int .i64 a2_0, .int .i64 a2_1, .slice A2_2 l2_2.length c2_2] 26 ?_; intro gb797 hg w9 hbox hb; have BK797 := am_ hbox; have GE797 := gx_ hg HB; replace HB := bx_ HB hb; clear hb hbox hg) | (refine gc_ 12 Try.func11 ?_; refine ch_ (impl_HintOf.calls A4.1) ?_; rintro e w10 ⟨v801, rfl, ho0, hb⟩; refine ⟨_, rfl, ?_⟩; have HO802 := rm_ ho0 HB; replace BK797 := bb_ BK797 hb; replace HB := bx_ HB hb; clear hb ho0) | (refine gd_ 7 ?_; refine bx1_ 7 #[.int .i64 0, .int .i64 0, .slice none 0 0] 26 ?_; intro gb804 hg w11 hbox hb; replace HO802 := rb_ HO802 hb; have BK804 := am_ hbox; have GE804 := gx_ hg HB; replace HB := bx_ HB hb; have ⟨NB797_804, NB804_797⟩ := nn_ BK797 hg; replace BK797 := bb_ BK797 hb; clear hb hbox hg; have := NB804_797.1; have := NB797_804.1; obtain ⟨_, _, _, _, _, _⟩ := bc3_ BK804; obtain ⟨Ao14, co14, eo14⟩ := Kd.R_slice HO802.1; subst eo14; obtain ⟨_, _, _, _, _, _⟩ := bc3_ BK797) | (go_at_call 37; refine cm_ (impl_SameDir.calls _ _ _ _ A8.1 (hr0 := rz_ HO802 BK804) (hr1 := (Kd.C_below HR2_2.1 (hu_ HB GE797 GE804)))) ?_; rintro e w' ⟨rfl, ⟨nd, rfl⟩⟩))
    go_ret
    exact ⟨re_, hz_ HB⟩
   ·rw [if_neg c7] at H; have ⟨c7b0, c7b1⟩ := bq6_ c7; obtain rfl := in_ H
    go_enter Try.func12, Try.ntmps12
    go_wp2_with (first | (refine gd_ 5 ?_; refine bx1_ 5 #[.int .i64 a2_0, .int .i64 a2_1, .slice A2_2 l2_2.length c2_2] 26 ?_; intro gb797 hg w16 hbox hb; have BK797 := am_ hbox; have GE797 := gx_ hg HB; replace HB := bx_ HB hb; clear hb hbox hg) | (refine gc_ 12 Try.func11 ?_; refine ch_ (impl_HintOf.calls A4.1) ?_; rintro e w17 ⟨v801, rfl, ho0, hb⟩; refine ⟨_, rfl, ?_⟩; have HO802 := rm_ ho0 HB; replace BK797 := bb_ BK797 hb; replace HB := bx_ HB hb; clear hb ho0) | (refine gd_ 7 ?_; refine bx1_ 7 #[.int .i64 0, .int .i64 0, .slice none 0 0] 26 ?_; intro gb804 hg w18 hbox hb; replace HO802 := rb_ HO802 hb; have BK804 := am_ hbox; have GE804 := gx_ hg HB; replace HB := bx_ HB hb; have ⟨NB797_804, NB804_797⟩ := nn_ BK797 hg; replace BK797 := bb_ BK797 hb; clear hb hbox hg; have := NB804_797.1; have := NB797_804.1; obtain ⟨_, _, _, _, _, _⟩ := bc3_ BK804; obtain ⟨Ao21, co21, eo21⟩ := Kd.R_slice HO802.1; subst eo21; obtain ⟨_, _, _, _, _, _⟩ := bc3_ BK797))
    go_ret
    exact ⟨re_, hz_ HB⟩
  ·rw [if_neg c6] at H; have ⟨c6b0, c6b1⟩ := bq6_ c6; obtain rfl := in_ H
   go_enter Try.func12, Try.ntmps12
   go_wp2_with (first | (refine gd_ 5 ?_; refine bx1_ 5 #[.int .i64 a2_0, .int .i64 a2_1, .slice A2_2 l2_2.length c2_2] 26 ?_; intro gb797 hg w23 hbox hb; have BK797 := am_ hbox; have GE797 := gx_ hg HB; replace HB := bx_ HB hb; clear hb hbox hg) | (refine gc_ 12 Try.func11 ?_; refine ch_ (impl_HintOf.calls A4.1) ?_; rintro e w24 ⟨v801, rfl, ho0, hb⟩; refine ⟨_, rfl, ?_⟩; have HO802 := rm_ ho0 HB; replace BK797 := bb_ BK797 hb; replace HB := bx_ HB hb; clear hb ho0) | (refine gd_ 7 ?_; refine bx1_ 7 #[.int .i64 0, .int .i64 0, .slice none 0 0] 26 ?_; intro gb804 hg w25 hbox hb; replace HO802 := rb_ HO802 hb; have BK804 := am_ hbox; have GE804 := gx_ hg HB; replace HB := bx_ HB hb; have ⟨NB797_804, NB804_797⟩ := nn_ BK797 hg; replace BK797 := bb_ BK797 hb; clear hb hbox hg; have := NB804_797.1; have := NB797_804.1; obtain ⟨_, _, _, _, _, _⟩ := bc3_ BK804; obtain ⟨Ao28, co28, eo28⟩ := Kd.R_slice HO802.1; subst eo28; obtain ⟨_, _, _, _, _, _⟩ := bc3_ BK797))
   go_ret
   exact ⟨re_, hz_ HB⟩
 ·replace c5 := bF_ c5; subst c5; rw [if_neg ff_] at H; obtain rfl := in_ H
  go_enter Try.func12, Try.ntmps12
  go_wp2_with (first | (refine gd_ 5 ?_; refine bx1_ 5 #[.int .i64 a2_0, .int .i64 a2_1, .slice A2_2 l2_2.length c2_2] 26 ?_; intro gb797 hg w30 hbox hb; have BK797 := am_ hbox; have GE797 := gx_ hg HB; replace HB := bx_ HB hb; clear hb hbox hg) | (refine gc_ 12 Try.func11 ?_; refine ch_ (impl_HintOf.calls A4.1) ?_; rintro e w31 ⟨v801, rfl, ho0, hb⟩; refine ⟨_, rfl, ?_⟩; have HO802 := rm_ ho0 HB; replace BK797 := bb_ BK797 hb; replace HB := bx_ HB hb; clear hb ho0) | (refine gd_ 7 ?_; refine bx1_ 7 #[.int .i64 0, .int .i64 0, .slice none 0 0] 26 ?_; intro gb804 hg w32 hbox hb; replace HO802 := rb_ HO802 hb; have BK804 := am_ hbox; have GE804 := gx_ hg HB; replace HB := bx_ HB hb; have ⟨NB797_804, NB804_797⟩ := nn_ BK797 hg; replace BK797 := bb_ BK797 hb; clear hb hbox hg; have := NB804_797.1; have := NB797_804.1; obtain ⟨_, _, _, _, _, _⟩ := bc3_ BK804; obtain ⟨Ao35, co35, eo35⟩ := Kd.R_slice HO802.1; subst eo35))
  go_ret
  exact ⟨re_, hz_ HB⟩
end
mutual
def spec_l9Of.l0 : Nat → List (S45) → Int → Int → List (S45) → Int → Option ((List (S45)))
 | 0, _, _, _, _, _ => none
 | k + 1, x0, x1, x2, x7, x8 => if x8 < x1 then (if 0 ≤ x8 then (if x8 < (x0.length : Int) then (if ((rd_T45 x0 x8).f3.f1) = x2 then (spec_l9Of.j1 k x0 x1 x2 x7 x8 (((rd_T45 x0 x8).f3.f0) == 3) ((rd_T45 x0 x8).f3.f0) ((rd_T45 x0 x8).f3.f1) ((rd_T45 x0 x8).f3.f2) ((rd_T45 x0 x8).f3.f3) ((rd_T45 x0 x8).f3.f4) ((rd_T45 x0 x8).f3.f5)) else (spec_l9Of.j1 k x0 x1 x2 x7 x8 false ((rd_T45 x0 x8).f3.f0) ((rd_T45 x0 x8).f3.f1) ((rd_T45 x0 x8).f3.f2) ((rd_T45 x0 x8).f3.f3) ((rd_T45 x0 x8).f3.f4) ((rd_T45 x0 x8).f3.f5))) else (none)) else (none)) else (some x7)
def spec_l9Of.j1 : Nat → List (S45) → Int → Int → List (S45) → Int → Bool → Int → Int → ByteArray → ByteArray → Int → Int → Option ((List (S45)))
 | 0, _, _, _, _, _, _, _, _, _, _, _, _ => none
 | k + 1, x0, x1, x2, x7, x8, x29, x811000, x811001, x811002, x811003, x811004, x811005 => if x29 = true then (spec_l9Of.j2 k x0 x1 x2 (([] : List (S45))) x8 x811000 x811001 x811002 x811003 x811004 x811005) else (spec_l9Of.j2 k x0 x1 x2 x7 x8 x811000 x811001 x811002 x811003 x811004 x811005)
def spec_l9Of.j2 : Nat → List (S45) → Int → Int → List (S45) → Int → Int → Int → ByteArray → ByteArray → Int → Int → Option ((List (S45)))
 | 0, _, _, _, _, _, _, _, _, _, _, _ => none
 | k + 1, x0, x1, x2, x7, x8, x811000, x811001, x811002, x811003, x811004, x811005 => if x811001 = x2 then (if x811000 = 1 then (spec_l9Of.j3 k x0 x1 x2 x7 x8 true) else (spec_l9Of.j3 k x0 x1 x2 x7 x8 (x811000 == 2))) else (spec_l9Of.j3 k x0 x1 x2 x7 x8 false)
def spec_l9Of.j3 : Nat → List (S45) → Int → Int → List (S45) → Int → Bool → Option ((List (S45)))
 | 0, _, _, _, _, _, _ => none
 | k + 1, x0, x1, x2, x7, x8, x44 => if x44 = true then (if 0 ≤ x8 then (if x8 < (x0.length : Int) then (if x7.length < 1599289640401 then (spec_l9Of.l0 k x0 x1 x2 (x7 ++ [(⟨(rd_T45 x0 x8).f0, (rd_T45 x0 x8).f1, (rd_T45 x0 x8).f2, (⟨(rd_T45 x0 x8).f3.f0, (rd_T45 x0 x8).f3.f1, (rd_T45 x0 x8).f3.f2, (rd_T45 x0 x8).f3.f3, (rd_T45 x0 x8).f3.f4, (rd_T45 x0 x8).f3.f5⟩ : S41)⟩ : S45)]) (wrap64 (x8 + 1))) else (none)) else (none)) else (none)) else (spec_l9Of.l0 k x0 x1 x2 x7 (wrap64 (x8 + 1)))
end
def spec_l9Of.f (k : Nat) (l0 : List (S45)) (a1 : Int) (a2 : Int) : Option ((List (S45))) := spec_l9Of.l0 k l0 a1 a2 (([] : List (S45))) 0
theorem spec_l9Of.calls {k : Nat} {l0 : List (S45)} {a1 a2 : Int} {r : List (S45)} {w : World} (A0 : Option Addr) (c0 : Nat) (h : spec_l9Of.f k l0 a1 a2 = some r) (hr0 : Kd.C k45 w A0 l0.length l0 := by exact sr_) (hc0 : l0.length ≤ c0 := by exact sc_) :
  Calls Try.prog 40 #[.slice A0 l0.length c0, .int .i64 a1, .int .i64 a2] w fun e w' => ∃ v0_ : Value, e = .returned (v0_) ∧ Kd.R k45 45 w' w.heap.size (fun _ => True) v0_ r ∧ Below w.heap.size w w' := by
 have hu41 := Try.underlying41; have hu45 := Try.underlying45; have HR0 := am_ hr0; have HC0 := am_ hc0; clear hr0 hc0; have HB := am_ (Below.refl w.heap.size w); unfold spec_l9Of.f at h; have H := h; clear h; obtain ⟨y806, hy806⟩ : ∃ y_ : List (S45), y_ = (([] : List (S45))) := ⟨_, rfl⟩
 replace H : (spec_l9Of.l0 k l0 a1 a2 y806 0) = some r := by first | (rw [hy806]; with_reducible exact H) | (have H2_ := (Option.bind_some _ _).symm.trans H; rw [hy806]; with_reducible exact H2_) | (have H2_ := (Option.bind_some _ _).symm.trans H; with_reducible exact H2_) | with_reducible exact H | (rw [hy806]; exact H) | exact H
 have Ny806 := am_ hy806; clear hy806; have H' := am_ H; clear H
 go_enter Try.func40, Try.ntmps40
 go_wp2_with (refine gd_ 10 ?_; refine li_ 10 k45 45 ([] : List (S45)) [] ?_; intro v807 w4 ho5 hb hg_ hnew_; clear hg_ hnew_; (first | rw [← Ny806.1] at ho5 | (simp only [Int.reduceToNat] at ho5; rw [← Ny806.1] at ho5)); have HO808 := rm_ ho5 HB; replace HB := bx_ HB hb; clear hb ho5)
 go_loopg [7, 8] k (fun kq v7 v8 w' => ∃ (x7_1 : List (S45)) (x8_1 : Int), v8 = .int .i64 x8_1 ∧ Aside0 (spec_l9Of.l0 kq l0 a1 a2 x7_1 x8_1 = some r) ∧ Aside0 (kq ≤ k) ∧ Aside0 (Kd.R k45 45 w' w.heap.size (fun _ => True) v7 x7_1) ∧ Aside0 (Below w.heap.size w w'))
 case atStart => exact ⟨_, _, rs_, H', ⟨Nat.le_refl _⟩, ⟨rr_ HO808⟩, ⟨hb_ HB⟩⟩
 case round =>
  clear H'; obtain ⟨x7_1, x8_1, rfl, HA, HK1, HO_7, HB⟩ := hrel
  cases gk with
  | zero => exact zz_ HA
  | succ k1 =>
   have H := HA.1; clear HA; simp only [spec_l9Of.l0] at H; by_cases c6 : x8_1 < a1
   ·rw [if_pos c6] at H; have c6b0 := dq_ c6; clear c6; replace H := ih_ H; obtain ⟨c7, H⟩ := H; have c7b0 := dq_ c7; clear c7; replace H := ih_ H; obtain ⟨c8, H⟩ := H; have c8b0 := dq_ c8; clear c8; have HC9 := am_ H; clear H; have p809 : 0 ≤ (x8_1 : Int) := od_; have q809 : x8_1 < (l0.length : Int) := od_; obtain ⟨ad809, e809, hx809_0, hx809_1, hx809_2, hx809_3, hx809_4, hx809_5, hx809_6, hx809_7, hx809_8⟩ := at_T45 HR0.1 x8_1 p809 q809
    cases e809
    (try replace hx809_0 := cb_ HB hx809_0)
    (try replace hx809_1 := cb_ HB hx809_1)
    (try replace hx809_2 := cb_ HB hx809_2)
    (try replace hx809_3 := cb_ HB hx809_3)
    (try replace hx809_4 := cb_ HB hx809_4)
    (try replace hx809_5 := cb_ HB hx809_5)
    (try replace hx809_6 := cb_ HB hx809_6)
    (try replace hx809_7 := cb_ HB hx809_7)
    (try replace hx809_8 := cb_ HB hx809_8)
    replace p809 := eq_true p809; replace q809 := eq_true q809
    go_upto_region 6 with ((with_reducible refine gd_ 9 ?_); refine bx1_ 9 #[.int .i64 0, .int .i64 0, .string (⟨#[]⟩ : ByteArray), .string (⟨#[]⟩ : ByteArray), .int .i64 0, .int .i64 0] 41 ?_; intro gb810 hg w10 hbox hb; replace HO_7 := rb_ HO_7 hb; have BK810 := am_ hbox; have GE810 := gx_ hg HB; replace HB := bx_ HB hb; (try replace hx809_0 := cx_ hb hx809_0); (try replace hx809_1 := cx_ hb hx809_1); (try replace hx809_2 := cx_ hb hx809_2); (try replace hx809_3 := cx_ hb hx809_3); (try replace hx809_4 := cx_ hb hx809_4); (try replace hx809_5 := cx_ hb hx809_5); (try replace hx809_6 := cx_ hb hx809_6); (try replace hx809_7 := cx_ hb hx809_7); (try replace hx809_8 := cx_ hb hx809_8); clear hb hbox hg; obtain ⟨Z11_0, Z11_1, Z11_2, Z11_3, Z11_4, Z11_5, F11_0, F11_1, F11_2, F11_3, F11_4, F11_5⟩ := bc6_ BK810)
    (try simp only [Act.put, la_, lz_, ls_])
    go_cut [29] (fun v29 wc => ∃ (kq : Nat) (x29_8 : Bool), v29 = .bool x29_8 ∧ Aside0 (spec_l9Of.j1 kq l0 a1 a2 x7_1 x8_1 x29_8 ((rd_T45 l0 x8_1).f3.f0) ((rd_T45 l0 x8_1).f3.f1) ((rd_T45 l0 x8_1).f3.f2) ((rd_T45 l0 x8_1).f3.f3) ((rd_T45 l0 x8_1).f3.f4) ((rd_T45 l0 x8_1).f3.f5) = some r) ∧ Aside0 (kq ≤ k1) ∧ Aside0 (Kd.R k45 45 wc w.heap.size (fun _ => True) u7 x7_1) ∧ Aside0 (wc.heap[gb810]? = some (.cells #[.int .i64 ((rd_T45 l0 x8_1).f3.f0), .int .i64 ((rd_T45 l0 x8_1).f3.f1), .string ((rd_T45 l0 x8_1).f3.f2), .string ((rd_T45 l0 x8_1).f3.f3), .int .i64 ((rd_T45 l0 x8_1).f3.f4), .int .i64 ((rd_T45 l0 x8_1).f3.f5)] 41 (0, 0))) ∧ Aside0 (Below w.heap.size w wc))
    case first =>
     have H := HC9.1; clear HC9; by_cases c12 : ((rd_T45 l0 x8_1).f3.f1) = a2
     ·rw [if_pos c12] at H; have ⟨c12b0, c12b1⟩ := bq5_ c12; clear c12
      (first | rw [c12b0] | (simp only [i64_w, i32_w]; rw [c12b0]) | skip)
      have H' := am_ H; clear H; obtain ⟨_, _, _, _, _, _, _, _, _, _, _, _⟩ := bc6_ BK810
      go_wp2
      go_meet
      case rel => exact ⟨_, _, rs_, H', ⟨m1_ HK1⟩, ⟨rf_ HO_7 BK810⟩, ⟨uk_ BK810⟩, ⟨hs_ HB GE810⟩⟩
     ·rw [if_neg c12] at H; have ⟨c12b0, c12b1⟩ := bq6_ c12
      (first | rw [c12b0] | (simp only [i64_w, i32_w]; rw [c12b0]) | skip)
      have H' := am_ H; clear H; obtain ⟨_, _, _, _, _, _, _, _, _, _, _, _⟩ := bc6_ BK810
      go_wp2
      go_meet
      case rel => exact ⟨_, _, rs_, H', ⟨m1_ HK1⟩, ⟨rf_ HO_7 BK810⟩, ⟨uk_ BK810⟩, ⟨hs_ HB GE810⟩⟩
    case rest =>
     clear HC9
     (try clear c6); (try clear c6b0); (try clear c7); (try clear c7b0); (try clear c8); (try clear c8b0); (try clear c12); (try clear c12b0); (try clear c12b1); (try clear hx809_0); (try clear hx809_1); (try clear hx809_2); (try clear hx809_3); (try clear hx809_4); (try clear hx809_5); (try clear hx809_6); (try clear hx809_7); (try clear hx809_8); (try clear p809); (try clear q809)
     obtain ⟨kq, x29_8, rfl, HA, HJ8, HO_7, BK810, HB⟩ := hcut
     cases kq with
     | zero => exact zz_ HA
     | succ kj8 =>
      have H := HA.1; clear HA; simp only [spec_l9Of.j1] at H; have HC15 := am_ H; clear H
      go_upto_if 29 with (fail)
      go_cut [7] (fun v7 wc => ∃ (kq : Nat) (x7_14 : List (S45)), Aside0 (spec_l9Of.j2 kq l0 a1 a2 x7_14 x8_1 ((rd_T45 l0 x8_1).f3.f0) ((rd_T45 l0 x8_1).f3.f1) ((rd_T45 l0 x8_1).f3.f2) ((rd_T45 l0 x8_1).f3.f3) ((rd_T45 l0 x8_1).f3.f4) ((rd_T45 l0 x8_1).f3.f5) = some r) ∧ Aside0 (kq ≤ kj8) ∧ Aside0 (Kd.R k45 45 wc w.heap.size (fun _ => True) v7 x7_14) ∧ Aside0 (wc.heap[gb810]? = some (.cells #[.int .i64 ((rd_T45 l0 x8_1).f3.f0), .int .i64 ((rd_T45 l0 x8_1).f3.f1), .string ((rd_T45 l0 x8_1).f3.f2), .string ((rd_T45 l0 x8_1).f3.f3), .int .i64 ((rd_T45 l0 x8_1).f3.f4), .int .i64 ((rd_T45 l0 x8_1).f3.f5)] 41 (0, 0))) ∧ Aside0 (Below w.heap.size w wc))
      case first =>
       have H := HC15.1; clear HC15; by_cases c16 : x29_8 = true
       ·subst c16; rw [if_pos rfl] at H; obtain ⟨y811, hy811⟩ : ∃ y_ : List (S45), y_ = (([] : List (S45))) := ⟨_, rfl⟩
        replace H : (spec_l9Of.j2 kj8 l0 a1 a2 y811 x8_1 ((rd_T45 l0 x8_1).f3.f0) ((rd_T45 l0 x8_1).f3.f1) ((rd_T45 l0 x8_1).f3.f2) ((rd_T45 l0 x8_1).f3.f3) ((rd_T45 l0 x8_1).f3.f4) ((rd_T45 l0 x8_1).f3.f5)) = some r := by first | (rw [hy811]; with_reducible exact H) | (have H2_ := (Option.bind_some _ _).symm.trans H; rw [hy811]; with_reducible exact H2_) | (have H2_ := (Option.bind_some _ _).symm.trans H; with_reducible exact H2_) | with_reducible exact H | (rw [hy811]; exact H) | exact H
        have Ny811 := am_ hy811; clear hy811; have H' := am_ H; clear H
        go_wp2_with (refine gd_ 30 ?_; refine li_ 30 k45 45 ([] : List (S45)) [] ?_; intro v812 w17 ho18 hb hg_ hnew_; clear hg_ hnew_; (first | rw [← Ny811.1] at ho18 | (simp only [Int.reduceToNat] at ho18; rw [← Ny811.1] at ho18)); have HO813 := am_ (Kd.R_lower (Kd.R_new' ho18 (Kd.R_lt (rr_ HO_7))) (below_size (hs_ HB GE810))); replace HO_7 := am_ (Kd.R_elder' (rr_ HO_7) (Kd.R_base ho18) hb); replace BK810 := bb_ BK810 hb; replace HB := bx_ HB hb; clear hb ho18)
        go_meet
        case rel => exact ⟨_, _, H', ⟨m2_ HK1 HJ8⟩, ⟨by (with_reducible repeat (first | apply Kd.R_alloc | apply Kd.R_drewN | apply Kd.R_drew)); exact Kd.R_mono HO813.1 (fun _ hk => trivial)⟩, ⟨bk_ BK810⟩, ⟨hs_ HB GE810⟩⟩
       ·replace c16 := bF_ c16; subst c16; rw [if_neg ff_] at H; have H' := am_ H; clear H
        go_wp2
        go_meet
        case rel => exact ⟨_, _, H', ⟨m2_ HK1 HJ8⟩, ⟨rr_ HO_7⟩, ⟨bk_ BK810⟩, ⟨hs_ HB GE810⟩⟩
      case rest =>
       clear HC15
       (try clear c6); (try clear c6b0); (try clear c7); (try clear c7b0); (try clear c8); (try clear c8b0); (try clear c12); (try clear c12b0); (try clear c12b1); (try clear c16); (try clear hx809_0); (try clear hx809_1); (try clear hx809_2); (try clear hx809_3); (try clear hx809_4); (try clear hx809_5); (try clear hx809_6); (try clear hx809_7); (try clear hx809_8); (try clear p809); (try clear q809)
       obtain ⟨kq, x7_14, HA, HJ14, HO_7, BK810, HB⟩ := hcut
       cases kq with
       | zero => exact zz_ HA
       | succ kj14 =>
        have H := HA.1; clear HA; simp only [spec_l9Of.j2] at H; have HC19 := am_ H; clear H
        go_upto_region 8 with (fail)
        go_cut [44] (fun v44 wc => ∃ (kq : Nat) (x44_18 : Bool), v44 = .bool x44_18 ∧ Aside0 (spec_l9Of.j3 kq l0 a1 a2 x7_14 x8_1 x44_18 = some r) ∧ Aside0 (kq ≤ kj14) ∧ Aside0 (Kd.R k45 45 wc w.heap.size (fun _ => True) u7 x7_14) ∧ Aside0 (wc.heap[gb810]? = some (.cells #[.int .i64 ((rd_T45 l0 x8_1).f3.f0), .int .i64 ((rd_T45 l0 x8_1).f3.f1), .string ((rd_T45 l0 x8_1).f3.f2), .string ((rd_T45 l0 x8_1).f3.f3), .int .i64 ((rd_T45 l0 x8_1).f3.f4), .int .i64 ((rd_T45 l0 x8_1).f3.f5)] 41 (0, 0))) ∧ Aside0 (Below w.heap.size w wc))
        case first =>
         have H := HC19.1; clear HC19; by_cases c20 : ((rd_T45 l0 x8_1).f3.f1) = a2
         ·rw [if_pos c20] at H; have ⟨c20b0, c20b1⟩ := bq5_ c20; clear c20
          (first | rw [c20b0] | (simp only [i64_w, i32_w]; rw [c20b0]) | skip)
          by_cases c21 : ((rd_T45 l0 x8_1).f3.f0) = 1
          ·rw [if_pos c21] at H; have ⟨c21b0, c21b1⟩ := bq5_ c21; clear c21; have H' := am_ H; clear H; obtain ⟨_, _, _, _, _, _, _, _, _, _, _, _⟩ := bc6_ BK810
           go_wp2
           go_meet
           case rel => exact ⟨_, _, rs_, H', ⟨m3_ HK1 HJ8 HJ14⟩, ⟨rr_ HO_7⟩, ⟨bk_ BK810⟩, ⟨hs_ HB GE810⟩⟩
          ·rw [if_neg c21] at H; have ⟨c21b0, c21b1⟩ := bq6_ c21; have H' := am_ H; clear H; obtain ⟨_, _, _, _, _, _, _, _, _, _, _, _⟩ := bc6_ BK810
           go_wp2
           go_meet
           case rel => exact ⟨_, _, rs_, H', ⟨m3_ HK1 HJ8 HJ14⟩, ⟨rr_ HO_7⟩, ⟨bk_ BK810⟩, ⟨hs_ HB GE810⟩⟩
         ·rw [if_neg c20] at H; have ⟨c20b0, c20b1⟩ := bq6_ c20
          (first | rw [c20b0] | (simp only [i64_w, i32_w]; rw [c20b0]) | skip)
          have H' := am_ H; clear H; obtain ⟨_, _, _, _, _, _, _, _, _, _, _, _⟩ := bc6_ BK810
          go_wp2
          go_meet
          case rel => exact ⟨_, _, rs_, H', ⟨m3_ HK1 HJ8 HJ14⟩, ⟨rr_ HO_7⟩, ⟨bk_ BK810⟩, ⟨hs_ HB GE810⟩⟩
        case rest =>
         clear HC19
         (try clear c6); (try clear c6b0); (try clear c7); (try clear c7b0); (try clear c8); (try clear c8b0); (try clear c12); (try clear c12b0); (try clear c12b1); (try clear c16); (try clear c20); (try clear c20b0); (try clear c20b1); (try clear c21); (try clear c21b0); (try clear c21b1); (try clear hx809_0); (try clear hx809_1); (try clear hx809_2); (try clear hx809_3); (try clear hx809_4); (try clear hx809_5); (try clear hx809_6); (try clear hx809_7); (try clear hx809_8); (try clear p809); (try clear q809)
         obtain ⟨kq, x44_18, rfl, HA, HJ18, HO_7, BK810, HB⟩ := hcut
         cases kq with
         | zero => exact zz_ HA
         | succ kj18 =>
          have H := HA.1; clear HA; simp only [spec_l9Of.j3] at H; by_cases c25 : x44_18 = true
          ·subst c25; rw [if_pos rfl] at H; replace H := ih_ H; obtain ⟨c26, H⟩ := H; have c26b0 := dq_ c26; clear c26; replace H := ih_ H; obtain ⟨c27, H⟩ := H; have c27b0 := dq_ c27; clear c27; replace H := il_ H; obtain ⟨LMc28, H⟩ := H; obtain ⟨y815, hy815⟩ : ∃ y_ : List (S45), y_ = (x7_14 ++ [(⟨(rd_T45 l0 x8_1).f0, (rd_T45 l0 x8_1).f1, (rd_T45 l0 x8_1).f2, (⟨(rd_T45 l0 x8_1).f3.f0, (rd_T45 l0 x8_1).f3.f1, (rd_T45 l0 x8_1).f3.f2, (rd_T45 l0 x8_1).f3.f3, (rd_T45 l0 x8_1).f3.f4, (rd_T45 l0 x8_1).f3.f5⟩ : S41)⟩ : S45)]) := ⟨_, rfl⟩
           rw [← hy815] at H; have Ny815 := am_ hy815; clear hy815; have H' := am_ H; clear H; have p814 : 0 ≤ (x8_1 : Int) := od_; have q814 : x8_1 < (l0.length : Int) := od_; obtain ⟨ad814, e814, hx814_0, hx814_1, hx814_2, hx814_3, hx814_4, hx814_5, hx814_6, hx814_7, hx814_8⟩ := at_T45 HR0.1 x8_1 p814 q814; obtain rfl : ad809 = ad814 := (by injection e814)
           (try replace hx814_0 := cb_ HB hx814_0)
           (try replace hx814_1 := cb_ HB hx814_1)
           (try replace hx814_2 := cb_ HB hx814_2)
           (try replace hx814_3 := cb_ HB hx814_3)
           (try replace hx814_4 := cb_ HB hx814_4)
           (try replace hx814_5 := cb_ HB hx814_5)
           (try replace hx814_6 := cb_ HB hx814_6)
           (try replace hx814_7 := cb_ HB hx814_7)
           (try replace hx814_8 := cb_ HB hx814_8)
           replace p814 := eq_true p814; replace q814 := eq_true q814
           go_wp2_with (at_builtin; refine gb_ #[.tmp 45, .tmp 50] ?_; refine Kd.R_append k45 (w0 := w) w.heap.size rfl (.tmp 45) (.tmp 50) 36 45 (.agg #[(.int .i64 0), (.int .i64 0), (.int .i64 0), (.int .i64 0), (.int .i64 0), (.string ⟨#[]⟩), (.string ⟨#[]⟩), (.int .i64 0), (.int .i64 0)]) 88 rfl Try.underlying36 info45 rfl (by decide) (by omega) u7 x7_14 (⟨(rd_T45 l0 x8_1).f0, (rd_T45 l0 x8_1).f1, (rd_T45 l0 x8_1).f2, (⟨(rd_T45 l0 x8_1).f3.f0, (rd_T45 l0 x8_1).f3.f1, (rd_T45 l0 x8_1).f3.f2, (rd_T45 l0 x8_1).f3.f3, (rd_T45 l0 x8_1).f3.f4, (rd_T45 l0 x8_1).f3.f5⟩ : S41)⟩ : S45) [.int .i64 ((rd_T45 l0 x8_1).f0), .int .i64 ((rd_T45 l0 x8_1).f1), .int .i64 ((rd_T45 l0 x8_1).f2), .int .i64 ((rd_T45 l0 x8_1).f3.f0), .int .i64 ((rd_T45 l0 x8_1).f3.f1), .string ((rd_T45 l0 x8_1).f3.f2), .string ((rd_T45 l0 x8_1).f3.f3), .int .i64 ((rd_T45 l0 x8_1).f3.f4), .int .i64 ((rd_T45 l0 x8_1).f3.f5)] (fun _ => True) (fun _ => False) rfl rfl ?aP (fun _ hk => hk.elim) ?aF ?aO ?aB ?aS ?aL ?_; (case aP => exact k45_mkM _ _ _ (⟨(rd_T45 l0 x8_1).f0, (rd_T45 l0 x8_1).f1, (rd_T45 l0 x8_1).f2, (⟨(rd_T45 l0 x8_1).f3.f0, (rd_T45 l0 x8_1).f3.f1, (rd_T45 l0 x8_1).f3.f2, (rd_T45 l0 x8_1).f3.f3, (rd_T45 l0 x8_1).f3.f4, (rd_T45 l0 x8_1).f3.f5⟩ : S41)⟩ : S45)); (case aB => exact (hs_ HB GE810)); (case aF => exact (fun _ _ => trivial)); (case aO => exact (rr_ HO_7)); (case aS => exact (below_size (hs_ HB GE810))); (case aL => have := LMc28.1; omega); intro v816 w29 ho hb hg hat; rw [← Ny815.1] at ho; replace BK810 := bg_ BK810 hg (Kd.R_ne HO_7.1 BK810.1 (by decide)); replace HB := am_ hb; have HO817 := am_ ho; clear HO_7; clear ho hb hg hat)
           go_roundg kj18
           case measure => have := HK1.1; have := HJ8.1; have := HJ14.1; have := HJ18.1; omega
           case rel => exact ⟨_, _, rs_, H', ⟨by have := HK1.1; have := HJ8.1; have := HJ14.1; have := HJ18.1; omega⟩, ⟨rr_ HO817⟩, ⟨hs_ HB GE810⟩⟩
          ·replace c25 := bF_ c25; subst c25; rw [if_neg ff_] at H; have H' := am_ H; clear H
           go_wp2
           go_roundg kj18
           case measure => have := HK1.1; have := HJ8.1; have := HJ14.1; have := HJ18.1; omega
           case rel => exact ⟨_, _, rs_, H', ⟨by have := HK1.1; have := HJ8.1; have := HJ14.1; have := HJ18.1; omega⟩, ⟨rr_ HO_7⟩, ⟨hs_ HB GE810⟩⟩
   ·rw [if_neg c6] at H; have c6b0 := df_ c6; clear c6; obtain rfl := in_ H
    go_wp2
    go_ret
    exact ⟨_, re_, rr_ HO_7, hb_ HB⟩
def spec_l9Recs.l0 : Nat → List (S45) → List (S41) → Int → Option ((List (S41)))
 | 0, _, _, _ => none
 | k + 1, x0, x3, x4 => if x4 < (x0.length : Int) then (if 0 ≤ x4 then (if x3.length < 2199023255552 then (spec_l9Recs.l0 k x0 (x3 ++ [(⟨(rd_T45 x0 x4).f3.f0, (rd_T45 x0 x4).f3.f1, (rd_T45 x0 x4).f3.f2, (rd_T45 x0 x4).f3.f3, (rd_T45 x0 x4).f3.f4, (rd_T45 x0 x4).f3.f5⟩ : S41)]) (wrap64 (x4 + 1))) else (none)) else (none)) else (some x3)
def spec_l9Recs.f (k : Nat) (l0 : List (S45)) : Option ((List (S41))) := spec_l9Recs.l0 k l0 (([] : List (S41))) 0
theorem spec_l9Recs.calls {k : Nat} {l0 : List (S45)} {r : List (S41)} {w : World} (A0 : Option Addr) (c0 : Nat) (h : spec_l9Recs.f k l0 = some r) (hr0 : Kd.C k45 w A0 l0.length l0 := by exact sr_) (hc0 : l0.length ≤ c0 := by exact sc_) :
  Calls Try.prog 65 #[.slice A0 l0.length c0] w fun e w' => ∃ v0_ : Value, e = .returned (v0_) ∧ Kd.R k41 41 w' w.heap.size (fun _ => True) v0_ r ∧ Below w.heap.size w w' := by
 have hu41 := Try.underlying41; have HR0 := am_ hr0; have HC0 := am_ hc0; clear hr0 hc0; have HB := am_ (Below.refl w.heap.size w); unfold spec_l9Recs.f at h; have H := h; clear h; obtain ⟨y818, hy818⟩ : ∃ y_ : List (S41), y_ = (([] : List (S41))) := ⟨_, rfl⟩
 replace H : (spec_l9Recs.l0 k l0 y818 0) = some r := by first | (rw [hy818]; with_reducible exact H) | (have H2_ := (Option.bind_some _ _).symm.trans H; rw [hy818]; with_reducible exact H2_) | (have H2_ := (Option.bind_some _ _).symm.trans H; with_reducible exact H2_) | with_reducible exact H | (rw [hy818]; exact H) | exact H
 have Ny818 := am_ hy818; clear hy818; have H' := am_ H; clear H
 go_enter Try.func65, Try.ntmps65
 go_wp2_with (refine gd_ 5 ?_; refine li_ 5 k41 41 ([] : List (S41)) [] ?_; intro v819 w2 ho3 hb hg_ hnew_; clear hg_ hnew_; (first | rw [← Ny818.1] at ho3 | (simp only [Int.reduceToNat] at ho3; rw [← Ny818.1] at ho3)); have HO820 := rm_ ho3 HB; replace HB := bx_ HB hb; clear hb ho3)
 go_loopg [3, 4] k (fun kq v3 v4 w' => ∃ (x3_1 : List (S41)) (x4_1 : Int), v4 = .int .i64 x4_1 ∧ Aside0 (spec_l9Recs.l0 kq l0 x3_1 x4_1 = some r) ∧ Aside0 (kq ≤ k) ∧ Aside0 (Kd.R k41 41 w' w.heap.size (fun _ => True) v3 x3_1) ∧ Aside0 (Below w.heap.size w w'))
 case atStart => exact ⟨_, _, rs_, H', ⟨Nat.le_refl _⟩, ⟨rr_ HO820⟩, ⟨hb_ HB⟩⟩
 case round =>
  clear H'; obtain ⟨x3_1, x4_1, rfl, HA, HK1, HO_3, HB⟩ := hrel
  cases gk with
  | zero => exact zz_ HA
  | succ k1 =>
   have H := HA.1; clear HA; simp only [spec_l9Recs.l0] at H; by_cases c4 : x4_1 < (l0.length : Int)
   ·rw [if_pos c4] at H; have c4b0 := dq_ c4; clear c4; replace H := ih_ H; obtain ⟨c5, H⟩ := H; have c5b0 := dq_ c5; clear c5; replace H := il_ H; obtain ⟨LMc6, H⟩ := H; obtain ⟨y822, hy822⟩ : ∃ y_ : List (S41), y_ = (x3_1 ++ [(⟨(rd_T45 l0 x4_1).f3.f0, (rd_T45 l0 x4_1).f3.f1, (rd_T45 l0 x4_1).f3.f2, (rd_T45 l0 x4_1).f3.f3, (rd_T45 l0 x4_1).f3.f4, (rd_T45 l0 x4_1).f3.f5⟩ : S41)]) := ⟨_, rfl⟩
    rw [← hy822] at H; have Ny822 := am_ hy822; clear hy822; have H' := am_ H; clear H; have p821 : 0 ≤ (x4_1 : Int) := od_; have q821 : x4_1 < (l0.length : Int) := od_; obtain ⟨ad821, e821, hx821_0, hx821_1, hx821_2, hx821_3, hx821_4, hx821_5, hx821_6, hx821_7, hx821_8⟩ := at_T45 HR0.1 x4_1 p821 q821
    cases e821
    (try replace hx821_0 := cb_ HB hx821_0)
    (try replace hx821_1 := cb_ HB hx821_1)
    (try replace hx821_2 := cb_ HB hx821_2)
    (try replace hx821_3 := cb_ HB hx821_3)
    (try replace hx821_4 := cb_ HB hx821_4)
    (try replace hx821_5 := cb_ HB hx821_5)
    (try replace hx821_6 := cb_ HB hx821_6)
    (try replace hx821_7 := cb_ HB hx821_7)
    (try replace hx821_8 := cb_ HB hx821_8)
    replace p821 := eq_true p821; replace q821 := eq_true q821
    go_wp2_with (at_builtin; refine gb_ #[.tmp 12, .tmp 18] ?_; refine Kd.R_append k41 (w0 := w) w.heap.size rfl (.tmp 12) (.tmp 18) 88 41 (.agg #[(.int .i64 0), (.int .i64 0), (.string ⟨#[]⟩), (.string ⟨#[]⟩), (.int .i64 0), (.int .i64 0)]) 64 rfl Try.underlying88 info41 rfl (by decide) (by omega) u3 x3_1 (⟨(rd_T45 l0 x4_1).f3.f0, (rd_T45 l0 x4_1).f3.f1, (rd_T45 l0 x4_1).f3.f2, (rd_T45 l0 x4_1).f3.f3, (rd_T45 l0 x4_1).f3.f4, (rd_T45 l0 x4_1).f3.f5⟩ : S41) [.int .i64 ((rd_T45 l0 x4_1).f3.f0), .int .i64 ((rd_T45 l0 x4_1).f3.f1), .string ((rd_T45 l0 x4_1).f3.f2), .string ((rd_T45 l0 x4_1).f3.f3), .int .i64 ((rd_T45 l0 x4_1).f3.f4), .int .i64 ((rd_T45 l0 x4_1).f3.f5)] (fun _ => True) (fun _ => False) rfl rfl ?aP (fun _ hk => hk.elim) ?aF ?aO ?aB ?aS ?aL ?_; (case aP => exact k41_mkM _ _ _ (⟨(rd_T45 l0 x4_1).f3.f0, (rd_T45 l0 x4_1).f3.f1, (rd_T45 l0 x4_1).f3.f2, (rd_T45 l0 x4_1).f3.f3, (rd_T45 l0 x4_1).f3.f4, (rd_T45 l0 x4_1).f3.f5⟩ : S41)); (case aB => exact (hb_ HB)); (case aF => exact (fun _ _ => trivial)); (case aO => exact (rr_ HO_3)); (case aS => exact (below_size (hb_ HB))); (case aL => have := LMc6.1; omega); intro v823 w7 ho hb hg hat; rw [← Ny822.1] at ho; replace HB := am_ hb; have HO824 := am_ ho; clear HO_3; clear ho hb hg hat)
    go_roundg k1
    case measure => exact m1_ HK1
    case rel => exact ⟨_, _, rs_, H', ⟨m1_ HK1⟩, ⟨rr_ HO824⟩, ⟨hb_ HB⟩⟩
   ·rw [if_neg c4] at H; have c4b0 := df_ c4; clear c4; obtain rfl := in_ H
    go_wp2
    go_ret
    exact ⟨_, re_, rr_ HO_3, hb_ HB⟩
def spec_l9Fits.f (k : Nat) (a0_0 : Int) (a0_1 : Int) (a0_2 : ByteArray) (a0_3 : ByteArray) (a0_4 : Int) (a0_5 : Int) (l1 : List (S45)) : Option (Bool) := if a0_4 = (l1.length : Int) then ((spec_l9Recs.f k l1).bind fun t826 => ((spec_SumOf.f k t826).bind fun t829 => (some (a0_5 == t829)))) else (some false)
def spec_l9Fits.T1 : Bool × List (List Nat × List Nat) := (true, [([], []), ([0], [0]), ([], []), ([2], [2]), ([1, 3], [1, 3]), ([4], [4]), ([5], [5]), ([6, 5], [5, 6]), ([5], [5]), ([8, 5, 5], [5, 8]), ([9, 9, 5], [5, 9]), ([7, 10, 5], [5, 7, 10]), ([5, 11], [5, 11]), ([12, 10, 0, 1, 2, 3, 4, 5, 6, 7, 8, 9, 10, 11, 12], [12])])
def spec_l9Fits.B1 : List Nat := [0, 1, 0, 4, 15, 31, 63, 127, 63, 319, 831, 2047, 4095, 8191]
theorem spec_l9Fits.tab1 : rtab .any (opsOf Try.f41 1) = spec_l9Fits.T1 := by kernel_rfl
theorem spec_l9Fits.bits1 : waitsOk spec_l9Fits.T1.2 spec_l9Fits.B1 = true := by kernel_rfl
theorem spec_l9Fits.calls {k : Nat} {a0_0 a0_1 : Int} {a0_2 a0_3 : ByteArray} {a0_4 a0_5 : Int} {l1 : List (S45)} {r : Bool} {w : World} (A1 : Option Addr) (c1 : Nat) (h : spec_l9Fits.f k a0_0 a0_1 a0_2 a0_3 a0_4 a0_5 l1 = some r) (hr1 : Kd.C k45 w A1 l1.length l1 := by exact sr_) (hc1 : l1.length ≤ c1 := by exact sc_) :
  Calls Try.prog 41 #[.agg #[.int .i64 a0_0, .int .i64 a0_1, .string a0_2, .string a0_3, .int .i64 a0_4, .int .i64 a0_5], .slice A1 l1.length c1] w fun e w' => e = .returned (.bool r) ∧ Below w.heap.size w w' := by
 have hu41 := Try.underlying41; have HR1 := am_ hr1; have HC1 := am_ hc1; clear hr1 hc1; have HB := am_ (Below.refl w.heap.size w); unfold spec_l9Fits.f at h; have H := h; clear h; by_cases c3 : a0_4 = (l1.length : Int)
 ·rw [if_pos c3] at H; have ⟨c3b0, c3b1⟩ := bq5_ c3; clear c3; replace H := bnd_ H; obtain ⟨t826, A4, H⟩ := H; replace H := bnd_ H; obtain ⟨t829, A5, H⟩ := H; obtain rfl := in_ H
  go_enter Try.func41, Try.ntmps41
  try go_wp2_with (refine gd_ 2 ?_; refine bx1_ 2 #[.int .i64 a0_0, .int .i64 a0_1, .string a0_2, .string a0_3, .int .i64 a0_4, .int .i64 a0_5] 41 ?_; intro gb825 hg w6 hbox hb; have BK825 := am_ hbox; have GE825 := gx_ hg HB; replace HB := bx_ HB hb; clear hb hbox hg)
  replace BK825 := bd_ BK825; replace HB := hd_ HB; refine st1_ 14 spec_l9Fits.tab1 spec_l9Fits.bits1 (p6e_ BK825) (fun hHeld HT_ HW_ => ?_)
  generalize w6.drew = w7 at BK825 HB hHeld ⊢
  refine pr_ ?_; refine pv_' 2 7 (of_ 14 5) rfl rfl HT_ ?_; refine pv_' 3 8 (of_ 14 13) rfl rfl HT_ ?_; refine tk6_ 1 6 (on_ 4 10) hHeld ?_
  (iterate 3 refine pr_ ?_); refine pv_' 8 13 (of_ 14 383) rfl rfl HT_ ?_; refine tk6_ 7 12 (on_ 9 5) hHeld ?_
  refine o1_ 9 (some 14) (on_ 10 4) fun K hK => ?_; refine go1_ Try.func65 (spec_l9Recs.calls A1 c1 A4.1) ?_; rintro e w8 ⟨v827, rfl, ho0, hb⟩; refine ⟨_, rfl, ?_⟩; have HO828 := am_ (Kd.R_lower (Kd.R_newB ho0 (g := gb825) (o := .cells #[.int .i64 a0_0, .int .i64 a0_1, .string a0_2, .string a0_3, .int .i64 a0_4, .int .i64 a0_5] 41 (0, 0)) (bk_ BK825)) (below_size (hs_ HB GE825))); replace BK825 := bb_ BK825 hb; replace HB := bx_ HB hb
  (try clear hb)
  (try clear hb2)
  (try clear hk)
  (try clear hi)
  (try clear ho0)
  obtain ⟨Ao9, co9, eo9⟩ := Kd.R_slice HO828.1
  (first | subst eo9 | (injection eo9 with f1_ f2_ f3_; have f4_ := f1_.symm; have f5_ := f3_.symm; clear f1_ f2_ f3_; subst f4_; subst f5_))
  refine hK.out _ _ (p6e_ BK825) (fun hHeld => ?_); clear hK K; refine nm_ ?_; refine o1_ 10 (some 15) (on_ 11 3) fun K hK => ?_; refine go2_ Try.func64 (spec_SumOf.calls Ao9 co9 A5.1) ?_; intro w10 hb; replace HO828 := rb_ HO828 hb; replace BK825 := bb_ BK825 hb; replace HB := bx_ HB hb
  (try clear hb)
  (try clear hb2)
  (try clear hk)
  (try clear hi)
  refine hK.out _ _ (p6e_ BK825) (fun hHeld => ?_); clear hK K; refine nm_ ?_; (iterate 3 refine pr_ ?_); refine dn_ ?_
  try go_wp2
  go_ret
  exact ⟨re_, hs_ HB GE825⟩
 ·rw [if_neg c3] at H; have ⟨c3b0, c3b1⟩ := bq6_ c3; obtain rfl := in_ H
  go_enter Try.func41, Try.ntmps41
  try go_wp2_with (refine gd_ 2 ?_; refine bx1_ 2 #[.int .i64 a0_0, .int .i64 a0_1, .string a0_2, .string a0_3, .int .i64 a0_4, .int .i64 a0_5] 41 ?_; intro gb825 hg w11 hbox hb; have BK825 := am_ hbox; have GE825 := gx_ hg HB; replace HB := bx_ HB hb; clear hb hbox hg)
  replace BK825 := bd_ BK825; replace HB := hd_ HB; refine st1_ 14 spec_l9Fits.tab1 spec_l9Fits.bits1 (p6e_ BK825) (fun hHeld HT_ HW_ => ?_)
  generalize w11.drew = w12 at BK825 HB hHeld ⊢
  refine pr_ ?_; refine pv_' 2 7 (of_ 14 5) rfl rfl HT_ ?_; refine pv_' 3 8 (of_ 14 13) rfl rfl HT_ ?_; refine tk6_ 1 6 (on_ 4 10) hHeld ?_
  (iterate 2 refine pr_ ?_); (iterate 6 refine pt_ ?_); (iterate 2 refine pr_ ?_); refine dn_ ?_
  try go_wp2
  go_ret
  exact ⟨re_, hs_ HB GE825⟩
mutual
def spec_l9Kept.l0 : Nat → List (S45) → Int → List (S45) → Int → Option ((List (S45)))
 | 0, _, _, _, _ => none
 | k + 1, x0, x1, x5, x6 => if x6 < x1 then (if 0 ≤ x6 then (if x6 < (x0.length : Int) then (if ((rd_T45 x0 x6).f3.f0) = 5 then (spec_l9Kept.j1 k x0 x1 (([] : List (S45))) x6) else (spec_l9Kept.j1 k x0 x1 x5 x6)) else (none)) else (none)) else (some x5)
def spec_l9Kept.j1 : Nat → List (S45) → Int → List (S45) → Int → Option ((List (S45)))
 | 0, _, _, _, _ => none
 | k + 1, x0, x1, x5, x6 => if 0 ≤ x6 then (if x6 < (x0.length : Int) then (if ((rd_T45 x0 x6).f3.f0) = 4 then (if x5.length < 1599289640401 then (spec_l9Kept.l0 k x0 x1 (x5 ++ [(⟨(rd_T45 x0 x6).f0, (rd_T45 x0 x6).f1, (rd_T45 x0 x6).f2, (⟨(rd_T45 x0 x6).f3.f0, (rd_T45 x0 x6).f3.f1, (rd_T45 x0 x6).f3.f2, (rd_T45 x0 x6).f3.f3, (rd_T45 x0 x6).f3.f4, (rd_T45 x0 x6).f3.f5⟩ : S41)⟩ : S45)]) (wrap64 (x6 + 1))) else (none)) else (spec_l9Kept.l0 k x0 x1 x5 (wrap64 (x6 + 1)))) else (none)) else (none)
end
def spec_l9Kept.f (k : Nat) (l0 : List (S45)) (a1 : Int) : Option ((List (S45))) := spec_l9Kept.l0 k l0 a1 (([] : List (S45))) 0
theorem spec_l9Kept.calls {k : Nat} {l0 : List (S45)} {a1 : Int} {r : List (S45)} {w : World} (A0 : Option Addr) (c0 : Nat) (h : spec_l9Kept.f k l0 a1 = some r) (hr0 : Kd.C k45 w A0 l0.length l0 := by exact sr_) (hc0 : l0.length ≤ c0 := by exact sc_) :
  Calls Try.prog 42 #[.slice A0 l0.length c0, .int .i64 a1] w fun e w' => ∃ v0_ : Value, e = .returned (v0_) ∧ Kd.R k45 45 w' w.heap.size (fun _ => True) v0_ r ∧ Below w.heap.size w w' := by
 have hu45 := Try.underlying45; have HR0 := am_ hr0; have HC0 := am_ hc0; clear hr0 hc0; have HB := am_ (Below.refl w.heap.size w); unfold spec_l9Kept.f at h; have H := h; clear h; obtain ⟨y830, hy830⟩ : ∃ y_ : List (S45), y_ = (([] : List (S45))) := ⟨_, rfl⟩
 replace H : (spec_l9Kept.l0 k l0 a1 y830 0) = some r := by first | (rw [hy830]; with_reducible exact H) | (have H2_ := (Option.bind_some _ _).symm.trans H; rw [hy830]; with_reducible exact H2_) | (have H2_ := (Option.bind_some _ _).symm.trans H; with_reducible exact H2_) | with_reducible exact H | (rw [hy830]; exact H) | exact H
 have Ny830 := am_ hy830; clear hy830; have H' := am_ H; clear H
 go_enter Try.func42, Try.ntmps42
 go_wp2_with (refine gd_ 7 ?_; refine li_ 7 k45 45 ([] : List (S45)) [] ?_; intro v831 w3 ho4 hb hg_ hnew_; clear hg_ hnew_; (first | rw [← Ny830.1] at ho4 | (simp only [Int.reduceToNat] at ho4; rw [← Ny830.1] at ho4)); have HO832 := rm_ ho4 HB; replace HB := bx_ HB hb; clear hb ho4)
 go_loopg [5, 6] k (fun kq v5 v6 w' => ∃ (x5_1 : List (S45)) (x6_1 : Int), v6 = .int .i64 x6_1 ∧ Aside0 (spec_l9Kept.l0 kq l0 a1 x5_1 x6_1 = some r) ∧ Aside0 (kq ≤ k) ∧ Aside0 (Kd.R k45 45 w' w.heap.size (fun _ => True) v5 x5_1) ∧ Aside0 (Below w.heap.size w w'))
 case atStart => exact ⟨_, _, rs_, H', ⟨Nat.le_refl _⟩, ⟨rr_ HO832⟩, ⟨hb_ HB⟩⟩
 case round =>
  clear H'; obtain ⟨x5_1, x6_1, rfl, HA, HK1, HO_5, HB⟩ := hrel
  cases gk with
  | zero => exact zz_ HA
  | succ k1 =>
   have H := HA.1; clear HA; simp only [spec_l9Kept.l0] at H; by_cases c5 : x6_1 < a1
   ·rw [if_pos c5] at H; have c5b0 := dq_ c5; clear c5; replace H := ih_ H; obtain ⟨c6, H⟩ := H; have c6b0 := dq_ c6; clear c6; replace H := ih_ H; obtain ⟨c7, H⟩ := H; have c7b0 := dq_ c7; clear c7; have HC8 := am_ H; clear H; have p833 : 0 ≤ (x6_1 : Int) := od_; have q833 : x6_1 < (l0.length : Int) := od_; obtain ⟨ad833, e833, hx833_0, hx833_1, hx833_2, hx833_3, hx833_4, hx833_5, hx833_6, hx833_7, hx833_8⟩ := at_T45 HR0.1 x6_1 p833 q833
    cases e833
    (try replace hx833_0 := cb_ HB hx833_0)
    (try replace hx833_1 := cb_ HB hx833_1)
    (try replace hx833_2 := cb_ HB hx833_2)
    (try replace hx833_3 := cb_ HB hx833_3)
    (try replace hx833_4 := cb_ HB hx833_4)
    (try replace hx833_5 := cb_ HB hx833_5)
    (try replace hx833_6 := cb_ HB hx833_6)
    (try replace hx833_7 := cb_ HB hx833_7)
    (try replace hx833_8 := cb_ HB hx833_8)
    replace p833 := eq_true p833; replace q833 := eq_true q833
    go_upto_if 19 with (fail)
    go_cut [5] (fun v5 wc => ∃ (kq : Nat) (x5_7 : List (S45)), Aside0 (spec_l9Kept.j1 kq l0 a1 x5_7 x6_1 = some r) ∧ Aside0 (kq ≤ k1) ∧ Aside0 (Kd.R k45 45 wc w.heap.size (fun _ => True) v5 x5_7) ∧ Aside0 (Below w.heap.size w wc))
    case first =>
     have H := HC8.1; clear HC8; by_cases c9 : ((rd_T45 l0 x6_1).f3.f0) = 5
     ·rw [if_pos c9] at H; have ⟨c9b0, c9b1⟩ := bq5_ c9; clear c9
      (first | rw [c9b0] | (simp only [i64_w, i32_w]; rw [c9b0]) | skip)
      obtain ⟨y834, hy834⟩ : ∃ y_ : List (S45), y_ = (([] : List (S45))) := ⟨_, rfl⟩
      replace H : (spec_l9Kept.j1 k1 l0 a1 y834 x6_1) = some r := by first | (rw [hy834]; with_reducible exact H) | (have H2_ := (Option.bind_some _ _).symm.trans H; rw [hy834]; with_reducible exact H2_) | (have H2_ := (Option.bind_some _ _).symm.trans H; with_reducible exact H2_) | with_reducible exact H | (rw [hy834]; exact H) | exact H
      have Ny834 := am_ hy834; clear hy834; have H' := am_ H; clear H
      go_wp2_with (refine gd_ 20 ?_; refine li_ 20 k45 45 ([] : List (S45)) [] ?_; intro v835 w10 ho11 hb hg_ hnew_; clear hg_ hnew_; (first | rw [← Ny834.1] at ho11 | (simp only [Int.reduceToNat] at ho11; rw [← Ny834.1] at ho11)); have HO836 := am_ (Kd.R_lower (Kd.R_new' ho11 (Kd.R_lt (rr_ HO_5))) (below_size (hb_ HB))); replace HO_5 := am_ (Kd.R_elder' (rr_ HO_5) (Kd.R_base ho11) hb); replace HB := bx_ HB hb; clear hb ho11)
      go_meet
      case rel => exact ⟨_, _, H', ⟨m1_ HK1⟩, ⟨by (with_reducible repeat (first | apply Kd.R_alloc | apply Kd.R_drewN | apply Kd.R_drew)); exact Kd.R_mono HO836.1 (fun _ hk => trivial)⟩, ⟨hb_ HB⟩⟩
     ·rw [if_neg c9] at H; have ⟨c9b0, c9b1⟩ := bq6_ c9
      (first | rw [c9b0] | (simp only [i64_w, i32_w]; rw [c9b0]) | skip)
      have H' := am_ H; clear H
      go_wp2
      go_meet
      case rel => exact ⟨_, _, H', ⟨m1_ HK1⟩, ⟨rr_ HO_5⟩, ⟨hb_ HB⟩⟩
    case rest =>
     clear HC8
     (try clear c5); (try clear c5b0); (try clear c6); (try clear c6b0); (try clear c7); (try clear c7b0); (try clear c9); (try clear c9b0); (try clear c9b1); (try clear hx833_0); (try clear hx833_1); (try clear hx833_2); (try clear hx833_3); (try clear hx833_4); (try clear hx833_5); (try clear hx833_6); (try clear hx833_7); (try clear hx833_8); (try clear p833); (try clear q833)
     obtain ⟨kq, x5_7, HA, HJ7, HO_5, HB⟩ := hcut
     cases kq with
     | zero => exact zz_ HA
     | succ kj7 =>
      have H := HA.1; clear HA; simp only [spec_l9Kept.j1] at H; replace H := ih_ H; obtain ⟨c12, H⟩ := H; have c12b0 := dq_ c12; clear c12; replace H := ih_ H; obtain ⟨c13, H⟩ := H; have c13b0 := dq_ c13; clear c13; by_cases c14 : ((rd_T45 l0 x6_1).f3.f0) = 4
      ·rw [if_pos c14] at H; have ⟨c14b0, c14b1⟩ := bq5_ c14; clear c14; replace H := il_ H; obtain ⟨LMc15, H⟩ := H; obtain ⟨y839, hy839⟩ : ∃ y_ : List (S45), y_ = (x5_7 ++ [(⟨(rd_T45 l0 x6_1).f0, (rd_T45 l0 x6_1).f1, (rd_T45 l0 x6_1).f2, (⟨(rd_T45 l0 x6_1).f3.f0, (rd_T45 l0 x6_1).f3.f1, (rd_T45 l0 x6_1).f3.f2, (rd_T45 l0 x6_1).f3.f3, (rd_T45 l0 x6_1).f3.f4, (rd_T45 l0 x6_1).f3.f5⟩ : S41)⟩ : S45)]) := ⟨_, rfl⟩
       rw [← hy839] at H; have Ny839 := am_ hy839; clear hy839; have H' := am_ H; clear H; have p837 : 0 ≤ (x6_1 : Int) := od_; have q837 : x6_1 < (l0.length : Int) := od_; obtain ⟨ad837, e837, hx837_0, hx837_1, hx837_2, hx837_3, hx837_4, hx837_5, hx837_6, hx837_7, hx837_8⟩ := at_T45 HR0.1 x6_1 p837 q837; obtain rfl : ad833 = ad837 := (by injection e837)
       (try replace hx837_0 := cb_ HB hx837_0)
       (try replace hx837_1 := cb_ HB hx837_1)
       (try replace hx837_2 := cb_ HB hx837_2)
       (try replace hx837_3 := cb_ HB hx837_3)
       (try replace hx837_4 := cb_ HB hx837_4)
       (try replace hx837_5 := cb_ HB hx837_5)
       (try replace hx837_6 := cb_ HB hx837_6)
       (try replace hx837_7 := cb_ HB hx837_7)
       (try replace hx837_8 := cb_ HB hx837_8)
       replace p837 := eq_true p837; replace q837 := eq_true q837; have p838 : 0 ≤ (x6_1 : Int) := od_; have q838 : x6_1 < (l0.length : Int) := od_; obtain ⟨ad838, e838, hx838_0, hx838_1, hx838_2, hx838_3, hx838_4, hx838_5, hx838_6, hx838_7, hx838_8⟩ := at_T45 HR0.1 x6_1 p838 q838; obtain rfl : ad833 = ad838 := (by injection e838)
       (try replace hx838_0 := cb_ HB hx838_0)
       (try replace hx838_1 := cb_ HB hx838_1)
       (try replace hx838_2 := cb_ HB hx838_2)
       (try replace hx838_3 := cb_ HB hx838_3)
       (try replace hx838_4 := cb_ HB hx838_4)
       (try replace hx838_5 := cb_ HB hx838_5)
       (try replace hx838_6 := cb_ HB hx838_6)
       (try replace hx838_7 := cb_ HB hx838_7)
       (try replace hx838_8 := cb_ HB hx838_8)
       replace p838 := eq_true p838; replace q838 := eq_true q838
       go_wp2_with (at_builtin; refine gb_ #[.tmp 28, .tmp 33] ?_; refine Kd.R_append k45 (w0 := w) w.heap.size rfl (.tmp 28) (.tmp 33) 36 45 (.agg #[(.int .i64 0), (.int .i64 0), (.int .i64 0), (.int .i64 0), (.int .i64 0), (.string ⟨#[]⟩), (.string ⟨#[]⟩), (.int .i64 0), (.int .i64 0)]) 88 rfl Try.underlying36 info45 rfl (by decide) (by omega) u5 x5_7 (⟨(rd_T45 l0 x6_1).f0, (rd_T45 l0 x6_1).f1, (rd_T45 l0 x6_1).f2, (⟨(rd_T45 l0 x6_1).f3.f0, (rd_T45 l0 x6_1).f3.f1, (rd_T45 l0 x6_1).f3.f2, (rd_T45 l0 x6_1).f3.f3, (rd_T45 l0 x6_1).f3.f4, (rd_T45 l0 x6_1).f3.f5⟩ : S41)⟩ : S45) [.int .i64 ((rd_T45 l0 x6_1).f0), .int .i64 ((rd_T45 l0 x6_1).f1), .int .i64 ((rd_T45 l0 x6_1).f2), .int .i64 ((rd_T45 l0 x6_1).f3.f0), .int .i64 ((rd_T45 l0 x6_1).f3.f1), .string ((rd_T45 l0 x6_1).f3.f2), .string ((rd_T45 l0 x6_1).f3.f3), .int .i64 ((rd_T45 l0 x6_1).f3.f4), .int .i64 ((rd_T45 l0 x6_1).f3.f5)] (fun _ => True) (fun _ => False) rfl rfl ?aP (fun _ hk => hk.elim) ?aF ?aO ?aB ?aS ?aL ?_; (case aP => exact k45_mkM _ _ _ (⟨(rd_T45 l0 x6_1).f0, (rd_T45 l0 x6_1).f1, (rd_T45 l0 x6_1).f2, (⟨(rd_T45 l0 x6_1).f3.f0, (rd_T45 l0 x6_1).f3.f1, (rd_T45 l0 x6_1).f3.f2, (rd_T45 l0 x6_1).f3.f3, (rd_T45 l0 x6_1).f3.f4, (rd_T45 l0 x6_1).f3.f5⟩ : S41)⟩ : S45)); (case aB => exact (hb_ HB)); (case aF => exact (fun _ _ => trivial)); (case aO => exact (rr_ HO_5)); (case aS => exact (below_size (hb_ HB))); (case aL => have := LMc15.1; omega); intro v840 w16 ho hb hg hat; rw [← Ny839.1] at ho; replace HB := am_ hb; have HO841 := am_ ho; clear HO_5; clear ho hb hg hat)
       go_roundg kj7
       case measure => exact m2_ HK1 HJ7
       case rel => exact ⟨_, _, rs_, H', ⟨m2_ HK1 HJ7⟩, ⟨rr_ HO841⟩, ⟨hb_ HB⟩⟩
      ·rw [if_neg c14] at H; have ⟨c14b0, c14b1⟩ := bq6_ c14; have H' := am_ H; clear H; have p837 : 0 ≤ (x6_1 : Int) := od_; have q837 : x6_1 < (l0.length : Int) := od_; obtain ⟨ad837, e837, hx837_0, hx837_1, hx837_2, hx837_3, hx837_4, hx837_5, hx837_6, hx837_7, hx837_8⟩ := at_T45 HR0.1 x6_1 p837 q837; obtain rfl : ad833 = ad837 := (by injection e837)
       (try replace hx837_0 := cb_ HB hx837_0)
       (try replace hx837_1 := cb_ HB hx837_1)
       (try replace hx837_2 := cb_ HB hx837_2)
       (try replace hx837_3 := cb_ HB hx837_3)
       (try replace hx837_4 := cb_ HB hx837_4)
       (try replace hx837_5 := cb_ HB hx837_5)
       (try replace hx837_6 := cb_ HB hx837_6)
       (try replace hx837_7 := cb_ HB hx837_7)
       (try replace hx837_8 := cb_ HB hx837_8)
       replace p837 := eq_true p837; replace q837 := eq_true q837
       go_wp2
       go_roundg kj7
       case measure => exact m2_ HK1 HJ7
       case rel => exact ⟨_, _, rs_, H', ⟨m2_ HK1 HJ7⟩, ⟨rr_ HO_5⟩, ⟨hb_ HB⟩⟩
   ·rw [if_neg c5] at H; have c5b0 := df_ c5; clear c5; obtain rfl := in_ H
    go_wp2
    go_ret
    exact ⟨_, re_, rr_ HO_5, hb_ HB⟩
def spec_DirDrop.l0 : Nat → List (S55) → ByteArray → List (S55) → Int → Option ((List (S55)))
 | 0, _, _, _, _ => none
 | k + 1, x0, x1, x5, x6 => if x6 < (x0.length : Int) then (if 0 ≤ x6 then (if ((rd_T55 x0 x6).f0).toList = x1.toList then (spec_DirDrop.l0 k x0 x1 x5 (wrap64 (x6 + 1))) else (if x5.length < 2932031007402 then (spec_DirDrop.l0 k x0 x1 (x5 ++ [(⟨(rd_T55 x0 x6).f0, (rd_T55 x0 x6).f1, (rd_T55 x0 x6).f2, (rd_T55 x0 x6).f3, (rd_T55 x0 x6).f4⟩ : S55)]) (wrap64 (x6 + 1))) else (none))) else (none)) else (some x5)
def spec_DirDrop.f (k : Nat) (l0 : List (S55)) (a1 : ByteArray) : Option ((List (S55))) := spec_DirDrop.l0 k l0 a1 (([] : List (S55))) 0
theorem spec_DirDrop.calls {k : Nat} {l0 : List (S55)} {a1 : ByteArray} {r : List (S55)} {w : World} (A0 : Option Addr) (c0 : Nat) (h : spec_DirDrop.f k l0 a1 = some r) (hr0 : Kd.C k55 w A0 l0.length l0 := by exact sr_) (hc0 : l0.length ≤ c0 := by exact sc_) :
  Calls Try.prog 66 #[.slice A0 l0.length c0, .string a1] w fun e w' => ∃ v0_ : Value, e = .returned (v0_) ∧ Kd.R k55 55 w' w.heap.size (fun _ => True) v0_ r ∧ Below w.heap.size w w' := by
 have hu55 := Try.underlying55; have HR0 := am_ hr0; have HC0 := am_ hc0; clear hr0 hc0; have HB := am_ (Below.refl w.heap.size w); unfold spec_DirDrop.f at h; have H := h; clear h; obtain ⟨y842, hy842⟩ : ∃ y_ : List (S55), y_ = (([] : List (S55))) := ⟨_, rfl⟩
 replace H : (spec_DirDrop.l0 k l0 a1 y842 0) = some r := by first | (rw [hy842]; with_reducible exact H) | (have H2_ := (Option.bind_some _ _).symm.trans H; rw [hy842]; with_reducible exact H2_) | (have H2_ := (Option.bind_some _ _).symm.trans H; with_reducible exact H2_) | with_reducible exact H | (rw [hy842]; exact H) | exact H
 have Ny842 := am_ hy842; clear hy842; have H' := am_ H; clear H
 go_enter Try.func66, Try.ntmps66
 go_wp2_with (refine gd_ 7 ?_; refine li_ 7 k55 55 ([] : List (S55)) [] ?_; intro v843 w3 ho4 hb hg_ hnew_; clear hg_ hnew_; (first | rw [← Ny842.1] at ho4 | (simp only [Int.reduceToNat] at ho4; rw [← Ny842.1] at ho4)); have HO844 := rm_ ho4 HB; replace HB := bx_ HB hb; clear hb ho4)
 go_loopg [5, 6] k (fun kq v5 v6 w' => ∃ (x5_1 : List (S55)) (x6_1 : Int), v6 = .int .i64 x6_1 ∧ Aside0 (spec_DirDrop.l0 kq l0 a1 x5_1 x6_1 = some r) ∧ Aside0 (kq ≤ k) ∧ Aside0 (Kd.R k55 55 w' w.heap.size (fun _ => True) v5 x5_1) ∧ Aside0 (Below w.heap.size w w'))
 case atStart => exact ⟨_, _, rs_, H', ⟨Nat.le_refl _⟩, ⟨rr_ HO844⟩, ⟨hb_ HB⟩⟩
 case round =>
  clear H'; obtain ⟨x5_1, x6_1, rfl, HA, HK1, HO_5, HB⟩ := hrel
  cases gk with
  | zero => exact zz_ HA
  | succ k1 =>
   have H := HA.1; clear HA; simp only [spec_DirDrop.l0] at H; by_cases c5 : x6_1 < (l0.length : Int)
   ·rw [if_pos c5] at H; have c5b0 := dq_ c5; clear c5; replace H := ih_ H; obtain ⟨c6, H⟩ := H; have c6b0 := dq_ c6; clear c6; by_cases c7 : ((rd_T55 l0 x6_1).f0).toList = a1.toList
    ·rw [if_pos c7] at H; have ⟨c7b0, c7b1⟩ := bq5_ c7; clear c7; have H' := am_ H; clear H; have p845 : 0 ≤ (x6_1 : Int) := od_; have q845 : x6_1 < (l0.length : Int) := od_; obtain ⟨ad845, e845, hx845_0, hx845_1, hx845_2, hx845_3, hx845_4⟩ := at_T55 HR0.1 x6_1 p845 q845
     cases e845
     (try replace hx845_0 := cb_ HB hx845_0)
     (try replace hx845_1 := cb_ HB hx845_1)
     (try replace hx845_2 := cb_ HB hx845_2)
     (try replace hx845_3 := cb_ HB hx845_3)
     (try replace hx845_4 := cb_ HB hx845_4)
     replace p845 := eq_true p845; replace q845 := eq_true q845
     go_wp2
     go_roundg k1
     case measure => exact m1_ HK1
     case rel => exact ⟨_, _, rs_, H', ⟨m1_ HK1⟩, ⟨rr_ HO_5⟩, ⟨hb_ HB⟩⟩
    ·rw [if_neg c7] at H; have ⟨c7b0, c7b1⟩ := bq6_ c7; replace H := il_ H; obtain ⟨LMc8, H⟩ := H; obtain ⟨y847, hy847⟩ : ∃ y_ : List (S55), y_ = (x5_1 ++ [(⟨(rd_T55 l0 x6_1).f0, (rd_T55 l0 x6_1).f1, (rd_T55 l0 x6_1).f2, (rd_T55 l0 x6_1).f3, (rd_T55 l0 x6_1).f4⟩ : S55)]) := ⟨_, rfl⟩
     rw [← hy847] at H; have Ny847 := am_ hy847; clear hy847; have H' := am_ H; clear H; have p845 : 0 ≤ (x6_1 : Int) := od_; have q845 : x6_1 < (l0.length : Int) := od_; obtain ⟨ad845, e845, hx845_0, hx845_1, hx845_2, hx845_3, hx845_4⟩ := at_T55 HR0.1 x6_1 p845 q845
     cases e845
     (try replace hx845_0 := cb_ HB hx845_0)
     (try replace hx845_1 := cb_ HB hx845_1)
     (try replace hx845_2 := cb_ HB hx845_2)
     (try replace hx845_3 := cb_ HB hx845_3)
     (try replace hx845_4 := cb_ HB hx845_4)
     replace p845 := eq_true p845; replace q845 := eq_true q845; have p846 : 0 ≤ (x6_1 : Int) := od_; have q846 : x6_1 < (l0.length : Int) := od_; obtain ⟨ad846, e846, hx846_0, hx846_1, hx846_2, hx846_3, hx846_4⟩ := at_T55 HR0.1 x6_1 p846 q846; obtain rfl : ad845 = ad846 := (by injection e846)
     (try replace hx846_0 := cb_ HB hx846_0)
     (try replace hx846_1 := cb_ HB hx846_1)
     (try replace hx846_2 := cb_ HB hx846_2)
     (try replace hx846_3 := cb_ HB hx846_3)
     (try replace hx846_4 := cb_ HB hx846_4)
     replace p846 := eq_true p846; replace q846 := eq_true q846
     go_wp2_with (at_builtin; refine gb_ #[.tmp 21, .tmp 26] ?_; refine Kd.R_append k55 (w0 := w) w.heap.size rfl (.tmp 21) (.tmp 26) 24 55 (.agg #[(.string ⟨#[]⟩), (.int .i64 0), (.int .i64 0), (.int .i64 0), (.int .i64 0)]) 48 rfl Try.underlying24 info55 rfl (by decide) (by omega) u5 x5_1 (⟨(rd_T55 l0 x6_1).f0, (rd_T55 l0 x6_1).f1, (rd_T55 l0 x6_1).f2, (rd_T55 l0 x6_1).f3, (rd_T55 l0 x6_1).f4⟩ : S55) [.string ((rd_T55 l0 x6_1).f0), .int .i64 ((rd_T55 l0 x6_1).f1), .int .i64 ((rd_T55 l0 x6_1).f2), .int .i64 ((rd_T55 l0 x6_1).f3), .int .i64 ((rd_T55 l0 x6_1).f4)] (fun _ => True) (fun _ => False) rfl rfl ?aP (fun _ hk => hk.elim) ?aF ?aO ?aB ?aS ?aL ?_; (case aP => exact k55_mkM _ _ _ (⟨(rd_T55 l0 x6_1).f0, (rd_T55 l0 x6_1).f1, (rd_T55 l0 x6_1).f2, (rd_T55 l0 x6_1).f3, (rd_T55 l0 x6_1).f4⟩ : S55)); (case aB => exact (hb_ HB)); (case aF => exact (fun _ _ => trivial)); (case aO => exact (rr_ HO_5)); (case aS => exact (below_size (hb_ HB))); (case aL => have := LMc8.1; omega); intro v848 w9 ho hb hg hat; rw [← Ny847.1] at ho; replace HB := am_ hb; have HO849 := am_ ho; clear HO_5; clear ho hb hg hat)
     go_roundg k1
     case measure => exact m1_ HK1
     case rel => exact ⟨_, _, rs_, H', ⟨m1_ HK1⟩, ⟨rr_ HO849⟩, ⟨hb_ HB⟩⟩
   ·rw [if_neg c5] at H; have c5b0 := df_ c5; clear c5; obtain rfl := in_ H
    go_wp2
    go_ret
    exact ⟨_, re_, rr_ HO_5, hb_ HB⟩
def spec_l9Put.f (k : Nat) (l0 : List (S55)) (a1_0 : Int) (a1_1 : Int) (a1_2 : Int) (a1_3 : Int) (a1_4 : Int) (a1_5 : ByteArray) (a1_6 : ByteArray) (a1_7 : Int) (a1_8 : Int) : Option ((List (S55))) := if a1_3 = 2 then ((spec_DirDrop.f k l0 a1_5).bind fun t851 => (some t851)) else ((spec_DirPut.f k l0 a1_5 a1_0 a1_1 a1_2 a1_4).bind fun t854 => (some t854))
theorem spec_l9Put.calls {k : Nat} {l0 : List (S55)} {a1_0 a1_1 a1_2 a1_3 a1_4 : Int} {a1_5 a1_6 : ByteArray} {a1_7 a1_8 : Int} {r : List (S55)} {w : World} (A0 : Option Addr) (c0 : Nat) (h : spec_l9Put.f k l0 a1_0 a1_1 a1_2 a1_3 a1_4 a1_5 a1_6 a1_7 a1_8 = some r) (hr0 : Kd.C k55 w A0 l0.length l0 := by exact sr_) (hc0 : l0.length ≤ c0 := by exact sc_) :
  Calls Try.prog 43 #[.slice A0 l0.length c0, .agg #[.int .i64 a1_0, .int .i64 a1_1, .int .i64 a1_2, .int .i64 a1_3, .int .i64 a1_4, .string a1_5, .string a1_6, .int .i64 a1_7, .int .i64 a1_8]] w fun e w' => ∃ v0_ : Value, e = .returned (v0_) ∧ Kd.R k55 55 w' w.heap.size (fun _ => True) v0_ r ∧ Below w.heap.size w w' := by
 have hu45 := Try.underlying45; have hu55 := Try.underlying55; have HR0 := am_ hr0; have HC0 := am_ hc0; clear hr0 hc0; have HB := am_ (Below.refl w.heap.size w); unfold spec_l9Put.f at h; have H := h; clear h; by_cases c3 : a1_3 = 2
 ·rw [if_pos c3] at H; have ⟨c3b0, c3b1⟩ := bq5_ c3; clear c3; replace H := bnd_ H; obtain ⟨t851, A4, H⟩ := H; obtain rfl := in_ H
  go_enter Try.func43, Try.ntmps43
  go_wp2_with (first | (refine gd_ 3 ?_; refine bx1_ 3 #[.int .i64 a1_0, .int .i64 a1_1, .int .i64 a1_2, .int .i64 a1_3, .int .i64 a1_4, .string a1_5, .string a1_6, .int .i64 a1_7, .int .i64 a1_8] 45 ?_; intro gb850 hg w5 hbox hb; have BK850 := am_ hbox; have GE850 := gx_ hg HB; replace HB := bx_ HB hb; clear hb hbox hg; obtain ⟨Z6_0, Z6_1, Z6_2, Z6_3, Z6_4, Z6_5, Z6_6, Z6_7, Z6_8, F6_0, F6_1, F6_2, F6_3, F6_4, F6_5, F6_6, F6_7, F6_8⟩ := bc9_ BK850) | (refine gc_ 13 Try.func66 ?_; refine ch_ (spec_DirDrop.calls A0 c0 A4.1) ?_; rintro e w7 ⟨v852, rfl, ho0, hb⟩; refine ⟨_, rfl, ?_⟩; have HO853 := rm_ ho0 HB; replace BK850 := bb_ BK850 hb; replace HB := bx_ HB hb; clear hb ho0))
  go_ret
  exact ⟨_, re_, rr_ HO853, hs_ HB GE850⟩
 ·rw [if_neg c3] at H; have ⟨c3b0, c3b1⟩ := bq6_ c3; replace H := bnd_ H; obtain ⟨t854, A8, H⟩ := H; obtain rfl := in_ H
  go_enter Try.func43, Try.ntmps43
  go_wp2_with (first | (refine gd_ 3 ?_; refine bx1_ 3 #[.int .i64 a1_0, .int .i64 a1_1, .int .i64 a1_2, .int .i64 a1_3, .int .i64 a1_4, .string a1_5, .string a1_6, .int .i64 a1_7, .int .i64 a1_8] 45 ?_; intro gb850 hg w9 hbox hb; have BK850 := am_ hbox; have GE850 := gx_ hg HB; replace HB := bx_ HB hb; clear hb hbox hg; obtain ⟨_, _, _, _, _, _, _, _, _, _, _, _, _, _, _, _, _, _⟩ := bc9_ BK850) | (refine gc_ 28 Try.func67 ?_; refine ch_ (spec_DirPut.calls A0 c0 A8.1) ?_; rintro e w11 ⟨v855, rfl, ho0, hb⟩; refine ⟨_, rfl, ?_⟩; have HO856 := rm_ ho0 HB; replace BK850 := bb_ BK850 hb; replace HB := bx_ HB hb; clear hb ho0))
  go_ret
  exact ⟨_, re_, rr_ HO856, hs_ HB GE850⟩
end Go.Proofs.Ytohfcgdodgdiiaa.PFnHints
