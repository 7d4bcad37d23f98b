import Derived.Test.YtohfcgdodgdiiaaPFnHintsx20
namespace Go.Proofs.Ytohfcgdodgdiiaa.PFnHints
open Go.RowKit Go.Proofs.YtohfcgdodgdiiaaW.PrintWords Go.Proofs.YtohfcgdodgdiiaaW.PrintLast Go.Proofs.YtohfcgdodgdiiaaW.PrintMore
attribute [local go_sem] max2_int min2_int max_two min_two max_three min_three max_four min_four
set_option linter.unusedVariables false
set_option linter.unusedSimpArgs false
set_option maxHeartbeats 80000000
set_option maxRecDepth 100000
section
attribute [local go_sem high] eqA55
def spec_SameDir.l0 : Nat → List (S55) → List (S55) → Int → Option (Bool)
 | 0, _, _, _ => none
 | k + 1, x0, x1, x5 => if x5 < (x0.length : Int) then (if 0 ≤ x5 then (if x5 < (x1.length : Int) then (if (!((((rd_T55 x0 x5).f0).toList) == (((rd_T55 x1 x5).f0).toList)) || (!(((rd_T55 x0 x5).f1) == ((rd_T55 x1 x5).f1)) || (!(((rd_T55 x0 x5).f2) == ((rd_T55 x1 x5).f2)) || (!(((rd_T55 x0 x5).f3) == ((rd_T55 x1 x5).f3)) || (!(((rd_T55 x0 x5).f4) == ((rd_T55 x1 x5).f4))))))) = true then (some false) else (spec_SameDir.l0 k x0 x1 (wrap64 (x5 + 1)))) else (none)) else (none)) else (some true)
def spec_SameDir.f (k : Nat) (l0 : List (S55)) (l1 : List (S55)) : Option (Bool) := if (l0.length : Int) = (l1.length : Int) then (spec_SameDir.l0 k l0 l1 0) else (some false)
theorem spec_SameDir.calls {k : Nat} {l0 l1 : List (S55)} {r : Bool} {w : World} (A0 : Option Addr) (c0 : Nat) (A1 : Option Addr) (c1 : Nat) (h : spec_SameDir.f k l0 l1 = some r) (hr0 : Kd.C k55 w A0 l0.length l0 := by exact sr_) (hc0 : l0.length ≤ c0 := by exact sc_) (hr1 : Kd.C k55 w A1 l1.length l1 := by exact sr_) (hc1 : l1.length ≤ c1 := by exact sc_) :
  Calls Try.prog 9 #[.slice A0 l0.length c0, .slice A1 l1.length c1] w fun e w' => e = .returned (.bool r) ∧ Drawn0 w w' := by
 have hu55 := Try.underlying55; have HR0 := am_ hr0; have HC0 := am_ hc0; clear hr0 hc0; have HR1 := am_ hr1; have HC1 := am_ hc1; clear hr1 hc1; unfold spec_SameDir.f at h; have H := h; clear h; by_cases c3 : (l0.length : Int) = (l1.length : Int)
 ·rw [if_pos c3] at H; have ⟨c3b0, c3b1⟩ := bq5_ c3; have c3b2 : (l0.length == l1.length) = true := by first | simpa using c3 | (simp at c3 ⊢; omega)
  clear c3; have H' := am_ H; clear H
  go_enter Try.func9, Try.ntmps9
  go_wp2
  repeat (go_quiet (fail); try go_wp2)
  go_loopg [5] k (fun kq v5 w' => ∃ (x5_1 : Int), v5 = .int .i64 x5_1 ∧ Aside0 (spec_SameDir.l0 kq l0 l1 x5_1 = some r) ∧ Aside0 (kq ≤ k) ∧ Drawn0 w w')
  case atStart => exact ⟨_, rs_, H', ⟨Nat.le_refl _⟩, by repeat (first | exact Drawn0.refl _ | apply Drawn0.step)⟩
  case round =>
   clear H'
   (try clear c1); (try clear c3); (try clear c3b0); (try clear c3b1); (try clear c3b2)
   obtain ⟨x5_1, rfl, HA, HK1, ⟨m1, rfl⟩⟩ := hrel
   cases gk with
   | zero => exact zz_ HA
   | succ k1 =>
    have H := HA.1; clear HA; simp only [spec_SameDir.l0] at H; by_cases c4 : x5_1 < (l0.length : Int)
    ·rw [if_pos c4] at H; have c4b0 := dq_ c4; clear c4; replace H := ih_ H; obtain ⟨c5, H⟩ := H; have c5b0 := dq_ c5; clear c5; replace H := ih_ H; obtain ⟨c6, H⟩ := H; have c6b0 := dq_ c6; clear c6; by_cases c7 : (!((((rd_T55 l0 x5_1).f0).toList) == (((rd_T55 l1 x5_1).f0).toList)) || (!(((rd_T55 l0 x5_1).f1) == ((rd_T55 l1 x5_1).f1)) || (!(((rd_T55 l0 x5_1).f2) == ((rd_T55 l1 x5_1).f2)) || (!(((rd_T55 l0 x5_1).f3) == ((rd_T55 l1 x5_1).f3)) || (!(((rd_T55 l0 x5_1).f4) == ((rd_T55 l1 x5_1).f4))))))) = true
     ·rw [if_pos c7] at H; have c7b0 : (!((((rd_T55 l0 x5_1).f0).toList) == (((rd_T55 l1 x5_1).f0).toList)) || (!(((rd_T55 l0 x5_1).f1) == ((rd_T55 l1 x5_1).f1)) || (!(((rd_T55 l0 x5_1).f2) == ((rd_T55 l1 x5_1).f2)) || (!(((rd_T55 l0 x5_1).f3) == ((rd_T55 l1 x5_1).f3)) || (!(((rd_T55 l0 x5_1).f4) == ((rd_T55 l1 x5_1).f4))))))) = true := c7; clear c7; obtain rfl := in_ H; have p586 : 0 ≤ (x5_1 : Int) := od_; have q586 : x5_1 < (l0.length : Int) := od_; obtain ⟨ad586, e586, hx586_0, hx586_1, hx586_2, hx586_3, hx586_4⟩ := at_T55 HR0.1 x5_1 p586 q586
      cases e586
      replace p586 := eq_true p586; replace q586 := eq_true q586; have p587 : 0 ≤ (x5_1 : Int) := od_; have q587 : x5_1 < (l1.length : Int) := od_; obtain ⟨ad587, e587, hx587_0, hx587_1, hx587_2, hx587_3, hx587_4⟩ := at_T55 HR1.1 x5_1 p587 q587
      cases e587
      replace p587 := eq_true p587; replace q587 := eq_true q587
      go_wp2
      repeat (go_quiet (fail); try go_wp2)
      go_ret
      exact ⟨by first | rfl | (simp; done) | (simp [*]; done), by repeat (first | exact Drawn0.refl _ | apply Drawn0.step)⟩
     ·rw [if_neg c7] at H; have c7b0 : (!((((rd_T55 l0 x5_1).f0).toList) == (((rd_T55 l1 x5_1).f0).toList)) || (!(((rd_T55 l0 x5_1).f1) == ((rd_T55 l1 x5_1).f1)) || (!(((rd_T55 l0 x5_1).f2) == ((rd_T55 l1 x5_1).f2)) || (!(((rd_T55 l0 x5_1).f3) == ((rd_T55 l1 x5_1).f3)) || (!(((rd_T55 l0 x5_1).f4) == ((rd_T55 l1 x5_1).f4))))))) = false := by simpa using c7
      clear c7; have H' := am_ H; clear H; have p586 : 0 ≤ (x5_1 : Int) := od_; have q586 : x5_1 < (l0.length : Int) := od_; obtain ⟨ad586, e586, hx586_0, hx586_1, hx586_2, hx586_3, hx586_4⟩ := at_T55 HR0.1 x5_1 p586 q586
      cases e586
      replace p586 := eq_true p586; replace q586 := eq_true q586; have p587 : 0 ≤ (x5_1 : Int) := od_; have q587 : x5_1 < (l1.length : Int) := od_; obtain ⟨ad587, e587, hx587_0, hx587_1, hx587_2, hx587_3, hx587_4⟩ := at_T55 HR1.1 x5_1 p587 q587
      cases e587
      replace p587 := eq_true p587; replace q587 := eq_true q587
      go_wp2
      repeat (go_quiet (fail); try go_wp2)
      go_roundg k1
      case measure => exact m1_ HK1
      case rel => exact ⟨_, rs_, H', ⟨m1_ HK1⟩, by repeat (first | exact Drawn0.refl _ | apply Drawn0.step)⟩
    ·rw [if_neg c4] at H; have c4b0 := df_ c4; clear c4; obtain rfl := in_ H
     go_wp2
     repeat (go_quiet (fail); try go_wp2)
     go_ret
     exact ⟨by first | rfl | (simp; done) | (simp [*]; done), by repeat (first | exact Drawn0.refl _ | apply Drawn0.step)⟩
 ·rw [if_neg c3] at H; have ⟨c3b0, c3b1⟩ := bq6_ c3; have c3b2 : (l0.length == l1.length) = false := by first | simpa using c3 | (simp at c3 ⊢; omega)
  obtain rfl := in_ H
  go_enter Try.func9, Try.ntmps9
  go_wp2
  repeat (go_quiet (fail); try go_wp2)
  go_ret
  exact ⟨by first | rfl | (simp; done) | (simp [*]; done), by repeat (first | exact Drawn0.refl _ | apply Drawn0.step)⟩
def spec_l5Rec.j0 : Nat → Int → Bool → List Int → Int → Int → Int → Int → ByteArray → ByteArray → Int → Int → Option (Int × Int × ByteArray × ByteArray × Int × Int × Int × Int)
 | 0, _, _, _, _, _, _, _, _, _, _, _ => none
 | k + 1, x12, x22, x1000, x1001, x1002, x596000, x596001, x596002, x596003, x596004, x596005 => if x22 = true then ((spec_l5Key.f x1000 x1001 x1002).bind fun bt596 => ((spec_l1Text.f k x1000 bt596.2.1 bt596.2.2 20).bind fun bt599 => (some (x596000, x596001, bt596.1, bt599.1, x596004, x596005, bt599.2.1, bt599.2.2)))) else (if x12 = 2 then ((spec_l5Key.f x1000 x1001 x1002).bind fun bt602 => (some (x596000, x596001, bt602.1, x596003, x596004, x596005, bt602.2.1, bt602.2.2))) else ((spec_l1Below.f x1000 x1001 x1002 4).bind fun bt605 => ((spec_l1Below.f x1000 bt605.2.1 bt605.2.2 99999).bind fun bt608 => ((spec_l1PickInt.f x1000 bt608.2.1 bt608.2.2 (([0, 7, 4294967295, bt608.1] : List Int))).bind fun bt614 => (some (x596000, x596001, x596002, x596003, bt605.1, bt614.1, bt614.2.1, bt614.2.2))))))
def spec_l5Rec.f (k : Nat) (s0_0 : List Int) (s0_1 : Int) (s0_2 : Int) : Option (Int × Int × ByteArray × ByteArray × Int × Int × Int × Int) := (spec_l1Below.f s0_0 s0_1 s0_2 5).bind fun bt589 => ((spec_l1Below.f s0_0 bt589.2.1 bt589.2.2 300).bind fun bt592 => (if (wrap64 (1 + bt589.1)) = 1 then (spec_l5Rec.j0 k (wrap64 (1 + bt589.1)) ((wrap64 (1 + bt589.1)) == 1) s0_0 bt592.2.1 bt592.2.2 (wrap64 (1 + bt589.1)) (wrap64 (1 + bt592.1)) (⟨#[]⟩ : ByteArray) (⟨#[]⟩ : ByteArray) 0 0) else (spec_l5Rec.j0 k (wrap64 (1 + bt589.1)) ((wrap64 (1 + bt589.1)) == 4) s0_0 bt592.2.1 bt592.2.2 (wrap64 (1 + bt589.1)) (wrap64 (1 + bt592.1)) (⟨#[]⟩ : ByteArray) (⟨#[]⟩ : ByteArray) 0 0)))
theorem spec_l5Rec.calls {k : Nat} {s0_0 : List Int} {s0_1 s0_2 r1 r2 : Int} {r3 r4 : ByteArray} {r5 r6 r7 r8 : Int} {w : World} (g : Nat) (w0 : World) (h : spec_l5Rec.f k s0_0 s0_1 s0_2 = some (r1, r2, r3, r4, r5, r6, r7, r8)) (hI : IsS80 w0 w g s0_0 s0_1 s0_2 := by exact si1_) (hB : Below w0.heap.size w0 w := by exact bw_) :
  Calls Try.prog 75 #[.pointer (some ⟨g, 0, none⟩)] w fun e w' => e = .returned (.agg #[.int .i64 r1, .int .i64 r2, .string r3, .string r4, .int .i64 r5, .int .i64 r6]) ∧ IsS80 w0 w' g s0_0 r7 r8 ∧ Below w0.heap.size w0 w' ∧ KeepBut w w' g none := by
 have hu41 := Try.underlying41; have HI0 := am_ hI; have HK := am_ (KeepBut.refl w g none); have HL := am_ hB.size; clear hI; have HW0 := am_ hB.size; have HB := am_ hB; clear hB; unfold spec_l5Rec.f at h; have H := h; clear h; replace H := bnd_ H; obtain ⟨⟨t589, t590, t591⟩, A2, H⟩ := H; replace H := bnd_ H; obtain ⟨⟨t592, t593, t594⟩, A3, H⟩ := H; have HC4 := am_ H; clear H
 go_enter Try.func75, Try.ntmps75
 go_upto_if 22 with (first | ((with_reducible refine gd_ 2 ?_); refine bx1_ 2 #[.int .i64 0, .int .i64 0, .string (⟨#[]⟩ : ByteArray), .string (⟨#[]⟩ : ByteArray), .int .i64 0, .int .i64 0] 41 ?_; intro gb588 hg w5 hbox hb; replace HB := bx_ HB hb; have BK588 := am_ hbox; have GW588 := gw_ hg HK; have GE588 := gv_ HW0 GW588; replace HK := ku_ HK hb; have ⟨NB0_588, NB588_0⟩ := ni1_ g HI0 hg; replace HI0 := am_ (IsS80.below (hi1_ HI0) hb); clear hb hbox hg) | ((with_reducible refine gc0_ 45 ?_); refine gc_ 5 Try.func45 ?_; refine ch1_ (spec_l1Below.calls g w0 A2.1) ?_; rintro w6 ⟨hi, hb, hk⟩; replace BK588 := kb_ BK588 hk NB588_0; replace HK := kt_ HK hk; replace HB := am_ hb; replace HI0 := am_ hi; clear hb hk hi) | ((with_reducible refine gc0_ 45 ?_); refine gc_ 8 Try.func45 ?_; refine ch1_ (spec_l1Below.calls g w0 A3.1) ?_; rintro w7 ⟨hi, hb, hk⟩; replace BK588 := kb_ BK588 hk NB588_0; replace HK := kt_ HK hk; replace HB := am_ hb; replace HI0 := am_ hi; clear hb hk hi) | ((with_reducible refine gd_ 3 ?_); refine bx1_ 3 #[.int .i64 0, .int .i64 0, .string (⟨#[]⟩ : ByteArray), .string (⟨#[]⟩ : ByteArray), .int .i64 0, .int .i64 0] 41 ?_; intro gb595 hg w8 hbox hb; replace HB := bx_ HB hb; have BK595 := am_ hbox; have GW595 := gw_ hg HK; have GE595 := gv_ HW0 GW595; replace HK := ku_ HK hb; have ⟨NB588_595, NB595_588⟩ := nn_ BK588 hg; replace BK588 := bb_ BK588 hb; have ⟨NB0_595, NB595_0⟩ := ni1_ g HI0 hg; replace HI0 := am_ (IsS80.below (hi1_ HI0) hb); clear hb hbox hg; have := NB595_588.1; have := NB588_595.1; have := NB595_0.1; have := NB0_595.1; obtain ⟨Z11_0, Z11_1, Z11_2, Z11_3, Z11_4, Z11_5, F11_0, F11_1, F11_2, F11_3, F11_4, F11_5⟩ := bc6_ BK595))
 (try simp only [Act.put, la_, lz_, ls_])
 go_cut [22] (fun v22 wc => ∃ (kq : Nat) (x22_3 : Bool), v22 = .bool x22_3 ∧ Aside0 (spec_l5Rec.j0 kq (wrap64 (1 + t589)) x22_3 s0_0 t593 t594 (wrap64 (1 + t589)) (wrap64 (1 + t592)) (⟨#[]⟩ : ByteArray) (⟨#[]⟩ : ByteArray) 0 0 = some (r1, r2, r3, r4, r5, r6, r7, r8)) ∧ Aside0 (kq ≤ k) ∧ Aside0 (wc.heap[gb588]? = some (.cells #[.int .i64 0, .int .i64 0, .string (⟨#[]⟩ : ByteArray), .string (⟨#[]⟩ : ByteArray), .int .i64 0, .int .i64 0] 41 (0, 0))) ∧ Aside0 (wc.heap[gb595]? = some (.cells #[.int .i64 (wrap64 (1 + t589)), .int .i64 (wrap64 (1 + t592)), .string (⟨#[]⟩ : ByteArray), .string (⟨#[]⟩ : ByteArray), .int .i64 0, .int .i64 0] 41 (0, 0))) ∧ Aside0 (IsS80 w0 wc g s0_0 t593 t594) ∧ Aside0 (KeepBut w wc g none) ∧ Aside0 (Below w0.heap.size w0 wc))
 case first =>
  have H := HC4.1; clear HC4; by_cases c12 : (wrap64 (1 + t589)) = 1
  ·rw [if_pos c12] at H; have ⟨c12b0, c12b1⟩ := bq5_ c12; clear c12
   (first | rw [c12b0] | (simp only [i64_w, i32_w]; rw [c12b0]) | skip)
   have H' := am_ H; clear H
   go_wp2
   go_meet
   case rel => exact ⟨_, _, rs_, H', ⟨m0_⟩, ⟨uk_ BK588⟩, ⟨uk_ BK595⟩, ⟨hi1_ HI0⟩, ⟨hl_ HK⟩, ⟨hj1_ HB⟩⟩
  ·rw [if_neg c12] at H; have ⟨c12b0, c12b1⟩ := bq6_ c12
   (first | rw [c12b0] | (simp only [i64_w, i32_w]; rw [c12b0]) | skip)
   have H' := am_ H; clear H
   go_wp2
   go_meet
   case rel => exact ⟨_, _, rs_, H', ⟨m0_⟩, ⟨uk_ BK588⟩, ⟨uk_ BK595⟩, ⟨hi1_ HI0⟩, ⟨hl_ HK⟩, ⟨hj1_ HB⟩⟩
 case rest =>
  clear HC4
  (try clear c12); (try clear c12b0); (try clear c12b1)
  obtain ⟨kq, x22_3, rfl, HA, HJ3, BK588, BK595, HI0, HK, HB⟩ := hcut
  cases kq with
  | zero => exact zz_ HA
  | succ kj3 =>
   have H := HA.1; clear HA; simp only [spec_l5Rec.j0] at H; by_cases c13 : x22_3 = true
   ·subst c13; rw [if_pos rfl] at H; replace H := bnd_ H; obtain ⟨⟨t596, t597, t598⟩, A14, H⟩ := H; replace H := bnd_ H; obtain ⟨⟨t599, t600, t601⟩, A15, H⟩ := H; obtain ⟨rfl, rfl, rfl, rfl, rfl, rfl, rfl, rfl⟩ := i8_ H
    go_wp2_with (first | (refine gc_ 26 Try.func81 ?_; refine ch1_ (spec_l5Key.calls g w0 A14.1) ?_; rintro w16 ⟨hi, hb, hk⟩; replace BK588 := kb_ BK588 hk NB588_0; replace BK595 := kb_ BK595 hk NB595_0; replace HK := kt_ HK hk; replace HB := am_ hb; replace HI0 := am_ hi; clear hb hk hi; have := NB595_588.1; have := NB588_595.1; have := NB595_0.1; have := NB0_595.1; obtain ⟨Z19_0, Z19_1, Z19_2, Z19_3, Z19_4, Z19_5, F19_0, F19_1, F19_2, F19_3, F19_4, F19_5⟩ := bc6_ BK595) | (refine gc_ 29 Try.func52 ?_; refine ch1_ (spec_l1Text.calls g w0 A15.1) ?_; rintro w20 ⟨hi, hb, hk⟩; replace BK588 := kp_ #[.int .i64 0, .int .i64 0, .string (⟨#[]⟩ : ByteArray), .string (⟨#[]⟩ : ByteArray), .int .i64 0, .int .i64 0] BK588 hk NB588_0; replace BK595 := kp_ #[.int .i64 (wrap64 (1 + t589)), .int .i64 (wrap64 (1 + t592)), .string t596, .string (⟨#[]⟩ : ByteArray), .int .i64 0, .int .i64 0] BK595 hk NB595_0; replace HK := kt_ HK hk; replace HB := am_ hb; replace HI0 := am_ hi; clear hb hk hi; obtain ⟨_, _, _, _, _, _, _, _, _, _, _, _⟩ := bc6_ BK595; have := NB588_0.1; have := NB0_588.1; obtain ⟨_, _, _, _, _, _, _, _, _, _, _, _⟩ := bc6_ BK588))
    refine bodyPost_ret (results_cell_row rfl _ _ gb588 41 #[.int .i64 (wrap64 (1 + t589)), .int .i64 (wrap64 (1 + t592)), .string t596, .string t599, .int .i64 0, .int .i64 0] (0, 0) _ rfl (uk_ BK588) Try.underlying41 rfl (by kernel_rfl)) rfl ?_; exact ⟨re_, hi1_ HI0, hj1_ HB, hl_ HK⟩
   ·replace c13 := bF_ c13; subst c13; rw [if_neg ff_] at H; by_cases c24 : (wrap64 (1 + t589)) = 2
    ·rw [if_pos c24] at H; have ⟨c24b0, c24b1⟩ := bq5_ c24; clear c24; replace H := bnd_ H; obtain ⟨⟨t602, t603, t604⟩, A25, H⟩ := H; obtain ⟨rfl, rfl, rfl, rfl, rfl, rfl, rfl, rfl⟩ := i8_ H
     go_wp2_with (refine gc_ 34 Try.func81 ?_; refine ch1_ (spec_l5Key.calls g w0 A25.1) ?_; rintro w26 ⟨hi, hb, hk⟩; replace BK588 := kb_ BK588 hk NB588_0; replace BK595 := kb_ BK595 hk NB595_0; replace HK := kt_ HK hk; replace HB := am_ hb; replace HI0 := am_ hi; clear hb hk hi; have := NB595_588.1; have := NB588_595.1; have := NB595_0.1; have := NB0_595.1; obtain ⟨_, _, _, _, _, _, _, _, _, _, _, _⟩ := bc6_ BK595; have := NB588_0.1; have := NB0_588.1; obtain ⟨_, _, _, _, _, _, _, _, _, _, _, _⟩ := bc6_ BK588)
     refine bodyPost_ret (results_cell_row rfl _ _ gb588 41 #[.int .i64 (wrap64 (1 + t589)), .int .i64 (wrap64 (1 + t592)), .string t602, .string (⟨#[]⟩ : ByteArray), .int .i64 0, .int .i64 0] (0, 0) _ rfl (uk_ BK588) Try.underlying41 rfl (by kernel_rfl)) rfl ?_; exact ⟨re_, hi1_ HI0, hj1_ HB, hl_ HK⟩
    ·rw [if_neg c24] at H; have ⟨c24b0, c24b1⟩ := bq6_ c24; replace H := bnd_ H; obtain ⟨⟨t605, t606, t607⟩, A32, H⟩ := H; replace H := bnd_ H; obtain ⟨⟨t608, t609, t610⟩, A33, H⟩ := H; obtain ⟨y611, hy611⟩ : ∃ y_ : List Int, y_ = (([0, 7, 4294967295, t608] : List Int)) := ⟨_, rfl⟩
     rw [← hy611] at H; have Ny611 := am_ hy611; clear hy611; replace H := bnd_ H; obtain ⟨⟨t614, t615, t616⟩, A34, H⟩ := H; obtain ⟨rfl, rfl, rfl, rfl, rfl, rfl, rfl, rfl⟩ := i8_ H
     go_wp2_with (first | (refine gc_ 14 Try.func45 ?_; refine ch1_ (spec_l1Below.calls g w0 A32.1) ?_; rintro w35 ⟨hi, hb, hk⟩; replace BK588 := kb_ BK588 hk NB588_0; replace BK595 := kb_ BK595 hk NB595_0; replace HK := kt_ HK hk; replace HB := am_ hb; replace HI0 := am_ hi; clear hb hk hi; have := NB595_588.1; have := NB588_595.1; have := NB595_0.1; have := NB0_595.1; obtain ⟨_, _, _, _, _, _, _, _, _, _, _, _⟩ := bc6_ BK595) | (refine gc_ 18 Try.func45 ?_; refine ch1_ (spec_l1Below.calls g w0 A33.1) ?_; rintro w39 ⟨hi, hb, hk⟩; replace BK588 := kp_ #[.int .i64 0, .int .i64 0, .string (⟨#[]⟩ : ByteArray), .string (⟨#[]⟩ : ByteArray), .int .i64 0, .int .i64 0] BK588 hk NB588_0; replace BK595 := kp_ #[.int .i64 (wrap64 (1 + t589)), .int .i64 (wrap64 (1 + t592)), .string (⟨#[]⟩ : ByteArray), .string (⟨#[]⟩ : ByteArray), .int .i64 t605, .int .i64 0] BK595 hk NB595_0; replace HK := kt_ HK hk; replace HB := am_ hb; replace HI0 := am_ hi; clear hb hk hi) | (refine gd_ 19 ?_; refine li_ 19 (Kd.int .i64) 3 ([0, 7, 4294967295, t608] : List Int) [.int .i64 0, .int .i64 7, .int .i64 4294967295, .int .i64 t608] ?_ (hp := (Reps.one (show Kd.M (Kd.int .i64) _ _ _ 0 [.int .i64 0] from rfl) (Reps.one (show Kd.M (Kd.int .i64) _ _ _ 7 [.int .i64 7] from rfl) (Reps.one (show Kd.M (Kd.int .i64) _ _ _ 4294967295 [.int .i64 4294967295] from rfl) (Reps.one (show Kd.M (Kd.int .i64) _ _ _ t608 [.int .i64 t608] from rfl) (Reps.none _ _)))))); intro v612 w40 ho41 hb hg_ hnew_; clear hg_ hnew_; (first | rw [← Ny611.1] at ho41 | (simp only [Int.reduceToNat] at ho41; rw [← Ny611.1] at ho41)); have HO613 := rl_ ho41 HK; replace BK588 := bb_ BK588 hb; replace BK595 := bb_ BK595 hb; replace HK := ku_ HK hb; replace HB := bx_ HB hb; replace HI0 := am_ (IsS80.below (hi1_ HI0) hb); clear hb ho41; obtain ⟨Ao42, co42, eo42⟩ := Kd.R_slice HO613.1; subst eo42) | (refine gc_ 20 Try.func32 ?_; refine ch1_ (spec_l1PickInt.calls g Ao42 co42 w0 A34.1) ?_; rintro w43 ⟨hi, hb, hk⟩; replace BK588 := kb_ BK588 hk NB588_0; replace BK595 := kb_ BK595 hk NB595_0; replace HO613 := ro1_ HI0 HO613 hk; replace HK := kt_ HK hk; replace HB := am_ hb; replace HI0 := am_ hi; clear hb hk hi; obtain ⟨_, _, _, _, _, _, _, _, _, _, _, _⟩ := bc6_ BK595; have := NB588_0.1; have := NB0_588.1; obtain ⟨_, _, _, _, _, _, _, _, _, _, _, _⟩ := bc6_ BK588))
     refine bodyPost_ret (results_cell_row rfl _ _ gb588 41 #[.int .i64 (wrap64 (1 + t589)), .int .i64 (wrap64 (1 + t592)), .string (⟨#[]⟩ : ByteArray), .string (⟨#[]⟩ : ByteArray), .int .i64 t605, .int .i64 t614] (0, 0) _ rfl (uk_ BK588) Try.underlying41 rfl (by kernel_rfl)) rfl ?_; exact ⟨re_, hi1_ HI0, hj1_ HB, hl_ HK⟩
def spec_l6Recs.l0 : Nat → List (S41) → Int → List Int → Int → Int → Option ((List (S41)) × Int × Int)
 | 0, _, _, _, _, _ => none
 | k + 1, x5, x6, x1000, x1001, x1002 => if x6 > 0 then ((spec_l5Rec.f k x1000 x1001 x1002).bind fun bt623 => (if x5.length < 2199023255552 then (spec_l6Recs.l0 k (x5 ++ [(⟨bt623.1, bt623.2.1, bt623.2.2.1, bt623.2.2.2.1, bt623.2.2.2.2.1, bt623.2.2.2.2.2.1⟩ : S41)]) (wrap64 (x6 - 1)) x1000 bt623.2.2.2.2.2.2.1 bt623.2.2.2.2.2.2.2) else (none))) else (some (x5, x1001, x1002))
def spec_l6Recs.f (k : Nat) (s0_0 : List Int) (s0_1 : Int) (s0_2 : Int) (a1 : Int) : Option ((List (S41)) × Int × Int) := (spec_l1Below.f s0_0 s0_1 s0_2 (wrap64 (a1 + 1))).bind fun bt620 => (spec_l6Recs.l0 k (([] : List (S41))) bt620.1 s0_0 bt620.2.1 bt620.2.2)
theorem spec_l6Recs.calls {k : Nat} {s0_0 : List Int} {s0_1 s0_2 a1 : Int} {r1 : List (S41)} {r2 r3 : Int} {w : World} (g : Nat) (w0 : World) (h : spec_l6Recs.f k s0_0 s0_1 s0_2 a1 = some (r1, r2, r3)) (hI : IsS80 w0 w g s0_0 s0_1 s0_2 := by exact si1_) (hB : Below w0.heap.size w0 w := by exact bw_) :
  Calls Try.prog 57 #[.pointer (some ⟨g, 0, none⟩), .int .i64 a1] w fun e w' => ∃ v0_ : Value, e = .returned (v0_) ∧ Kd.R k41 41 w' w.heap.size (fun _ => True) v0_ r1 ∧ IsS80 w0 w' g s0_0 r2 r3 ∧ Below w0.heap.size w0 w' ∧ KeepBut w w' g none := by
 have HI0 := am_ hI; have HK := am_ (KeepBut.refl w g none); have HL := am_ hB.size; clear hI; have HW0 := am_ hB.size; have HB := am_ hB; clear hB; unfold spec_l6Recs.f at h; have H := h; clear h; obtain ⟨y617, hy617⟩ : ∃ y_ : List (S41), y_ = (([] : List (S41))) := ⟨_, rfl⟩
 replace H : ((spec_l1Below.f s0_0 s0_1 s0_2 (wrap64 (a1 + 1))).bind fun bt620 => (spec_l6Recs.l0 k y617 bt620.1 s0_0 bt620.2.1 bt620.2.2)) = some (r1, r2, r3) := by first | (rw [hy617]; with_reducible exact H) | (have H2_ := (Option.bind_some _ _).symm.trans H; rw [hy617]; with_reducible exact H2_) | (have H2_ := (Option.bind_some _ _).symm.trans H; with_reducible exact H2_) | with_reducible exact H | (rw [hy617]; exact H) | exact H
 have Ny617 := am_ hy617; clear hy617; replace H := bnd_ H; obtain ⟨⟨t620, t621, t622⟩, A3, H⟩ := H; have H' := am_ H; clear H
 go_enter Try.func57, Try.ntmps57
 go_wp2_with (first | (refine gd_ 7 ?_; refine li_ 7 k41 41 ([] : List (S41)) [] ?_; intro v618 w4 ho5 hb hg_ hnew_; clear hg_ hnew_; (first | rw [← Ny617.1] at ho5 | (simp only [Int.reduceToNat] at ho5; rw [← Ny617.1] at ho5)); have HO619 := rl_ ho5 HK; replace HK := ku_ HK hb; replace HB := bx_ HB hb; replace HI0 := am_ (IsS80.below (hi1_ HI0) hb); clear hb ho5) | (refine gc_ 11 Try.func45 ?_; refine ch1_ (spec_l1Below.calls g w0 A3.1) ?_; rintro w6 ⟨hi, hb, hk⟩; replace HO619 := ro1_ HI0 HO619 hk; replace HK := kt_ HK hk; replace HB := am_ hb; replace HI0 := am_ hi; clear hb hk hi))
 go_loopg [5, 6] k (fun kq v5 v6 w' => ∃ (x5_1 : List (S41)) (x6_1 : Int) (x1001_1 : Int) (x1002_1 : Int), v6 = .int .i64 x6_1 ∧ Aside0 (spec_l6Recs.l0 kq x5_1 x6_1 s0_0 x1001_1 x1002_1 = some (r1, r2, r3)) ∧ Aside0 (kq ≤ k) ∧ Aside0 (Kd.R k41 41 w' w.heap.size (fun _ => True) v5 x5_1) ∧ Aside0 (IsS80 w0 w' g s0_0 x1001_1 x1002_1) ∧ Aside0 (KeepBut w w' g none) ∧ Aside0 (Below w0.heap.size w0 w'))
 case atStart => exact ⟨_, _, _, _, rs_, H', ⟨Nat.le_refl _⟩, ⟨rr_ HO619⟩, ⟨hi1_ HI0⟩, ⟨hk_ HK⟩, ⟨hj1_ HB⟩⟩
 case round =>
  clear H'; obtain ⟨x5_1, x6_1, x1001_1, x1002_1, rfl, HA, HK1, HO_5, HI0, HK, HB⟩ := hrel
  cases gk with
  | zero => exact zz_ HA
  | succ k1 =>
   have H := HA.1; clear HA; simp only [spec_l6Recs.l0] at H; by_cases c7 : x6_1 > 0
   ·rw [if_pos c7] at H; have c7b0 := dq_ c7; clear c7; replace H := bnd_ H; obtain ⟨⟨t623, t624, t625, t626, t627, t628, t629, t630⟩, A8, H⟩ := H; replace H := il_ H; obtain ⟨LMc9, H⟩ := H; obtain ⟨y631, hy631⟩ : ∃ y_ : List (S41), y_ = (x5_1 ++ [(⟨t623, t624, t625, t626, t627, t628⟩ : S41)]) := ⟨_, rfl⟩
    rw [← hy631] at H; have Ny631 := am_ hy631; clear hy631; have H' := am_ H; clear H
    go_wp2_with (first | (refine gc_ 18 Try.func75 ?_; refine ch1_ (spec_l5Rec.calls g w0 A8.1) ?_; rintro w10 ⟨hi, hb, hk⟩; replace HO_5 := ro1_ HI0 HO_5 hk; replace HK := kt_ HK hk; replace HB := am_ hb; replace HI0 := am_ hi; clear hb hk hi) | (at_builtin; refine gb_ #[.tmp 16, .tmp 19] ?_; refine Kd.R_append k41 w.heap.size rfl (.tmp 16) (.tmp 19) 88 41 (.agg #[(.int .i64 0), (.int .i64 0), (.string ⟨#[]⟩), (.string ⟨#[]⟩), (.int .i64 0), (.int .i64 0)]) 64 rfl Try.underlying88 info41 rfl (by decide) (by omega) u5 x5_1 (⟨t623, t624, t625, t626, t627, t628⟩ : S41) [.int .i64 t623, .int .i64 t624, .string t625, .string t626, .int .i64 t627, .int .i64 t628] (fun _ => True) (fun _ => False) rfl rfl ?aP (fun _ hk => hk.elim) ?aF ?aO (Below.refl _ _) ?aS ?aL ?_; (case aP => exact k41_mkM _ _ _ (⟨t623, t624, t625, t626, t627, t628⟩ : S41)); (case aF => exact (fun _ _ => trivial)); (case aO => exact (rr_ HO_5)); (case aS => exact (keep_size (w := w) (g := g) (row := none) (hk_ HK))); (case aL => have := LMc9.1; omega); intro v632 w11 ho hb hg hat; rw [← Ny631.1] at ho; replace HB := am_ (below_weaken (hj1_ HB) HL.1 hb); replace HI0 := am_ (IsS80.grown (hi1_ HI0) hg (IsS80.own_ne HI0.1 HO_5.1 (by decide))); replace HK := kg_ HK hg (Kd.R_base2 HO_5.1); have HO633 := am_ ho; clear HO_5; clear ho hb hg hat))
    go_roundg k1
    case measure => exact m1_ HK1
    case rel => exact ⟨_, _, _, _, rs_, H', ⟨m1_ HK1⟩, ⟨rr_ HO633⟩, ⟨hi1_ HI0⟩, ⟨hk_ HK⟩, ⟨hj1_ HB⟩⟩
   ·rw [if_neg c7] at H; have c7b0 := df_ c7; clear c7; obtain ⟨rfl, rfl, rfl⟩ := i3_ H
    go_wp2
    go_ret
    exact ⟨_, re_, rr_ HO_5, hi1_ HI0, hj1_ HB, hk_ HK⟩
def spec_l6Log.l0 : Nat → ByteArray → List (S41) → Int → List Int → Int → Int → Option (ByteArray × Int × Int)
 | 0, _, _, _, _, _, _ => none
 | k + 1, x3, x4, x5, x1000, x1001, x1002 => if x5 < (x4.length : Int) then (if 0 ≤ x5 then ((spec_ShowRec.f k ((rd_T41 x4 x5).f0) ((rd_T41 x4 x5).f1) ((rd_T41 x4 x5).f2) ((rd_T41 x4 x5).f3) ((rd_T41 x4 x5).f4) ((rd_T41 x4 x5).f5)).bind fun t640 => ((spec_Frame.f k t640).bind fun t641 => (if x3.size + t641.size ≤ 9223372036854775807 then (spec_l6Log.l0 k (x3 ++ t641) x4 (wrap64 (x5 + 1)) x1000 x1001 x1002) else (none)))) else (none)) else ((spec_l1Below.f x1000 x1001 x1002 5).bind fun bt642 => (if bt642.1 = 0 then ((spec_l1Spoil.f k x1000 bt642.2.1 bt642.2.2 x3).bind fun bt645 => (some (bt645.1, bt645.2.1, bt645.2.2))) else (if bt642.1 = 1 then ((spec_l1Below.f x1000 bt642.2.1 bt642.2.2 (wrap64 ((x3.size : Int) + 1))).bind fun bt648 => (if 0 ≤ bt648.1 then (if bt648.1 ≤ (x3.size : Int) then (some (x3.extract 0 (bt648.1 : Int).toNat, bt648.2.1, bt648.2.2)) else (none)) else (none))) else (if bt642.1 = 2 then ((spec_l1Text.f k x1000 bt642.2.1 bt642.2.2 4).bind fun bt651 => ((spec_Frame.f k bt651.1).bind fun t654 => (if x3.size + t654.size ≤ 9223372036854775807 then (some (x3 ++ t654, bt651.2.1, bt651.2.2)) else (none)))) else (some (x3, bt642.2.1, bt642.2.2))))))
def spec_l6Log.f (k : Nat) (s0_0 : List Int) (s0_1 : Int) (s0_2 : Int) : Option (ByteArray × Int × Int) := (spec_l6Recs.f k s0_0 s0_1 s0_2 5).bind fun bt634 => (spec_l6Log.l0 k (⟨#[]⟩ : ByteArray) bt634.1 0 s0_0 bt634.2.1 bt634.2.2)
theorem spec_l6Log.calls {k : Nat} {s0_0 : List Int} {s0_1 s0_2 : Int} {r1 : ByteArray} {r2 r3 : Int} {w : World} (g : Nat) (w0 : World) (h : spec_l6Log.f k s0_0 s0_1 s0_2 = some (r1, r2, r3)) (hI : IsS80 w0 w g s0_0 s0_1 s0_2 := by exact si1_) (hB : Below w0.heap.size w0 w := by exact bw_) :
  Calls Try.prog 31 #[.pointer (some ⟨g, 0, none⟩)] w fun e w' => e = .returned (.string r1) ∧ IsS80 w0 w' g s0_0 r2 r3 ∧ Below w0.heap.size w0 w' ∧ KeepBut w w' g none := by
 have hu41 := Try.underlying41; have HI0 := am_ hI; have HK := am_ (KeepBut.refl w g none); have HL := am_ hB.size; clear hI; have HW0 := am_ hB.size; have HB := am_ hB; clear hB; unfold spec_l6Log.f at h; have H := h; clear h; replace H := bnd_ H; obtain ⟨⟨t634, t637, t638⟩, A2, H⟩ := H; have H' := am_ H; clear H
 go_enter Try.func31, Try.ntmps31
 go_wp2_with (refine gc_ 7 Try.func57 ?_; refine ch_ (spec_l6Recs.calls g w0 A2.1) ?_; rintro e w3 ⟨v635, rfl, ho0, hi, hb, hk⟩; refine ⟨_, rfl, ?_⟩; have HO636 := rl_ ho0 HK; replace HK := kt_ HK hk; replace HB := am_ hb; replace HI0 := am_ hi; clear hb hk hi ho0)
 go_loopg [3, 5] k (fun kq v3 v5 w' => ∃ (x3_1 : ByteArray) (x5_1 : Int), v3 = .string x3_1 ∧ v5 = .int .i64 x5_1 ∧ Aside0 (spec_l6Log.l0 kq x3_1 t634 x5_1 s0_0 t637 t638 = some (r1, r2, r3)) ∧ Aside0 (kq ≤ k) ∧ Aside0 (Kd.R k41 41 w' w.heap.size (fun _ => True) v635 t634) ∧ Aside0 (IsS80 w0 w' g s0_0 t637 t638) ∧ Aside0 (KeepBut w w' g none) ∧ Aside0 (Below w0.heap.size w0 w'))
 case atStart => exact ⟨_, _, rs_, rs_, H', ⟨Nat.le_refl _⟩, ⟨rr_ HO636⟩, ⟨hi1_ HI0⟩, ⟨hk_ HK⟩, ⟨hj1_ HB⟩⟩
 case round =>
  clear H'; obtain ⟨x3_1, x5_1, rfl, rfl, HA, HK1, HO_4, HI0, HK, HB⟩ := hrel
  cases gk with
  | zero => exact zz_ HA
  | succ k1 =>
   have H := HA.1; clear HA; simp only [spec_l6Log.l0] at H; by_cases c4 : x5_1 < (t634.length : Int)
   ·rw [if_pos c4] at H; have c4b0 := dq_ c4; clear c4; replace H := ih_ H; obtain ⟨c5, H⟩ := H; have c5b0 := dq_ c5; clear c5; replace H := bnd_ H; obtain ⟨t640, A6, H⟩ := H; replace H := bnd_ H; obtain ⟨t641, A7, H⟩ := H; replace H := ih_ H; obtain ⟨c8, H⟩ := H; have ⟨c8b0, c8b1, c8b2⟩ := dl_ c8
    have H' := am_ H; clear H; obtain ⟨Ao9, co9, eo9⟩ := Kd.R_slice HO_4.1; subst eo9; have p639 : 0 ≤ (x5_1 : Int) := od_; have q639 : x5_1 < (t634.length : Int) := od_; obtain ⟨ad639, e639, hx639_0, hx639_1, hx639_2, hx639_3, hx639_4, hx639_5⟩ := at_T41 (Kd.R_reads' HO_4.1).2.2 x5_1 p639 q639
    cases e639
    replace p639 := eq_true p639; replace q639 := eq_true q639
    go_wp2_with (first | (refine gc_ 19 Try.func54 ?_; refine ch1_ (spec_ShowRec.calls A6.1) ?_; intro w10 hb; replace HO_4 := rb_ HO_4 hb; replace HK := ku_ HK hb; replace HB := bx_ HB hb; replace HI0 := am_ (IsS80.below (hi1_ HI0) hb); clear hb) | (refine gc_ 20 Try.func53 ?_; refine ch1_ (spec_Frame.calls A7.1) ?_; intro w11 hb; replace HO_4 := rb_ HO_4 hb; replace HK := ku_ HK hb; replace HB := bx_ HB hb; replace HI0 := am_ (IsS80.below (hi1_ HI0) hb); clear hb))
    go_roundg k1
    case measure => exact m1_ HK1
    case rel => exact ⟨_, _, rs_, rs_, H', ⟨m1_ HK1⟩, ⟨rr_ HO_4⟩, ⟨hi1_ HI0⟩, ⟨hk_ HK⟩, ⟨hj1_ HB⟩⟩
   ·rw [if_neg c4] at H; have c4b0 := df_ c4; clear c4; replace H := bnd_ H; obtain ⟨⟨t642, t643, t644⟩, A12, H⟩ := H; by_cases c13 : t642 = 0
    ·rw [if_pos c13] at H; have ⟨c13b0, c13b1⟩ := bq5_ c13; clear c13; replace H := bnd_ H; obtain ⟨⟨t645, t646, t647⟩, A14, H⟩ := H; obtain ⟨rfl, rfl, rfl⟩ := i3_ H; obtain ⟨Ao15, co15, eo15⟩ := Kd.R_slice HO_4.1; subst eo15
     go_wp2_with (first | (refine gc_ 23 Try.func45 ?_; refine ch1_ (spec_l1Below.calls g w0 A12.1) ?_; rintro w16 ⟨hi, hb, hk⟩; replace HO_4 := ro1_ HI0 HO_4 hk; replace HK := kt_ HK hk; replace HB := am_ hb; replace HI0 := am_ hi; clear hb hk hi) | (refine gc_ 28 Try.func56 ?_; refine ch1_ (spec_l1Spoil.calls g w0 A14.1) ?_; rintro w17 ⟨hi, hb, hk⟩; replace HO_4 := ro1_ HI0 HO_4 hk; replace HK := kt_ HK hk; replace HB := am_ hb; replace HI0 := am_ hi; clear hb hk hi))
     go_ret
     exact ⟨re_, hi1_ HI0, hj1_ HB, hk_ HK⟩
    ·rw [if_neg c13] at H; have ⟨c13b0, c13b1⟩ := bq6_ c13; by_cases c18 : t642 = 1
     ·rw [if_pos c18] at H; have ⟨c18b0, c18b1⟩ := bq5_ c18; clear c18; replace H := bnd_ H; obtain ⟨⟨t648, t649, t650⟩, A19, H⟩ := H; replace H := ig_ H; obtain ⟨c20b0, c20b1, H⟩ := H; replace H := ig_ H; obtain ⟨c21b0, c21b1, H⟩ := H; obtain ⟨rfl, rfl, rfl⟩ := i3_ H; obtain ⟨Ao22, co22, eo22⟩ := Kd.R_slice HO_4.1; subst eo22
      go_wp2_with (first | (refine gc_ 23 Try.func45 ?_; refine ch1_ (spec_l1Below.calls g w0 A12.1) ?_; rintro w23 ⟨hi, hb, hk⟩; replace HO_4 := ro1_ HI0 HO_4 hk; replace HK := kt_ HK hk; replace HB := am_ hb; replace HI0 := am_ hi; clear hb hk hi) | (refine gc_ 36 Try.func45 ?_; refine ch1_ (spec_l1Below.calls g w0 A19.1) ?_; rintro w24 ⟨hi, hb, hk⟩; replace HO_4 := ro1_ HI0 HO_4 hk; replace HK := kt_ HK hk; replace HB := am_ hb; replace HI0 := am_ hi; clear hb hk hi))
      go_ret
      exact ⟨re_, hi1_ HI0, hj1_ HB, hk_ HK⟩
     ·rw [if_neg c18] at H; have ⟨c18b0, c18b1⟩ := bq6_ c18; by_cases c25 : t642 = 2
      ·rw [if_pos c25] at H; have ⟨c25b0, c25b1⟩ := bq5_ c25; clear c25; replace H := bnd_ H; obtain ⟨⟨t651, t652, t653⟩, A26, H⟩ := H; replace H := bnd_ H; obtain ⟨t654, A27, H⟩ := H; replace H := ih_ H; obtain ⟨c28, H⟩ := H; have ⟨c28b0, c28b1, c28b2⟩ := dl_ c28
       obtain ⟨rfl, rfl, rfl⟩ := i3_ H; obtain ⟨Ao29, co29, eo29⟩ := Kd.R_slice HO_4.1; subst eo29
       go_wp2_with (first | (refine gc_ 23 Try.func45 ?_; refine ch1_ (spec_l1Below.calls g w0 A12.1) ?_; rintro w30 ⟨hi, hb, hk⟩; replace HO_4 := ro1_ HI0 HO_4 hk; replace HK := kt_ HK hk; replace HB := am_ hb; replace HI0 := am_ hi; clear hb hk hi) | (refine gc_ 42 Try.func52 ?_; refine ch1_ (spec_l1Text.calls g w0 A26.1) ?_; rintro w31 ⟨hi, hb, hk⟩; replace HO_4 := ro1_ HI0 HO_4 hk; replace HK := kt_ HK hk; replace HB := am_ hb; replace HI0 := am_ hi; clear hb hk hi) | (refine gc_ 43 Try.func53 ?_; refine ch1_ (spec_Frame.calls A27.1) ?_; intro w32 hb; replace HO_4 := rb_ HO_4 hb; replace HK := ku_ HK hb; replace HB := bx_ HB hb; replace HI0 := am_ (IsS80.below (hi1_ HI0) hb); clear hb))
       go_ret
       exact ⟨re_, hi1_ HI0, hj1_ HB, hk_ HK⟩
      ·rw [if_neg c25] at H; have ⟨c25b0, c25b1⟩ := bq6_ c25; obtain ⟨rfl, rfl, rfl⟩ := i3_ H; obtain ⟨Ao33, co33, eo33⟩ := Kd.R_slice HO_4.1; subst eo33
       go_wp2_with (refine gc_ 23 Try.func45 ?_; refine ch1_ (spec_l1Below.calls g w0 A12.1) ?_; rintro w34 ⟨hi, hb, hk⟩; replace HO_4 := ro1_ HI0 HO_4 hk; replace HK := kt_ HK hk; replace HB := am_ hb; replace HI0 := am_ hi; clear hb hk hi)
       go_ret
       exact ⟨re_, hi1_ HI0, hj1_ HB, hk_ HK⟩
def spec_DrawHintOf.f (k : Nat) (l0 : List Int) : Option (Int × ByteArray) := (spec_l1New.f k l0).bind fun bt655 => ((spec_l10Merged.f k bt655.1 bt655.2.1 bt655.2.2).bind fun bt659 => ((spec_l1Once.f bt655.1 bt659.2.1 bt659.2.2 5).bind fun bt662 => (if bt662.1 = true then ((spec_l6Log.f k bt655.1 bt662.2.1 bt662.2.2).bind fun bt665 => ((spec_l1PickInt.f bt655.1 bt665.2.1 bt665.2.2 (([1, 2, 2, 0] : List Int))).bind fun bt671 => (some (bt671.1, bt665.1)))) else ((spec_l1PickInt.f bt655.1 bt662.2.1 bt662.2.2 (([1, 2, 2, 0] : List Int))).bind fun bt677 => (some (bt677.1, bt659.1))))))
theorem spec_DrawHintOf.calls {k : Nat} {l0 : List Int} {r1 : Int} {r2 : ByteArray} {w : World} (A0 : Option Addr) (c0 : Nat) (h : spec_DrawHintOf.f k l0 = some (r1, r2)) (hr0 : Kd.C (Kd.int .u8) w A0 l0.length l0 := by exact sr_) (hc0 : l0.length ≤ c0 := by exact sc_) :
  Calls Try.prog 10 #[.slice A0 l0.length c0] w fun e w' => e = .returned (.tuple #[.int .i64 r1, .string r2]) ∧ Below w.heap.size w w' := by
 have HR0 := am_ hr0; have HC0 := am_ hc0; clear hr0 hc0; have HB := am_ (Below.refl w.heap.size w); unfold spec_DrawHintOf.f at h; have H := h; clear h; replace H := bnd_ H; obtain ⟨⟨t655, t656, t657⟩, A2, H⟩ := H; replace H := bnd_ H; obtain ⟨⟨t659, t660, t661⟩, A3, H⟩ := H; replace H := bnd_ H; obtain ⟨⟨t662, t663, t664⟩, A4, H⟩ := H; by_cases c5 : t662 = true
 ·subst c5; rw [if_pos rfl] at H; replace H := bnd_ H; obtain ⟨⟨t665, t666, t667⟩, A6, H⟩ := H; obtain ⟨y668, hy668⟩ : ∃ y_ : List Int, y_ = (([1, 2, 2, 0] : List Int)) := ⟨_, rfl⟩
  rw [← hy668] at H; have Ny668 := am_ hy668; clear hy668; replace H := bnd_ H; obtain ⟨⟨t671, t672, t673⟩, A7, H⟩ := H; obtain ⟨rfl, rfl⟩ := i2_ H
  go_enter Try.func10, Try.ntmps10
  go_wp2_with (first | (refine gc_ 7 Try.func15 ?_; refine ch_ (spec_l1New.calls A0 c0 w A2.1 (hr0 := HR0.1)) ?_; rintro e w8 ⟨g658, rfl, hi, hb, hb2⟩; refine ⟨_, rfl, ?_⟩; replace HB := am_ hb; have HI658 := am_ hi; clear hb hb2 hi) | (refine gc_ 9 Try.func29 ?_; refine ch1_ (spec_l10Merged.calls g658 w A3.1) ?_; rintro w9 ⟨hi, hb, hk⟩; replace HB := am_ hb; replace HI658 := am_ hi; clear hb hk hi) | (refine gc_ 11 Try.func30 ?_; refine ch1_ (spec_l1Once.calls g658 w A4.1) ?_; rintro w10 ⟨hi, hb, hk⟩; replace HB := am_ hb; replace HI658 := am_ hi; clear hb hk hi) | (refine gc_ 13 Try.func31 ?_; refine ch1_ (spec_l6Log.calls g658 w A6.1) ?_; rintro w11 ⟨hi, hb, hk⟩; replace HB := am_ hb; replace HI658 := am_ hi; clear hb hk hi) | (refine gd_ 15 ?_; refine li_ 15 (Kd.int .i64) 3 ([1, 2, 2, 0] : List Int) [.int .i64 1, .int .i64 2, .int .i64 2, .int .i64 0] ?_ (hp := (Reps.one (show Kd.M (Kd.int .i64) _ _ _ 1 [.int .i64 1] from rfl) (Reps.one (show Kd.M (Kd.int .i64) _ _ _ 2 [.int .i64 2] from rfl) (Reps.one (show Kd.M (Kd.int .i64) _ _ _ 2 [.int .i64 2] from rfl) (Reps.one (show Kd.M (Kd.int .i64) _ _ _ 0 [.int .i64 0] from rfl) (Reps.none _ _)))))); intro v669 w12 ho13 hb hg_ hnew_; clear hg_ hnew_; (first | rw [← Ny668.1] at ho13 | (simp only [Int.reduceToNat] at ho13; rw [← Ny668.1] at ho13)); have HO670 := rm_ ho13 HB; replace HB := bx_ HB hb; replace HI658 := am_ (IsS80.below (hi1_ HI658) hb); clear hb ho13; obtain ⟨Ao14, co14, eo14⟩ := Kd.R_slice HO670.1; subst eo14) | (refine gc_ 16 Try.func32 ?_; refine ch1_ (spec_l1PickInt.calls g658 Ao14 co14 w A7.1) ?_; rintro w15 ⟨hi, hb, hk⟩; replace HO670 := ro1_ HI658 HO670 hk; replace HB := am_ hb; replace HI658 := am_ hi; clear hb hk hi))
  go_ret2
  exact ⟨re_, hj1_ HB⟩
 ·replace c5 := bF_ c5; subst c5; rw [if_neg ff_] at H; obtain ⟨y674, hy674⟩ : ∃ y_ : List Int, y_ = (([1, 2, 2, 0] : List Int)) := ⟨_, rfl⟩
  rw [← hy674] at H; have Ny674 := am_ hy674; clear hy674; replace H := bnd_ H; obtain ⟨⟨t677, t678, t679⟩, A16, H⟩ := H; obtain ⟨rfl, rfl⟩ := i2_ H
  go_enter Try.func10, Try.ntmps10
  go_wp2_with (first | (refine gc_ 7 Try.func15 ?_; refine ch_ (spec_l1New.calls A0 c0 w A2.1 (hr0 := HR0.1)) ?_; rintro e w17 ⟨g658, rfl, hi, hb, hb2⟩; refine ⟨_, rfl, ?_⟩; replace HB := am_ hb; have HI658 := am_ hi; clear hb hb2 hi) | (refine gc_ 9 Try.func29 ?_; refine ch1_ (spec_l10Merged.calls g658 w A3.1) ?_; rintro w18 ⟨hi, hb, hk⟩; replace HB := am_ hb; replace HI658 := am_ hi; clear hb hk hi) | (refine gc_ 11 Try.func30 ?_; refine ch1_ (spec_l1Once.calls g658 w A4.1) ?_; rintro w19 ⟨hi, hb, hk⟩; replace HB := am_ hb; replace HI658 := am_ hi; clear hb hk hi) | (refine gd_ 15 ?_; refine li_ 15 (Kd.int .i64) 3 ([1, 2, 2, 0] : List Int) [.int .i64 1, .int .i64 2, .int .i64 2, .int .i64 0] ?_ (hp := (Reps.one (show Kd.M (Kd.int .i64) _ _ _ 1 [.int .i64 1] from rfl) (Reps.one (show Kd.M (Kd.int .i64) _ _ _ 2 [.int .i64 2] from rfl) (Reps.one (show Kd.M (Kd.int .i64) _ _ _ 2 [.int .i64 2] from rfl) (Reps.one (show Kd.M (Kd.int .i64) _ _ _ 0 [.int .i64 0] from rfl) (Reps.none _ _)))))); intro v675 w20 ho21 hb hg_ hnew_; clear hg_ hnew_; (first | rw [← Ny674.1] at ho21 | (simp only [Int.reduceToNat] at ho21; rw [← Ny674.1] at ho21)); have HO676 := rm_ ho21 HB; replace HB := bx_ HB hb; replace HI658 := am_ (IsS80.below (hi1_ HI658) hb); clear hb ho21; obtain ⟨Ao22, co22, eo22⟩ := Kd.R_slice HO676.1; subst eo22) | (refine gc_ 16 Try.func32 ?_; refine ch1_ (spec_l1PickInt.calls g658 Ao22 co22 w A16.1) ?_; rintro w23 ⟨hi, hb, hk⟩; replace HO676 := ro1_ HI658 HO676 hk; replace HB := am_ hb; replace HI658 := am_ hi; clear hb hk hi))
  go_ret2
  exact ⟨re_, hj1_ HB⟩
def impl_Frame.f (k : Nat) (a0 : ByteArray) : Option (ByteArray) := if (a0.size : Int) > 200 then (some (⟨#[]⟩ : ByteArray)) else ((impl_textOf.f k a0).bind fun t680 => ((impl_Crc.f k t680).bind fun t681 => ((impl_Fixed.f k t681 4).bind fun t682 => (if t682.size + t680.size ≤ 9223372036854775807 then (some (t682 ++ t680)) else (none)))))
theorem impl_Frame.calls {k : Nat} {a0 r : ByteArray} {w : World} (h : impl_Frame.f k a0 = some r) :
  Calls Try.prog 76 #[.string a0] w fun e w' => e = .returned (.string r) ∧ Below w.heap.size w w' := by
 have HB := am_ (Below.refl w.heap.size w); unfold impl_Frame.f at h; have H := h; clear h; by_cases c2 : (a0.size : Int) > 200
 ·rw [if_pos c2] at H; have c2b0 := dq_ c2; have c2b1 : decide (200 < a0.size) = true := decide_eq_true (by omega); clear c2; obtain rfl := in_ H
  go_enter Try.func76, Try.ntmps76
  go_wp2
  go_ret
  exact ⟨re_, hb_ HB⟩
 ·rw [if_neg c2] at H; have c2b0 := df_ c2; have c2b1 : decide (200 < a0.size) = false := decide_eq_false (by omega); clear c2; replace H := bnd_ H; obtain ⟨t680, A3, H⟩ := H; replace H := bnd_ H; obtain ⟨t681, A4, H⟩ := H; replace H := bnd_ H; obtain ⟨t682, A5, H⟩ := H; replace H := ih_ H; obtain ⟨c6, H⟩ := H; have ⟨c6b0, c6b1, c6b2⟩ := dl_ c6
  obtain rfl := in_ H
  go_enter Try.func76, Try.ntmps76
  go_wp2_with (first | (refine gc_ 8 Try.func19 ?_; refine ch1_ (impl_textOf.calls A3.1) ?_; intro w7 hb; replace HB := bx_ HB hb; clear hb) | (refine gc_ 10 Try.func21 ?_; refine ch1_ (impl_Crc.calls A4.1) ?_; rintro w' ⟨nd, rfl⟩) | (refine gc_ 11 Try.func20 ?_; refine ch1_ (impl_Fixed.calls A5.1) ?_; intro w8 hb; replace HB := bx_ HB hb; clear hb))
  go_ret
  exact ⟨re_, hb_ HB⟩
end
def impl_Unframe.j0 : Nat → ByteArray → Int → Int → Bool → Option (ByteArray × Int)
 | 0, _, _, _, _ => none
 | k + 1, x0, x4, x5, x31 => if x31 = true then (some ((⟨#[]⟩ : ByteArray), 0)) else (if 0 ≤ (wrap64 (4 + x5)) then (if (wrap64 (4 + x5)) ≤ (wrap64 ((wrap64 (4 + x5)) + x4)) then (if (wrap64 ((wrap64 (4 + x5)) + x4)) ≤ (x0.size : Int) then ((impl_Frame.f k (x0.extract ((wrap64 (4 + x5)) : Int).toNat ((wrap64 ((wrap64 (4 + x5)) + x4)) : Int).toNat)).bind fun t685 => (if 0 ≤ (wrap64 ((wrap64 (4 + x5)) + x4)) then (if t685.toList = (x0.extract 0 ((wrap64 ((wrap64 (4 + x5)) + x4)) : Int).toNat).toList then (some (x0.extract ((wrap64 (4 + x5)) : Int).toNat ((wrap64 ((wrap64 (4 + x5)) + x4)) : Int).toNat, wrap64 ((wrap64 (4 + x5)) + x4))) else (some ((⟨#[]⟩ : ByteArray), 0))) else (none))) else (none)) else (none)) else (none))
def impl_Unframe.f (k : Nat) (a0 : ByteArray) : Option (ByteArray × Int) := if (a0.size : Int) < 4 then (some ((⟨#[]⟩ : ByteArray), 0)) else (if 4 ≤ (a0.size : Int) then ((impl_ReadVar.f k (a0.extract 4 a0.size)).bind fun bt683 => (if bt683.2 = 0 then (impl_Unframe.j0 k a0 bt683.1 bt683.2 true) else (if bt683.1 > 200 then (impl_Unframe.j0 k a0 bt683.1 bt683.2 true) else (impl_Unframe.j0 k a0 bt683.1 bt683.2 (decide (bt683.1 > (wrap64 ((wrap64 ((a0.size : Int) - 4)) - bt683.2)))))))) else (none))
theorem impl_Unframe.calls {k : Nat} {a0 r1 : ByteArray} {r2 : Int} {w : World} (h : impl_Unframe.f k a0 = some (r1, r2)) :
  Calls Try.prog 58 #[.string a0] w fun e w' => e = .returned (.tuple #[.string r1, .int .i64 r2]) ∧ Below w.heap.size w w' := by
 have HB := am_ (Below.refl w.heap.size w); unfold impl_Unframe.f at h; have H := h; clear h; by_cases c2 : (a0.size : Int) < 4
 ·rw [if_pos c2] at H; have c2b0 := dq_ c2; have c2b1 : decide (a0.size < 4) = true := decide_eq_true (by omega); clear c2; obtain ⟨rfl, rfl⟩ := i2_ H
  go_enter Try.func58, Try.ntmps58
  go_wp2
  go_ret2
  exact ⟨re_, hb_ HB⟩
 ·rw [if_neg c2] at H; have c2b0 := df_ c2; have c2b1 : decide (a0.size < 4) = false := decide_eq_false (by omega); clear c2; replace H := ig_ H; obtain ⟨c3b0, c3b1, H⟩ := H; replace H := bnd_ H; obtain ⟨⟨t683, t684⟩, A4, H⟩ := H; have HC5 := am_ H; clear H
  go_enter Try.func58, Try.ntmps58
  go_upto_region 4 with ((with_reducible refine gc0_ 49 ?_); refine gc_ 14 Try.func49 ?_; refine ch1_ (impl_ReadVar.calls A4.1) ?_; rintro w' ⟨nd, rfl⟩)
  (try simp only [Act.put, la_, lz_, ls_])
  go_cut [31] (fun v31 wc => ∃ (kq : Nat) (x31_4 : Bool), v31 = .bool x31_4 ∧ Aside0 (impl_Unframe.j0 kq a0 t683 t684 x31_4 = some (r1, r2)) ∧ Aside0 (kq ≤ k) ∧ Aside0 (Below w.heap.size w wc))
  case first =>
   have H := HC5.1; clear HC5; by_cases c6 : t684 = 0
   ·rw [if_pos c6] at H; have ⟨c6b0, c6b1⟩ := bq5_ c6; clear c6
    (first | rw [c6b0] | (simp only [i64_w, i32_w]; rw [c6b0]) | skip)
    have H' := am_ H; clear H
    go_wp2
    go_meet
    case rel => exact ⟨_, _, rs_, H', ⟨m0_⟩, ⟨hb_ HB⟩⟩
   ·rw [if_neg c6] at H; have ⟨c6b0, c6b1⟩ := bq6_ c6
    (first | rw [c6b0] | (simp only [i64_w, i32_w]; rw [c6b0]) | skip)
    by_cases c7 : t683 > 200
    ·rw [if_pos c7] at H; have c7b0 := dq_ c7; clear c7; have H' := am_ H; clear H
     go_wp2
     go_meet
     case rel => exact ⟨_, _, rs_, H', ⟨m0_⟩, ⟨hb_ HB⟩⟩
    ·rw [if_neg c7] at H; have c7b0 := df_ c7; clear c7; have H' := am_ H; clear H
     go_wp2
     go_meet
     case rel => exact ⟨_, _, rs_, H', ⟨m0_⟩, ⟨hb_ HB⟩⟩
  case rest =>
   clear HC5
   (try clear c2); (try clear c2b0); (try clear c2b1); (try clear c3); (try clear c3b0); (try clear c3b1); (try clear c6); (try clear c6b0); (try clear c6b1); (try clear c7); (try clear c7b0)
   obtain ⟨kq, x31_4, rfl, HA, HJ4, HB⟩ := hcut
   cases kq with
   | zero => exact zz_ HA
   | succ kj4 =>
    have H := HA.1; clear HA; simp only [impl_Unframe.j0] at H; by_cases c8 : x31_4 = true
    ·subst c8; rw [if_pos rfl] at H; obtain ⟨rfl, rfl⟩ := i2_ H
     go_wp2
     go_ret2
     exact ⟨re_, hb_ HB⟩
    ·replace c8 := bF_ c8; subst c8; rw [if_neg ff_] at H; obtain ⟨ji9, hji9⟩ : ∃ j_ : Int, (wrap64 (4 + t684)) = j_ := ⟨_, rfl⟩
     (first | rw [hji9] at H | simp only [hji9] at H)
     have hji9w : (IntKind.i64.wrap (4 + t684)) = ji9 := (i64_w _).trans hji9; replace H := ig_ H; obtain ⟨c10b0, c10b1, H⟩ := H; replace H := ih_ H; obtain ⟨c11, H⟩ := H; have ⟨c11b0, c11b1⟩ := dt_ c11; replace H := ih_ H; obtain ⟨c12, H⟩ := H; have ⟨c12b0, c12b1⟩ := dt_ c12; replace H := bnd_ H; obtain ⟨t685, A13, H⟩ := H; obtain ⟨ji14, hji14⟩ : ∃ j_ : Int, (wrap64 ((ji9) + t683)) = j_ := ⟨_, rfl⟩
     (first | rw [hji14] at H | simp only [hji14] at H)
     (try rw [hji14] at c11b0)
     (try rw [hji14] at c11b1)
     (try rw [hji14] at c11)
     (try rw [hji14] at c12b0)
     (try rw [hji14] at c12b1)
     (try rw [hji14] at c12)
     (try rw [hji14] at A13)
     have hji14w : (IntKind.i64.wrap ((ji9) + t683)) = ji14 := (i64_w _).trans hji14; replace H := ig_ H; obtain ⟨c15b0, c15b1, H⟩ := H; have c16b0 := eq_true (od_ : (ji14) ≤ (a0.size : Int)); by_cases c17 : t685.toList = (a0.extract 0 ((ji14) : Int).toNat).toList
     ·rw [if_pos c17] at H; have ⟨c17b0, c17b1⟩ := bq5_ c17; clear c17; obtain ⟨rfl, rfl⟩ := i2_ H
      go_wp2_with (refine gc_ 41 Try.func76 ?_; refine ch1_ (impl_Frame.calls A13.1) ?_ (hargs := (by (try simp only [List.map_toArray, List.map_cons, List.map_nil]); first | done | (simp only [hji14, hji9]; rfl) | rfl | (simp only [List.length_drop, List.length_take]; rfl))); intro w18 hb; replace HB := bx_ HB hb; clear hb)
      go_ret2
      exact ⟨by first | rfl | (simp [errW_none, errW_some] <;> rfl) | (simp only [← hji9, ← hji14]; first | rfl | (simp [errW_none, errW_some] <;> rfl)) | (simp [*, errW_none, errW_some] <;> rfl), hb_ HB⟩
     ·rw [if_neg c17] at H; have ⟨c17b0, c17b1⟩ := bq6_ c17; obtain ⟨rfl, rfl⟩ := i2_ H
      go_wp2_with (refine gc_ 41 Try.func76 ?_; refine ch1_ (impl_Frame.calls A13.1) ?_ (hargs := (by (try simp only [List.map_toArray, List.map_cons, List.map_nil]); first | done | (simp only [hji14, hji9]; rfl) | rfl | (simp only [List.length_drop, List.length_take]; rfl))); intro w19 hb; replace HB := bx_ HB hb; clear hb)
      go_ret2
      exact ⟨by first | rfl | (simp [errW_none, errW_some] <;> rfl) | (simp only [← hji9, ← hji14]; first | rfl | (simp [errW_none, errW_some] <;> rfl)) | (simp [*, errW_none, errW_some] <;> rfl), hb_ HB⟩
mutual
def impl_ReadFixed.j0 : Nat → ByteArray → Int → Bool → Option (Int × Bool)
 | 0, _, _, _ => none
 | k + 1, x0, x1, x16 => if x16 = true then (some (0, false)) else (impl_ReadFixed.l0 k x0 0 x1 0)
def impl_ReadFixed.l0 : Nat → ByteArray → Int → Int → Int → Option (Int × Bool)
 | 0, _, _, _, _ => none
 | k + 1, x0, x6, x17, x18 => if x18 < x17 then (if 0 ≤ x18 then (if x18 < (x0.size : Int) then (impl_ReadFixed.l0 k x0 (Go.bits .or .i64 (wrap64 (x6 * 256)) (wrap64 (bt x0 x18))) x17 (wrap64 (x18 + 1))) else (none)) else (none)) else (some (x6, true))
end
def impl_ReadFixed.f (k : Nat) (a0 : ByteArray) (a1 : Int) : Option (Int × Bool) := (impl_in.f a1 1 7).bind fun t686 => (if t686 = true then (impl_ReadFixed.j0 k a0 a1 (decide ((a0.size : Int) < a1))) else (impl_ReadFixed.j0 k a0 a1 true))
theorem impl_ReadFixed.calls {k : Nat} {a0 : ByteArray} {a1 r1 : Int} {r2 : Bool} {w : World} (h : impl_ReadFixed.f k a0 a1 = some (r1, r2)) :
  Calls Try.prog 77 #[.string a0, .int .i64 a1] w fun e w' => e = .returned (.tuple #[.int .i64 r1, .bool r2]) ∧ Drawn0 w w' := by
 unfold impl_ReadFixed.f at h; have H := h; clear h; have HC3 := am_ H; clear H
 go_enter Try.func77, Try.ntmps77
 go_upto_region 1 with (fail)
 go_cut [16] (fun v16 wc => ∃ (kq : Nat) (x16_2 : Bool), v16 = .bool x16_2 ∧ Aside0 (impl_ReadFixed.j0 kq a0 a1 x16_2 = some (r1, r2)) ∧ Aside0 (kq ≤ k) ∧ Drawn0 w wc)
 case first =>
  have H := HC3.1; clear HC3; replace H := bnd_ H; obtain ⟨t686, A4, H⟩ := H; by_cases c5 : t686 = true
  ·subst c5; rw [if_pos rfl] at H; have H' := am_ H; clear H
   go_wp2_with (refine gc_ 9 Try.func34 ?_; refine ch1_ (impl_in.calls A4.1) ?_; rintro w' ⟨nd, rfl⟩)
   go_meet
   case rel => exact ⟨_, _, rs_, H', ⟨m0_⟩, by repeat (first | exact Drawn0.refl _ | apply Drawn0.step)⟩
  ·replace c5 := bF_ c5; subst c5; rw [if_neg ff_] at H; have H' := am_ H; clear H
   go_wp2_with (refine gc_ 9 Try.func34 ?_; refine ch1_ (impl_in.calls A4.1) ?_; rintro w' ⟨nd, rfl⟩)
   go_meet
   case rel => exact ⟨_, _, rs_, H', ⟨m0_⟩, by repeat (first | exact Drawn0.refl _ | apply Drawn0.step)⟩
 case rest =>
  clear HC3
  (try clear c5)
  obtain ⟨kq, x16_2, rfl, HA, HJ2, ⟨mc2, rfl⟩⟩ := hcut
  cases kq with
  | zero => exact zz_ HA
  | succ kj2 =>
   have H := HA.1; clear HA; simp only [impl_ReadFixed.j0] at H; by_cases c6 : x16_2 = true
   ·subst c6; rw [if_pos rfl] at H; obtain ⟨rfl, rfl⟩ := i2_ H
    go_wp2
    go_ret2
    exact ⟨by first | rfl | (simp; done) | (simp [*]; done), by repeat (first | exact Drawn0.refl _ | apply Drawn0.step)⟩
   ·replace c6 := bF_ c6; subst c6; rw [if_neg ff_] at H; have H' := am_ H; clear H
    go_wp2
    go_loopg [6, 18] kj2 (fun kq v6 v18 w' => ∃ (x6_2 : Int) (x18_2 : Int), v6 = .int .i64 x6_2 ∧ v18 = .int .i64 x18_2 ∧ Aside0 (impl_ReadFixed.l0 kq a0 x6_2 a1 x18_2 = some (r1, r2)) ∧ Aside0 (kq ≤ kj2) ∧ Drawn0 w w')
    case atStart => exact ⟨_, _, rs_, rs_, H', ⟨Nat.le_refl _⟩, by repeat (first | exact Drawn0.refl _ | apply Drawn0.step)⟩
    case round =>
     clear H'
     (try clear c5); (try clear c6)
     obtain ⟨x6_2, x18_2, rfl, rfl, HA, HK2, ⟨m2, rfl⟩⟩ := hrel
     cases gk with
     | zero => exact zz_ HA
     | succ k2 =>
      have H := HA.1; clear HA; simp only [impl_ReadFixed.l0] at H; by_cases c7 : x18_2 < a1
      ·rw [if_pos c7] at H; have c7b0 := dq_ c7; clear c7; replace H := ih_ H; obtain ⟨c8, H⟩ := H; have c8b0 := dq_ c8; clear c8; replace H := ih_ H; obtain ⟨c9, H⟩ := H; have c9b0 := dq_ c9; clear c9; have H' := am_ H; clear H; have p10 : 0 ≤ (x18_2 : Int) := od_; have q10 : x18_2 < (a0.size : Int) := od_; have hx10 := bt_at a0 x18_2; replace p10 := eq_true p10; replace q10 := eq_true q10
       go_wp2
       go_roundg k2
       case measure => exact m2_ HJ2 HK2
       case rel => exact ⟨_, _, rs_, rs_, H', ⟨m2_ HJ2 HK2⟩, by repeat (first | exact Drawn0.refl _ | apply Drawn0.step)⟩
      ·rw [if_neg c7] at H; have c7b0 := df_ c7; clear c7; obtain ⟨rfl, rfl⟩ := i2_ H
       go_wp2
       go_ret2
       exact ⟨by first | rfl | (simp; done) | (simp [*]; done), by repeat (first | exact Drawn0.refl _ | apply Drawn0.step)⟩
section
attribute [local go_sem high] eqA41
def impl_RecOk.j0 : Nat → Bool → Int → Int → Bool → Int → Int → ByteArray → ByteArray → Int → Int → Int → Int → ByteArray → ByteArray → Int → Int → Option (Bool)
 | 0, _, _, _, _, _, _, _, _, _, _, _, _, _, _, _, _ => none
 | k + 1, x4, x5, x12, x13, x688000, x688001, x688002, x688003, x688004, x688005, x689000, x689001, x689002, x689003, x689004, x689005 => if x13 = true then ((impl_KeyOk.f x688002).bind fun t689 => (if t689 = true then (if (x688003.size : Int) ≤ 24 then ((impl_in.f x688001 x5 1000000).bind fun t690 => (if t690 = true then (some (x688000 == x689000 && (x688001 == x689001 && (x688004 == x689004 && (x688005 == x689005))))) else (some false))) else (some false)) else (some false))) else (if x12 = 2 then ((impl_KeyOk.f x688002).bind fun t691 => (if t691 = true then ((impl_in.f x688001 x5 1000000).bind fun t692 => (if t692 = true then (some (x688000 == x689000 && (x688001 == x689001 && (x688003.toList == x689003.toList && (x688004 == x689004 && (x688005 == x689005)))))) else (some false))) else (some false))) else (if x12 = 3 then ((impl_in.f x688004 0 8).bind fun t693 => (if t693 = true then ((impl_in.f x688005 0 4294967295).bind fun t694 => (if t694 = true then ((impl_in.f x688001 x5 1000000).bind fun t695 => (if t695 = true then (some (x688000 == x689000 && (x688001 == x689001 && (x688002.toList == x689002.toList && (x688003.toList == x689003.toList))))) else (some false))) else (some false))) else (some false))) else (if x12 = 5 then ((impl_in.f x688004 0 20).bind fun t696 => (if t696 = true then ((impl_in.f x688005 0 4294967295).bind fun t697 => (if t697 = true then ((impl_in.f x688001 0 1000000).bind fun t698 => (if t698 = true then (some (x688000 == x689000 && (x688001 == x689001 && (x688002.toList == x689002.toList && (x688003.toList == x689003.toList))))) else (some false))) else (some false))) else (some false))) else (if x4 = true then ((impl_in.f x688001 x5 1000000).bind fun t699 => (if t699 = true then (some (x688000 == x689000 && (x688001 == x689001 && (x688002.toList == x689002.toList && (x688003.toList == x689003.toList && (x688004 == x689004 && (x688005 == x689005))))))) else (some false))) else (some false)))))
def impl_RecOk.f (k : Nat) (a0_0 : Int) (a0_1 : Int) (a0_2 : ByteArray) (a0_3 : ByteArray) (a0_4 : Int) (a0_5 : Int) : Option (Bool) := if a0_0 = 1 then (impl_RecOk.j0 k false 1 a0_0 (a0_0 == 1) a0_0 a0_1 a0_2 a0_3 a0_4 a0_5 a0_0 a0_1 (⟨#[]⟩ : ByteArray) (⟨#[]⟩ : ByteArray) 0 0) else (impl_RecOk.j0 k false 1 a0_0 (a0_0 == 4) a0_0 a0_1 a0_2 a0_3 a0_4 a0_5 a0_0 a0_1 (⟨#[]⟩ : ByteArray) (⟨#[]⟩ : ByteArray) 0 0)
def impl_RecOk.T6 : Bool × List (List Nat × List Nat) := (true, [([], []), ([0], [0]), ([], []), ([2], [2]), ([0, 1], []), ([4, 1, 0, 1], [1, 4]), ([0, 1, 2, 3, 4, 5], []), ([6, 3, 5, 0, 1, 2, 3, 4, 5], [3, 6])])
def impl_RecOk.B6 : List Nat := [0, 1, 0, 4, 3, 19, 63, 127]
theorem impl_RecOk.tab6 : rtab .any (opsOf Try.f78 6) = impl_RecOk.T6 := by kernel_rfl
theorem impl_RecOk.bits6 : waitsOk impl_RecOk.T6.2 impl_RecOk.B6 = true := by kernel_rfl
def impl_RecOk.T12 : Bool × List (List Nat × List Nat) := (true, [([], []), ([0], [0]), ([], []), ([2], [2]), ([0, 1], []), ([4, 1, 0, 1], [1, 4]), ([0, 1, 2, 3, 4, 5], []), ([6, 3, 5, 0, 1, 2, 3, 4, 5], [3, 6])])
def impl_RecOk.B12 : List Nat := [0, 1, 0, 4, 3, 19, 63, 127]
theorem impl_RecOk.tab12 : rtab .any (opsOf Try.f78 12) = impl_RecOk.T12 := by kernel_rfl
theorem impl_RecOk.bits12 : waitsOk impl_RecOk.T12.2 impl_RecOk.B12 = true := by kernel_rfl
def impl_RecOk.T15 : Bool × List (List Nat × List Nat) := (true, [([], []), ([0], [0]), ([], []), ([2], [2]), ([0, 1], []), ([4, 1, 0, 1], [1, 4]), ([0, 1, 2, 3, 4, 5], []), ([6, 3, 5, 0, 1, 2, 3, 4, 5], [3, 6])])
def impl_RecOk.B15 : List Nat := [0, 1, 0, 4, 3, 19, 63, 127]
theorem impl_RecOk.tab15 : rtab .any (opsOf Try.f78 15) = impl_RecOk.T15 := by kernel_rfl
theorem impl_RecOk.bits15 : waitsOk impl_RecOk.T15.2 impl_RecOk.B15 = true := by kernel_rfl
theorem impl_RecOk.calls {k : Nat} {a0_0 a0_1 : Int} {a0_2 a0_3 : ByteArray} {a0_4 a0_5 : Int} {r : Bool} {w : World} (h : impl_RecOk.f k a0_0 a0_1 a0_2 a0_3 a0_4 a0_5 = some r) :
  Calls Try.prog 78 #[.agg #[.int .i64 a0_0, .int .i64 a0_1, .string a0_2, .string a0_3, .int .i64 a0_4, .int .i64 a0_5]] w fun e w' => e = .returned (.bool r) ∧ Below w.heap.size w w' := by
 have hu41 := Try.underlying41; have HB := am_ (Below.refl w.heap.size w); unfold impl_RecOk.f at h; have H := h; clear h; have HC2 := am_ H; clear H
 go_enter Try.func78, Try.ntmps78
 go_upto_if 13 with (first | ((with_reducible refine gd_ 1 ?_); (try (refine gate_guard (by rfl) ?_; dsimp only)); refine bx1_ 1 #[.int .i64 a0_0, .int .i64 a0_1, .string a0_2, .string a0_3, .int .i64 a0_4, .int .i64 a0_5] 41 ?_; intro gb687 hg w3 hbox hb; have BK687 := am_ hbox; have GE687 := gx_ hg HB; replace HB := bx_ HB hb; clear hb hbox hg; obtain ⟨Z4_0, Z4_1, Z4_2, Z4_3, Z4_4, Z4_5, F4_0, F4_1, F4_2, F4_3, F4_4, F4_5⟩ := bc6_ BK687) | ((with_reducible refine gd_ 3 ?_); (try (refine gate_guard (by rfl) ?_; dsimp only)); refine bx1_ 3 #[.int .i64 0, .int .i64 0, .string (⟨#[]⟩ : ByteArray), .string (⟨#[]⟩ : ByteArray), .int .i64 0, .int .i64 0] 41 ?_; intro gb688 hg w5 hbox hb; have BK688 := am_ hbox; have GE688 := gx_ hg HB; replace HB := bx_ HB hb; have ⟨NB687_688, NB688_687⟩ := nn_ BK687 hg; replace BK687 := bb_ BK687 hb; clear hb hbox hg; have := NB688_687.1; have := NB687_688.1; obtain ⟨_, _, _, _, _, _, _, _, _, _, _, _⟩ := bc6_ BK688; obtain ⟨_, _, _, _, _, _, _, _, _, _, _, _⟩ := bc6_ BK687))
 (try simp only [Act.put, la_, lz_, ls_])
 go_cut [13] (fun v13 wc => ∃ (kq : Nat) (x13_1 : Bool), v13 = .bool x13_1 ∧ Aside0 (impl_RecOk.j0 kq false 1 a0_0 x13_1 a0_0 a0_1 a0_2 a0_3 a0_4 a0_5 a0_0 a0_1 (⟨#[]⟩ : ByteArray) (⟨#[]⟩ : ByteArray) 0 0 = some r) ∧ Aside0 (kq ≤ k) ∧ Aside0 (wc.heap[gb687]? = some (.cells #[.int .i64 a0_0, .int .i64 a0_1, .string a0_2, .string a0_3, .int .i64 a0_4, .int .i64 a0_5] 41 (0, 0))) ∧ Aside0 (wc.heap[gb688]? = some (.cells #[.int .i64 a0_0, .int .i64 a0_1, .string (⟨#[]⟩ : ByteArray), .string (⟨#[]⟩ : ByteArray), .int .i64 0, .int .i64 0] 41 (0, 0))) ∧ Aside0 (Below w.heap.size w wc))
 case first =>
  have H := HC2.1; clear HC2; by_cases c9 : a0_0 = 1
  ·rw [if_pos c9] at H; have ⟨c9b0, c9b1⟩ := bq5_ c9; clear c9
   (first | rw [c9b0] | (simp only [i64_w, i32_w]; rw [c9b0]) | skip)
   have H' := am_ H; clear H
   go_wp2
   go_meet
   case rel => exact ⟨_, _, rs_, H', ⟨m0_⟩, ⟨uk_ BK687⟩, ⟨uk_ BK688⟩, ⟨hz_ HB⟩⟩
  ·rw [if_neg c9] at H; have ⟨c9b0, c9b1⟩ := bq6_ c9
   (first | rw [c9b0] | (simp only [i64_w, i32_w]; rw [c9b0]) | skip)
   have H' := am_ H; clear H
   go_wp2
   go_meet
   case rel => exact ⟨_, _, rs_, H', ⟨m0_⟩, ⟨uk_ BK687⟩, ⟨uk_ BK688⟩, ⟨hz_ HB⟩⟩
 case rest =>
  clear HC2
  (try clear c9); (try clear c9b0); (try clear c9b1)
  obtain ⟨kq, x13_1, rfl, HA, HJ1, BK687, BK688, HB⟩ := hcut
  cases kq with
  | zero => exact zz_ HA
  | succ kj1 =>
   have H := HA.1; clear HA; simp only [impl_RecOk.j0] at H; by_cases c10 : x13_1 = true
   ·subst c10; rw [if_pos rfl] at H; replace H := bnd_ H; obtain ⟨t689, A11, H⟩ := H; by_cases c12 : t689 = true
    ·subst c12; rw [if_pos rfl] at H; by_cases c13 : (a0_3.size : Int) ≤ 24
     ·rw [if_pos c13] at H; have c13b0 := dq_ c13; have c13b1 : decide (a0_3.size ≤ 24) = true := decide_eq_true (by omega); clear c13; replace H := bnd_ H; obtain ⟨t690, A14, H⟩ := H; by_cases c15 : t690 = true
      ·subst c15; rw [if_pos rfl] at H; obtain rfl := in_ H
       try go_wp2
       replace BK687 := bd_ BK687; replace BK688 := bd_ BK688; replace HB := hd_ HB; refine st1_ 8 impl_RecOk.tab6 impl_RecOk.bits6 (p6e_ BK687) (fun hHeld HT_ HW_ => ?_)
       generalize wc.drew = w16 at BK687 BK688 HB hHeld ⊢
       refine pr_ ?_; refine pv_' 2 18 (of_ 8 5) rfl rfl HT_ ?_; refine tk6_ 1 17 (on_ 3 5) hHeld ?_
       refine pv_' 4 20 (of_ 8 23) rfl rfl HT_ ?_; refine tk6_ 3 19 (on_ 5 3) hHeld ?_
       refine o1_ 5 none (on_ 6 2) fun K hK => ?_; have hs17 : w16.cell? ⟨gb688, 2, none⟩ = some (.string (⟨#[]⟩ : ByteArray)) := (blk_cell BK688.1 2).trans rfl; have hfs17 := blk_frozen BK688.1 2; have hns17_0 := NB687_688.1; have hms17_0 := NB688_687.1; refine skip_ (w1 := ?_) (by rfl) rfl ?_ ?_
       rotate_left
       ·go_simp
        rfl
       refine hK.out _ _ (f6e_ NB687_688 hHeld) (fun hHeld => ?_); clear hK K; refine pr_ ?_; refine o1_ 7 none (on_ 8 0) fun K hK => ?_; have hs18 : w16.cell? ⟨gb688, 3, none⟩ = some (.string (⟨#[]⟩ : ByteArray)) := (blk_cell BK688.1 3).trans rfl; have hfs18 := blk_frozen BK688.1 3; have hns18_0 := NB687_688.1; have hms18_0 := NB688_687.1; refine skip_ (w1 := ?_) (by rfl) rfl ?_ ?_
       rotate_left
       ·go_simp
        rfl
       refine hK.out _ _ (f6e_ NB687_688 hHeld) (fun hHeld => ?_); clear hK K; refine dn_ ?_; have := NB687_688.1; have := NB688_687.1; obtain ⟨_, _, _, _, _, _, _, _, _, _, _, _⟩ := bc6_ BK687
       try go_wp2_with (first | (refine gc_ 24 Try.func72 ?_; refine ch1_ (impl_KeyOk.calls A11.1) ?_; rintro w' ⟨nd, rfl⟩) | (go_at_call 34; refine cm_ (impl_in.calls A14.1) ?_; rintro e w' ⟨rfl, ⟨nd, rfl⟩⟩; obtain ⟨_, _, _, _, _, _, _, _, _, _, _, _⟩ := bc6_ BK688))
       go_ret
       exact ⟨re_, hz_ HB⟩
      ·replace c15 := bF_ c15; subst c15; rw [if_neg ff_] at H; obtain rfl := in_ H
       try go_wp2
       replace BK687 := bd_ BK687; replace BK688 := bd_ BK688; replace HB := hd_ HB; refine st1_ 8 impl_RecOk.tab6 impl_RecOk.bits6 (p6e_ BK687) (fun hHeld HT_ HW_ => ?_)
       generalize wc.drew = w22 at BK687 BK688 HB hHeld ⊢
       refine pr_ ?_; refine pv_' 2 18 (of_ 8 5) rfl rfl HT_ ?_; refine tk6_ 1 17 (on_ 3 5) hHeld ?_
       refine pv_' 4 20 (of_ 8 23) rfl rfl HT_ ?_; refine tk6_ 3 19 (on_ 5 3) hHeld ?_
       refine o1_ 5 none (on_ 6 2) fun K hK => ?_; have hs23 : w22.cell? ⟨gb688, 2, none⟩ = some (.string (⟨#[]⟩ : ByteArray)) := (blk_cell BK688.1 2).trans rfl; have hfs23 := blk_frozen BK688.1 2; have hns23_0 := NB687_688.1; have hms23_0 := NB688_687.1; refine skip_ (w1 := ?_) (by rfl) rfl ?_ ?_
       rotate_left
       ·go_simp
        rfl
       refine hK.out _ _ (f6e_ NB687_688 hHeld) (fun hHeld => ?_); clear hK K; refine pr_ ?_; refine o1_ 7 none (on_ 8 0) fun K hK => ?_; have hs24 : w22.cell? ⟨gb688, 3, none⟩ = some (.string (⟨#[]⟩ : ByteArray)) := (blk_cell BK688.1 3).trans rfl; have hfs24 := blk_frozen BK688.1 3; have hns24_0 := NB687_688.1; have hms24_0 := NB688_687.1; refine skip_ (w1 := ?_) (by rfl) rfl ?_ ?_
       rotate_left
       ·go_simp
        rfl
       refine hK.out _ _ (f6e_ NB687_688 hHeld) (fun hHeld => ?_); clear hK K; refine dn_ ?_; have := NB687_688.1; have := NB688_687.1; obtain ⟨_, _, _, _, _, _, _, _, _, _, _, _⟩ := bc6_ BK687
       try go_wp2_with (first | (refine gc_ 24 Try.func72 ?_; refine ch1_ (impl_KeyOk.calls A11.1) ?_; rintro w' ⟨nd, rfl⟩) | (go_at_call 34; refine cm_ (impl_in.calls A14.1) ?_; rintro e w' ⟨rfl, ⟨nd, rfl⟩⟩))
       go_ret
       exact ⟨re_, hz_ HB⟩
     ·rw [if_neg c13] at H; have c13b0 := df_ c13; have c13b1 : decide (a0_3.size ≤ 24) = false := decide_eq_false (by omega); clear c13; obtain rfl := in_ H
      try go_wp2
      replace BK687 := bd_ BK687; replace BK688 := bd_ BK688; replace HB := hd_ HB; refine st1_ 8 impl_RecOk.tab6 impl_RecOk.bits6 (p6e_ BK687) (fun hHeld HT_ HW_ => ?_)
      generalize wc.drew = w27 at BK687 BK688 HB hHeld ⊢
      refine pr_ ?_; refine pv_' 2 18 (of_ 8 5) rfl rfl HT_ ?_; refine tk6_ 1 17 (on_ 3 5) hHeld ?_
      refine pv_' 4 20 (of_ 8 23) rfl rfl HT_ ?_; refine tk6_ 3 19 (on_ 5 3) hHeld ?_
      refine o1_ 5 none (on_ 6 2) fun K hK => ?_; have hs28 : w27.cell? ⟨gb688, 2, none⟩ = some (.string (⟨#[]⟩ : ByteArray)) := (blk_cell BK688.1 2).trans rfl; have hfs28 := blk_frozen BK688.1 2; have hns28_0 := NB687_688.1; have hms28_0 := NB688_687.1; refine skip_ (w1 := ?_) (by rfl) rfl ?_ ?_
      rotate_left
      ·go_simp
       rfl
      refine hK.out _ _ (f6e_ NB687_688 hHeld) (fun hHeld => ?_); clear hK K; refine pr_ ?_; refine o1_ 7 none (on_ 8 0) fun K hK => ?_; have hs29 : w27.cell? ⟨gb688, 3, none⟩ = some (.string (⟨#[]⟩ : ByteArray)) := (blk_cell BK688.1 3).trans rfl; have hfs29 := blk_frozen BK688.1 3; have hns29_0 := NB687_688.1; have hms29_0 := NB688_687.1; refine skip_ (w1 := ?_) (by rfl) rfl ?_ ?_
      rotate_left
      ·go_simp
       rfl
      refine hK.out _ _ (f6e_ NB687_688 hHeld) (fun hHeld => ?_); clear hK K; refine dn_ ?_; have := NB687_688.1; have := NB688_687.1; obtain ⟨_, _, _, _, _, _, _, _, _, _, _, _⟩ := bc6_ BK687
      try go_wp2_with (refine gc_ 24 Try.func72 ?_; refine ch1_ (impl_KeyOk.calls A11.1) ?_; rintro w' ⟨nd, rfl⟩)
      go_ret
      exact ⟨re_, hz_ HB⟩
    ·replace c12 := bF_ c12; subst c12; rw [if_neg ff_] at H; obtain rfl := in_ H
     try go_wp2
     replace BK687 := bd_ BK687; replace BK688 := bd_ BK688; replace HB := hd_ HB; refine st1_ 8 impl_RecOk.tab6 impl_RecOk.bits6 (p6e_ BK687) (fun hHeld HT_ HW_ => ?_)
     generalize wc.drew = w32 at BK687 BK688 HB hHeld ⊢
     refine pr_ ?_; refine pv_' 2 18 (of_ 8 5) rfl rfl HT_ ?_; refine tk6_ 1 17 (on_ 3 5) hHeld ?_
     refine pv_' 4 20 (of_ 8 23) rfl rfl HT_ ?_; refine tk6_ 3 19 (on_ 5 3) hHeld ?_
     refine o1_ 5 none (on_ 6 2) fun K hK => ?_; have hs33 : w32.cell? ⟨gb688, 2, none⟩ = some (.string (⟨#[]⟩ : ByteArray)) := (blk_cell BK688.1 2).trans rfl; have hfs33 := blk_frozen BK688.1 2; have hns33_0 := NB687_688.1; have hms33_0 := NB688_687.1; refine skip_ (w1 := ?_) (by rfl) rfl ?_ ?_
     rotate_left
     ·go_simp
      rfl
     refine hK.out _ _ (f6e_ NB687_688 hHeld) (fun hHeld => ?_); clear hK K; refine pr_ ?_; refine o1_ 7 none (on_ 8 0) fun K hK => ?_; have hs34 : w32.cell? ⟨gb688, 3, none⟩ = some (.string (⟨#[]⟩ : ByteArray)) := (blk_cell BK688.1 3).trans rfl; have hfs34 := blk_frozen BK688.1 3; have hns34_0 := NB687_688.1; have hms34_0 := NB688_687.1; refine skip_ (w1 := ?_) (by rfl) rfl ?_ ?_
     rotate_left
     ·go_simp
      rfl
     refine hK.out _ _ (f6e_ NB687_688 hHeld) (fun hHeld => ?_); clear hK K; refine dn_ ?_; have := NB687_688.1; have := NB688_687.1; obtain ⟨_, _, _, _, _, _, _, _, _, _, _, _⟩ := bc6_ BK687
     try go_wp2_with (refine gc_ 24 Try.func72 ?_; refine ch1_ (impl_KeyOk.calls A11.1) ?_; rintro w' ⟨nd, rfl⟩)
     go_ret
     exact ⟨re_, hz_ HB⟩
   ·replace c10 := bF_ c10; subst c10; rw [if_neg ff_] at H; by_cases c37 : a0_0 = 2
    ·rw [if_pos c37] at H; have ⟨c37b0, c37b1⟩ := bq5_ c37; clear c37; replace H := bnd_ H; obtain ⟨t691, A38, H⟩ := H; by_cases c39 : t691 = true
     ·subst c39; rw [if_pos rfl] at H; replace H := bnd_ H; obtain ⟨t692, A40, H⟩ := H; by_cases c41 : t692 = true
      ·subst c41; rw [if_pos rfl] at H; obtain rfl := in_ H; have := NB687_688.1; have := NB688_687.1; obtain ⟨_, _, _, _, _, _, _, _, _, _, _, _⟩ := bc6_ BK687; obtain ⟨_, _, _, _, _, _, _, _, _, _, _, _⟩ := bc6_ BK688
       go_wp2_with (first | (refine gc_ 38 Try.func72 ?_; refine ch1_ (impl_KeyOk.calls A38.1) ?_; rintro w' ⟨nd, rfl⟩) | (go_at_call 34; refine cm_ (impl_in.calls A40.1) ?_; rintro e w' ⟨rfl, ⟨nd, rfl⟩⟩))
       go_ret
       exact ⟨re_, hz_ HB⟩
      ·replace c41 := bF_ c41; subst c41; rw [if_neg ff_] at H; obtain rfl := in_ H; have := NB687_688.1; have := NB688_687.1; obtain ⟨_, _, _, _, _, _, _, _, _, _, _, _⟩ := bc6_ BK687; obtain ⟨_, _, _, _, _, _, _, _, _, _, _, _⟩ := bc6_ BK688
       go_wp2_with (first | (refine gc_ 38 Try.func72 ?_; refine ch1_ (impl_KeyOk.calls A38.1) ?_; rintro w' ⟨nd, rfl⟩) | (go_at_call 34; refine cm_ (impl_in.calls A40.1) ?_; rintro e w' ⟨rfl, ⟨nd, rfl⟩⟩))
       go_ret
       exact ⟨re_, hz_ HB⟩
     ·replace c39 := bF_ c39; subst c39; rw [if_neg ff_] at H; obtain rfl := in_ H; have := NB687_688.1; have := NB688_687.1; obtain ⟨Z49_0, Z49_1, Z49_2, Z49_3, Z49_4, Z49_5, F49_0, F49_1, F49_2, F49_3, F49_4, F49_5⟩ := bc6_ BK687; obtain ⟨Z50_0, Z50_1, Z50_2, Z50_3, Z50_4, Z50_5, F50_0, F50_1, F50_2, F50_3, F50_4, F50_5⟩ := bc6_ BK688
      go_wp2_with (refine gc_ 38 Try.func72 ?_; refine ch1_ (impl_KeyOk.calls A38.1) ?_; rintro w' ⟨nd, rfl⟩)
      go_ret
      exact ⟨re_, hz_ HB⟩
    ·rw [if_neg c37] at H; have ⟨c37b0, c37b1⟩ := bq6_ c37; by_cases c51 : a0_0 = 3
     ·rw [if_pos c51] at H; have ⟨c51b0, c51b1⟩ := bq5_ c51; clear c51; replace H := bnd_ H; obtain ⟨t693, A52, H⟩ := H; by_cases c53 : t693 = true
      ·subst c53; rw [if_pos rfl] at H; replace H := bnd_ H; obtain ⟨t694, A54, H⟩ := H; by_cases c55 : t694 = true
       ·subst c55; rw [if_pos rfl] at H; replace H := bnd_ H; obtain ⟨t695, A56, H⟩ := H; by_cases c57 : t695 = true
        ·subst c57; rw [if_pos rfl] at H; obtain rfl := in_ H
         try go_wp2
         replace BK687 := bd_ BK687; replace BK688 := bd_ BK688; replace HB := hd_ HB; refine st1_ 8 impl_RecOk.tab12 impl_RecOk.bits12 (p6e_ BK687) (fun hHeld HT_ HW_ => ?_)
         generalize wc.drew = w58 at BK687 BK688 HB hHeld ⊢
         refine pr_ ?_; refine pv_' 2 43 (of_ 8 5) rfl rfl HT_ ?_; refine tk6_ 1 42 (on_ 3 5) hHeld ?_
         refine pv_' 4 45 (of_ 8 23) rfl rfl HT_ ?_; refine tk6_ 3 44 (on_ 5 3) hHeld ?_
         refine o1_ 5 none (on_ 6 2) fun K hK => ?_; have hs59 : w58.cell? ⟨gb688, 4, none⟩ = some (.int .i64 0) := (blk_cell BK688.1 4).trans rfl; have hfs59 := blk_frozen BK688.1 4; have hns59_0 := NB687_688.1; have hms59_0 := NB688_687.1; refine skip_ (w1 := ?_) (by rfl) rfl ?_ ?_
         rotate_left
         ·go_simp
          rfl
         refine hK.out _ _ (f6e_ NB687_688 hHeld) (fun hHeld => ?_); clear hK K; refine pr_ ?_; refine o1_ 7 none (on_ 8 0) fun K hK => ?_; have hs60 : w58.cell? ⟨gb688, 5, none⟩ = some (.int .i64 0) := (blk_cell BK688.1 5).trans rfl; have hfs60 := blk_frozen BK688.1 5; have hns60_0 := NB687_688.1; have hms60_0 := NB688_687.1; refine skip_ (w1 := ?_) (by rfl) rfl ?_ ?_
         rotate_left
         ·go_simp
          rfl
         refine hK.out _ _ (f6e_ NB687_688 hHeld) (fun hHeld => ?_); clear hK K; refine dn_ ?_; have := NB687_688.1; have := NB688_687.1; obtain ⟨_, _, _, _, _, _, _, _, _, _, _, _⟩ := bc6_ BK687
         try go_wp2_with (first | (refine gc_ 49 Try.func34 ?_; refine ch1_ (impl_in.calls A52.1) ?_; rintro w' ⟨nd, rfl⟩) | (go_at_call 34; refine cm_ (impl_in.calls A54.1) ?_; rintro e w' ⟨rfl, ⟨nd, rfl⟩⟩) | (go_at_call 34; refine cm_ (impl_in.calls A56.1) ?_; rintro e w' ⟨rfl, ⟨nd, rfl⟩⟩; obtain ⟨_, _, _, _, _, _, _, _, _, _, _, _⟩ := bc6_ BK688))
         go_ret
         exact ⟨re_, hz_ HB⟩
        ·replace c57 := bF_ c57; subst c57; rw [if_neg ff_] at H; obtain rfl := in_ H
         try go_wp2
         replace BK687 := bd_ BK687; replace BK688 := bd_ BK688; replace HB := hd_ HB; refine st1_ 8 impl_RecOk.tab12 impl_RecOk.bits12 (p6e_ BK687) (fun hHeld HT_ HW_ => ?_)
         generalize wc.drew = w64 at BK687 BK688 HB hHeld ⊢
         refine pr_ ?_; refine pv_' 2 43 (of_ 8 5) rfl rfl HT_ ?_; refine tk6_ 1 42 (on_ 3 5) hHeld ?_
         refine pv_' 4 45 (of_ 8 23) rfl rfl HT_ ?_; refine tk6_ 3 44 (on_ 5 3) hHeld ?_
         refine o1_ 5 none (on_ 6 2) fun K hK => ?_; have hs65 : w64.cell? ⟨gb688, 4, none⟩ = some (.int .i64 0) := (blk_cell BK688.1 4).trans rfl; have hfs65 := blk_frozen BK688.1 4; have hns65_0 := NB687_688.1; have hms65_0 := NB688_687.1; refine skip_ (w1 := ?_) (by rfl) rfl ?_ ?_
         rotate_left
         ·go_simp
          rfl
         refine hK.out _ _ (f6e_ NB687_688 hHeld) (fun hHeld => ?_); clear hK K; refine pr_ ?_; refine o1_ 7 none (on_ 8 0) fun K hK => ?_; have hs66 : w64.cell? ⟨gb688, 5, none⟩ = some (.int .i64 0) := (blk_cell BK688.1 5).trans rfl; have hfs66 := blk_frozen BK688.1 5; have hns66_0 := NB687_688.1; have hms66_0 := NB688_687.1; refine skip_ (w1 := ?_) (by rfl) rfl ?_ ?_
         rotate_left
         ·go_simp
          rfl
         refine hK.out _ _ (f6e_ NB687_688 hHeld) (fun hHeld => ?_); clear hK K; refine dn_ ?_; have := NB687_688.1; have := NB688_687.1; obtain ⟨_, _, _, _, _, _, _, _, _, _, _, _⟩ := bc6_ BK687
         try go_wp2_with (first | (refine gc_ 49 Try.func34 ?_; refine ch1_ (impl_in.calls A52.1) ?_; rintro w' ⟨nd, rfl⟩) | (go_at_call 34; refine cm_ (impl_in.calls A54.1) ?_; rintro e w' ⟨rfl, ⟨nd, rfl⟩⟩) | (go_at_call 34; refine cm_ (impl_in.calls A56.1) ?_; rintro e w' ⟨rfl, ⟨nd, rfl⟩⟩))
         go_ret
         exact ⟨re_, hz_ HB⟩
       ·replace c55 := bF_ c55; subst c55; rw [if_neg ff_] at H; obtain rfl := in_ H
        try go_wp2
        replace BK687 := bd_ BK687; replace BK688 := bd_ BK688; replace HB := hd_ HB; refine st1_ 8 impl_RecOk.tab12 impl_RecOk.bits12 (p6e_ BK687) (fun hHeld HT_ HW_ => ?_)
        generalize wc.drew = w69 at BK687 BK688 HB hHeld ⊢
        refine pr_ ?_; refine pv_' 2 43 (of_ 8 5) rfl rfl HT_ ?_; refine tk6_ 1 42 (on_ 3 5) hHeld ?_
        refine pv_' 4 45 (of_ 8 23) rfl rfl HT_ ?_; refine tk6_ 3 44 (on_ 5 3) hHeld ?_
        refine o1_ 5 none (on_ 6 2) fun K hK => ?_; have hs70 : w69.cell? ⟨gb688, 4, none⟩ = some (.int .i64 0) := (blk_cell BK688.1 4).trans rfl; have hfs70 := blk_frozen BK688.1 4; have hns70_0 := NB687_688.1; have hms70_0 := NB688_687.1; refine skip_ (w1 := ?_) (by rfl) rfl ?_ ?_
        rotate_left
        ·go_simp
         rfl
        refine hK.out _ _ (f6e_ NB687_688 hHeld) (fun hHeld => ?_); clear hK K; refine pr_ ?_; refine o1_ 7 none (on_ 8 0) fun K hK => ?_; have hs71 : w69.cell? ⟨gb688, 5, none⟩ = some (.int .i64 0) := (blk_cell BK688.1 5).trans rfl; have hfs71 := blk_frozen BK688.1 5; have hns71_0 := NB687_688.1; have hms71_0 := NB688_687.1; refine skip_ (w1 := ?_) (by rfl) rfl ?_ ?_
        rotate_left
        ·go_simp
         rfl
        refine hK.out _ _ (f6e_ NB687_688 hHeld) (fun hHeld => ?_); clear hK K; refine dn_ ?_; have := NB687_688.1; have := NB688_687.1; obtain ⟨_, _, _, _, _, _, _, _, _, _, _, _⟩ := bc6_ BK687
        try go_wp2_with (first | (refine gc_ 49 Try.func34 ?_; refine ch1_ (impl_in.calls A52.1) ?_; rintro w' ⟨nd, rfl⟩) | (go_at_call 34; refine cm_ (impl_in.calls A54.1) ?_; rintro e w' ⟨rfl, ⟨nd, rfl⟩⟩))
        go_ret
        exact ⟨re_, hz_ HB⟩
      ·replace c53 := bF_ c53; subst c53; rw [if_neg ff_] at H; obtain rfl := in_ H
       try go_wp2
       replace BK687 := bd_ BK687; replace BK688 := bd_ BK688; replace HB := hd_ HB; refine st1_ 8 impl_RecOk.tab12 impl_RecOk.bits12 (p6e_ BK687) (fun hHeld HT_ HW_ => ?_)
       generalize wc.drew = w74 at BK687 BK688 HB hHeld ⊢
       refine pr_ ?_; refine pv_' 2 43 (of_ 8 5) rfl rfl HT_ ?_; refine tk6_ 1 42 (on_ 3 5) hHeld ?_
       refine pv_' 4 45 (of_ 8 23) rfl rfl HT_ ?_; refine tk6_ 3 44 (on_ 5 3) hHeld ?_
       refine o1_ 5 none (on_ 6 2) fun K hK => ?_; have hs75 : w74.cell? ⟨gb688, 4, none⟩ = some (.int .i64 0) := (blk_cell BK688.1 4).trans rfl; have hfs75 := blk_frozen BK688.1 4; have hns75_0 := NB687_688.1; have hms75_0 := NB688_687.1; refine skip_ (w1 := ?_) (by rfl) rfl ?_ ?_
       rotate_left
       ·go_simp
        rfl
       refine hK.out _ _ (f6e_ NB687_688 hHeld) (fun hHeld => ?_); clear hK K; refine pr_ ?_; refine o1_ 7 none (on_ 8 0) fun K hK => ?_; have hs76 : w74.cell? ⟨gb688, 5, none⟩ = some (.int .i64 0) := (blk_cell BK688.1 5).trans rfl; have hfs76 := blk_frozen BK688.1 5; have hns76_0 := NB687_688.1; have hms76_0 := NB688_687.1; refine skip_ (w1 := ?_) (by rfl) rfl ?_ ?_
       rotate_left
       ·go_simp
        rfl
       refine hK.out _ _ (f6e_ NB687_688 hHeld) (fun hHeld => ?_); clear hK K; refine dn_ ?_; have := NB687_688.1; have := NB688_687.1; obtain ⟨_, _, _, _, _, _, _, _, _, _, _, _⟩ := bc6_ BK687
       try go_wp2_with (refine gc_ 49 Try.func34 ?_; refine ch1_ (impl_in.calls A52.1) ?_; rintro w' ⟨nd, rfl⟩)
       go_ret
       exact ⟨re_, hz_ HB⟩
     ·rw [if_neg c51] at H; have ⟨c51b0, c51b1⟩ := bq6_ c51; by_cases c79 : a0_0 = 5
      ·rw [if_pos c79] at H; have ⟨c79b0, c79b1⟩ := bq5_ c79; clear c79; replace H := bnd_ H; obtain ⟨t696, A80, H⟩ := H; by_cases c81 : t696 = true
       ·subst c81; rw [if_pos rfl] at H; replace H := bnd_ H; obtain ⟨t697, A82, H⟩ := H; by_cases c83 : t697 = true
        ·subst c83; rw [if_pos rfl] at H; replace H := bnd_ H; obtain ⟨t698, A84, H⟩ := H; by_cases c85 : t698 = true
         ·subst c85; rw [if_pos rfl] at H; obtain rfl := in_ H
          try go_wp2
          replace BK687 := bd_ BK687; replace BK688 := bd_ BK688; replace HB := hd_ HB; refine st1_ 8 impl_RecOk.tab15 impl_RecOk.bits15 (p6e_ BK687) (fun hHeld HT_ HW_ => ?_)
          generalize wc.drew = w86 at BK687 BK688 HB hHeld ⊢
          refine pr_ ?_; refine pv_' 2 59 (of_ 8 5) rfl rfl HT_ ?_; refine tk6_ 1 58 (on_ 3 5) hHeld ?_
          refine pv_' 4 61 (of_ 8 23) rfl rfl HT_ ?_; refine tk6_ 3 60 (on_ 5 3) hHeld ?_
          refine o1_ 5 none (on_ 6 2) fun K hK => ?_; have hs87 : w86.cell? ⟨gb688, 4, none⟩ = some (.int .i64 0) := (blk_cell BK688.1 4).trans rfl; have hfs87 := blk_frozen BK688.1 4; have hns87_0 := NB687_688.1; have hms87_0 := NB688_687.1; refine skip_ (w1 := ?_) (by rfl) rfl ?_ ?_
          rotate_left
          ·go_simp
           rfl
          refine hK.out _ _ (f6e_ NB687_688 hHeld) (fun hHeld => ?_); clear hK K; refine pr_ ?_; refine o1_ 7 none (on_ 8 0) fun K hK => ?_; have hs88 : w86.cell? ⟨gb688, 5, none⟩ = some (.int .i64 0) := (blk_cell BK688.1 5).trans rfl; have hfs88 := blk_frozen BK688.1 5; have hns88_0 := NB687_688.1; have hms88_0 := NB688_687.1; refine skip_ (w1 := ?_) (by rfl) rfl ?_ ?_
          rotate_left
          ·go_simp
           rfl
          refine hK.out _ _ (f6e_ NB687_688 hHeld) (fun hHeld => ?_); clear hK K; refine dn_ ?_; have := NB687_688.1; have := NB688_687.1; obtain ⟨_, _, _, _, _, _, _, _, _, _, _, _⟩ := bc6_ BK687
          try go_wp2_with (first | (refine gc_ 65 Try.func34 ?_; refine ch1_ (impl_in.calls A80.1) ?_; rintro w' ⟨nd, rfl⟩) | (go_at_call 34; refine cm_ (impl_in.calls A82.1) ?_; rintro e w' ⟨rfl, ⟨nd, rfl⟩⟩) | (go_at_call 34; refine cm_ (impl_in.calls A84.1) ?_; rintro e w' ⟨rfl, ⟨nd, rfl⟩⟩; obtain ⟨_, _, _, _, _, _, _, _, _, _, _, _⟩ := bc6_ BK688))
          go_ret
          exact ⟨re_, hz_ HB⟩
         ·replace c85 := bF_ c85; subst c85; rw [if_neg ff_] at H; obtain rfl := in_ H
          try go_wp2
          replace BK687 := bd_ BK687; replace BK688 := bd_ BK688; replace HB := hd_ HB; refine st1_ 8 impl_RecOk.tab15 impl_RecOk.bits15 (p6e_ BK687) (fun hHeld HT_ HW_ => ?_)
          generalize wc.drew = w92 at BK687 BK688 HB hHeld ⊢
          refine pr_ ?_; refine pv_' 2 59 (of_ 8 5) rfl rfl HT_ ?_; refine tk6_ 1 58 (on_ 3 5) hHeld ?_
          refine pv_' 4 61 (of_ 8 23) rfl rfl HT_ ?_; refine tk6_ 3 60 (on_ 5 3) hHeld ?_
          refine o1_ 5 none (on_ 6 2) fun K hK => ?_; have hs93 : w92.cell? ⟨gb688, 4, none⟩ = some (.int .i64 0) := (blk_cell BK688.1 4).trans rfl; have hfs93 := blk_frozen BK688.1 4; have hns93_0 := NB687_688.1; have hms93_0 := NB688_687.1; refine skip_ (w1 := ?_) (by rfl) rfl ?_ ?_
          rotate_left
          ·go_simp
           rfl
          refine hK.out _ _ (f6e_ NB687_688 hHeld) (fun hHeld => ?_); clear hK K; refine pr_ ?_; refine o1_ 7 none (on_ 8 0) fun K hK => ?_; have hs94 : w92.cell? ⟨gb688, 5, none⟩ = some (.int .i64 0) := (blk_cell BK688.1 5).trans rfl; have hfs94 := blk_frozen BK688.1 5; have hns94_0 := NB687_688.1; have hms94_0 := NB688_687.1; refine skip_ (w1 := ?_) (by rfl) rfl ?_ ?_
          rotate_left
          ·go_simp
           rfl
          refine hK.out _ _ (f6e_ NB687_688 hHeld) (fun hHeld => ?_); clear hK K; refine dn_ ?_; have := NB687_688.1; have := NB688_687.1; obtain ⟨_, _, _, _, _, _, _, _, _, _, _, _⟩ := bc6_ BK687
          try go_wp2_with (first | (refine gc_ 65 Try.func34 ?_; refine ch1_ (impl_in.calls A80.1) ?_; rintro w' ⟨nd, rfl⟩) | (go_at_call 34; refine cm_ (impl_in.calls A82.1) ?_; rintro e w' ⟨rfl, ⟨nd, rfl⟩⟩) | (go_at_call 34; refine cm_ (impl_in.calls A84.1) ?_; rintro e w' ⟨rfl, ⟨nd, rfl⟩⟩))
          go_ret
          exact ⟨re_, hz_ HB⟩
        ·replace c83 := bF_ c83; subst c83; rw [if_neg ff_] at H; obtain rfl := in_ H
         try go_wp2
         replace BK687 := bd_ BK687; replace BK688 := bd_ BK688; replace HB := hd_ HB; refine st1_ 8 impl_RecOk.tab15 impl_RecOk.bits15 (p6e_ BK687) (fun hHeld HT_ HW_ => ?_)
         generalize wc.drew = w97 at BK687 BK688 HB hHeld ⊢
         refine pr_ ?_; refine pv_' 2 59 (of_ 8 5) rfl rfl HT_ ?_; refine tk6_ 1 58 (on_ 3 5) hHeld ?_
         refine pv_' 4 61 (of_ 8 23) rfl rfl HT_ ?_; refine tk6_ 3 60 (on_ 5 3) hHeld ?_
         refine o1_ 5 none (on_ 6 2) fun K hK => ?_; have hs98 : w97.cell? ⟨gb688, 4, none⟩ = some (.int .i64 0) := (blk_cell BK688.1 4).trans rfl; have hfs98 := blk_frozen BK688.1 4; have hns98_0 := NB687_688.1; have hms98_0 := NB688_687.1; refine skip_ (w1 := ?_) (by rfl) rfl ?_ ?_
         rotate_left
         ·go_simp
          rfl
         refine hK.out _ _ (f6e_ NB687_688 hHeld) (fun hHeld => ?_); clear hK K; refine pr_ ?_; refine o1_ 7 none (on_ 8 0) fun K hK => ?_; have hs99 : w97.cell? ⟨gb688, 5, none⟩ = some (.int .i64 0) := (blk_cell BK688.1 5).trans rfl; have hfs99 := blk_frozen BK688.1 5; have hns99_0 := NB687_688.1; have hms99_0 := NB688_687.1; refine skip_ (w1 := ?_) (by rfl) rfl ?_ ?_
         rotate_left
         ·go_simp
          rfl
         refine hK.out _ _ (f6e_ NB687_688 hHeld) (fun hHeld => ?_); clear hK K; refine dn_ ?_; have := NB687_688.1; have := NB688_687.1; obtain ⟨_, _, _, _, _, _, _, _, _, _, _, _⟩ := bc6_ BK687
         try go_wp2_with (first | (refine gc_ 65 Try.func34 ?_; refine ch1_ (impl_in.calls A80.1) ?_; rintro w' ⟨nd, rfl⟩) | (go_at_call 34; refine cm_ (impl_in.calls A82.1) ?_; rintro e w' ⟨rfl, ⟨nd, rfl⟩⟩))
         go_ret
         exact ⟨re_, hz_ HB⟩
       ·replace c81 := bF_ c81; subst c81; rw [if_neg ff_] at H; obtain rfl := in_ H
        try go_wp2
        replace BK687 := bd_ BK687; replace BK688 := bd_ BK688; replace HB := hd_ HB; refine st1_ 8 impl_RecOk.tab15 impl_RecOk.bits15 (p6e_ BK687) (fun hHeld HT_ HW_ => ?_)
        generalize wc.drew = w102 at BK687 BK688 HB hHeld ⊢
        refine pr_ ?_; refine pv_' 2 59 (of_ 8 5) rfl rfl HT_ ?_; refine tk6_ 1 58 (on_ 3 5) hHeld ?_
        refine pv_' 4 61 (of_ 8 23) rfl rfl HT_ ?_; refine tk6_ 3 60 (on_ 5 3) hHeld ?_
        refine o1_ 5 none (on_ 6 2) fun K hK => ?_; have hs103 : w102.cell? ⟨gb688, 4, none⟩ = some (.int .i64 0) := (blk_cell BK688.1 4).trans rfl; have hfs103 := blk_frozen BK688.1 4; have hns103_0 := NB687_688.1; have hms103_0 := NB688_687.1; refine skip_ (w1 := ?_) (by rfl) rfl ?_ ?_
        rotate_left
        ·go_simp
         rfl
        refine hK.out _ _ (f6e_ NB687_688 hHeld) (fun hHeld => ?_); clear hK K; refine pr_ ?_; refine o1_ 7 none (on_ 8 0) fun K hK => ?_; have hs104 : w102.cell? ⟨gb688, 5, none⟩ = some (.int .i64 0) := (blk_cell BK688.1 5).trans rfl; have hfs104 := blk_frozen BK688.1 5; have hns104_0 := NB687_688.1; have hms104_0 := NB688_687.1; refine skip_ (w1 := ?_) (by rfl) rfl ?_ ?_
        rotate_left
        ·go_simp
         rfl
        refine hK.out _ _ (f6e_ NB687_688 hHeld) (fun hHeld => ?_); clear hK K; refine dn_ ?_; have := NB687_688.1; have := NB688_687.1; obtain ⟨_, _, _, _, _, _, _, _, _, _, _, _⟩ := bc6_ BK687
        try go_wp2_with (refine gc_ 65 Try.func34 ?_; refine ch1_ (impl_in.calls A80.1) ?_; rintro w' ⟨nd, rfl⟩)
        go_ret
        exact ⟨re_, hz_ HB⟩
      ·rw [if_neg c79] at H; have ⟨c79b0, c79b1⟩ := bq6_ c79; rw [if_neg ff_] at H; obtain rfl := in_ H
       go_wp2
       go_ret
       exact ⟨re_, hz_ HB⟩
end
end Go.Proofs.Ytohfcgdodgdiiaa.PFnHints
