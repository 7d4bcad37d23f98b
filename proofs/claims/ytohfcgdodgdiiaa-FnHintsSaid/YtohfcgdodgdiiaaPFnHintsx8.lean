import Derived.Test.YtohfcgdodgdiiaaPFnHintsx4
namespace Go.Proofs.Ytohfcgdodgdiiaa.PFnHints
open Go.RowKit Go.Proofs.YtohfcgdodgdiiaaW.PrintWords Go.Proofs.YtohfcgdodgdiiaaW.PrintLast Go.Proofs.YtohfcgdodgdiiaaW.PrintMore
attribute [local go_sem] max2_int min2_int max_two min_two max_three min_three max_four min_four
set_option linter.unusedVariables false
set_option linter.unusedSimpArgs false
set_option maxHeartbeats 80000000
set_option maxRecDepth 100000
mutual
def spec_RecOk.j0 : Nat → Bool → Int → Int → ByteArray → ByteArray → Int → Int → Option (Bool)
 | 0, _, _, _, _, _, _, _ => none
 | k + 1, x16, x160000, x160001, x160002, x160003, x160004, x160005 => if x16 = true then (some false) else (if x160000 = 1 then (spec_RecOk.j1 k x160000 (x160000 == 1) x160000 x160001 x160002 x160003 x160004 x160005) else (spec_RecOk.j1 k x160000 (x160000 == 4) x160000 x160001 x160002 x160003 x160004 x160005))
def spec_RecOk.j1 : Nat → Int → Bool → Int → Int → ByteArray → ByteArray → Int → Int → Option (Bool)
 | 0, _, _, _, _, _, _, _, _ => none
 | k + 1, x18, x19, x160000, x160001, x160002, x160003, x160004, x160005 => if x19 = true then ((spec_KeyOk.f x160002).bind fun t161 => (if t161 = true then (if (x160003.size : Int) ≤ 24 then (if x160004 = 0 then (some (x160005 == 0)) else (some false)) else (some false)) else (some false))) else (if x18 = 2 then ((spec_KeyOk.f x160002).bind fun t162 => (if t162 = true then (if x160003.toList = ([] : List UInt8) then (if x160004 = 0 then (some (x160005 == 0)) else (some false)) else (some false)) else (some false))) else (if x18 = 3 then (if x160002.toList = ([] : List UInt8) then (if x160003.toList = ([] : List UInt8) then ((spec_l1In.f x160004 0 8).bind fun t163 => (if t163 = true then ((spec_l1In.f x160005 0 4294967295).bind fun t164 => (some t164)) else (some false))) else (some false)) else (some false)) else (if x18 = 5 then (if x160002.toList = ([] : List UInt8) then (if x160003.toList = ([] : List UInt8) then ((spec_l1In.f x160004 0 20).bind fun t165 => (if t165 = true then ((spec_l1In.f x160005 0 4294967295).bind fun t166 => (some t166)) else (some false))) else (some false)) else (some false)) else (some false))))
end
def spec_RecOk.f (k : Nat) (a0_0 : Int) (a0_1 : Int) (a0_2 : ByteArray) (a0_3 : ByteArray) (a0_4 : Int) (a0_5 : Int) : Option (Bool) := (spec_l1In.f a0_1 0 1000000).bind fun t160 => (if t160 = true then (if a0_1 = 0 then (spec_RecOk.j0 k (a0_0 != 5) a0_0 a0_1 a0_2 a0_3 a0_4 a0_5) else (spec_RecOk.j0 k false a0_0 a0_1 a0_2 a0_3 a0_4 a0_5)) else (spec_RecOk.j0 k true a0_0 a0_1 a0_2 a0_3 a0_4 a0_5))
theorem spec_RecOk.calls {k : Nat} {a0_0 a0_1 : Int} {a0_2 a0_3 : ByteArray} {a0_4 a0_5 : Int} {r : Bool} {w : World} (h : spec_RecOk.f k a0_0 a0_1 a0_2 a0_3 a0_4 a0_5 = some r) :
  Calls Try.prog 74 #[.agg #[.int .i64 a0_0, .int .i64 a0_1, .string a0_2, .string a0_3, .int .i64 a0_4, .int .i64 a0_5]] w fun e w' => e = .returned (.bool r) ∧ Below w.heap.size w w' := by
 have hu41 := Try.underlying41; have HB := am_ (Below.refl w.heap.size w); unfold spec_RecOk.f at h; have H := h; clear h; have HC2 := am_ H; clear H
 go_enter Try.func74, Try.ntmps74
 go_upto_region 1 with ((with_reducible refine gd_ 1 ?_); (try (refine gate_guard (by rfl) ?_; dsimp only)); refine bx1_ 1 #[.int .i64 a0_0, .int .i64 a0_1, .string a0_2, .string a0_3, .int .i64 a0_4, .int .i64 a0_5] 41 ?_; intro gb159 hg w3 hbox hb; have BK159 := am_ hbox; have GE159 := gx_ hg HB; replace HB := bx_ HB hb; clear hb hbox hg)
 (try simp only [Act.put, la_, lz_, ls_])
 go_cut [16] (fun v16 wc => ∃ (kq : Nat) (x16_1 : Bool), v16 = .bool x16_1 ∧ Aside0 (spec_RecOk.j0 kq x16_1 a0_0 a0_1 a0_2 a0_3 a0_4 a0_5 = some r) ∧ Aside0 (kq ≤ k) ∧ Aside0 (wc.heap[gb159]? = some (.cells #[.int .i64 a0_0, .int .i64 a0_1, .string a0_2, .string a0_3, .int .i64 a0_4, .int .i64 a0_5] 41 (0, 0))) ∧ Aside0 (Below w.heap.size w wc))
 case first =>
  have H := HC2.1; clear HC2; replace H := bnd_ H; obtain ⟨t160, A4, H⟩ := H; by_cases c5 : t160 = true
  ·subst c5; rw [if_pos rfl] at H; by_cases c6 : a0_1 = 0
   ·rw [if_pos c6] at H; have ⟨c6b0, c6b1⟩ := bq5_ c6; clear c6
    (first | rw [c6b0] | (simp only [i64_w, i32_w]; rw [c6b0]) | skip)
    have H' := am_ H; clear H; obtain ⟨_, _, _, _, _, _, _, _, _, _, _, _⟩ := bc6_ BK159
    go_wp2_with (refine gc_ 5 Try.func50 ?_; refine ch1_ (spec_l1In.calls A4.1) ?_; rintro w' ⟨nd, rfl⟩)
    go_meet
    case rel => exact ⟨_, _, rs_, H', ⟨m0_⟩, ⟨bk_ BK159⟩, ⟨hs_ HB GE159⟩⟩
   ·rw [if_neg c6] at H; have ⟨c6b0, c6b1⟩ := bq6_ c6
    (first | rw [c6b0] | (simp only [i64_w, i32_w]; rw [c6b0]) | skip)
    have H' := am_ H; clear H; obtain ⟨_, _, _, _, _, _, _, _, _, _, _, _⟩ := bc6_ BK159
    go_wp2_with (refine gc_ 5 Try.func50 ?_; refine ch1_ (spec_l1In.calls A4.1) ?_; rintro w' ⟨nd, rfl⟩)
    go_meet
    case rel => exact ⟨_, _, rs_, H', ⟨m0_⟩, ⟨bk_ BK159⟩, ⟨hs_ HB GE159⟩⟩
  ·replace c5 := bF_ c5; subst c5; rw [if_neg ff_] at H; have H' := am_ H; clear H; obtain ⟨Z9_0, Z9_1, Z9_2, Z9_3, Z9_4, Z9_5, F9_0, F9_1, F9_2, F9_3, F9_4, F9_5⟩ := bc6_ BK159
   go_wp2_with (refine gc_ 5 Try.func50 ?_; refine ch1_ (spec_l1In.calls A4.1) ?_; rintro w' ⟨nd, rfl⟩)
   go_meet
   case rel => exact ⟨_, _, rs_, H', ⟨m0_⟩, ⟨bk_ BK159⟩, ⟨hs_ HB GE159⟩⟩
 case rest =>
  clear HC2
  (try clear c5); (try clear c6); (try clear c6b0); (try clear c6b1)
  obtain ⟨kq, x16_1, rfl, HA, HJ1, BK159, HB⟩ := hcut
  cases kq with
  | zero => exact zz_ HA
  | succ kj1 =>
   have H := HA.1; clear HA; simp only [spec_RecOk.j0] at H; by_cases c10 : x16_1 = true
   ·subst c10; rw [if_pos rfl] at H; obtain rfl := in_ H
    go_wp2
    go_ret
    exact ⟨re_, hs_ HB GE159⟩
   ·replace c10 := bF_ c10; subst c10; rw [if_neg ff_] at H; have HC11 := am_ H; clear H; obtain ⟨_, _, _, _, _, _, _, _, _, _, _, _⟩ := bc6_ BK159
    go_upto_if 19 with (fail)
    go_cut [19] (fun v19 wc => ∃ (kq : Nat) (x19_10 : Bool), v19 = .bool x19_10 ∧ Aside0 (spec_RecOk.j1 kq a0_0 x19_10 a0_0 a0_1 a0_2 a0_3 a0_4 a0_5 = some r) ∧ Aside0 (kq ≤ kj1) ∧ Aside0 (wc.heap[gb159]? = some (.cells #[.int .i64 a0_0, .int .i64 a0_1, .string a0_2, .string a0_3, .int .i64 a0_4, .int .i64 a0_5] 41 (0, 0))) ∧ Aside0 (Below w.heap.size w wc))
    case first =>
     have H := HC11.1; clear HC11; by_cases c13 : a0_0 = 1
     ·rw [if_pos c13] at H; have ⟨c13b0, c13b1⟩ := bq5_ c13; clear c13
      (first | rw [c13b0] | (simp only [i64_w, i32_w]; rw [c13b0]) | skip)
      have H' := am_ H; clear H
      go_wp2
      go_meet
      case rel => exact ⟨_, _, rs_, H', ⟨m1_ HJ1⟩, ⟨bk_ BK159⟩, ⟨hs_ HB GE159⟩⟩
     ·rw [if_neg c13] at H; have ⟨c13b0, c13b1⟩ := bq6_ c13
      (first | rw [c13b0] | (simp only [i64_w, i32_w]; rw [c13b0]) | skip)
      have H' := am_ H; clear H
      go_wp2
      go_meet
      case rel => exact ⟨_, _, rs_, H', ⟨m1_ HJ1⟩, ⟨bk_ BK159⟩, ⟨hs_ HB GE159⟩⟩
    case rest =>
     clear HC11
     (try clear c5); (try clear c6); (try clear c6b0); (try clear c6b1); (try clear c10); (try clear c13); (try clear c13b0); (try clear c13b1)
     obtain ⟨kq, x19_10, rfl, HA, HJ10, BK159, HB⟩ := hcut
     cases kq with
     | zero => exact zz_ HA
     | succ kj10 =>
      have H := HA.1; clear HA; simp only [spec_RecOk.j1] at H; by_cases c14 : x19_10 = true
      ·subst c14; rw [if_pos rfl] at H; replace H := bnd_ H; obtain ⟨t161, A15, H⟩ := H; by_cases c16 : t161 = true
       ·subst c16; rw [if_pos rfl] at H; by_cases c17 : (a0_3.size : Int) ≤ 24
        ·rw [if_pos c17] at H; have c17b0 := dq_ c17; have c17b1 : decide (a0_3.size ≤ 24) = true := decide_eq_true (by omega); clear c17; by_cases c18 : a0_4 = 0
         ·rw [if_pos c18] at H; have ⟨c18b0, c18b1⟩ := bq5_ c18; clear c18; obtain rfl := in_ H; obtain ⟨Z19_0, Z19_1, Z19_2, Z19_3, Z19_4, Z19_5, F19_0, F19_1, F19_2, F19_3, F19_4, F19_5⟩ := bc6_ BK159
          go_wp2_with (refine gc_ 24 Try.func73 ?_; refine ch1_ (spec_KeyOk.calls A15.1) ?_; rintro w' ⟨nd, rfl⟩)
          go_ret
          exact ⟨re_, hs_ HB GE159⟩
         ·rw [if_neg c18] at H; have ⟨c18b0, c18b1⟩ := bq6_ c18; obtain rfl := in_ H; obtain ⟨_, _, _, _, _, _, _, _, _, _, _, _⟩ := bc6_ BK159
          go_wp2_with (refine gc_ 24 Try.func73 ?_; refine ch1_ (spec_KeyOk.calls A15.1) ?_; rintro w' ⟨nd, rfl⟩)
          go_ret
          exact ⟨re_, hs_ HB GE159⟩
        ·rw [if_neg c17] at H; have c17b0 := df_ c17; have c17b1 : decide (a0_3.size ≤ 24) = false := decide_eq_false (by omega); clear c17; obtain rfl := in_ H; obtain ⟨_, _, _, _, _, _, _, _, _, _, _, _⟩ := bc6_ BK159
         go_wp2_with (refine gc_ 24 Try.func73 ?_; refine ch1_ (spec_KeyOk.calls A15.1) ?_; rintro w' ⟨nd, rfl⟩)
         go_ret
         exact ⟨re_, hs_ HB GE159⟩
       ·replace c16 := bF_ c16; subst c16; rw [if_neg ff_] at H; obtain rfl := in_ H; obtain ⟨_, _, _, _, _, _, _, _, _, _, _, _⟩ := bc6_ BK159
        go_wp2_with (refine gc_ 24 Try.func73 ?_; refine ch1_ (spec_KeyOk.calls A15.1) ?_; rintro w' ⟨nd, rfl⟩)
        go_ret
        exact ⟨re_, hs_ HB GE159⟩
      ·replace c14 := bF_ c14; subst c14; rw [if_neg ff_] at H; by_cases c23 : a0_0 = 2
       ·rw [if_pos c23] at H; have ⟨c23b0, c23b1⟩ := bq5_ c23; clear c23; replace H := bnd_ H; obtain ⟨t162, A24, H⟩ := H; by_cases c25 : t162 = true
        ·subst c25; rw [if_pos rfl] at H; by_cases c26 : a0_3.toList = ([] : List UInt8)
         ·rw [if_pos c26] at H; have ⟨c26b0, c26b1⟩ := bq5_ c26; clear c26; by_cases c27 : a0_4 = 0
          ·rw [if_pos c27] at H; have ⟨c27b0, c27b1⟩ := bq5_ c27; clear c27; obtain rfl := in_ H; obtain ⟨_, _, _, _, _, _, _, _, _, _, _, _⟩ := bc6_ BK159
           go_wp2_with (refine gc_ 45 Try.func73 ?_; refine ch1_ (spec_KeyOk.calls A24.1) ?_; rintro w' ⟨nd, rfl⟩)
           go_ret
           exact ⟨re_, hs_ HB GE159⟩
          ·rw [if_neg c27] at H; have ⟨c27b0, c27b1⟩ := bq6_ c27; obtain rfl := in_ H; obtain ⟨_, _, _, _, _, _, _, _, _, _, _, _⟩ := bc6_ BK159
           go_wp2_with (refine gc_ 45 Try.func73 ?_; refine ch1_ (spec_KeyOk.calls A24.1) ?_; rintro w' ⟨nd, rfl⟩)
           go_ret
           exact ⟨re_, hs_ HB GE159⟩
         ·rw [if_neg c26] at H; have ⟨c26b0, c26b1⟩ := bq6_ c26; obtain rfl := in_ H; obtain ⟨_, _, _, _, _, _, _, _, _, _, _, _⟩ := bc6_ BK159
          go_wp2_with (refine gc_ 45 Try.func73 ?_; refine ch1_ (spec_KeyOk.calls A24.1) ?_; rintro w' ⟨nd, rfl⟩)
          go_ret
          exact ⟨re_, hs_ HB GE159⟩
        ·replace c25 := bF_ c25; subst c25; rw [if_neg ff_] at H; obtain rfl := in_ H; obtain ⟨_, _, _, _, _, _, _, _, _, _, _, _⟩ := bc6_ BK159
         go_wp2_with (refine gc_ 45 Try.func73 ?_; refine ch1_ (spec_KeyOk.calls A24.1) ?_; rintro w' ⟨nd, rfl⟩)
         go_ret
         exact ⟨re_, hs_ HB GE159⟩
       ·rw [if_neg c23] at H; have ⟨c23b0, c23b1⟩ := bq6_ c23; by_cases c32 : a0_0 = 3
        ·rw [if_pos c32] at H; have ⟨c32b0, c32b1⟩ := bq5_ c32; clear c32; by_cases c33 : a0_2.toList = ([] : List UInt8)
         ·rw [if_pos c33] at H; have ⟨c33b0, c33b1⟩ := bq5_ c33; clear c33; by_cases c34 : a0_3.toList = ([] : List UInt8)
          ·rw [if_pos c34] at H; have ⟨c34b0, c34b1⟩ := bq5_ c34; clear c34; replace H := bnd_ H; obtain ⟨t163, A35, H⟩ := H; by_cases c36 : t163 = true
           ·subst c36; rw [if_pos rfl] at H; replace H := bnd_ H; obtain ⟨t164, A37, H⟩ := H; obtain rfl := in_ H; obtain ⟨_, _, _, _, _, _, _, _, _, _, _, _⟩ := bc6_ BK159
            go_wp2_with (first | (go_at_call 50; refine cm_ (spec_l1In.calls A35.1) ?_; rintro e w' ⟨rfl, ⟨nd, rfl⟩⟩) | (go_at_call 50; refine cm_ (spec_l1In.calls A37.1) ?_; rintro e w' ⟨rfl, ⟨nd, rfl⟩⟩))
            go_ret
            exact ⟨re_, hs_ HB GE159⟩
           ·replace c36 := bF_ c36; subst c36; rw [if_neg ff_] at H; obtain rfl := in_ H; obtain ⟨_, _, _, _, _, _, _, _, _, _, _, _⟩ := bc6_ BK159
            go_wp2_with (go_at_call 50; refine cm_ (spec_l1In.calls A35.1) ?_; rintro e w' ⟨rfl, ⟨nd, rfl⟩⟩)
            go_ret
            exact ⟨re_, hs_ HB GE159⟩
          ·rw [if_neg c34] at H; have ⟨c34b0, c34b1⟩ := bq6_ c34; obtain rfl := in_ H; obtain ⟨_, _, _, _, _, _, _, _, _, _, _, _⟩ := bc6_ BK159
           go_wp2
           go_ret
           exact ⟨re_, hs_ HB GE159⟩
         ·rw [if_neg c33] at H; have ⟨c33b0, c33b1⟩ := bq6_ c33; obtain rfl := in_ H; obtain ⟨_, _, _, _, _, _, _, _, _, _, _, _⟩ := bc6_ BK159
          go_wp2
          go_ret
          exact ⟨re_, hs_ HB GE159⟩
        ·rw [if_neg c32] at H; have ⟨c32b0, c32b1⟩ := bq6_ c32; by_cases c42 : a0_0 = 5
         ·rw [if_pos c42] at H; have ⟨c42b0, c42b1⟩ := bq5_ c42; clear c42; by_cases c43 : a0_2.toList = ([] : List UInt8)
          ·rw [if_pos c43] at H; have ⟨c43b0, c43b1⟩ := bq5_ c43; clear c43; by_cases c44 : a0_3.toList = ([] : List UInt8)
           ·rw [if_pos c44] at H; have ⟨c44b0, c44b1⟩ := bq5_ c44; clear c44; replace H := bnd_ H; obtain ⟨t165, A45, H⟩ := H; by_cases c46 : t165 = true
            ·subst c46; rw [if_pos rfl] at H; replace H := bnd_ H; obtain ⟨t166, A47, H⟩ := H; obtain rfl := in_ H; obtain ⟨_, _, _, _, _, _, _, _, _, _, _, _⟩ := bc6_ BK159
             go_wp2_with (first | (go_at_call 50; refine cm_ (spec_l1In.calls A45.1) ?_; rintro e w' ⟨rfl, ⟨nd, rfl⟩⟩) | (go_at_call 50; refine cm_ (spec_l1In.calls A47.1) ?_; rintro e w' ⟨rfl, ⟨nd, rfl⟩⟩))
             go_ret
             exact ⟨re_, hs_ HB GE159⟩
            ·replace c46 := bF_ c46; subst c46; rw [if_neg ff_] at H; obtain rfl := in_ H; obtain ⟨Z49_0, Z49_1, Z49_2, Z49_3, Z49_4, Z49_5, F49_0, F49_1, F49_2, F49_3, F49_4, F49_5⟩ := bc6_ BK159
             go_wp2_with (go_at_call 50; refine cm_ (spec_l1In.calls A45.1) ?_; rintro e w' ⟨rfl, ⟨nd, rfl⟩⟩)
             go_ret
             exact ⟨re_, hs_ HB GE159⟩
           ·rw [if_neg c44] at H; have ⟨c44b0, c44b1⟩ := bq6_ c44; obtain rfl := in_ H; obtain ⟨Z50_0, Z50_1, Z50_2, Z50_3, Z50_4, Z50_5, F50_0, F50_1, F50_2, F50_3, F50_4, F50_5⟩ := bc6_ BK159
            go_wp2
            go_ret
            exact ⟨re_, hs_ HB GE159⟩
          ·rw [if_neg c43] at H; have ⟨c43b0, c43b1⟩ := bq6_ c43; obtain rfl := in_ H; obtain ⟨_, _, _, _, _, _, _, _, _, _, _, _⟩ := bc6_ BK159
           go_wp2
           go_ret
           exact ⟨re_, hs_ HB GE159⟩
         ·rw [if_neg c42] at H; have ⟨c42b0, c42b1⟩ := bq6_ c42; obtain rfl := in_ H
          go_wp2
          go_ret
          exact ⟨re_, hs_ HB GE159⟩
def spec_ShowRec.j0 : Nat → ByteArray → Int → Bool → Int → Int → ByteArray → ByteArray → Int → Int → Option (ByteArray)
 | 0, _, _, _, _, _, _, _, _, _ => none
 | k + 1, x3, x15, x16, x168000, x168001, x168002, x168003, x168004, x168005 => if x16 = true then ((spec_Var.f k (x168002.size : Int)).bind fun t171 => (if x3.size + t171.size ≤ 9223372036854775807 then (if (x3 ++ t171).size + x168002.size ≤ 9223372036854775807 then ((spec_Var.f k (x168003.size : Int)).bind fun t172 => (if ((x3 ++ t171) ++ x168002).size + t172.size ≤ 9223372036854775807 then (if (((x3 ++ t171) ++ x168002) ++ t172).size + x168003.size ≤ 9223372036854775807 then (some ((((x3 ++ t171) ++ x168002) ++ t172) ++ x168003)) else (none)) else (none))) else (none)) else (none))) else (if x15 = 2 then ((spec_Var.f k (x168002.size : Int)).bind fun t173 => (if x3.size + t173.size ≤ 9223372036854775807 then (if (x3 ++ t173).size + x168002.size ≤ 9223372036854775807 then (some ((x3 ++ t173) ++ x168002)) else (none)) else (none))) else ((spec_Var.f k x168004).bind fun t174 => (if x3.size + t174.size ≤ 9223372036854775807 then ((spec_Fixed.f k x168005 4).bind fun t175 => (if (x3 ++ t174).size + t175.size ≤ 9223372036854775807 then (some ((x3 ++ t174) ++ t175)) else (none))) else (none))))
def spec_ShowRec.f (k : Nat) (a0_0 : Int) (a0_1 : Int) (a0_2 : ByteArray) (a0_3 : ByteArray) (a0_4 : Int) (a0_5 : Int) : Option (ByteArray) := (spec_RecOk.f k a0_0 a0_1 a0_2 a0_3 a0_4 a0_5).bind fun t168 => (if t168 = true then ((spec_Var.f k a0_0).bind fun t169 => ((spec_Var.f k a0_1).bind fun t170 => (if t169.size + t170.size ≤ 9223372036854775807 then (if a0_0 = 1 then (spec_ShowRec.j0 k (t169 ++ t170) a0_0 (a0_0 == 1) a0_0 a0_1 a0_2 a0_3 a0_4 a0_5) else (spec_ShowRec.j0 k (t169 ++ t170) a0_0 (a0_0 == 4) a0_0 a0_1 a0_2 a0_3 a0_4 a0_5)) else (none)))) else (some (⟨#[]⟩ : ByteArray)))
def spec_ShowRec.T3 : Bool × List (List Nat × List Nat) := (true, [([], []), ([0], [0]), ([1], [1]), ([], []), ([3], [3]), ([4, 2], [4]), ([2, 5], [2, 5]), ([6, 5, 0, 1, 2, 3, 4, 5, 6], [6])])
def spec_ShowRec.B3 : List Nat := [0, 1, 3, 0, 8, 31, 63, 127]
theorem spec_ShowRec.tab3 : rtab .any (opsOf Try.f54 3) = spec_ShowRec.T3 := by kernel_rfl
theorem spec_ShowRec.bits3 : waitsOk spec_ShowRec.T3.2 spec_ShowRec.B3 = true := by kernel_rfl
def spec_ShowRec.T7 : Bool × List (List Nat × List Nat) := (true, [([], []), ([], []), ([1], [1]), ([2], [2]), ([3], [3]), ([0, 4], [0, 4]), ([], []), ([6], [6]), ([5, 7], [5, 7]), ([], []), ([9], [9]), ([10], [10]), ([11, 4], [11]), ([8, 12], [8, 12]), ([], []), ([14], [14]), ([13, 15], [13, 15]), ([16, 12, 0, 1, 2, 3, 4, 5, 6, 7, 8, 9, 10, 11, 12, 13, 14, 15, 16], [16])])
def spec_ShowRec.B7 : List Nat := [0, 0, 2, 6, 14, 31, 0, 64, 255, 0, 512, 1536, 3614, 8191, 0, 16384, 65535, 131071]
theorem spec_ShowRec.tab7 : rtab .any (opsOf Try.f54 7) = spec_ShowRec.T7 := by kernel_rfl
theorem spec_ShowRec.bits7 : waitsOk spec_ShowRec.T7.2 spec_ShowRec.B7 = true := by kernel_rfl
def spec_ShowRec.T9 : Bool × List (List Nat × List Nat) := (true, [([], []), ([], []), ([1], [1]), ([2], [2]), ([3], [3]), ([0, 4], [0, 4]), ([], []), ([6], [6]), ([5, 7], [5, 7]), ([8, 4, 0, 1, 2, 3, 4, 5, 6, 7, 8], [8])])
def spec_ShowRec.B9 : List Nat := [0, 0, 2, 6, 14, 31, 0, 64, 255, 511]
theorem spec_ShowRec.tab9 : rtab .any (opsOf Try.f54 9) = spec_ShowRec.T9 := by kernel_rfl
theorem spec_ShowRec.bits9 : waitsOk spec_ShowRec.T9.2 spec_ShowRec.B9 = true := by kernel_rfl
def spec_ShowRec.T10 : Bool × List (List Nat × List Nat) := (true, [([], []), ([], []), ([1], [1]), ([2], [2]), ([0, 3], [0, 3]), ([], []), ([5], [5]), ([6, 3], [6]), ([4, 7], [4, 7]), ([8, 7, 0, 1, 2, 3, 4, 5, 6, 7, 8], [8])])
def spec_ShowRec.B10 : List Nat := [0, 0, 2, 6, 15, 0, 32, 110, 255, 511]
theorem spec_ShowRec.tab10 : rtab .any (opsOf Try.f54 10) = spec_ShowRec.T10 := by kernel_rfl
theorem spec_ShowRec.bits10 : waitsOk spec_ShowRec.T10.2 spec_ShowRec.B10 = true := by kernel_rfl
theorem spec_ShowRec.calls {k : Nat} {a0_0 a0_1 : Int} {a0_2 a0_3 : ByteArray} {a0_4 a0_5 : Int} {r : ByteArray} {w : World} (h : spec_ShowRec.f k a0_0 a0_1 a0_2 a0_3 a0_4 a0_5 = some r) :
  Calls Try.prog 54 #[.agg #[.int .i64 a0_0, .int .i64 a0_1, .string a0_2, .string a0_3, .int .i64 a0_4, .int .i64 a0_5]] w fun e w' => e = .returned (.string r) ∧ Below w.heap.size w w' := by
 have hu41 := Try.underlying41; have HB := am_ (Below.refl w.heap.size w); unfold spec_ShowRec.f at h; have H := h; clear h; replace H := bnd_ H; obtain ⟨t168, A2, H⟩ := H; by_cases c3 : t168 = true
 ·subst c3; rw [if_pos rfl] at H; replace H := bnd_ H; obtain ⟨t169, A4, H⟩ := H; replace H := bnd_ H; obtain ⟨t170, A5, H⟩ := H; replace H := ih_ H; obtain ⟨c6, H⟩ := H; have ⟨c6b0, c6b1, c6b2⟩ := dl_ c6
  have HC7 := am_ H; clear H
  go_enter Try.func54, Try.ntmps54
  try go_wp2_with (first | (refine gd_ 1 ?_; refine bx1_ 1 #[.int .i64 a0_0, .int .i64 a0_1, .string a0_2, .string a0_3, .int .i64 a0_4, .int .i64 a0_5] 41 ?_; intro gb167 hg w8 hbox hb; have BK167 := am_ hbox; have GE167 := gx_ hg HB; replace HB := bx_ HB hb; clear hb hbox hg; obtain ⟨Z9_0, Z9_1, Z9_2, Z9_3, Z9_4, Z9_5, F9_0, F9_1, F9_2, F9_3, F9_4, F9_5⟩ := bc6_ BK167) | (refine gc_ 5 Try.func74 ?_; refine ch1_ (spec_RecOk.calls A2.1) ?_; intro w10 hb; replace BK167 := bb_ BK167 hb; replace HB := bx_ HB hb; clear hb))
  replace BK167 := bd_ BK167; replace HB := hd_ HB; refine st1_ 8 spec_ShowRec.tab3 spec_ShowRec.bits3 (p6e_ BK167) (fun hHeld HT_ HW_ => ?_)
  generalize w10.drew = w11 at BK167 HB hHeld ⊢
  refine pr_ ?_; refine pv_' 3 10 (of_ 8 9) rfl rfl HT_ ?_; refine tk6_ 1 8 (of_ 8 11) hHeld ?_
  refine tk6_ 4 11 (of_ 8 27) hHeld ?_
  refine o1_ 2 (some 9) (on_ 5 3) fun K hK => ?_; refine go2_ Try.func26 (spec_Var.calls A4.1) ?_; intro w12 hb; replace BK167 := bb_ BK167 hb; replace HB := bx_ HB hb
  (try clear hb)
  (try clear hb2)
  (try clear hk)
  (try clear hi)
  refine hK.out _ _ (p6e_ BK167) (fun hHeld => ?_); clear hK K; refine nm_ ?_; refine o1_ 5 (some 12) (on_ 6 2) fun K hK => ?_; refine go2_ Try.func26 (spec_Var.calls A5.1) ?_; intro w13 hb; replace BK167 := bb_ BK167 hb; replace HB := bx_ HB hb
  (try clear hb)
  (try clear hb2)
  (try clear hk)
  (try clear hi)
  refine hK.out _ _ (p6e_ BK167) (fun hHeld => ?_); clear hK K; refine nm_ ?_; (iterate 2 refine pr_ ?_); refine dn_ ?_; obtain ⟨_, _, _, _, _, _, _, _, _, _, _, _⟩ := bc6_ BK167
  go_upto_if 16 with (fail)
  go_cut [16] (fun v16 wc => ∃ (kq : Nat) (x16_6 : Bool), v16 = .bool x16_6 ∧ Aside0 (spec_ShowRec.j0 kq (t169 ++ t170) a0_0 x16_6 a0_0 a0_1 a0_2 a0_3 a0_4 a0_5 = some r) ∧ Aside0 (kq ≤ k) ∧ Aside0 (wc.heap[gb167]? = some (.cells #[.int .i64 a0_0, .int .i64 a0_1, .string a0_2, .string a0_3, .int .i64 a0_4, .int .i64 a0_5] 41 (0, 0))) ∧ Aside0 (Below w.heap.size w wc))
  case first =>
   have H := HC7.1; clear HC7; by_cases c15 : a0_0 = 1
   ·rw [if_pos c15] at H; have ⟨c15b0, c15b1⟩ := bq5_ c15; clear c15
    (first | rw [c15b0] | (simp only [i64_w, i32_w]; rw [c15b0]) | skip)
    have H' := am_ H; clear H
    go_wp2
    go_meet
    case rel => exact ⟨_, _, rs_, H', ⟨m0_⟩, ⟨bk_ BK167⟩, ⟨hs_ HB GE167⟩⟩
   ·rw [if_neg c15] at H; have ⟨c15b0, c15b1⟩ := bq6_ c15
    (first | rw [c15b0] | (simp only [i64_w, i32_w]; rw [c15b0]) | skip)
    have H' := am_ H; clear H
    go_wp2
    go_meet
    case rel => exact ⟨_, _, rs_, H', ⟨m0_⟩, ⟨bk_ BK167⟩, ⟨hs_ HB GE167⟩⟩
  case rest =>
   clear HC7
   (try clear c3); (try clear c6); (try clear c6b0); (try clear c6b1); (try clear c6b2); (try clear c15); (try clear c15b0); (try clear c15b1)
   obtain ⟨kq, x16_6, rfl, HA, HJ6, BK167, HB⟩ := hcut
   cases kq with
   | zero => exact zz_ HA
   | succ kj6 =>
    have H := HA.1; clear HA; simp only [spec_ShowRec.j0] at H; by_cases c16 : x16_6 = true
    ·subst c16; rw [if_pos rfl] at H; replace H := bnd_ H; obtain ⟨t171, A17, H⟩ := H; replace H := ih_ H; obtain ⟨c18, H⟩ := H; have ⟨c18b0, c18b1, c18b2⟩ := dl_ c18; (try have c18b3 := sp_ c18b2)
     replace H := ih_ H; obtain ⟨c19, H⟩ := H; have ⟨c19b0, c19b1, c19b2⟩ := dl_ c19; (try have c19b3 := sp_ c19b2)
     replace H := bnd_ H; obtain ⟨t172, A20, H⟩ := H; replace H := ih_ H; obtain ⟨c21, H⟩ := H; have ⟨c21b0, c21b1, c21b2⟩ := dl_ c21; (try have c21b3 := sp_ c21b2)
     replace H := ih_ H; obtain ⟨c22, H⟩ := H; have ⟨c22b0, c22b1, c22b2⟩ := dl_ c22; (try have c22b3 := sp_ c22b2)
     obtain rfl := in_ H
     try go_wp2
     replace BK167 := bd_ BK167; replace HB := hd_ HB; refine st1_ 18 spec_ShowRec.tab7 spec_ShowRec.bits7 (p6e_ BK167) (fun hHeld HT_ HW_ => ?_)
     generalize wc.drew = w23 at BK167 HB hHeld ⊢
     (iterate 2 refine pr_ ?_); refine pv_' 6 25 (of_ 18 67) rfl rfl HT_ ?_; refine pv_' 9 28 (of_ 18 579) rfl rfl HT_ ?_; refine pv_' 14 33 (of_ 18 16963) rfl rfl HT_ ?_; refine tk6_ 2 21 (of_ 18 16967) hHeld ?_
     refine pv_' 3 22 (of_ 18 16975) rfl rfl HT_ ?_; refine tk6_ 7 26 (of_ 18 17103) hHeld ?_
     refine tk6_ 10 29 (of_ 18 18127) hHeld ?_
     refine pv_' 11 30 (of_ 18 20175) rfl rfl HT_ ?_; refine tk6_ 15 34 (of_ 18 52943) hHeld ?_
     refine o1_ 4 (some 23) (of_ 18 52959) fun K hK => ?_; refine go2_ Try.func26 (spec_Var.calls A17.1) ?_; intro w24 hb; replace BK167 := bb_ BK167 hb; replace HB := bx_ HB hb
     (try clear hb)
     (try clear hb2)
     (try clear hk)
     (try clear hi)
     refine hK.out _ _ (p6e_ BK167) (fun hHeld => ?_); clear hK K; refine nm_ ?_; refine pv_' 5 24 (of_ 18 52991) rfl rfl HT_ ?_; refine pv_' 8 27 (of_ 18 53247) rfl rfl HT_ ?_; refine o1_ 12 (some 31) (of_ 18 57343) fun K hK => ?_; refine go2_ Try.func26 (spec_Var.calls A20.1) ?_; intro w25 hb; replace BK167 := bb_ BK167 hb; replace HB := bx_ HB hb
     (try clear hb)
     (try clear hb2)
     (try clear hk)
     (try clear hi)
     refine hK.out _ _ (p6e_ BK167) (fun hHeld => ?_); clear hK K; refine nm_ ?_; refine pq_ 13 32 16 2 ?_; (iterate 2 refine pr_ ?_); refine dn_ ?_
     try go_wp2
     go_ret
     exact ⟨re_, hs_ HB GE167⟩
    ·replace c16 := bF_ c16; subst c16; rw [if_neg ff_] at H; by_cases c26 : a0_0 = 2
     ·rw [if_pos c26] at H; have ⟨c26b0, c26b1⟩ := bq5_ c26; clear c26; replace H := bnd_ H; obtain ⟨t173, A27, H⟩ := H; replace H := ih_ H; obtain ⟨c28, H⟩ := H; have ⟨c28b0, c28b1, c28b2⟩ := dl_ c28; (try have c28b3 := sp_ c28b2)
      replace H := ih_ H; obtain ⟨c29, H⟩ := H; have ⟨c29b0, c29b1, c29b2⟩ := dl_ c29; (try have c29b3 := sp_ c29b2)
      obtain rfl := in_ H
      try go_wp2
      replace BK167 := bd_ BK167; replace HB := hd_ HB; refine st1_ 10 spec_ShowRec.tab9 spec_ShowRec.bits9 (p6e_ BK167) (fun hHeld HT_ HW_ => ?_)
      generalize wc.drew = w30 at BK167 HB hHeld ⊢
      (iterate 2 refine pr_ ?_); refine pv_' 6 44 (of_ 10 67) rfl rfl HT_ ?_; refine tk6_ 2 40 (of_ 10 71) hHeld ?_
      refine pv_' 3 41 (of_ 10 79) rfl rfl HT_ ?_; refine tk6_ 7 45 (of_ 10 207) hHeld ?_
      refine o1_ 4 (some 42) (of_ 10 223) fun K hK => ?_; refine go2_ Try.func26 (spec_Var.calls A27.1) ?_; intro w31 hb; replace BK167 := bb_ BK167 hb; replace HB := bx_ HB hb
      (try clear hb)
      (try clear hb2)
      (try clear hk)
      (try clear hi)
      refine hK.out _ _ (p6e_ BK167) (fun hHeld => ?_); clear hK K; refine nm_ ?_; refine pq_ 5 43 8 2 ?_; (iterate 2 refine pr_ ?_); refine dn_ ?_
      try go_wp2
      go_ret
      exact ⟨re_, hs_ HB GE167⟩
     ·rw [if_neg c26] at H; have ⟨c26b0, c26b1⟩ := bq6_ c26; replace H := bnd_ H; obtain ⟨t174, A32, H⟩ := H; replace H := ih_ H; obtain ⟨c33, H⟩ := H; have ⟨c33b0, c33b1, c33b2⟩ := dl_ c33; (try have c33b3 := sp_ c33b2)
      replace H := bnd_ H; obtain ⟨t175, A34, H⟩ := H; replace H := ih_ H; obtain ⟨c35, H⟩ := H; have ⟨c35b0, c35b1, c35b2⟩ := dl_ c35; (try have c35b3 := sp_ c35b2)
      obtain rfl := in_ H
      try go_wp2
      replace BK167 := bd_ BK167; replace HB := hd_ HB; refine st1_ 10 spec_ShowRec.tab10 spec_ShowRec.bits10 (p6e_ BK167) (fun hHeld HT_ HW_ => ?_)
      generalize wc.drew = w36 at BK167 HB hHeld ⊢
      (iterate 2 refine pr_ ?_); refine pv_' 5 52 (of_ 10 35) rfl rfl HT_ ?_; refine tk6_ 2 49 (of_ 10 39) hHeld ?_
      refine tk6_ 6 53 (of_ 10 103) hHeld ?_
      refine o1_ 3 (some 50) (of_ 10 111) fun K hK => ?_; refine go2_ Try.func26 (spec_Var.calls A32.1) ?_; intro w37 hb; replace BK167 := bb_ BK167 hb; replace HB := bx_ HB hb
      (try clear hb)
      (try clear hb2)
      (try clear hk)
      (try clear hi)
      refine hK.out _ _ (p6e_ BK167) (fun hHeld => ?_); clear hK K; refine nm_ ?_; refine pq_ 4 51 7 3 ?_; refine o1_ 7 (some 54) (on_ 8 2) fun K hK => ?_; refine go2_ Try.func27 (spec_Fixed.calls A34.1) ?_; intro w38 hb; replace BK167 := bb_ BK167 hb; replace HB := bx_ HB hb
      (try clear hb)
      (try clear hb2)
      (try clear hk)
      (try clear hi)
      refine hK.out _ _ (p6e_ BK167) (fun hHeld => ?_); clear hK K; refine nm_ ?_; (iterate 2 refine pr_ ?_); refine dn_ ?_
      try go_wp2
      go_ret
      exact ⟨re_, hs_ HB GE167⟩
 ·replace c3 := bF_ c3; subst c3; rw [if_neg ff_] at H; obtain rfl := in_ H
  go_enter Try.func54, Try.ntmps54
  go_wp2_with (first | (refine gd_ 1 ?_; refine bx1_ 1 #[.int .i64 a0_0, .int .i64 a0_1, .string a0_2, .string a0_3, .int .i64 a0_4, .int .i64 a0_5] 41 ?_; intro gb167 hg w39 hbox hb; have BK167 := am_ hbox; have GE167 := gx_ hg HB; replace HB := bx_ HB hb; clear hb hbox hg; obtain ⟨_, _, _, _, _, _, _, _, _, _, _, _⟩ := bc6_ BK167) | (refine gc_ 5 Try.func74 ?_; refine ch1_ (spec_RecOk.calls A2.1) ?_; intro w41 hb; replace BK167 := bb_ BK167 hb; replace HB := bx_ HB hb; clear hb))
  go_ret
  exact ⟨re_, hs_ HB GE167⟩
def spec_SumOf.l0 : Nat → List (S41) → ByteArray → Int → Option (Int)
 | 0, _, _, _ => none
 | k + 1, x0, x3, x4 => if x4 < (x0.length : Int) then (if 0 ≤ x4 then ((spec_ShowRec.f k ((rd_T41 x0 x4).f0) ((rd_T41 x0 x4).f1) ((rd_T41 x0 x4).f2) ((rd_T41 x0 x4).f3) ((rd_T41 x0 x4).f4) ((rd_T41 x0 x4).f5)).bind fun t177 => (if x3.size + t177.size ≤ 9223372036854775807 then (spec_SumOf.l0 k x0 (x3 ++ t177) (wrap64 (x4 + 1))) else (none))) else (none)) else ((spec_Crc.f k x3).bind fun t178 => (some t178))
def spec_SumOf.f (k : Nat) (l0 : List (S41)) : Option (Int) := spec_SumOf.l0 k l0 (⟨#[]⟩ : ByteArray) 0
theorem spec_SumOf.calls {k : Nat} {l0 : List (S41)} {r : Int} {w : World} (A0 : Option Addr) (c0 : Nat) (h : spec_SumOf.f k l0 = some r) (hr0 : Kd.C k41 w A0 l0.length l0 := by exact sr_) (hc0 : l0.length ≤ c0 := by exact sc_) :
  Calls Try.prog 64 #[.slice A0 l0.length c0] w fun e w' => e = .returned (.int .i64 r) ∧ Below w.heap.size w w' := by
 have hu41 := Try.underlying41; have HR0 := am_ hr0; have HC0 := am_ hc0; clear hr0 hc0; have HB := am_ (Below.refl w.heap.size w); unfold spec_SumOf.f at h; have H := h; clear h; have H' := am_ H; clear H
 go_enter Try.func64, Try.ntmps64
 go_wp2
 go_loopg [3, 4] k (fun kq v3 v4 w' => ∃ (x3_1 : ByteArray) (x4_1 : Int), v3 = .string x3_1 ∧ v4 = .int .i64 x4_1 ∧ Aside0 (spec_SumOf.l0 kq l0 x3_1 x4_1 = some r) ∧ Aside0 (kq ≤ k) ∧ Aside0 (Below w.heap.size w w'))
 case atStart => exact ⟨_, _, rs_, rs_, H', ⟨Nat.le_refl _⟩, ⟨hb_ HB⟩⟩
 case round =>
  clear H'; obtain ⟨x3_1, x4_1, rfl, rfl, HA, HK1, HB⟩ := hrel
  cases gk with
  | zero => exact zz_ HA
  | succ k1 =>
   have H := HA.1; clear HA; simp only [spec_SumOf.l0] at H; by_cases c2 : x4_1 < (l0.length : Int)
   ·rw [if_pos c2] at H; have c2b0 := dq_ c2; clear c2; replace H := ih_ H; obtain ⟨c3, H⟩ := H; have c3b0 := dq_ c3; clear c3; replace H := bnd_ H; obtain ⟨t177, A4, H⟩ := H; replace H := ih_ H; obtain ⟨c5, H⟩ := H; have ⟨c5b0, c5b1, c5b2⟩ := dl_ c5
    have H' := am_ H; clear H; have p176 : 0 ≤ (x4_1 : Int) := od_; have q176 : x4_1 < (l0.length : Int) := od_; obtain ⟨ad176, e176, hx176_0, hx176_1, hx176_2, hx176_3, hx176_4, hx176_5⟩ := at_T41 HR0.1 x4_1 p176 q176
    cases e176
    (try replace hx176_0 := cb_ HB hx176_0)
    (try replace hx176_1 := cb_ HB hx176_1)
    (try replace hx176_2 := cb_ HB hx176_2)
    (try replace hx176_3 := cb_ HB hx176_3)
    (try replace hx176_4 := cb_ HB hx176_4)
    (try replace hx176_5 := cb_ HB hx176_5)
    replace p176 := eq_true p176; replace q176 := eq_true q176
    go_wp2_with (refine gc_ 16 Try.func54 ?_; refine ch1_ (spec_ShowRec.calls A4.1) ?_; intro w6 hb; replace HB := bx_ HB hb; clear hb)
    go_roundg k1
    case measure => exact m1_ HK1
    case rel => exact ⟨_, _, rs_, rs_, H', ⟨m1_ HK1⟩, ⟨hb_ HB⟩⟩
   ·rw [if_neg c2] at H; have c2b0 := df_ c2; clear c2; replace H := bnd_ H; obtain ⟨t178, A7, H⟩ := H; obtain rfl := in_ H
    go_wp2_with (refine gc_ 19 Try.func28 ?_; refine ch1_ (spec_Crc.calls A7.1) ?_; rintro w' ⟨nd, rfl⟩)
    go_ret
    exact ⟨re_, hb_ HB⟩
def spec_l9Seal.f (k : Nat) (l0 : List (S41)) (a1 : Int) (a2 : Int) : Option (Int × Int × ByteArray × ByteArray × Int × Int) := (spec_SumOf.f k l0).bind fun t180 => (some (a2, a1, (⟨#[]⟩ : ByteArray), (⟨#[]⟩ : ByteArray), (l0.length : Int), t180))
theorem spec_l9Seal.calls {k : Nat} {l0 : List (S41)} {a1 a2 r1 r2 : Int} {r3 r4 : ByteArray} {r5 r6 : Int} {w : World} (A0 : Option Addr) (c0 : Nat) (h : spec_l9Seal.f k l0 a1 a2 = some (r1, r2, r3, r4, r5, r6)) (hr0 : Kd.C k41 w A0 l0.length l0 := by exact sr_) (hc0 : l0.length ≤ c0 := by exact sc_) :
  Calls Try.prog 55 #[.slice A0 l0.length c0, .int .i64 a1, .int .i64 a2] w fun e w' => e = .returned (.agg #[.int .i64 r1, .int .i64 r2, .string r3, .string r4, .int .i64 r5, .int .i64 r6]) ∧ Below w.heap.size w w' := by
 have hu41 := Try.underlying41; have HR0 := am_ hr0; have HC0 := am_ hc0; clear hr0 hc0; have HB := am_ (Below.refl w.heap.size w); unfold spec_l9Seal.f at h; have H := h; clear h; replace H := bnd_ H; obtain ⟨t180, A4, H⟩ := H; obtain ⟨rfl, rfl, rfl, rfl, rfl, rfl⟩ := i6_ H
 go_enter Try.func55, Try.ntmps55
 go_wp2_with (first | (refine gd_ 6 ?_; refine bx1_ 6 #[.int .i64 0, .int .i64 0, .string (⟨#[]⟩ : ByteArray), .string (⟨#[]⟩ : ByteArray), .int .i64 0, .int .i64 0] 41 ?_; intro gb179 hg w5 hbox hb; have BK179 := am_ hbox; have GE179 := gx_ hg HB; replace HB := bx_ HB hb; clear hb hbox hg) | (refine gc_ 12 Try.func64 ?_; refine ch1_ (spec_SumOf.calls A0 c0 A4.1) ?_; intro w6 hb; replace BK179 := bb_ BK179 hb; replace HB := bx_ HB hb; clear hb; obtain ⟨_, _, _, _, _, _, _, _, _, _, _, _⟩ := bc6_ BK179))
 refine bodyPost_ret (results_cell_row rfl _ _ gb179 41 #[.int .i64 a2, .int .i64 a1, .string (⟨#[]⟩ : ByteArray), .string (⟨#[]⟩ : ByteArray), .int .i64 (l0.length : Int), .int .i64 t180] (0, 0) _ rfl (uk_ BK179) Try.underlying41 rfl (by kernel_rfl)) rfl ?_; exact ⟨re_, hs_ HB GE179⟩
def spec_l1Spoil.f (k : Nat) (s0_0 : List Int) (s0_1 : Int) (s0_2 : Int) (a1 : ByteArray) : Option (ByteArray × Int × Int) := if (a1.size : Int) = 0 then ((spec_l1Text.f k s0_0 s0_1 s0_2 3).bind fun bt181 => (some (bt181.1, bt181.2.1, bt181.2.2))) else ((spec_l1Below.f s0_0 s0_1 s0_2 (a1.size : Int)).bind fun bt184 => ((spec_l1Below.f s0_0 bt184.2.1 bt184.2.2 4).bind fun bt187 => (if bt187.1 = 0 then (if 0 ≤ bt184.1 then (if bt184.1 ≤ (a1.size : Int) then (if 0 ≤ (wrap64 (bt184.1 + 1)) then (if (wrap64 (bt184.1 + 1)) ≤ (a1.size : Int) then (if (a1.extract 0 (bt184.1 : Int).toNat).size + (a1.extract ((wrap64 (bt184.1 + 1)) : Int).toNat a1.size).size ≤ 9223372036854775807 then (some ((a1.extract 0 (bt184.1 : Int).toNat) ++ (a1.extract ((wrap64 (bt184.1 + 1)) : Int).toNat a1.size), bt187.2.1, bt187.2.2)) else (none)) else (none)) else (none)) else (none)) else (none)) else (if bt187.1 = 1 then (if 0 ≤ bt184.1 then (if bt184.1 ≤ (a1.size : Int) then ((spec_l1Byte.f s0_0 bt187.2.1 bt187.2.2).bind fun bt190 => ((some (([(bt190.1) % 256] : List Int) : List Int)).bind fun y193 => (if (a1.extract 0 (bt184.1 : Int).toNat).size + (strOfNums y193).size ≤ 9223372036854775807 then (if ((a1.extract 0 (bt184.1 : Int).toNat) ++ (strOfNums y193)).size + (a1.extract (bt184.1 : Int).toNat a1.size).size ≤ 9223372036854775807 then (some (((a1.extract 0 (bt184.1 : Int).toNat) ++ (strOfNums y193)) ++ (a1.extract (bt184.1 : Int).toNat a1.size), bt190.2.1, bt190.2.2)) else (none)) else (none)))) else (none)) else (none)) else (if bt187.1 = 2 then (if 0 ≤ bt184.1 then (if bt184.1 ≤ (a1.size : Int) then (some (a1.extract 0 (bt184.1 : Int).toNat, bt187.2.1, bt187.2.2)) else (none)) else (none)) else (if 0 ≤ bt184.1 then (if bt184.1 ≤ (a1.size : Int) then (if bt184.1 < (a1.size : Int) then ((spec_l1Below.f s0_0 bt187.2.1 bt187.2.2 255).bind fun bt196 => ((some (([(Go.bits .xor .i64 (wrap64 (bt a1 bt184.1)) (wrap64 (1 + bt196.1))) % 256] : List Int) : List Int)).bind fun y199 => (if (a1.extract 0 (bt184.1 : Int).toNat).size + (strOfNums y199).size ≤ 9223372036854775807 then (if 0 ≤ (wrap64 (bt184.1 + 1)) then (if (wrap64 (bt184.1 + 1)) ≤ (a1.size : Int) then (if ((a1.extract 0 (bt184.1 : Int).toNat) ++ (strOfNums y199)).size + (a1.extract ((wrap64 (bt184.1 + 1)) : Int).toNat a1.size).size ≤ 9223372036854775807 then (some (((a1.extract 0 (bt184.1 : Int).toNat) ++ (strOfNums y199)) ++ (a1.extract ((wrap64 (bt184.1 + 1)) : Int).toNat a1.size), bt196.2.1, bt196.2.2)) else (none)) else (none)) else (none)) else (none)))) else (none)) else (none)) else (none)))))))
def spec_l1Spoil.T6 : Bool × List (List Nat × List Nat) := (true, [([], []), ([], []), ([0, 1], [0, 1]), ([], []), ([], []), ([4], [4]), ([3, 5], [3, 5]), ([2, 6], [2, 6]), ([7, 0, 1, 2, 3, 4, 5, 6, 7], [7])])
def spec_l1Spoil.B6 : List Nat := [0, 0, 3, 0, 0, 16, 56, 127, 255]
theorem spec_l1Spoil.tab6 : rtab .any (opsOf Try.f56 6) = spec_l1Spoil.T6 := by kernel_rfl
theorem spec_l1Spoil.bits6 : waitsOk spec_l1Spoil.T6.2 spec_l1Spoil.B6 = true := by kernel_rfl
def spec_l1Spoil.T8 : Bool × List (List Nat × List Nat) := (true, [([], []), ([], []), ([0, 1], [0, 1]), ([], []), ([3], [3]), ([4], [4]), ([5], [5]), ([6], [6]), ([2, 7], [2, 7]), ([], []), ([], []), ([9, 10], [9, 10]), ([8, 11], [8, 11]), ([12, 4, 0, 1, 2, 3, 4, 5, 6, 7, 8, 9, 10, 11, 12], [12])])
def spec_l1Spoil.B8 : List Nat := [0, 0, 3, 0, 8, 24, 56, 120, 255, 0, 0, 1536, 4095, 8191]
theorem spec_l1Spoil.tab8 : rtab .any (opsOf Try.f56 8) = spec_l1Spoil.T8 := by kernel_rfl
theorem spec_l1Spoil.bits8 : waitsOk spec_l1Spoil.T8.2 spec_l1Spoil.B8 = true := by kernel_rfl
def spec_l1Spoil.T11 : Bool × List (List Nat × List Nat) := (true, [([], []), ([], []), ([0, 1], [0, 1]), ([], []), ([], []), ([3, 4], [3, 4]), ([5], [5]), ([], []), ([7], [7]), ([8], [8]), ([6, 9], [6, 9]), ([10], [10]), ([11], [11]), ([12], [12]), ([2, 13], [2, 13]), ([], []), ([], []), ([16], [16]), ([15, 17], [15, 17]), ([14, 18], [14, 18]), ([19, 8, 0, 1, 2, 3, 4, 5, 6, 7, 8, 9, 10, 11, 12, 13, 14, 15, 16, 17, 18, 19], [19])])
def spec_l1Spoil.B11 : List Nat := [0, 0, 3, 0, 0, 24, 56, 0, 128, 384, 1016, 2040, 4088, 8184, 16383, 0, 0, 65536, 229376, 524287, 1048575]
theorem spec_l1Spoil.tab11 : rtab .any (opsOf Try.f56 11) = spec_l1Spoil.T11 := by kernel_rfl
theorem spec_l1Spoil.bits11 : waitsOk spec_l1Spoil.T11.2 spec_l1Spoil.B11 = true := by kernel_rfl
theorem spec_l1Spoil.calls {k : Nat} {s0_0 : List Int} {s0_1 s0_2 : Int} {a1 r1 : ByteArray} {r2 r3 : Int} {w : World} (g : Nat) (w0 : World) (h : spec_l1Spoil.f k s0_0 s0_1 s0_2 a1 = some (r1, r2, r3)) (hI : IsS80 w0 w g s0_0 s0_1 s0_2 := by exact si1_) (hB : Below w0.heap.size w0 w := by exact bw_) :
  Calls Try.prog 56 #[.pointer (some ⟨g, 0, none⟩), .string a1] w fun e w' => e = .returned (.string r1) ∧ IsS80 w0 w' g s0_0 r2 r3 ∧ Below w0.heap.size w0 w' ∧ KeepBut w w' g none := by
 have HI0 := am_ hI; have HK := am_ (KeepBut.refl w g none); have HL := am_ hB.size; clear hI; have HW0 := am_ hB.size; have HB := am_ hB; clear hB; unfold spec_l1Spoil.f at h; have H := h; clear h; by_cases c3 : (a1.size : Int) = 0
 ·rw [if_pos c3] at H; have ⟨c3b0, c3b1⟩ := bq5_ c3; clear c3; replace H := bnd_ H; obtain ⟨⟨t181, t182, t183⟩, A4, H⟩ := H; obtain ⟨rfl, rfl, rfl⟩ := i3_ H
  go_enter Try.func56, Try.ntmps56
  go_wp2_with (refine gc_ 10 Try.func52 ?_; refine ch1_ (spec_l1Text.calls g w0 A4.1) ?_; rintro w5 ⟨hi, hb, hk⟩; replace HK := kt_ HK hk; replace HB := am_ hb; replace HI0 := am_ hi; clear hb hk hi)
  go_ret
  exact ⟨re_, hi1_ HI0, hj1_ HB, hk_ HK⟩
 ·rw [if_neg c3] at H; have ⟨c3b0, c3b1⟩ := bq6_ c3; replace H := bnd_ H; obtain ⟨⟨t184, t185, t186⟩, A6, H⟩ := H; replace H := bnd_ H; obtain ⟨⟨t187, t188, t189⟩, A7, H⟩ := H; by_cases c8 : t187 = 0
  ·rw [if_pos c8] at H; have ⟨c8b0, c8b1⟩ := bq5_ c8; clear c8; replace H := ig_ H; obtain ⟨c9b0, c9b1, H⟩ := H; replace H := ig_ H; obtain ⟨c10b0, c10b1, H⟩ := H; obtain ⟨ji11, hji11⟩ : ∃ j_ : Int, (wrap64 (t184 + 1)) = j_ := ⟨_, rfl⟩
   (first | rw [hji11] at H | simp only [hji11] at H)
   (try rw [hji11] at A6)
   (try rw [hji11] at A7)
   have hji11w : (IntKind.i64.wrap (t184 + 1)) = ji11 := (i64_w _).trans hji11; replace H := ig_ H; obtain ⟨c12b0, c12b1, H⟩ := H; replace H := ig_ H; obtain ⟨c13b0, c13b1, H⟩ := H; replace H := ih_ H; obtain ⟨c14, H⟩ := H; have ⟨c14b0, c14b1⟩ := dt_ c14; have c14x := of_decide_eq_true c14b1
   (try simp only [ByteArray.size_extract, Nat.min_self] at c14x)
   (try have c14y := c14x)
   (try have c14xb0 := eq_true c14x)
   (try have c14xb1 := dq_ c14x)
   (try clear c14x)
   (try (simp only [ByteArray.size_append, ByteArray.size_extract, Nat.min_eq_left, Nat.sub_zero, Int.toNat_le, *] at c14y; have c14yb0 := eq_true c14y; have c14yb1 := dq_ c14y; have c14yb2 := eq_false (Nat.not_lt.2 c14y)))
   (try clear c14y)
   try have c14b2 : (9223372036854775807 < (a1.extract 0 (t184 : Int).toNat).size + (a1.extract ((ji11) : Int).toNat a1.size).size) = False := eq_false (Nat.not_lt.2 c14)
   (try (have c14b3 := c14b2; simp only [ByteArray.size_append] at c14b3))
   obtain ⟨rfl, rfl, rfl⟩ := i3_ H
   go_enter Try.func56, Try.ntmps56
   try go_wp2_with (first | (refine gc_ 14 Try.func45 ?_; refine ch1_ (spec_l1Below.calls g w0 A6.1) ?_; rintro w15 ⟨hi, hb, hk⟩; replace HK := kt_ HK hk; replace HB := am_ hb; replace HI0 := am_ hi; clear hb hk hi) | (refine gc_ 16 Try.func45 ?_; refine ch1_ (spec_l1Below.calls g w0 A7.1) ?_; rintro w16 ⟨hi, hb, hk⟩; replace HK := kt_ HK hk; replace HB := am_ hb; replace HI0 := am_ hi; clear hb hk hi))
   replace HI0 := am_ (IsS80.drew HI0.1); replace HK := am_ (keep_drew HK.1); replace HB := hd_ HB; refine st1_ 9 spec_l1Spoil.tab6 spec_l1Spoil.bits6 trivial (fun hHeld HT_ HW_ => ?_) (S := fun w' => True)
   generalize w16.drew = w17 at HI0 HK HB hHeld ⊢
   (iterate 9 refine pr_ ?_); refine dn_ ?_; have Nji11_ := am_ hji11; clear hji11
   (try clear hji11w)
   try go_wp2
   have hji11 := Nji11_.1; clear Nji11_
   (try have hji11w := (i64_w _).trans hji11)
   go_ret
   exact ⟨rj_ hji11, hi1_ HI0, hj1_ HB, hk_ HK⟩
  ·rw [if_neg c8] at H; have ⟨c8b0, c8b1⟩ := bq6_ c8; by_cases c18 : t187 = 1
   ·rw [if_pos c18] at H; have ⟨c18b0, c18b1⟩ := bq5_ c18; clear c18; replace H := ig_ H; obtain ⟨c19b0, c19b1, H⟩ := H; replace H := ig_ H; obtain ⟨c20b0, c20b1, H⟩ := H; replace H := bnd_ H; obtain ⟨⟨t190, t191, t192⟩, A21, H⟩ := H; obtain ⟨y193, hy193, H⟩ := ov_ H; have Ny193 := am_ hy193; clear hy193; replace H := ih_ H; obtain ⟨c22, H⟩ := H; have ⟨c22b0, c22b1⟩ := dt_ c22; have c22x := of_decide_eq_true c22b1
    (try simp only [ByteArray.size_extract, Nat.min_self] at c22x)
    (try have c22y := c22x)
    (try have c22xb0 := eq_true c22x)
    (try have c22xb1 := dq_ c22x)
    (try clear c22x)
    (try (simp only [ByteArray.size_append, ByteArray.size_extract, Nat.min_eq_left, Nat.sub_zero, Int.toNat_le, *] at c22y; have c22yb0 := eq_true c22y; have c22yb1 := dq_ c22y; have c22yb2 := eq_false (Nat.not_lt.2 c22y)))
    (try clear c22y)
    try have c22b2 : (9223372036854775807 < (a1.extract 0 (t184 : Int).toNat).size + (strOfNums y193).size) = False := eq_false (Nat.not_lt.2 c22)
    (try (have c22b3 := c22b2; simp only [ByteArray.size_append] at c22b3))
    have c23b0 := eq_true (od_ : 0 ≤ t184); have c24b0 := eq_true (od_ : t184 ≤ (a1.size : Int)); replace H := ih_ H; obtain ⟨c25, H⟩ := H; have ⟨c25b0, c25b1⟩ := dt_ c25; have c25x := of_decide_eq_true c25b1
    (try simp only [ByteArray.size_extract, Nat.min_self] at c25x)
    (try have c25y := c25x)
    (try have c25xb0 := eq_true c25x)
    (try have c25xb1 := dq_ c25x)
    (try clear c25x)
    (try (simp only [ByteArray.size_append, ByteArray.size_extract, Nat.min_eq_left, Nat.sub_zero, Int.toNat_le, *] at c25y; have c25yb0 := eq_true c25y; have c25yb1 := dq_ c25y; have c25yb2 := eq_false (Nat.not_lt.2 c25y)))
    (try clear c25y)
    try have c25b2 : (9223372036854775807 < ((a1.extract 0 (t184 : Int).toNat) ++ (strOfNums y193)).size + (a1.extract (t184 : Int).toNat a1.size).size) = False := eq_false (Nat.not_lt.2 c25)
    (try (have c25b3 := c25b2; simp only [ByteArray.size_append] at c25b3))
    obtain ⟨rfl, rfl, rfl⟩ := i3_ H
    go_enter Try.func56, Try.ntmps56
    try go_wp2_with (first | (refine gc_ 14 Try.func45 ?_; refine ch1_ (spec_l1Below.calls g w0 A6.1) ?_; rintro w26 ⟨hi, hb, hk⟩; replace HK := kt_ HK hk; replace HB := am_ hb; replace HI0 := am_ hi; clear hb hk hi) | (refine gc_ 16 Try.func45 ?_; refine ch1_ (spec_l1Below.calls g w0 A7.1) ?_; rintro w27 ⟨hi, hb, hk⟩; replace HK := kt_ HK hk; replace HB := am_ hb; replace HI0 := am_ hi; clear hb hk hi))
    replace HI0 := am_ (IsS80.drew HI0.1); replace HK := am_ (keep_drew HK.1); replace HB := hd_ HB; refine st1_ 14 spec_l1Spoil.tab8 spec_l1Spoil.bits8 trivial (fun hHeld HT_ HW_ => ?_) (S := fun w' => True)
    generalize w27.drew = w28 at HI0 HK HB hHeld ⊢
    (iterate 4 refine pr_ ?_); refine pv_' 9 38 (of_ 14 527) rfl rfl HT_ ?_; refine pv_' 10 39 (of_ 14 1551) rfl rfl HT_ ?_; refine pv_' 11 40 (of_ 14 3599) rfl rfl HT_ ?_; refine o1_ 4 (some 33) (of_ 14 3615) fun K hK => ?_; refine go2_ Try.func69 (spec_l1Byte.calls g w0 A21.1) ?_ (hargs := (by (try simp only [List.map_toArray, List.map_cons, List.map_nil]); first | done | rfl | (simp only [List.length_drop, List.length_take]; rfl) | (simp only [ByteArray.size_extract, Nat.min_self]; first | done | rfl))); rintro w29 ⟨hi, hb, hk⟩; replace HK := kt_ HK hk; replace HB := am_ hb; replace HI0 := am_ hi
    (try clear hb)
    (try clear hb2)
    (try clear hk)
    (try clear hi)
    refine hK.out _ _ trivial (fun hHeld => ?_); clear hK K; refine nm_ ?_; refine pv_' 5 34 (of_ 14 3647) rfl rfl HT_ ?_; refine o1_ 6 (some 35) (of_ 14 3711) fun K hK => ?_; refine Kd.R_lit_step (Kd.int .u8) _ 5 ?hg (N := 35) ?hd (xs := ([(t190) % 256] : List Int)) (inner := [.int .u8 ((t190) % 256)]) (ok := fun _ => True) (okp := fun _ => True) ?hr ?hp (fun _ hk => hk) trivial (Below.refl _ _) (Nat.le_refl _) (by simp) ?_; (case hd => rfl); (case hg => rfl); (case hr => first | (go_simp; done) | (go_simp; rfl)); (case hp => exact (Reps.one (show Kd.M (Kd.int .u8) _ _ _ ((t190) % 256) [.int .u8 ((t190) % 256)] from rfl) (Reps.none _ _))); intro v194 w30 ho31 hb hg_ hnew_; clear hg_ hnew_
    (first | rw [← Ny193.1] at ho31 | (simp only [Int.reduceToNat] at ho31; rw [← Ny193.1] at ho31))
    have HO195 := rl_ ho31 HK; replace HK := ku_ HK hb; replace HB := bx_ HB hb; replace HI0 := am_ (IsS80.below (hi1_ HI0) hb); clear hb ho31; refine hK.out _ _ trivial (fun hHeld => ?_); clear hK K; refine nm_ ?_; refine o1_ 7 (some 36) (of_ 14 3839) fun K hK => ?_; have hcv32 := own_string (P := Try.prog) Try.underlying22 Try.underlying5 Try.underlying9 (Kd.own_of_R HO195.1); refine value_ (w1 := ?_) (v := ?_) (by rfl) rfl ?_ ?_
    rotate_left 2
    ·go_simp
     constructor
     ·rfl
     ·rfl
    clear hcv32; refine hK.out _ _ trivial (fun hHeld => ?_); clear hK K; refine nm_ ?_; refine pq_ 8 37 12 2 ?_; (iterate 2 refine pr_ ?_); refine dn_ ?_
    try go_wp2
    go_ret
    exact ⟨re_, hi1_ HI0, hj1_ HB, hk_ HK⟩
   ·rw [if_neg c18] at H; have ⟨c18b0, c18b1⟩ := bq6_ c18; by_cases c33 : t187 = 2
    ·rw [if_pos c33] at H; have ⟨c33b0, c33b1⟩ := bq5_ c33; clear c33; replace H := ig_ H; obtain ⟨c34b0, c34b1, H⟩ := H; replace H := ig_ H; obtain ⟨c35b0, c35b1, H⟩ := H; obtain ⟨rfl, rfl, rfl⟩ := i3_ H
     go_enter Try.func56, Try.ntmps56
     go_wp2_with (first | (refine gc_ 14 Try.func45 ?_; refine ch1_ (spec_l1Below.calls g w0 A6.1) ?_; rintro w36 ⟨hi, hb, hk⟩; replace HK := kt_ HK hk; replace HB := am_ hb; replace HI0 := am_ hi; clear hb hk hi) | (refine gc_ 16 Try.func45 ?_; refine ch1_ (spec_l1Below.calls g w0 A7.1) ?_; rintro w37 ⟨hi, hb, hk⟩; replace HK := kt_ HK hk; replace HB := am_ hb; replace HI0 := am_ hi; clear hb hk hi))
     go_ret
     exact ⟨re_, hi1_ HI0, hj1_ HB, hk_ HK⟩
    ·rw [if_neg c33] at H; have ⟨c33b0, c33b1⟩ := bq6_ c33; replace H := ig_ H; obtain ⟨c38b0, c38b1, H⟩ := H; replace H := ig_ H; obtain ⟨c39b0, c39b1, H⟩ := H; replace H := ih_ H; obtain ⟨c40, H⟩ := H; have c40b0 := dq_ c40; clear c40; replace H := bnd_ H; obtain ⟨⟨t196, t197, t198⟩, A42, H⟩ := H; obtain ⟨y199, hy199, H⟩ := ov_ H; have Ny199 := am_ hy199; clear hy199; replace H := ih_ H; obtain ⟨c43, H⟩ := H; have ⟨c43b0, c43b1⟩ := dt_ c43; have c43x := of_decide_eq_true c43b1
     (try simp only [ByteArray.size_extract, Nat.min_self] at c43x)
     (try have c43y := c43x)
     (try have c43xb0 := eq_true c43x)
     (try have c43xb1 := dq_ c43x)
     (try clear c43x)
     (try (simp only [ByteArray.size_append, ByteArray.size_extract, Nat.min_eq_left, Nat.sub_zero, Int.toNat_le, *] at c43y; have c43yb0 := eq_true c43y; have c43yb1 := dq_ c43y; have c43yb2 := eq_false (Nat.not_lt.2 c43y)))
     (try clear c43y)
     try have c43b2 : (9223372036854775807 < (a1.extract 0 (t184 : Int).toNat).size + (strOfNums y199).size) = False := eq_false (Nat.not_lt.2 c43)
     (try (have c43b3 := c43b2; simp only [ByteArray.size_append] at c43b3))
     obtain ⟨ji44, hji44⟩ : ∃ j_ : Int, (wrap64 (t184 + 1)) = j_ := ⟨_, rfl⟩
     (first | rw [hji44] at H | simp only [hji44] at H)
     (try rw [hji44] at A6)
     (try rw [hji44] at A7)
     (try rw [hji44] at A42)
     have hji44w : (IntKind.i64.wrap (t184 + 1)) = ji44 := (i64_w _).trans hji44; replace H := ig_ H; obtain ⟨c45b0, c45b1, H⟩ := H; replace H := ig_ H; obtain ⟨c46b0, c46b1, H⟩ := H; replace H := ih_ H; obtain ⟨c47, H⟩ := H; have ⟨c47b0, c47b1⟩ := dt_ c47; have c47x := of_decide_eq_true c47b1
     (try simp only [ByteArray.size_extract, Nat.min_self] at c47x)
     (try have c47y := c47x)
     (try have c47xb0 := eq_true c47x)
     (try have c47xb1 := dq_ c47x)
     (try clear c47x)
     (try (simp only [ByteArray.size_append, ByteArray.size_extract, Nat.min_eq_left, Nat.sub_zero, Int.toNat_le, *] at c47y; have c47yb0 := eq_true c47y; have c47yb1 := dq_ c47y; have c47yb2 := eq_false (Nat.not_lt.2 c47y)))
     (try clear c47y)
     try have c47b2 : (9223372036854775807 < ((a1.extract 0 (t184 : Int).toNat) ++ (strOfNums y199)).size + (a1.extract ((ji44) : Int).toNat a1.size).size) = False := eq_false (Nat.not_lt.2 c47)
     (try (have c47b3 := c47b2; simp only [ByteArray.size_append] at c47b3))
     obtain ⟨rfl, rfl, rfl⟩ := i3_ H
     go_enter Try.func56, Try.ntmps56
     try go_wp2_with (first | (refine gc_ 14 Try.func45 ?_; refine ch1_ (spec_l1Below.calls g w0 A6.1) ?_; rintro w48 ⟨hi, hb, hk⟩; replace HK := kt_ HK hk; replace HB := am_ hb; replace HI0 := am_ hi; clear hb hk hi) | (refine gc_ 16 Try.func45 ?_; refine ch1_ (spec_l1Below.calls g w0 A7.1) ?_; rintro w49 ⟨hi, hb, hk⟩; replace HK := kt_ HK hk; replace HB := am_ hb; replace HI0 := am_ hi; clear hb hk hi))
     replace HI0 := am_ (IsS80.drew HI0.1); replace HK := am_ (keep_drew HK.1); replace HB := hd_ HB; have p41 : 0 ≤ (t184 : Int) := od_; have q41 : t184 < (a1.size : Int) := od_; have hx41 := bt_at a1 t184; replace p41 := eq_true p41; replace q41 := eq_true q41; refine st1_ 21 spec_l1Spoil.tab11 spec_l1Spoil.bits11 trivial (fun hHeld HT_ HW_ => ?_) (S := fun w' => True)
     generalize w49.drew = w50 at HI0 HK HB hHeld ⊢
     (iterate 5 refine pr_ ?_); refine pv_' 7 54 (of_ 21 159) rfl rfl HT_ ?_; refine pv_' 15 62 (of_ 21 32927) rfl rfl HT_ ?_; refine pv_' 16 63 (of_ 21 98463) rfl rfl HT_ ?_; refine pv_' 17 64 (of_ 21 229535) rfl rfl HT_ ?_; refine pv_' 18 65 (of_ 21 491679) rfl rfl HT_ ?_; refine take_ (i := 5) (N := some 52) (v := ?_) (a' := ?_) (of_ 21 491711) rfl rfl (take_ofW HT_.1 HW_.1 (by kernel_rfl)) (fun _ _ _ h => h) (Or.inl ⟨by rfl, ?_⟩) hHeld ?_ ?_
     rotate_left
     ·intro w' _
      go_simp
      with_reducible rfl
     rotate_left
     ·simp only [Act.put, la_, lz_, ls_, i64_w, i32_w]
      rfl
     refine pv_' 6 53 (of_ 21 491775) rfl rfl HT_ ?_; refine o1_ 8 (some 55) (of_ 21 492031) fun K hK => ?_; refine go2_ Try.func45 (spec_l1Below.calls g w0 A42.1) ?_ (hargs := (by (try simp only [List.map_toArray, List.map_cons, List.map_nil]); first | done | rfl | (simp only [List.length_drop, List.length_take]; rfl) | (simp only [ByteArray.size_extract, Nat.min_self]; first | done | rfl))); rintro w51 ⟨hi, hb, hk⟩; replace HK := kt_ HK hk; replace HB := am_ hb; replace HI0 := am_ hi
     (try clear hb)
     (try clear hb2)
     (try clear hk)
     (try clear hi)
     refine hK.out _ _ trivial (fun hHeld => ?_); clear hK K; refine nm_ ?_; refine pv_' 9 56 (of_ 21 492543) rfl rfl HT_ ?_; refine pv_' 10 57 (of_ 21 493567) rfl rfl HT_ ?_; refine pv_' 11 58 (of_ 21 495615) rfl rfl HT_ ?_; refine o1_ 12 (some 59) (of_ 21 499711) fun K hK => ?_; refine Kd.R_lit_step (Kd.int .u8) _ 5 ?hg (N := 59) ?hd (xs := ([(Go.bits .xor .i64 (wrap64 (bt a1 t184)) (wrap64 (1 + t196))) % 256] : List Int)) (inner := [.int .u8 ((Go.bits .xor .i64 (wrap64 (bt a1 t184)) (wrap64 (1 + t196))) % 256)]) (ok := fun _ => True) (okp := fun _ => True) ?hr ?hp (fun _ hk => hk) trivial (Below.refl _ _) (Nat.le_refl _) (by simp) ?_; (case hd => rfl); (case hg => rfl); (case hr => first | (go_simp; done) | (go_simp; rfl)); (case hp => exact (Reps.one (show Kd.M (Kd.int .u8) _ _ _ ((Go.bits .xor .i64 (wrap64 (bt a1 t184)) (wrap64 (1 + t196))) % 256) [.int .u8 ((Go.bits .xor .i64 (wrap64 (bt a1 t184)) (wrap64 (1 + t196))) % 256)] from rfl) (Reps.none _ _))); intro v200 w52 ho53 hb hg_ hnew_; clear hg_ hnew_
     (first | rw [← Ny199.1] at ho53 | (simp only [Int.reduceToNat] at ho53; rw [← Ny199.1] at ho53))
     have HO201 := rl_ ho53 HK; replace HK := ku_ HK hb; replace HB := bx_ HB hb; replace HI0 := am_ (IsS80.below (hi1_ HI0) hb); clear hb ho53; refine hK.out _ _ trivial (fun hHeld => ?_); clear hK K; refine nm_ ?_; refine o1_ 13 (some 60) (of_ 21 507903) fun K hK => ?_; have hcv54 := own_string (P := Try.prog) Try.underlying22 Try.underlying5 Try.underlying9 (Kd.own_of_R HO201.1); refine value_ (w1 := ?_) (v := ?_) (by rfl) rfl ?_ ?_
     rotate_left 2
     ·go_simp
      constructor
      ·rfl
      ·rfl
     clear hcv54; refine hK.out _ _ trivial (fun hHeld => ?_); clear hK K; refine nm_ ?_; refine pq_ 14 61 19 2 ?_; (iterate 2 refine pr_ ?_); refine dn_ ?_; have Nji44_ := am_ hji44; clear hji44
     (try clear hji44w)
     try go_wp2
     have hji44 := Nji44_.1; clear Nji44_
     (try have hji44w := (i64_w _).trans hji44)
     go_ret
     exact ⟨rj_ hji44, hi1_ HI0, hj1_ HB, hk_ HK⟩
end Go.Proofs.Ytohfcgdodgdiiaa.PFnHints
