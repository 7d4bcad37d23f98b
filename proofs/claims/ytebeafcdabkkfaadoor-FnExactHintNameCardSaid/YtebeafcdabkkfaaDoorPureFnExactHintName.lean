/- The pure statement of the law FnExactHintName: for all arguments within the printed bounds the printed function of the law answers true. Conditions: only the bounds that the printed statement itself names. -/
import Derived.Test.YtebeafcdabkkfaaDoorPFnExactHintNamex1
namespace Go.Proofs.YtebeafcdabkkfaaDoor.Pure
open Go.RowKit Go.Proofs.YtebeafcdabkkfaaDoor.PFnExactHintName Go.Proofs.YtebeafcdabkkfaaDoorW.PrintWords Go.Proofs.YtebeafcdabkkfaaDoorW.PrintLast
set_option linter.unusedVariables false
set_option linter.unusedSimpArgs false

/-- The string of a list of bytes. -/
def mkS (l : List UInt8) : ByteArray := ⟨l.toArray⟩
theorem mkS_size (l : List UInt8) : (mkS l).size = l.length := by simp [mkS, ByteArray.size]
theorem mkS_append (a b : List UInt8) : mkS a ++ mkS b = mkS (a ++ b) := by
  apply ByteArray.ext
  simp [mkS, ByteArray.data_append]
/-- A slice of bytes as the print tells it. -/
def ints (l : List UInt8) : List Int := l.map fun b => (b.toNat : Int)
theorem strOfNums_ints (l : List UInt8) : strOfNums (ints l) = mkS l := by
  unfold strOfNums ints mkS
  congr 2
  rw [List.map_map]
  conv => rhs; rw [← List.map_id l]
  apply List.map_congr_left
  intro b _
  simp
theorem ofNat_cast (n : Nat) : ((UInt8.ofNat n).toNat : Int) = (n : Int) % 256 := by simp
theorem ints_one (n : Nat) (x : Int) (h : x % 256 = ((n % 256 : Nat) : Int)) : [x % 256] = ints [UInt8.ofNat n] := by
  simp only [ints, List.map_cons, List.map_nil]
  rw [h, ofNat_cast]
  simp
theorem w64 {x : Int} (h0 : -9223372036854775808 ≤ x) (h1 : x ≤ 9223372036854775807) : wrap64 x = x := by unfold wrap64; omega
theorem tdivp {x y : Int} (h : 0 ≤ x) : Int.tdiv x y = x / y := Int.tdiv_eq_ediv_of_nonneg h
theorem tmodp {x y : Int} (h : 0 ≤ x) : Int.tmod x y = x % y := Int.tmod_eq_emod_of_nonneg h
theorem evx {α : Type} {g : Nat → Option α} {r : α} (h : Ev g r) : ∃ K, ∀ k, K ≤ k → g k = some r := h
theorem evi {α : Type} {g : Nat → Option α} {r : α} (K : Nat) (h : ∀ k, K ≤ k → g k = some r) : Ev g r := ⟨K, h⟩

theorem impl_in_f (a b c : Int) : impl_in.f a b c = some (decide (b ≤ a ∧ a ≤ c)) := by
  unfold impl_in.f
  by_cases h : a ≥ b
  · rw [if_pos h]; congr 1; simp [h]
  · rw [if_neg h]; congr 1; simp; omega

theorem spec_l1In_f (a b c : Int) : spec_l1In.f a b c = some (decide (b ≤ a ∧ a ≤ c)) := by
  unfold spec_l1In.f
  by_cases h : a ≥ b
  · rw [if_pos h]; congr 1; simp [h]
  · rw [if_neg h]; congr 1; simp; omega

theorem itoa_nat (u : Nat) : Lib.itoa (u : Int) = Lib.decDigits u := by unfold Lib.itoa; rw [if_neg (by omega), Int.toNat_natCast]
theorem itoa_neg {u : Nat} (h : 0 < u) : Lib.itoa (-(u : Int)) = 45 :: Lib.decDigits u := by unfold Lib.itoa; rw [if_pos (by omega), show (-(u : Int)).natAbs = u from by omega]
theorem dec_small {u : Nat} (h : u < 10) : Lib.decDigits u = [UInt8.ofNat (48 + u)] := by rw [Lib.decDigits, dif_pos h]
theorem dec_big {u : Nat} (h : ¬ u < 10) : Lib.decDigits u = Lib.decDigits (u / 10) ++ [UInt8.ofNat (48 + u % 10)] := by rw [Lib.decDigits, dif_neg h]
theorem dec_len (j : Nat) : ∀ u : Nat, u < 10 ^ (j + 1) → (Lib.decDigits u).length ≤ j + 1 := by
  induction j with
  | zero => intro u h; rw [dec_small (by simpa using h)]; simp
  | succ j ih =>
    intro u h
    by_cases hu : u < 10
    · rw [dec_small hu]; simp
    · have := ih (u / 10) (by rw [Nat.div_lt_iff_lt_mul (by omega)]; rw [Nat.pow_succ] at h; exact h)
      rw [dec_big hu, List.length_append]
      simp only [List.length_singleton]
      omega
theorem itoa_len (n : Int) (h0 : -9223372036854775808 ≤ n) (h1 : n ≤ 9223372036854775807) : (Lib.itoa n).length ≤ 20 := by
  by_cases h : n < 0
  · have e := itoa_neg (u := n.natAbs) (by omega)
    rw [show (-((n.natAbs : Nat) : Int)) = n from by omega] at e
    rw [e, List.length_cons]
    have := dec_len 18 n.natAbs (by omega)
    omega
  · obtain ⟨u, rfl⟩ := Int.eq_ofNat_of_zero_le (show 0 ≤ n by omega)
    rw [itoa_nat]
    have := dec_len 18 u (by omega)
    omega

def sgn (neg : Bool) (u : Nat) : Int := if neg = true then -(u : Int) else (u : Int)
theorem sgn_tmod (neg : Bool) (u : Nat) : Int.tmod (sgn neg u) 10 = sgn neg (u % 10) := by
  unfold sgn
  cases neg with
  | true => rw [if_pos rfl, if_pos rfl, Int.neg_tmod, tmodp (by omega)]; omega
  | false => rw [if_neg (by simp), if_neg (by simp), tmodp (by omega)]; omega
theorem sgn_tdiv (neg : Bool) (u : Nat) : Int.tdiv (sgn neg u) 10 = sgn neg (u / 10) := by
  unfold sgn
  cases neg with
  | true => rw [if_pos rfl, if_pos rfl, Int.neg_tdiv, tdivp (by omega)]; omega
  | false => rw [if_neg (by simp), if_neg (by simp), tdivp (by omega)]; omega
theorem sgn_range (neg : Bool) (u : Nat) (h : u ≤ 9223372036854775807) : -9223372036854775808 ≤ sgn neg u ∧ sgn neg u ≤ 9223372036854775807 := by unfold sgn; split <;> omega
theorem spec_Dec_l0 (m : Nat) : ∀ (u : Nat) (neg : Bool) (acc : List UInt8), u ≤ m → 0 < u → u ≤ 9223372036854775808 → acc.length + u ≤ 4611686018427387904 + 9223372036854775808 → acc.length ≤ 1000 → acc.length + (Lib.decDigits u).length ≤ 1000 →
    Ev (fun k => spec_Dec.l0 k (sgn neg u) (mkS acc) neg) (mkS ((if neg = true then [45] else []) ++ (Lib.decDigits u ++ acc))) := by
  induction m using Nat.strongRecOn with
  | ind m ih =>
  intro u neg acc hm h0 hu hx ha hl
  have hs0 : ¬ sgn neg u = 0 := by unfold sgn; split <;> omega
  have hd : (UInt8.ofNat (48 + u % 10)) = UInt8.ofNat (48 + u % 10) := rfl
  have hone : ∀ x : Int, x = ((48 + u % 10 : Nat) : Int) → strOfNums [x % 256] = mkS [UInt8.ofNat (48 + u % 10)] := by
    intro x hx
    rw [ints_one (48 + u % 10) x (by omega), strOfNums_ints]
  have step : ∀ k, spec_Dec.l0 (k + 1) (sgn neg u) (mkS acc) neg = spec_Dec.l0 k (sgn neg (u / 10)) (mkS (UInt8.ofNat (48 + u % 10) :: acc)) neg := by
    intro k
    have hr := sgn_range neg (u / 10) (by omega)
    simp only [spec_Dec.l0]
    rw [if_neg hs0, sgn_tmod, sgn_tdiv, w64 (x := sgn neg (u / 10)) hr.1 hr.2]
    by_cases hneg : sgn neg (u % 10) < 0
    · have e : wrap64 (48 + wrap64 (-(sgn neg (u % 10)))) = ((48 + u % 10 : Nat) : Int) := by
        have : neg = true := by cases neg with | true => rfl | false => simp [sgn] at hneg; omega
        subst this
        simp only [sgn, if_true] at hneg ⊢
        rw [w64 (x := -(-((u % 10 : Nat) : Int))) (by omega) (by omega), w64 (by omega) (by omega)]
        omega
      rw [if_pos hneg, Option.bind_some, hone _ e, if_pos (by rw [mkS_size, mkS_size]; simp only [List.length_singleton]; omega), mkS_append]
      rfl
    · have e : wrap64 (48 + sgn neg (u % 10)) = ((48 + u % 10 : Nat) : Int) := by
        have hz : sgn neg (u % 10) = ((u % 10 : Nat) : Int) := by
          unfold sgn at hneg ⊢
          split
          · rename_i hh; rw [if_pos hh] at hneg; omega
          · rfl
        rw [hz, w64 (by omega) (by omega)]
        omega
      rw [if_neg hneg, Option.bind_some, hone _ e, if_pos (by rw [mkS_size, mkS_size]; simp only [List.length_singleton]; omega), mkS_append]
      rfl
  by_cases h10 : u < 10
  · refine evi (2) fun k hk => ?_
    obtain ⟨k, rfl⟩ : ∃ m, k = m + 2 := ⟨k - 2, by omega⟩
    show spec_Dec.l0 (k + 1 + 1) _ _ _ = _
    rw [step, show u / 10 = 0 from by omega, show u % 10 = u from by omega, dec_small h10]
    simp only [spec_Dec.l0]
    rw [if_pos (by unfold sgn; split <;> rfl)]
    cases neg with
    | true =>
      rw [if_pos rfl, if_pos (by rw [mkS_size, List.length_cons]; omega), if_pos rfl]
      rfl
    | false => rw [if_neg (by simp)]; rfl
  · have e := dec_big h10
    have hl' : (Lib.decDigits u).length = (Lib.decDigits (u / 10)).length + 1 := by rw [e, List.length_append]; rfl
    obtain ⟨K, hK⟩ := evx (ih (u / 10) (by omega) (u / 10) neg (UInt8.ofNat (48 + u % 10) :: acc) (Nat.le_refl _) (by omega) (by omega) (by rw [List.length_cons]; omega) (by rw [List.length_cons]; omega) (by rw [List.length_cons]; omega))
    refine evi (K + 1) fun k hk => ?_
    obtain ⟨k, rfl⟩ : ∃ m, k = m + 1 := ⟨k - 1, by omega⟩
    rw [step, hK k (by omega), e, List.append_assoc]
    rfl
theorem spec_Dec_ev (n : Int) (h0 : -9223372036854775808 ≤ n) (h1 : n ≤ 9223372036854775807) : Ev (fun k => spec_Dec.f k n) (mkS (Lib.itoa n)) := by
  by_cases hz : n = 0
  · subst hz
    refine evi (0) fun k hk => ?_
    unfold spec_Dec.f
    rw [if_pos rfl, show (0 : Int) = ((0 : Nat) : Int) from rfl, itoa_nat, dec_small (by omega)]
    rfl
  · have hdl := dec_len 18 n.natAbs (by omega)
    obtain ⟨K, hK⟩ := evx (spec_Dec_l0 n.natAbs n.natAbs (decide (n < 0)) [] (Nat.le_refl _) (by omega) (by omega) (by simp only [List.length_nil]; omega) (by simp) (by simp only [List.length_nil]; omega))
    refine evi (K) fun k hk => ?_
    have hgo := hK k hk
    unfold spec_Dec.f
    rw [if_neg hz]
    have es : sgn (decide (n < 0)) n.natAbs = n := by unfold sgn; by_cases h : n < 0 <;> simp [h] <;> omega
    rw [es, List.append_nil] at hgo
    rw [show (⟨#[]⟩ : ByteArray) = mkS [] from rfl, hgo]
    unfold Lib.itoa
    by_cases h : n < 0
    · rw [if_pos h, if_pos (decide_eq_true h)]; rfl
    · rw [if_neg h, if_neg (by simp [h]), List.nil_append, show n.natAbs = n.toNat from by omega]

def nmB (word : List UInt8) (n : Int) : List UInt8 := if 1 ≤ n ∧ n ≤ 100000 then word ++ Lib.itoa n else []
theorem impl_Dec_f (n : Int) (h0 : -9223372036854775808 ≤ n) (h1 : n ≤ 9223372036854775807) : impl_Dec.f n = some (mkS (Lib.itoa n)) := by unfold impl_Dec.f; rw [if_pos ⟨h0, h1⟩]; rfl
theorem impl_named_f (word : List UInt8) (hw : word.length ≤ 100) (n : Int) : impl_named.f (mkS word) n = some (mkS (nmB word n)) := by
  unfold impl_named.f nmB
  rw [impl_in_f]
  simp only [Option.bind_some]
  by_cases h : 1 ≤ n ∧ n ≤ 100000
  · have hl := itoa_len n (by omega) (by omega)
    rw [if_pos (decide_eq_true h), if_pos h, impl_Dec_f n (by omega) (by omega)]
    simp only [Option.bind_some]
    rw [if_pos (by rw [mkS_size, mkS_size]; omega), mkS_append]
  · rw [if_neg (by rw [decide_eq_false h]; simp), if_neg h]
    rfl
theorem spec_HintName_ev (n : Int) : Ev (fun k => spec_HintName.f k n) (mkS (nmB [104, 105, 110, 116] n)) := by
  unfold nmB
  by_cases h : 1 ≤ n ∧ n ≤ 100000
  · obtain ⟨K, hK⟩ := evx (spec_Dec_ev n (by omega) (by omega))
    have hl := itoa_len n (by omega) (by omega)
    refine evi (K) fun k hk => ?_
    unfold spec_HintName.f
    rw [spec_l1In_f]
    simp only [Option.bind_some]
    rw [if_pos (decide_eq_true h), hK k hk, if_pos h]
    simp only [Option.bind_some]
    rw [if_pos (by rw [mkS_size]; omega), ← mkS_append]
    rfl
  · refine evi (0) fun k hk => ?_
    unfold spec_HintName.f
    rw [spec_l1In_f]
    simp only [Option.bind_some]
    rw [if_neg (by rw [decide_eq_false h]; simp), if_neg h]
    rfl



/-! ### the law -/
theorem FnExactHintName : laws_FnExactHintName.Pure := by
  intro n h
  obtain ⟨K, hK⟩ := evx (spec_HintName_ev n)
  refine ⟨K, ?_⟩
  unfold laws_FnExactHintName.f impl_HintName.f
  rw [hK K (Nat.le_refl _), show (⟨#[104, 105, 110, 116]⟩ : ByteArray) = mkS [104, 105, 110, 116] from rfl, impl_named_f _ (by simp)]
  simp only [Option.bind_some]
  rw [if_pos trivial]

end Go.Proofs.YtebeafcdabkkfaaDoor.Pure
