/- The pure statement of the law FnExactIdOf: for all arguments within the printed bounds the printed function of the law answers true. Conditions: only the bounds that the printed statement itself names. -/
import Derived.Test.YtebeafcdabkkfabDoorPFnExactIdOfx2
namespace Go.Proofs.YtebeafcdabkkfabDoor.Pure
open Go.RowKit Go.Proofs.YtebeafcdabkkfabDoor.PFnExactIdOf Go.Proofs.YtebeafcdabkkfabDoorW.PrintWords Go.Proofs.YtebeafcdabkkfabDoorW.PrintLast
set_option linter.unusedVariables false
set_option linter.unusedSimpArgs false

/-- The string of a list of bytes. -/
def mkS (l : List UInt8) : ByteArray := ⟨l.toArray⟩
theorem exS (s : ByteArray) : ∃ l, s = mkS l := ⟨s.data.toList, by cases s; simp [mkS]⟩
theorem mkS_size (l : List UInt8) : (mkS l).size = l.length := by simp [mkS, ByteArray.size]
theorem toList_data (s : ByteArray) : s.toList = s.data.toList := by
  have key : ∀ (n i : Nat) (r : List UInt8), s.size - i = n → ByteArray.toList.loop s i r = r.reverse ++ s.data.toList.drop i := by
    intro n
    induction n with
    | zero =>
      intro i r h
      unfold ByteArray.toList.loop
      rw [if_neg (by omega), List.drop_of_length_le (by simp only [Array.length_toList]; have : s.size = s.data.size := rfl; omega), List.append_nil]
    | succ n ih =>
      intro i r h
      unfold ByteArray.toList.loop
      have hi : i < s.data.toList.length := by simp only [Array.length_toList]; have : s.size = s.data.size := rfl; omega
      rw [if_pos (by omega), ih (i + 1) _ (by omega), List.reverse_cons, List.append_assoc, List.drop_eq_getElem_cons hi]
      have : s.get! i = s.data.toList[i] := by
        show s.data[i]! = _
        rw [Array.getElem_toList]
        exact getElem!_pos s.data i (by simpa using hi)
      rw [this]
      rfl
  have := key _ 0 [] rfl
  simpa [ByteArray.toList] using this
theorem mkS_toList (l : List UInt8) : (mkS l).toList = l := by rw [toList_data]; simp [mkS]
theorem mkS_append (a b : List UInt8) : mkS a ++ mkS b = mkS (a ++ b) := by
  apply ByteArray.ext
  simp [mkS, ByteArray.data_append]
theorem mkS_extract (l : List UInt8) (i j : Nat) : (mkS l).extract i j = mkS ((l.drop i).take (j - i)) := by
  apply ByteArray.ext
  rw [ByteArray.data_extract]
  simp only [mkS]
  apply Array.ext'
  rw [Array.toList_extract]
  try simp [List.extract_eq_drop_take]
theorem bt_mkS (l : List UInt8) (i : Nat) (h : i < l.length) : bt (mkS l) (i : Int) = ((l[i]).toNat : Int) := by
  unfold bt
  have h' : ((i : Int)).toNat < (mkS l).size := by rw [mkS_size]; simpa using h
  rw [dif_pos h']
  simp only [Int.toNat_natCast]
  rfl
/-- A slice of bytes as the print tells it. -/
def ints (l : List UInt8) : List Int := l.map fun b => (b.toNat : Int)
theorem strOfNums_ints (l : List UInt8) : strOfNums (ints l) = mkS l := by
  unfold strOfNums ints mkS
  congr 2
  rw [List.map_map]
  conv => rhs; rw [← List.map_id l]
  apply List.map_congr_left
  intro b _
  simp
theorem ofNat_cast (n : Nat) : ((UInt8.ofNat n).toNat : Int) = (n : Int) % 256 := by simp
theorem ints_one (n : Nat) (x : Int) (h : x % 256 = ((n % 256 : Nat) : Int)) : [x % 256] = ints [UInt8.ofNat n] := by
  simp only [ints, List.map_cons, List.map_nil]
  rw [h, ofNat_cast]
  simp
theorem w64 {x : Int} (h0 : -9223372036854775808 ≤ x) (h1 : x ≤ 9223372036854775807) : wrap64 x = x := by unfold wrap64; omega
theorem tdivp {x y : Int} (h : 0 ≤ x) : Int.tdiv x y = x / y := Int.tdiv_eq_ediv_of_nonneg h
theorem tmodp {x y : Int} (h : 0 ≤ x) : Int.tmod x y = x % y := Int.tmod_eq_emod_of_nonneg h
theorem evx {α : Type} {g : Nat → Option α} {r : α} (h : Ev g r) : ∃ K, ∀ k, K ≤ k → g k = some r := h
theorem evi {α : Type} {g : Nat → Option α} {r : α} (K : Nat) (h : ∀ k, K ≤ k → g k = some r) : Ev g r := ⟨K, h⟩

theorem impl_in_f (a b c : Int) : impl_in.f a b c = some (decide (b ≤ a ∧ a ≤ c)) := by
  unfold impl_in.f
  by_cases h : a ≥ b
  · rw [if_pos h]; congr 1; simp [h]
  · rw [if_neg h]; congr 1; simp; omega

theorem spec_l1In_f (a b c : Int) : spec_l1In.f a b c = some (decide (b ≤ a ∧ a ≤ c)) := by
  unfold spec_l1In.f
  by_cases h : a ≥ b
  · rw [if_pos h]; congr 1; simp [h]
  · rw [if_neg h]; congr 1; simp; omega

theorem itoa_nat (u : Nat) : Lib.itoa (u : Int) = Lib.decDigits u := by unfold Lib.itoa; rw [if_neg (by omega), Int.toNat_natCast]
theorem itoa_neg {u : Nat} (h : 0 < u) : Lib.itoa (-(u : Int)) = 45 :: Lib.decDigits u := by unfold Lib.itoa; rw [if_pos (by omega), show (-(u : Int)).natAbs = u from by omega]
theorem dec_small {u : Nat} (h : u < 10) : Lib.decDigits u = [UInt8.ofNat (48 + u)] := by rw [Lib.decDigits, dif_pos h]
theorem dec_big {u : Nat} (h : ¬ u < 10) : Lib.decDigits u = Lib.decDigits (u / 10) ++ [UInt8.ofNat (48 + u % 10)] := by rw [Lib.decDigits, dif_neg h]
theorem dec_ne (u : Nat) : Lib.decDigits u ≠ [] := by
  by_cases h : u < 10
  · rw [dec_small h]; simp
  · rw [dec_big h]; simp
theorem dig_toNat {d : Nat} (h : d < 10) : (UInt8.ofNat (48 + d)).toNat = 48 + d := by simp; omega
theorem dec_digits (u : Nat) : ∀ c ∈ Lib.decDigits u, 48 ≤ c.toNat ∧ c.toNat ≤ 57 := by
  induction u using Nat.strongRecOn with
  | _ u ih =>
    by_cases h : u < 10
    · rw [dec_small h]; intro c hc; rw [List.mem_singleton] at hc; rw [hc, dig_toNat h]; omega
    · rw [dec_big h]
      intro c hc
      rcases List.mem_append.1 hc with hc | hc
      · exact ih (u / 10) (by omega) c hc
      · rw [List.mem_singleton] at hc; rw [hc, dig_toNat (by omega)]; omega
theorem dec_len (j : Nat) : ∀ u : Nat, u < 10 ^ (j + 1) → (Lib.decDigits u).length ≤ j + 1 := by
  induction j with
  | zero => intro u h; rw [dec_small (by simpa using h)]; simp
  | succ j ih =>
    intro u h
    by_cases hu : u < 10
    · rw [dec_small hu]; simp
    · have := ih (u / 10) (by rw [Nat.div_lt_iff_lt_mul (by omega)]; rw [Nat.pow_succ] at h; exact h)
      rw [dec_big hu, List.length_append]
      simp only [List.length_singleton]
      omega
theorem itoa_len (n : Int) (h0 : -9223372036854775808 ≤ n) (h1 : n ≤ 9223372036854775807) : (Lib.itoa n).length ≤ 20 := by
  by_cases h : n < 0
  · have e := itoa_neg (u := n.natAbs) (by omega)
    rw [show (-((n.natAbs : Nat) : Int)) = n from by omega] at e
    rw [e, List.length_cons]
    have := dec_len 18 n.natAbs (by omega)
    omega
  · obtain ⟨u, rfl⟩ := Int.eq_ofNat_of_zero_le (show 0 ≤ n by omega)
    rw [itoa_nat]
    have := dec_len 18 u (by omega)
    omega

def sgn (neg : Bool) (u : Nat) : Int := if neg = true then -(u : Int) else (u : Int)
theorem sgn_tmod (neg : Bool) (u : Nat) : Int.tmod (sgn neg u) 10 = sgn neg (u % 10) := by
  unfold sgn
  cases neg with
  | true => rw [if_pos rfl, if_pos rfl, Int.neg_tmod, tmodp (by omega)]; omega
  | false => rw [if_neg (by simp), if_neg (by simp), tmodp (by omega)]; omega
theorem sgn_tdiv (neg : Bool) (u : Nat) : Int.tdiv (sgn neg u) 10 = sgn neg (u / 10) := by
  unfold sgn
  cases neg with
  | true => rw [if_pos rfl, if_pos rfl, Int.neg_tdiv, tdivp (by omega)]; omega
  | false => rw [if_neg (by simp), if_neg (by simp), tdivp (by omega)]; omega
theorem sgn_range (neg : Bool) (u : Nat) (h : u ≤ 9223372036854775807) : -9223372036854775808 ≤ sgn neg u ∧ sgn neg u ≤ 9223372036854775807 := by unfold sgn; split <;> omega
theorem spec_Dec_l0 (m : Nat) : ∀ (u : Nat) (neg : Bool) (acc : List UInt8), u ≤ m → 0 < u → u ≤ 9223372036854775808 → acc.length + u ≤ 4611686018427387904 + 9223372036854775808 → acc.length ≤ 1000 → acc.length + (Lib.decDigits u).length ≤ 1000 →
    Ev (fun k => spec_Dec.l0 k (sgn neg u) (mkS acc) neg) (mkS ((if neg = true then [45] else []) ++ (Lib.decDigits u ++ acc))) := by
  induction m using Nat.strongRecOn with
  | ind m ih =>
  intro u neg acc hm h0 hu hx ha hl
  have hs0 : ¬ sgn neg u = 0 := by unfold sgn; split <;> omega
  have hd : (UInt8.ofNat (48 + u % 10)) = UInt8.ofNat (48 + u % 10) := rfl
  have hone : ∀ x : Int, x = ((48 + u % 10 : Nat) : Int) → strOfNums [x % 256] = mkS [UInt8.ofNat (48 + u % 10)] := by
    intro x hx
    rw [ints_one (48 + u % 10) x (by omega), strOfNums_ints]
  have step : ∀ k, spec_Dec.l0 (k + 1) (sgn neg u) (mkS acc) neg = spec_Dec.l0 k (sgn neg (u / 10)) (mkS (UInt8.ofNat (48 + u % 10) :: acc)) neg := by
    intro k
    have hr := sgn_range neg (u / 10) (by omega)
    simp only [spec_Dec.l0]
    rw [if_neg hs0, sgn_tmod, sgn_tdiv, w64 (x := sgn neg (u / 10)) hr.1 hr.2]
    by_cases hneg : sgn neg (u % 10) < 0
    · have e : wrap64 (48 + wrap64 (-(sgn neg (u % 10)))) = ((48 + u % 10 : Nat) : Int) := by
        have : neg = true := by cases neg with | true => rfl | false => simp [sgn] at hneg; omega
        subst this
        simp only [sgn, if_true] at hneg ⊢
        rw [w64 (x := -(-((u % 10 : Nat) : Int))) (by omega) (by omega), w64 (by omega) (by omega)]
        omega
      rw [if_pos hneg, Option.bind_some, hone _ e, if_pos (by rw [mkS_size, mkS_size]; simp only [List.length_singleton]; omega), mkS_append]
      rfl
    · have e : wrap64 (48 + sgn neg (u % 10)) = ((48 + u % 10 : Nat) : Int) := by
        have hz : sgn neg (u % 10) = ((u % 10 : Nat) : Int) := by
          unfold sgn at hneg ⊢
          split
          · rename_i hh; rw [if_pos hh] at hneg; omega
          · rfl
        rw [hz, w64 (by omega) (by omega)]
        omega
      rw [if_neg hneg, Option.bind_some, hone _ e, if_pos (by rw [mkS_size, mkS_size]; simp only [List.length_singleton]; omega), mkS_append]
      rfl
  by_cases h10 : u < 10
  · refine evi (2) fun k hk => ?_
    obtain ⟨k, rfl⟩ : ∃ m, k = m + 2 := ⟨k - 2, by omega⟩
    show spec_Dec.l0 (k + 1 + 1) _ _ _ = _
    rw [step, show u / 10 = 0 from by omega, show u % 10 = u from by omega, dec_small h10]
    simp only [spec_Dec.l0]
    rw [if_pos (by unfold sgn; split <;> rfl)]
    cases neg with
    | true =>
      rw [if_pos rfl, if_pos (by rw [mkS_size, List.length_cons]; omega), if_pos rfl]
      rfl
    | false => rw [if_neg (by simp)]; rfl
  · have e := dec_big h10
    have hl' : (Lib.decDigits u).length = (Lib.decDigits (u / 10)).length + 1 := by rw [e, List.length_append]; rfl
    obtain ⟨K, hK⟩ := evx (ih (u / 10) (by omega) (u / 10) neg (UInt8.ofNat (48 + u % 10) :: acc) (Nat.le_refl _) (by omega) (by omega) (by rw [List.length_cons]; omega) (by rw [List.length_cons]; omega) (by rw [List.length_cons]; omega))
    refine evi (K + 1) fun k hk => ?_
    obtain ⟨k, rfl⟩ : ∃ m, k = m + 1 := ⟨k - 1, by omega⟩
    rw [step, hK k (by omega), e, List.append_assoc]
    rfl
theorem spec_Dec_ev (n : Int) (h0 : -9223372036854775808 ≤ n) (h1 : n ≤ 9223372036854775807) : Ev (fun k => spec_Dec.f k n) (mkS (Lib.itoa n)) := by
  by_cases hz : n = 0
  · subst hz
    refine evi (0) fun k hk => ?_
    unfold spec_Dec.f
    rw [if_pos rfl, show (0 : Int) = ((0 : Nat) : Int) from rfl, itoa_nat, dec_small (by omega)]
    rfl
  · have hdl := dec_len 18 n.natAbs (by omega)
    obtain ⟨K, hK⟩ := evx (spec_Dec_l0 n.natAbs n.natAbs (decide (n < 0)) [] (Nat.le_refl _) (by omega) (by omega) (by simp only [List.length_nil]; omega) (by simp) (by simp only [List.length_nil]; omega))
    refine evi (K) fun k hk => ?_
    have hgo := hK k hk
    unfold spec_Dec.f
    rw [if_neg hz]
    have es : sgn (decide (n < 0)) n.natAbs = n := by unfold sgn; by_cases h : n < 0 <;> simp [h] <;> omega
    rw [es, List.append_nil] at hgo
    rw [show (⟨#[]⟩ : ByteArray) = mkS [] from rfl, hgo]
    unfold Lib.itoa
    by_cases h : n < 0
    · rw [if_pos h, if_pos (decide_eq_true h)]; rfl
    · rw [if_neg h, if_neg (by simp [h]), List.nil_append, show n.natAbs = n.toNat from by omega]

def nmB (word : List UInt8) (n : Int) : List UInt8 := if 1 ≤ n ∧ n ≤ 100000 then word ++ Lib.itoa n else []
theorem spec_SegName_ev (n : Int) : Ev (fun k => spec_SegName.f k n) (mkS (nmB [115, 101, 103] n)) := by
  unfold nmB
  by_cases h : 1 ≤ n ∧ n ≤ 100000
  · obtain ⟨K, hK⟩ := evx (spec_Dec_ev n (by omega) (by omega))
    have hl := itoa_len n (by omega) (by omega)
    refine evi (K) fun k hk => ?_
    unfold spec_SegName.f
    rw [spec_l1In_f]
    simp only [Option.bind_some]
    rw [if_pos (decide_eq_true h), hK k hk, if_pos h]
    simp only [Option.bind_some]
    rw [if_pos (by rw [mkS_size]; omega), ← mkS_append]
    rfl
  · refine evi (0) fun k hk => ?_
    unfold spec_SegName.f
    rw [spec_l1In_f]
    simp only [Option.bind_some]
    rw [if_neg (by rw [decide_eq_false h]; simp), if_neg h]
    rfl
theorem spec_HintName_ev (n : Int) : Ev (fun k => spec_HintName.f k n) (mkS (nmB [104, 105, 110, 116] n)) := by
  unfold nmB
  by_cases h : 1 ≤ n ∧ n ≤ 100000
  · obtain ⟨K, hK⟩ := evx (spec_Dec_ev n (by omega) (by omega))
    have hl := itoa_len n (by omega) (by omega)
    refine evi (K) fun k hk => ?_
    unfold spec_HintName.f
    rw [spec_l1In_f]
    simp only [Option.bind_some]
    rw [if_pos (decide_eq_true h), hK k hk, if_pos h]
    simp only [Option.bind_some]
    rw [if_pos (by rw [mkS_size]; omega), ← mkS_append]
    rfl
  · refine evi (0) fun k hk => ?_
    unfold spec_HintName.f
    rw [spec_l1In_f]
    simp only [Option.bind_some]
    rw [if_neg (by rw [decide_eq_false h]; simp), if_neg h]
    rfl

theorem atoi_digits (u : Nat) : ∀ t : List UInt8, u < 1000000000000000000 → Lib.parseUint10 0 (Lib.decDigits u ++ t) = Lib.parseUint10 u t := by
  induction u using Nat.strongRecOn with
  | _ u ih =>
    intro t hu
    by_cases h : u < 10
    · rw [dec_small h, List.singleton_append, Lib.parseUint10, dig_toNat h, if_pos (by omega), if_neg (by omega), if_neg (by omega)]
      congr 1
      omega
    · rw [dec_big h, List.append_assoc, ih (u / 10) (by omega) _ (by omega), List.singleton_append, Lib.parseUint10, dig_toNat (by omega), if_pos (by omega), if_neg (by omega), if_neg (by omega)]
      congr 1
      omega
theorem atoi_mag (u : Nat) (hu : u < 1000000000000000000) : Lib.parseMag (Lib.decDigits u) = .ok u := by
  unfold Lib.parseMag
  rw [if_neg (dec_ne u)]
  have := atoi_digits u [] hu
  rw [List.append_nil] at this
  rw [this]
  rfl
theorem atoi_itoa (v : Int) (h0 : -999999999 ≤ v) (h1 : v ≤ 999999999) : Lib.atoiAll (Lib.itoa v) = .ok v := by
  by_cases hn : v < 0
  · obtain ⟨u, rfl⟩ : ∃ u : Nat, v = -(u : Int) := ⟨v.natAbs, by omega⟩
    rw [itoa_neg (by omega)]
    unfold Lib.atoiAll
    have e : (45 : UInt8).toNat = 45 := rfl
    simp only [e]
    rw [if_pos (Or.inr trivial), atoi_mag u (by omega)]
    simp only
    rw [if_neg (by simp), if_neg (by omega), if_pos trivial]
  · obtain ⟨u, rfl⟩ := Int.eq_ofNat_of_zero_le (show 0 ≤ v by omega)
    rw [itoa_nat]
    have hm := atoi_mag u (by omega)
    have hd := dec_digits u
    cases hl : Lib.decDigits u with
    | nil => exact absurd hl (dec_ne u)
    | cons c r =>
      have hc := hd c (by rw [hl]; simp)
      rw [hl] at hm
      unfold Lib.atoiAll
      simp only
      rw [if_neg (by omega), hm]
      simp only
      rw [if_neg (by omega), if_neg (by omega), if_neg (by omega)]
theorem itoa_len10 (v : Int) (h0 : -999999999 ≤ v) (h1 : v ≤ 999999999) : (Lib.itoa v).length ≤ 10 := by
  by_cases hn : v < 0
  · obtain ⟨u, rfl⟩ : ∃ u : Nat, v = -(u : Int) := ⟨v.natAbs, by omega⟩
    rw [itoa_neg (by omega), List.length_cons]
    have := dec_len 8 u (by omega)
    omega
  · obtain ⟨u, rfl⟩ := Int.eq_ofNat_of_zero_le (show 0 ≤ v by omega)
    rw [itoa_nat]
    have := dec_len 8 u (by omega)
    omega
/-- The digits among bytes, as spec reads them: the number, and how many. -/
def pdF : List UInt8 → Nat → Nat → Nat × Nat
  | [], n, k => (n, k)
  | c :: t, n, k => if 48 ≤ c.toNat ∧ c.toNat ≤ 57 then pdF t (n * 10 + (c.toNat - 48)) (k + 1) else pdF t n k
theorem pdF_lt (l : List UInt8) : ∀ n k, n < 10 ^ k → (pdF l n k).1 < 10 ^ (pdF l n k).2 := by
  induction l with
  | nil => intro n k h; exact h
  | cons c t ih =>
    intro n k h
    rw [pdF]
    split
    · exact ih _ _ (by rw [Nat.pow_succ]; omega)
    · exact ih _ _ h
theorem pdF_digits (u : Nat) : ∀ (t : List UInt8) (k : Nat), pdF (Lib.decDigits u ++ t) 0 k = pdF t u (k + (Lib.decDigits u).length) := by
  induction u using Nat.strongRecOn with
  | _ u ih =>
    intro t k
    by_cases h : u < 10
    · rw [dec_small h, List.singleton_append, pdF, dig_toNat h, if_pos (by omega)]
      congr 1
      omega
    · rw [dec_big h, List.append_assoc, ih (u / 10) (by omega), List.singleton_append, pdF, dig_toNat (by omega), if_pos (by omega), List.length_append, List.length_singleton]
      congr 1
      omega
def signed (l : List UInt8) (n : Nat) : Int := if l.head? = some 45 then -(n : Int) else (n : Int)
def rdEnd (l : List UInt8) (p : Nat × Nat) : Int × Bool := if p.2 > 9 then (0, false) else if l.length > 10 then (0, false) else if Lib.itoa (signed l p.1) = l then (signed l p.1, true) else (0, false)
def readDecO (l : List UInt8) : Int × Bool := rdEnd l (pdF (l.take 11) 0 0)
theorem readDec_cases (l : List UInt8) : (∃ v, Lib.itoa v = l ∧ (-999999999 ≤ v ∧ v ≤ 999999999) ∧ readDecO l = (v, true)) ∨ ((∀ v, -999999999 ≤ v → v ≤ 999999999 → Lib.itoa v ≠ l) ∧ readDecO l = (0, false)) := by
  by_cases h : ∃ v, Lib.itoa v = l ∧ -999999999 ≤ v ∧ v ≤ 999999999
  · obtain ⟨v, rfl, h0, h1⟩ := h
    refine Or.inl ⟨v, rfl, ⟨h0, h1⟩, ?_⟩
    have hl := itoa_len10 v h0 h1
    unfold readDecO
    rw [List.take_of_length_le (by omega)]
    have key : (pdF (Lib.itoa v) 0 0).2 ≤ 9 ∧ signed (Lib.itoa v) (pdF (Lib.itoa v) 0 0).1 = v := by
      by_cases hn : v < 0
      · obtain ⟨u, rfl⟩ : ∃ u : Nat, v = -(u : Int) := ⟨v.natAbs, by omega⟩
        have hd := dec_len 8 u (by omega)
        have e : Lib.itoa (-(u : Int)) = 45 :: Lib.decDigits u := itoa_neg (by omega)
        have e2 : pdF (Lib.decDigits u) 0 0 = (u, (Lib.decDigits u).length) := by
          have := pdF_digits u [] 0
          rw [List.append_nil, Nat.zero_add] at this
          exact this
        have e3 : pdF (Lib.itoa (-(u : Int))) 0 0 = (u, (Lib.decDigits u).length) := by rw [e, pdF, if_neg (by decide), e2]
        rw [e3]
        refine ⟨by simp only; omega, ?_⟩
        unfold signed
        rw [e, if_pos (by rfl)]
      · obtain ⟨u, rfl⟩ := Int.eq_ofNat_of_zero_le (show 0 ≤ v by omega)
        have hd := dec_len 8 u (by omega)
        have e2 : pdF (Lib.decDigits u) 0 0 = (u, (Lib.decDigits u).length) := by
          have := pdF_digits u [] 0
          rw [List.append_nil, Nat.zero_add] at this
          exact this
        rw [itoa_nat, e2]
        refine ⟨by simp only; omega, ?_⟩
        unfold signed
        rw [if_neg]
        intro hh
        have hm : (45 : UInt8) ∈ Lib.decDigits u := List.mem_of_head? hh
        have := dec_digits u 45 hm
        have e45 : (45 : UInt8).toNat = 45 := rfl
        omega
    unfold rdEnd
    rw [if_neg (by omega), if_neg (by omega), key.2, if_pos rfl]
  · refine Or.inr ⟨fun v h0 h1 e => h ⟨v, e, h0, h1⟩, ?_⟩
    unfold readDecO rdEnd
    have hlt := pdF_lt (l.take 11) 0 0 (by omega)
    generalize pdF (l.take 11) 0 0 = p at *
    by_cases h9 : p.2 > 9
    · rw [if_pos h9]
    · rw [if_neg h9]
      by_cases h10 : l.length > 10
      · rw [if_pos h10]
      · rw [if_neg h10, if_neg]
        intro he
        have hp : 10 ^ p.2 ≤ 10 ^ 9 := Nat.pow_le_pow_right (by omega) (by omega)
        refine h ⟨signed l p.1, he, ?_⟩
        unfold signed
        split <;> omega
theorem impl_ReadDec_f (l : List UInt8) (hl : l.length ≤ 1048576) : impl_ReadDec.f (mkS l) = some (readDecO l) := by
  unfold impl_ReadDec.f
  rw [if_pos (by rw [mkS_size]; omega), mkS_toList]
  rcases readDec_cases l with ⟨v, rfl, ⟨h0, h1⟩, he⟩ | ⟨hn, he⟩
  · rw [atoi_itoa v h0 h1, he]
    simp only
    rw [if_pos (by omega), if_pos trivial, if_pos h0, if_pos h1]
  · rw [he]
    cases ha : Lib.atoiAll l with
    | ok v =>
      simp only
      have hr : -9223372036854775808 ≤ v ∧ v ≤ 9223372036854775807 := by
        unfold Lib.atoiAll at ha
        split at ha
        · cases ha
        · rename_i c r
          simp only at ha
          split at ha
          · cases ha
          · cases ha
          · rename_i u hu
            split at ha
            · cases ha
            · split at ha
              · cases ha
              · injection ha with ha
                subst ha
                split <;> omega
      rw [if_pos hr]
      by_cases h1 : Lib.itoa v = l
      · rw [if_pos h1]
        by_cases h2 : -999999999 ≤ v
        · rw [if_pos h2]
          by_cases h3 : v ≤ 999999999
          · exact absurd h1 (hn v h2 h3)
          · rw [if_neg h3]
        · rw [if_neg h2]
      · rw [if_neg h1]
    | «syntax» => rfl
    | range => rfl
theorem spec_ReadDec_j2 (l : List UInt8) (n k0 : Nat) (hn : n < 10 ^ k0) (hk0 : k0 ≤ 11) (b : Bool) (hb : b = decide (l.head? = some 45)) : Ev (fun k => spec_ReadDec.j2 k (mkS l) (n : Int) (k0 : Int) b) (rdEnd l (n, k0)) := by
  have hp : 10 ^ k0 ≤ 10 ^ 11 := Nat.pow_le_pow_right (by omega) hk0
  obtain ⟨K1, h1⟩ := evx (spec_Dec_ev (-(n : Int)) (by omega) (by omega))
  obtain ⟨K2, h2⟩ := evx (spec_Dec_ev (n : Int) (by omega) (by omega))
  refine evi (K1 + K2 + 1) fun k hk => ?_
  obtain ⟨k, rfl⟩ : ∃ m, k = m + 1 := ⟨k - 1, by omega⟩
  simp only [spec_ReadDec.j2]
  rw [w64 (x := -(n : Int)) (by omega) (by omega), h1 k (by omega), h2 k (by omega)]
  simp only [Option.bind_some, mkS_toList, mkS_size]
  unfold rdEnd signed
  subst hb
  by_cases hh : l.head? = some 45
  · rw [decide_eq_true hh, if_pos rfl, if_pos hh]
    by_cases h9 : k0 > 9
    · rw [if_pos (by omega), if_pos h9]
    · rw [if_neg (by omega), if_neg h9]
      by_cases h10 : l.length > 10
      · rw [if_pos (by omega), if_pos h10]
      · rw [if_neg (by omega), if_neg h10]
        split <;> rfl
  · rw [decide_eq_false hh, if_neg (by simp), if_neg hh]
    by_cases h9 : k0 > 9
    · rw [if_pos (by omega), if_pos h9]
    · rw [if_neg (by omega), if_neg h9]
      by_cases h10 : l.length > 10
      · rw [if_pos (by omega), if_pos h10]
      · rw [if_neg (by omega), if_neg h10]
        split <;> rfl
theorem spec_ReadDec_j1 (l : List UInt8) (n k0 : Nat) (hn : n < 10 ^ k0) (hk0 : k0 ≤ 11) (i : Int) : Ev (fun k => spec_ReadDec.j1 k (mkS l) (n : Int) (k0 : Int) i false) (rdEnd l (n, k0)) := by
  obtain ⟨K, hK⟩ := evx (spec_ReadDec_j2 l n k0 hn hk0 _ rfl)
  refine evi (K + 1) fun k hk => ?_
  obtain ⟨k, rfl⟩ : ∃ m, k = m + 1 := ⟨k - 1, by omega⟩
  have hgo := hK k (by omega)
  simp only [spec_ReadDec.j1]
  rw [if_neg (by simp)]
  cases l with
  | nil =>
    rw [if_neg (by rw [mkS_size]; simp)]
    exact hgo
  | cons c t =>
    rw [if_pos (by rw [mkS_size, List.length_cons]; omega), if_pos (by rw [mkS_size, List.length_cons]; omega)]
    have hbt : bt (mkS (c :: t)) 0 = (c.toNat : Int) := bt_mkS (c :: t) 0 (by simp)
    rw [hbt]
    have e : ((c.toNat : Int) == 45) = decide ((c :: t).head? = some 45) := by
      rw [Bool.eq_iff_iff]
      simp only [beq_iff_eq, decide_eq_true_eq, List.head?_cons, Option.some.injEq]
      constructor
      · intro h; apply UInt8.toNat_inj.1; show c.toNat = 45; omega
      · intro h; rw [h]; rfl
    rw [e]
    exact hgo
theorem spec_ReadDec_l0 (l : List UInt8) (d : Nat) : ∀ (i n k0 : Nat), d + i = min l.length 11 → n < 10 ^ k0 → k0 ≤ i → Ev (fun k => spec_ReadDec.l0 k (mkS l) (n : Int) (k0 : Int) (i : Int)) (rdEnd l (pdF ((l.take 11).drop i) n k0)) := by
  induction d with
  | zero =>
    intro i n k0 hi hn hk
    obtain ⟨K, hK⟩ := evx (spec_ReadDec_j1 l n k0 hn (by omega) (i : Int))
    refine ⟨K + 1, fun k hk' => ?_⟩
    obtain ⟨k, rfl⟩ : ∃ m, k = m + 1 := ⟨k - 1, by omega⟩
    have hgo := hK k (by omega)
    simp only [spec_ReadDec.l0]
    rw [List.drop_of_length_le (by rw [List.length_take]; omega)]
    by_cases h : i < l.length
    · rw [if_pos (by rw [mkS_size]; omega), decide_eq_false (by omega)]
      exact hgo
    · rw [if_neg (by rw [mkS_size]; omega)]
      exact hgo
  | succ d ih =>
    intro i n k0 hi hn hk
    have hlt : i < l.length := by omega
    have hc := (l[i]).toNat_lt
    have hp : 10 ^ k0 ≤ 10 ^ 11 := Nat.pow_le_pow_right (by omega) (by omega)
    have e1 : (l.take 11).drop i = l[i] :: (l.take 11).drop (i + 1) := by rw [List.drop_eq_getElem_cons (by rw [List.length_take]; omega), List.getElem_take]
    rw [e1, pdF]
    by_cases hd : 48 ≤ (l[i]).toNat ∧ (l[i]).toNat ≤ 57
    · obtain ⟨K, hK⟩ := evx (ih (i + 1) (n * 10 + ((l[i]).toNat - 48)) (k0 + 1) (by omega) (by rw [Nat.pow_succ]; omega) (by omega))
      refine ⟨K + 2, fun k hk' => ?_⟩
      obtain ⟨k, rfl⟩ : ∃ m, k = m + 2 := ⟨k - 2, by omega⟩
      have hgo := hK k (by omega)
      simp only [spec_ReadDec.l0]
      rw [if_pos (by rw [mkS_size]; omega), decide_eq_true (by omega)]
      simp only [spec_ReadDec.j1]
      rw [if_pos trivial, if_pos (by omega), if_pos (by rw [mkS_size]; omega), bt_mkS l i hlt, if_pos (by omega), if_pos (by omega), if_pos hd]
      rw [w64 (x := (n : Int) * 10) (by omega) (by omega), w64 (by omega) (by omega), w64 (x := (k0 : Int) + 1) (by omega) (by omega), w64 (x := (i : Int) + 1) (by omega) (by omega)]
      rw [show ((n : Int) * 10 + (((l[i]).toNat : Int) - 48) % 256) = ((n * 10 + ((l[i]).toNat - 48) : Nat) : Int) from by omega, show ((k0 : Int) + 1) = ((k0 + 1 : Nat) : Int) from by omega, show ((i : Int) + 1) = ((i + 1 : Nat) : Int) from by omega]
      exact hgo
    · obtain ⟨K, hK⟩ := evx (ih (i + 1) n k0 (by omega) hn (by omega))
      refine ⟨K + 2, fun k hk' => ?_⟩
      obtain ⟨k, rfl⟩ : ∃ m, k = m + 2 := ⟨k - 2, by omega⟩
      have hgo := hK k (by omega)
      simp only [spec_ReadDec.l0]
      rw [if_pos (by rw [mkS_size]; omega), decide_eq_true (by omega)]
      simp only [spec_ReadDec.j1]
      rw [if_pos trivial, if_pos (by omega), if_pos (by rw [mkS_size]; omega), bt_mkS l i hlt, if_neg hd, w64 (x := (i : Int) + 1) (by omega) (by omega), show ((i : Int) + 1) = ((i + 1 : Nat) : Int) from by omega]
      by_cases h48 : ((l[i]).toNat : Int) ≥ 48
      · rw [if_pos h48, if_neg (by omega)]
        exact hgo
      · rw [if_neg h48]
        exact hgo
theorem spec_ReadDec_ev (l : List UInt8) : Ev (fun k => spec_ReadDec.f k (mkS l)) (readDecO l) := spec_ReadDec_l0 l (min l.length 11) 0 0 0 rfl (by simp) (by omega)

theorem readDec_itoa (v : Int) (h0 : -999999999 ≤ v) (h1 : v ≤ 999999999) : readDecO (Lib.itoa v) = (v, true) := by
  rcases readDec_cases (Lib.itoa v) with ⟨v', he, ⟨a, b⟩, hr⟩ | ⟨hn, _⟩
  · have e1 := atoi_itoa v' a b
    rw [he, atoi_itoa v h0 h1] at e1
    injection e1 with e1
    rw [hr, e1]
  · exact absurd rfl (hn v h0 h1)
theorem itoa_head (v : Int) (c : UInt8) (t : List UInt8) (h : Lib.itoa v = c :: t) : c = 45 ∨ (48 ≤ c.toNat ∧ c.toNat ≤ 57) := by
  by_cases hn : v < 0
  · have e := itoa_neg (u := v.natAbs) (by omega)
    rw [show (-((v.natAbs : Nat) : Int)) = v from by omega, h] at e
    exact Or.inl (List.cons.inj e).1
  · obtain ⟨u, rfl⟩ := Int.eq_ofNat_of_zero_le (show 0 ≤ v by omega)
    rw [itoa_nat] at h
    exact Or.inr (dec_digits u c (by rw [h]; simp))
theorem itoa_ne (v : Int) : Lib.itoa v ≠ [] := by
  by_cases hn : v < 0
  · have e := itoa_neg (u := v.natAbs) (by omega)
    rw [show (-((v.natAbs : Nat) : Int)) = v from by omega] at e
    rw [e]; simp
  · obtain ⟨u, rfl⟩ := Int.eq_ofNat_of_zero_le (show 0 ≤ v by omega)
    rw [itoa_nat]; exact dec_ne u
def segL : List UInt8 := [115, 101, 103]
def hintW : List UInt8 := [104, 105, 110, 116]
abbrev inId (v : Int) : Prop := 1 ≤ v ∧ v ≤ 100000
def idS (l : List UInt8) (k : Nat) : Option Int := if l.length > k ∧ (readDecO (l.drop k)).2 = true ∧ (readDecO (l.drop k)).1 ≥ 1 ∧ (nmB segL (readDecO (l.drop k)).1 = l ∨ nmB hintW (readDecO (l.drop k)).1 = l) then some (readDecO (l.drop k)).1 else none
def idR (l : List UInt8) : Int × Bool := match idS l 3 with | some v => (v, true) | none => match idS l 4 with | some v => (v, true) | none => (0, false)
theorem nmB_eq {word l : List UInt8} {v : Int} (hl : l ≠ []) (h : nmB word v = l) : inId v ∧ l = word ++ Lib.itoa v := by
  unfold nmB at h
  by_cases hv : 1 ≤ v ∧ v ≤ 100000
  · rw [if_pos hv] at h; exact ⟨hv, h.symm⟩
  · rw [if_neg hv] at h; exact absurd h.symm hl
theorem nmB_of (word : List UInt8) {v : Int} (h : inId v) : nmB word v = word ++ Lib.itoa v := by unfold nmB; unfold inId at h; rw [if_pos h]
theorem idS_some {l : List UInt8} {k : Nat} {v : Int} (h : idS l k = some v) : inId v ∧ (l = segL ++ Lib.itoa v ∨ l = hintW ++ Lib.itoa v) := by
  unfold idS at h
  by_cases hc : l.length > k ∧ (readDecO (l.drop k)).2 = true ∧ (readDecO (l.drop k)).1 ≥ 1 ∧ (nmB segL (readDecO (l.drop k)).1 = l ∨ nmB hintW (readDecO (l.drop k)).1 = l)
  · rw [if_pos hc] at h
    injection h with h
    rw [h] at hc
    obtain ⟨h1, _, _, h4⟩ := hc
    have hl : l ≠ [] := by intro e; rw [e] at h1; simp at h1
    rcases h4 with h4 | h4
    · exact ⟨(nmB_eq hl h4).1, Or.inl (nmB_eq hl h4).2⟩
    · exact ⟨(nmB_eq hl h4).1, Or.inr (nmB_eq hl h4).2⟩
  · rw [if_neg hc] at h; cases h
theorem idR_seg {v : Int} (h : inId v) : idR (segL ++ Lib.itoa v) = (v, true) := by
  have hd : (segL ++ Lib.itoa v).drop 3 = Lib.itoa v := rfl
  have hr := readDec_itoa v (by unfold inId at h; omega) (by unfold inId at h; omega)
  have hp : 0 < (Lib.itoa v).length := List.length_pos_iff.2 (itoa_ne v)
  have e : idS (segL ++ Lib.itoa v) 3 = some v := by
    unfold idS
    rw [hd, hr]
    simp only
    rw [if_pos ⟨by rw [List.length_append]; show 3 + _ > 3; omega, trivial, h.1, Or.inl (nmB_of _ h)⟩]
  unfold idR
  rw [e]
theorem idR_hint {v : Int} (h : inId v) : idR (hintW ++ Lib.itoa v) = (v, true) := by
  have hr := readDec_itoa v (by unfold inId at h; omega) (by unfold inId at h; omega)
  have hp : 0 < (Lib.itoa v).length := List.length_pos_iff.2 (itoa_ne v)
  have hd3 : (hintW ++ Lib.itoa v).drop 3 = 116 :: Lib.itoa v := rfl
  have hd4 : (hintW ++ Lib.itoa v).drop 4 = Lib.itoa v := rfl
  have h3 : idS (hintW ++ Lib.itoa v) 3 = none := by
    unfold idS
    rw [hd3]
    rcases readDec_cases (116 :: Lib.itoa v) with ⟨v', he, _, _⟩ | ⟨_, hr'⟩
    · rcases itoa_head v' 116 (Lib.itoa v) he with hc | hc
      · exact absurd hc (by decide)
      · exact absurd hc (by decide)
    · rw [hr', if_neg (fun hh => by simp at hh)]
  have h4 : idS (hintW ++ Lib.itoa v) 4 = some v := by
    unfold idS
    rw [hd4, hr]
    simp only
    rw [if_pos ⟨by rw [List.length_append]; show 4 + _ > 4; omega, trivial, h.1, Or.inr (nmB_of _ h)⟩]
  unfold idR
  rw [h3, h4]
theorem idR_none {l : List UInt8} (h : ∀ v, inId v → l ≠ segL ++ Lib.itoa v ∧ l ≠ hintW ++ Lib.itoa v) : idR l = (0, false) := by
  have g : ∀ k, idS l k = none := by
    intro k
    cases e : idS l k with
    | none => rfl
    | some v =>
      obtain ⟨hv, hl⟩ := idS_some e
      exact absurd hl (fun hh => hh.elim (h v hv).1 (h v hv).2)
  unfold idR
  rw [g 3, g 4]
theorem spec_IdOf_step (l : List UInt8) (hl : l.length ≤ 1048576) (j : Nat) (hj : j ≤ 4) (r : Int × Bool) (hn : Ev (fun k => spec_IdOf.l0 k (mkS l) ((j + 1 : Nat) : Int)) r) : Ev (fun k => spec_IdOf.l0 k (mkS l) (j : Int)) (match idS l j with | some v => (v, true) | none => r) := by
  obtain ⟨K0, h0⟩ := evx (hn)
  obtain ⟨K1, h1⟩ := evx (spec_ReadDec_ev (l.drop j))
  obtain ⟨K2, h2⟩ := evx (spec_SegName_ev (readDecO (l.drop j)).1)
  obtain ⟨K3, h3⟩ := evx (spec_HintName_ev (readDecO (l.drop j)).1)
  refine evi (K0 + K1 + K2 + K3 + 1) fun k hk => ?_
  obtain ⟨k, rfl⟩ : ∃ m, k = m + 1 := ⟨k - 1, by omega⟩
  have g0 := h0 k (by omega)
  simp only [spec_IdOf.l0]
  rw [if_pos (by omega), w64 (by omega) (by omega), show ((j : Int) + 1) = ((j + 1 : Nat) : Int) from by omega, g0]
  unfold idS
  by_cases c1 : l.length > j
  · rw [if_pos (by rw [mkS_size]; omega), if_pos (by omega), if_pos (by rw [mkS_size]; omega), Int.toNat_natCast, mkS_extract, mkS_size, List.take_of_length_le (by rw [List.length_drop]; omega), h1 k (by omega)]
    simp only [Option.bind_some]
    by_cases c2 : (readDecO (l.drop j)).2 = true
    · rw [if_pos c2]
      by_cases c3 : (readDecO (l.drop j)).1 ≥ 1
      · rw [if_pos c3, h2 k (by omega), h3 k (by omega)]
        simp only [Option.bind_some, mkS_toList]
        by_cases c4 : nmB [115, 101, 103] (readDecO (l.drop j)).1 = l
        · rw [if_pos c4, if_pos ⟨c1, c2, c3, Or.inl c4⟩]
        · rw [if_neg c4]
          by_cases c5 : nmB [104, 105, 110, 116] (readDecO (l.drop j)).1 = l
          · rw [if_pos c5, if_pos ⟨c1, c2, c3, Or.inr c5⟩]
          · rw [if_neg c5, if_neg (fun hh => hh.2.2.2.elim c4 c5)]
      · rw [if_neg c3, if_neg (fun hh => c3 hh.2.2.1)]
    · rw [if_neg c2, if_neg (fun hh => c2 hh.2.1)]
  · rw [if_neg (by rw [mkS_size]; omega), if_neg (fun hh => c1 hh.1)]
theorem spec_IdOf_ev (l : List UInt8) (hl : l.length ≤ 1048576) : Ev (fun k => spec_IdOf.f k (mkS l)) (idR l) := by
  have e5 : Ev (fun k => spec_IdOf.l0 k (mkS l) ((5 : Nat) : Int)) (0, false) := by
    refine evi (1) fun k hk => ?_
    obtain ⟨k, rfl⟩ : ∃ m, k = m + 1 := ⟨k - 1, by omega⟩
    simp only [spec_IdOf.l0]
    rw [if_neg (by omega)]
  have e4 := spec_IdOf_step l hl 4 (by omega) _ e5
  exact spec_IdOf_step l hl 3 (by omega) _ e4
def cutP (l p : List UInt8) : List UInt8 × Bool := if p.length ≤ l.length ∧ l.take p.length = p then (l.drop p.length, true) else (l, false)
theorem strings_CutPrefix_f (l p : List UInt8) : strings_CutPrefix.f (mkS l) (mkS p) = some (mkS (cutP l p).1, (cutP l p).2) := by
  unfold strings_CutPrefix.f stringslite_CutPrefix.f stringslite_HasPrefix.f cutP
  by_cases h : p.length ≤ l.length
  · rw [if_pos (by rw [mkS_size, mkS_size]; omega), if_pos (by omega), if_pos (by rw [mkS_size, mkS_size]; omega)]
    rw [mkS_size, mkS_size, Int.toNat_natCast, mkS_extract, List.drop_zero, Nat.sub_zero, mkS_toList, mkS_toList]
    simp only [Option.bind_some]
    by_cases e : l.take p.length = p
    · rw [if_pos (by rw [e]; simp), if_pos (by omega), if_pos (by omega), if_pos ⟨h, e⟩, mkS_extract, List.take_of_length_le (by rw [List.length_drop]; omega)]
      rfl
    · rw [if_neg (by simpa using e), if_neg (fun hh => e hh.2)]
      rfl
  · rw [if_neg (show ¬ ((mkS l).size : Int) ≥ ((mkS p).size : Int) by rw [mkS_size, mkS_size]; omega), if_neg (show ¬ (p.length ≤ l.length ∧ l.take p.length = p) from fun hh => h hh.1)]
    rfl
def idJ (t : List UInt8) (one : Bool) : Int × Bool := if one = true ∧ (readDecO t).2 = true ∧ inId (readDecO t).1 then ((readDecO t).1, true) else (0, false)
theorem impl_IdOf_j0 (t : List UInt8) (ht : t.length ≤ 1048576) (one : Bool) (k : Nat) : impl_IdOf.j0 (k + 1) (mkS t) one = some (idJ t one) := by
  simp only [impl_IdOf.j0]
  rw [impl_ReadDec_f t ht]
  simp only [Option.bind_some, impl_in_f]
  unfold idJ inId
  cases one with
  | false => rw [if_neg (by simp), if_neg (fun hh => by simp at hh)]
  | true =>
    rw [if_pos rfl]
    by_cases h2 : (readDecO t).2 = true
    · rw [if_pos h2]
      by_cases h3 : 1 ≤ (readDecO t).1 ∧ (readDecO t).1 ≤ 100000
      · rw [if_pos (decide_eq_true h3), if_pos ⟨rfl, h2, h3⟩]
      · rw [if_neg (by rw [decide_eq_false h3]; simp), if_neg (fun hh => h3 hh.2.2)]
    · rw [if_neg h2, if_neg (fun hh => h2 hh.2.1)]
def idI (l : List UInt8) : Int × Bool := if (cutP l segL).2 = true then idJ (cutP l segL).1 true else idJ (cutP l hintW).1 (cutP l hintW).2
theorem cutP_len (l p : List UInt8) : (cutP l p).1.length ≤ l.length := by unfold cutP; split <;> simp
theorem impl_IdOf_f (l : List UInt8) (hl : l.length ≤ 1048576) (k : Nat) : impl_IdOf.f (k + 1) (mkS l) = some (idI l) := by
  have l1 := cutP_len l segL
  have l2 := cutP_len l hintW
  unfold impl_IdOf.f idI
  rw [show (⟨#[115, 101, 103]⟩ : ByteArray) = mkS segL from rfl, show (⟨#[104, 105, 110, 116]⟩ : ByteArray) = mkS hintW from rfl, strings_CutPrefix_f, strings_CutPrefix_f]
  simp only [Option.bind_some]
  by_cases h : (cutP l segL).2 = true
  · rw [if_pos h, if_pos h, h, impl_IdOf_j0 _ (by omega)]
  · rw [if_neg h, if_neg h, impl_IdOf_j0 _ (by omega)]
theorem cutP_true {l p : List UInt8} (h : (cutP l p).2 = true) : l = p ++ (cutP l p).1 := by
  unfold cutP at h ⊢
  by_cases hc : p.length ≤ l.length ∧ l.take p.length = p
  · rw [if_pos hc]
    have := List.take_append_drop p.length l
    rw [hc.2] at this
    exact this.symm
  · rw [if_neg hc] at h; cases h
theorem cutP_app (p t : List UInt8) : cutP (p ++ t) p = (t, true) := by
  unfold cutP
  rw [if_pos ⟨by rw [List.length_append]; omega, List.take_left⟩, List.drop_left]
theorem idJ_itoa {v : Int} (h : inId v) : idJ (Lib.itoa v) true = (v, true) := by
  unfold idJ
  rw [readDec_itoa v (by unfold inId at h; omega) (by unfold inId at h; omega), if_pos ⟨rfl, rfl, h⟩]
theorem idJ_true {t : List UInt8} {one : Bool} (h : idJ t one ≠ (0, false)) : one = true ∧ ∃ v, inId v ∧ t = Lib.itoa v := by
  unfold idJ at h
  by_cases hc : one = true ∧ (readDecO t).2 = true ∧ inId (readDecO t).1
  · refine ⟨hc.1, (readDecO t).1, hc.2.2, ?_⟩
    rcases readDec_cases t with ⟨v, he, _, hr⟩ | ⟨_, hr⟩
    · rw [hr]; exact he.symm
    · rw [hr] at hc; exact absurd hc.2.1 (by simp)
  · rw [if_neg hc] at h; exact absurd rfl h
theorem idI_eq (l : List UInt8) : idI l = idR l := by
  by_cases h : ∃ v, inId v ∧ (l = segL ++ Lib.itoa v ∨ l = hintW ++ Lib.itoa v)
  · obtain ⟨v, hv, rfl | rfl⟩ := h
    · rw [idR_seg hv]
      unfold idI
      rw [cutP_app, if_pos rfl, idJ_itoa hv]
    · rw [idR_hint hv]
      have hs : (cutP (hintW ++ Lib.itoa v) segL).2 = false := by
        unfold cutP
        rw [if_neg]
        intro hh
        have := hh.2
        simp [segL, hintW] at this
      unfold idI
      rw [if_neg (by rw [hs]; simp), cutP_app, idJ_itoa hv]
  · have hn : ∀ v, inId v → l ≠ segL ++ Lib.itoa v ∧ l ≠ hintW ++ Lib.itoa v := fun v hv => ⟨fun e => h ⟨v, hv, Or.inl e⟩, fun e => h ⟨v, hv, Or.inr e⟩⟩
    rw [idR_none hn]
    apply Decidable.byContradiction
    intro hne
    unfold idI at hne
    by_cases hs : (cutP l segL).2 = true
    · rw [if_pos hs] at hne
      obtain ⟨_, v, hv, ht⟩ := idJ_true hne
      have := cutP_true hs
      rw [ht] at this
      exact (hn v hv).1 this
    · rw [if_neg hs] at hne
      obtain ⟨h1, v, hv, ht⟩ := idJ_true hne
      have := cutP_true h1
      rw [ht] at this
      exact (hn v hv).2 this



/-! ### the law -/
theorem FnExactIdOf : laws_FnExactIdOf.Pure := by
  intro a h
  by_cases hb : (a.size : Int) > 1048576
  · exact ⟨0, by unfold laws_FnExactIdOf.f; rw [if_pos hb]⟩
  · obtain ⟨l, rfl⟩ := exS a
    have hb' := hb
    rw [mkS_size] at hb'
    obtain ⟨K1, h1⟩ := evx (spec_IdOf_ev l (by omega))
    refine ⟨K1 + 1, ?_⟩
    unfold laws_FnExactIdOf.f
    rw [if_neg hb, h1 _ (by omega), impl_IdOf_f l (by omega), idI_eq]
    simp

end Go.Proofs.YtebeafcdabkkfabDoor.Pure
