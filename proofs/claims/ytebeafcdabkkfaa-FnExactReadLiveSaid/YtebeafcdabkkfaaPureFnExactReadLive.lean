/- The pure statement of the law FnExactReadLive: for all arguments within the printed bounds the printed function of the law answers true. Conditions: only the bounds that the printed statement itself names. -/
import Derived.Test.YtebeafcdabkkfaaPFnExactReadLivex8
namespace Go.Proofs.Ytebeafcdabkkfaa.Pure
open Go.RowKit Go.Proofs.Ytebeafcdabkkfaa.PFnExactReadLive Go.Proofs.YtebeafcdabkkfaaW.PrintWords Go.Proofs.YtebeafcdabkkfaaW.PrintLast
set_option linter.unusedVariables false
set_option linter.unusedSimpArgs false

/-- The string of a list of bytes. -/
def mkS (l : List UInt8) : ByteArray := ⟨l.toArray⟩
theorem exS (s : ByteArray) : ∃ l, s = mkS l := ⟨s.data.toList, by cases s; simp [mkS]⟩
theorem mkS_size (l : List UInt8) : (mkS l).size = l.length := by simp [mkS, ByteArray.size]
theorem toList_data (s : ByteArray) : s.toList = s.data.toList := by
  have key : ∀ (n i : Nat) (r : List UInt8), s.size - i = n → ByteArray.toList.loop s i r = r.reverse ++ s.data.toList.drop i := by
    intro n
    induction n with
    | zero =>
      intro i r h
      unfold ByteArray.toList.loop
      rw [if_neg (by omega), List.drop_of_length_le (by simp only [Array.length_toList]; have : s.size = s.data.size := rfl; omega), List.append_nil]
    | succ n ih =>
      intro i r h
      unfold ByteArray.toList.loop
      have hi : i < s.data.toList.length := by simp only [Array.length_toList]; have : s.size = s.data.size := rfl; omega
      rw [if_pos (by omega), ih (i + 1) _ (by omega), List.reverse_cons, List.append_assoc, List.drop_eq_getElem_cons hi]
      have : s.get! i = s.data.toList[i] := by
        show s.data[i]! = _
        rw [Array.getElem_toList]
        exact getElem!_pos s.data i (by simpa using hi)
      rw [this]
      rfl
  have := key _ 0 [] rfl
  simpa [ByteArray.toList] using this
theorem mkS_toList (l : List UInt8) : (mkS l).toList = l := by rw [toList_data]; simp [mkS]
theorem mkS_append (a b : List UInt8) : mkS a ++ mkS b = mkS (a ++ b) := by
  apply ByteArray.ext
  simp [mkS, ByteArray.data_append]
theorem mkS_extract (l : List UInt8) (i j : Nat) : (mkS l).extract i j = mkS ((l.drop i).take (j - i)) := by
  apply ByteArray.ext
  rw [ByteArray.data_extract]
  simp only [mkS]
  apply Array.ext'
  rw [Array.toList_extract]
  try simp [List.extract_eq_drop_take]
theorem mkS_nil : (⟨#[]⟩ : ByteArray) = mkS [] := rfl
theorem bt_mkS (l : List UInt8) (i : Nat) (h : i < l.length) : bt (mkS l) (i : Int) = ((l[i]).toNat : Int) := by
  unfold bt
  have h' : ((i : Int)).toNat < (mkS l).size := by rw [mkS_size]; simpa using h
  rw [dif_pos h']
  simp only [Int.toNat_natCast]
  rfl
/-- A slice of bytes as the print tells it. -/
def ints (l : List UInt8) : List Int := l.map fun b => (b.toNat : Int)
theorem ints_length (l : List UInt8) : (ints l).length = l.length := by simp [ints]
theorem ints_append (a b : List UInt8) : ints a ++ ints b = ints (a ++ b) := by simp [ints]
theorem ints_nil : ([] : List Int) = ints [] := rfl
theorem strOfNums_ints (l : List UInt8) : strOfNums (ints l) = mkS l := by
  unfold strOfNums ints mkS
  congr 2
  rw [List.map_map]
  conv => rhs; rw [← List.map_id l]
  apply List.map_congr_left
  intro b _
  simp
theorem ofNat_cast (n : Nat) : ((UInt8.ofNat n).toNat : Int) = (n : Int) % 256 := by simp
theorem ints_one (n : Nat) (x : Int) (h : x % 256 = ((n % 256 : Nat) : Int)) : [x % 256] = ints [UInt8.ofNat n] := by
  simp only [ints, List.map_cons, List.map_nil]
  rw [h, ofNat_cast]
  simp
theorem w64 {x : Int} (h0 : -9223372036854775808 ≤ x) (h1 : x ≤ 9223372036854775807) : wrap64 x = x := by unfold wrap64; omega
theorem w64b (s : ByteArray) (i : Int) : wrap64 (bt s i) = bt s i := by have := bt_range s i; exact w64 (by omega) (by omega)
theorem tdivp {x y : Int} (h : 0 ≤ x) : Int.tdiv x y = x / y := Int.tdiv_eq_ediv_of_nonneg h
theorem tmodp {x y : Int} (h : 0 ≤ x) : Int.tmod x y = x % y := Int.tmod_eq_emod_of_nonneg h
theorem shl_i64 {x y : Int} {n : Nat} (hy : y = (n : Int)) (hn : n ≤ 64) : shl .i64 x y = wrap64 (x * 2 ^ n) := by
  unfold shl
  have e : min y.toNat IntKind.i64.bits = n := by subst hy; simp [IntKind.bits]; omega
  rw [e, IntKind.wrap_i64, wrap64]
theorem shr_i64 {x y : Int} {n : Nat} (hy : y = (n : Int)) (hn : n ≤ 64) : shr .i64 x y = x / 2 ^ n := by
  unfold shr
  have e : min y.toNat IntKind.i64.bits = n := by subst hy; simp [IntKind.bits]; omega
  rw [e]
theorem evx {α : Type} {g : Nat → Option α} {r : α} (h : Ev g r) : ∃ K, ∀ k, K ≤ k → g k = some r := h
theorem evi {α : Type} {g : Nat → Option α} {r : α} (K : Nat) (h : ∀ k, K ≤ k → g k = some r) : Ev g r := ⟨K, h⟩

theorem laws_eqIntS_l0 (l : List Int) (hl : l.length ≤ 4611686018427387904) (d : Nat) : ∀ (i : Nat), d + i = l.length → Ev (fun k => laws_eqIntS.l0 k l l (i : Int)) true := by
  induction d with
  | zero =>
    intro i hi
    refine evi (1) fun k hk => ?_
    obtain ⟨k, rfl⟩ : ∃ m, k = m + 1 := ⟨k - 1, by omega⟩
    simp only [laws_eqIntS.l0]
    rw [if_neg (by omega)]
  | succ d ih =>
    intro i hi
    obtain ⟨K, hK⟩ := evx (ih (i + 1) (by omega))
    refine evi (K + 1) fun k hk => ?_
    obtain ⟨k, rfl⟩ : ∃ m, k = m + 1 := ⟨k - 1, by omega⟩
    simp only [laws_eqIntS.l0]
    rw [if_pos (by omega), if_pos (by omega), if_pos (by omega), if_pos trivial, w64 (by omega) (by omega)]
    exact hK k (by omega)
theorem laws_eqIntS_ev (l : List Int) (hl : l.length ≤ 4611686018427387904) : Ev (fun k => laws_eqIntS.f k l l) true := by
  obtain ⟨K, hK⟩ := evx (laws_eqIntS_l0 l hl l.length 0 rfl)
  refine evi (K) fun k hk => ?_
  unfold laws_eqIntS.f
  rw [if_pos rfl]
  exact hK k hk

theorem impl_in_f (a b c : Int) : impl_in.f a b c = some (decide (b ≤ a ∧ a ≤ c)) := by
  unfold impl_in.f
  by_cases h : a ≥ b
  · rw [if_pos h]; congr 1; simp [h]
  · rw [if_neg h]; congr 1; simp; omega

theorem spec_l1In_f (a b c : Int) : spec_l1In.f a b c = some (decide (b ≤ a ∧ a ≤ c)) := by
  unfold spec_l1In.f
  by_cases h : a ≥ b
  · rw [if_pos h]; congr 1; simp [h]
  · rw [if_neg h]; congr 1; simp; omega

def varL (n : Nat) : List UInt8 := if n < 128 then [UInt8.ofNat n] else UInt8.ofNat (n % 128 + 128) :: varL (n / 128)
termination_by n
decreasing_by omega
theorem varL_small {n : Nat} (h : n < 128) : varL n = [UInt8.ofNat n] := by rw [varL, if_pos h]
theorem varL_big {n : Nat} (h : ¬ n < 128) : varL n = UInt8.ofNat (n % 128 + 128) :: varL (n / 128) := by rw [varL, if_neg h]
theorem varL_pos (n : Nat) : 0 < (varL n).length := by
  by_cases h : n < 128
  · rw [varL_small h]; simp
  · rw [varL_big h]; simp
theorem varL_len (j : Nat) : ∀ n : Nat, n < 128 ^ (j + 1) → (varL n).length ≤ j + 1 := by
  induction j with
  | zero => intro n h; rw [varL_small (by omega)]; simp
  | succ j ih =>
    intro n h
    by_cases hn : n < 128
    · rw [varL_small hn]; simp
    · rw [varL_big hn, List.length_cons]
      have : n / 128 < 128 ^ (j + 1) := by rw [Nat.div_lt_iff_lt_mul (by omega)]; rw [Nat.pow_succ] at h; exact h
      have := ih _ this
      omega
theorem varL_len7 {n : Nat} (h : n ≤ 562949953421311) : (varL n).length ≤ 7 := varL_len 6 n (by omega)
/-- A number's text. -/
def varS (n : Int) : ByteArray := if 0 ≤ n ∧ n ≤ 562949953421311 then mkS (varL n.toNat) else mkS []
theorem varS_nat {n : Nat} (h : n ≤ 562949953421311) : varS (n : Int) = mkS (varL n) := by
  unfold varS
  rw [if_pos ⟨by omega, by omega⟩, Int.toNat_natCast]
/-- A text with its length ahead. -/
def textL (l : List UInt8) : List UInt8 := varL l.length ++ l
theorem textL_length (l : List UInt8) (h : l.length ≤ 562949953421311) : (textL l).length ≤ l.length + 7 := by have := varL_len7 h; rw [textL, List.length_append]; omega

theorem impl_Var_l0 (m : Nat) : ∀ (n : Nat) (acc : List UInt8), n ≤ 562949953421311 → n ≤ m → acc.length + n ≤ 600000000000000 → acc.length + (varL n).length ≤ 100000000000000 → Ev (fun k => impl_Var.l0 k (n : Int) (ints acc)) (mkS (acc ++ varL n)) := by
  induction m using Nat.strongRecOn with
  | ind m ih =>
  intro n acc hn hm _ hl
  have hlp := varL_pos n
  by_cases h : n < 128
  · refine evi (1) fun k hk => ?_
    obtain ⟨k, rfl⟩ : ∃ m, k = m + 1 := ⟨k - 1, by omega⟩
    simp only [impl_Var.l0]
    rw [if_neg (by omega), if_pos (by rw [ints_length]; omega), ints_one n _ (by omega), ints_append, strOfNums_ints, varL_small h]
  · have hd := varL_big h
    obtain ⟨K, hK⟩ := evx (ih (n / 128) (by omega) (n / 128) (acc ++ [UInt8.ofNat (n % 128 + 128)]) (by omega) (Nat.le_refl _) (by rw [List.length_append, List.length_singleton]; omega) (by rw [hd, List.length_cons] at hl; rw [List.length_append, List.length_singleton]; omega))
    refine evi (K + 1) fun k hk => ?_
    obtain ⟨k, rfl⟩ : ∃ m, k = m + 1 := ⟨k - 1, by omega⟩
    simp only [impl_Var.l0]
    rw [if_pos (by omega), if_pos (by rw [ints_length]; omega), tdivp (by omega), tmodp (by omega), w64 (by omega) (by omega), w64 (by omega) (by omega), ints_one (n % 128 + 128) _ (by omega), ints_append]
    have := hK k (by omega)
    simp only [Int.natCast_ediv] at this
    rw [hd, show (128 : Int) = ((128 : Nat) : Int) from rfl, this, List.append_assoc]
    rfl
theorem impl_Var_ev (n : Int) : Ev (fun k => impl_Var.f k n) (varS n) := by
  by_cases h : 0 ≤ n ∧ n ≤ 562949953421311
  · obtain ⟨m, rfl⟩ := Int.eq_ofNat_of_zero_le h.1
    have h7 := varL_len7 (n := m) (by omega)
    obtain ⟨K, hK⟩ := evx (impl_Var_l0 m m [] (by omega) (Nat.le_refl _) (by simp; omega) (by simp; omega))
    refine evi (K) fun k hk => ?_
    unfold impl_Var.f
    rw [impl_in_f]
    simp only [Option.bind_some]
    rw [if_pos (by simpa using h), ints_nil, hK k hk, varS, if_pos h]
    rfl
  · refine evi (0) fun k hk => ?_
    unfold impl_Var.f
    rw [impl_in_f]
    simp only [Option.bind_some]
    rw [if_neg (by simpa using h), varS, if_neg h]
    rfl

theorem spec_Var_l0 (m : Nat) : ∀ (n : Nat) (acc : List UInt8), n ≤ 562949953421311 → n ≤ m → acc.length + (varL n).length ≤ 100000000000000 → Ev (fun k => spec_Var.l0 k (n : Int) (ints acc)) (mkS (acc ++ varL n)) := by
  induction m using Nat.strongRecOn with
  | ind m ih =>
  intro n acc hn hm hl
  have hlp := varL_pos n
  by_cases h : n < 128
  · refine evi (1) fun k hk => ?_
    obtain ⟨k, rfl⟩ : ∃ m, k = m + 1 := ⟨k - 1, by omega⟩
    simp only [spec_Var.l0]
    rw [if_neg (by omega), if_pos (by rw [ints_length]; omega), ints_one n _ (by omega), ints_append, strOfNums_ints, varL_small h]
  · have hd := varL_big h
    obtain ⟨K, hK⟩ := evx (ih (n / 128) (by omega) (n / 128) (acc ++ [UInt8.ofNat (n % 128 + 128)]) (by omega) (Nat.le_refl _) (by rw [hd, List.length_cons] at hl; rw [List.length_append, List.length_singleton]; omega))
    refine evi (K + 1) fun k hk => ?_
    obtain ⟨k, rfl⟩ : ∃ m, k = m + 1 := ⟨k - 1, by omega⟩
    simp only [spec_Var.l0]
    rw [if_pos (by omega), if_pos (by rw [ints_length]; omega), tdivp (by omega), tmodp (by omega), w64 (by omega) (by omega), w64 (by omega) (by omega), ints_one (n % 128 + 128) _ (by omega), ints_append]
    have := hK k (by omega)
    simp only [Int.natCast_ediv] at this
    rw [hd, show (128 : Int) = ((128 : Nat) : Int) from rfl, this, List.append_assoc]
    rfl
theorem spec_Var_ev (n : Int) : Ev (fun k => spec_Var.f k n) (varS n) := by
  by_cases h : 0 ≤ n ∧ n ≤ 562949953421311
  · obtain ⟨m, rfl⟩ := Int.eq_ofNat_of_zero_le h.1
    have h7 := varL_len7 (n := m) (by omega)
    obtain ⟨K, hK⟩ := evx (spec_Var_l0 m m [] (by omega) (Nat.le_refl _) (by simp; omega))
    refine evi (K) fun k hk => ?_
    unfold spec_Var.f
    rw [spec_l1In_f]
    simp only [Option.bind_some]
    rw [if_pos (by simpa using h), ints_nil, hK k hk, varS, if_pos h]
    rfl
  · refine evi (0) fun k hk => ?_
    unfold spec_Var.f
    rw [spec_l1In_f]
    simp only [Option.bind_some]
    rw [if_neg (by simpa using h), varS, if_neg h]
    rfl

def fixL : Nat → Nat → List UInt8
  | 0, _ => []
  | w + 1, n => UInt8.ofNat (n / 256 ^ w) :: fixL w n
theorem fixL_length (w n : Nat) : (fixL w n).length = w := by induction w with
  | zero => rfl
  | succ w ih => rw [fixL, List.length_cons, ih]
def fixS (n w : Int) : ByteArray := if (1 ≤ w ∧ w ≤ 7) ∧ 0 ≤ n ∧ n < 256 ^ w.toNat then mkS (fixL w.toNat n.toNat) else mkS []
theorem pow256_le {i : Nat} (h : i ≤ 7) : 256 ^ i ≤ 72057594037927936 := Nat.pow_le_pow_right (n := 256) (by omega) h
theorem pow_2_8 (i : Nat) : ((2 : Int) ^ (8 * i)) = ((256 ^ i : Nat) : Int) := by
  rw [show (256 : Nat) = 2 ^ 8 from rfl, ← Nat.pow_mul]
  simp

theorem impl_Fixed_l0 (n : Nat) (m : Nat) : ∀ (acc : List UInt8), m ≤ 7 → acc.length + m ≤ 100 → Ev (fun k => impl_Fixed.l0 k (n : Int) (ints acc) ((m : Int) - 1)) (mkS (acc ++ fixL m n)) := by
  induction m with
  | zero =>
    intro acc _ hl
    refine evi (1) fun k hk => ?_
    obtain ⟨k, rfl⟩ : ∃ m, k = m + 1 := ⟨k - 1, by omega⟩
    simp only [impl_Fixed.l0]
    rw [if_neg (by omega), strOfNums_ints, fixL, List.append_nil]
  | succ m ih =>
    intro acc hm hl
    obtain ⟨K, hK⟩ := evx (ih (acc ++ [UInt8.ofNat (n / 256 ^ m)]) (by omega) (by rw [List.length_append, List.length_singleton]; omega))
    refine evi (K + 1) fun k hk => ?_
    obtain ⟨k, rfl⟩ : ∃ m, k = m + 1 := ⟨k - 1, by omega⟩
    simp only [impl_Fixed.l0]
    rw [show (((m + 1 : Nat) : Int) - 1) = (m : Int) from by omega]
    rw [if_pos (by omega), w64 (x := 8 * (m : Int)) (by omega) (by omega), if_pos (by omega), if_pos (by rw [ints_length]; omega), shr_i64 (n := 8 * m) (by simp) (by omega), pow_2_8, w64 (by omega) (by omega), ints_one (n / 256 ^ m) _ (by rw [← Int.natCast_ediv]; omega), ints_append, hK k (by omega), fixL, List.append_assoc]
    rfl
theorem impl_Fixed_ev (n w : Int) : Ev (fun k => impl_Fixed.f k n w) (fixS n w) := by
  by_cases hw : 1 ≤ w ∧ w ≤ 7
  · obtain ⟨m, rfl⟩ := Int.eq_ofNat_of_zero_le (show 0 ≤ w by omega)
    have hp := pow256_le (i := m) (by omega)
    have hp0 : 0 < 256 ^ m := Nat.pow_pos (by omega)
    have e1 : wrap64 (shl .i64 1 (wrap64 (8 * (m : Int))) - 1) = ((256 ^ m : Nat) : Int) - 1 := by
      rw [w64 (x := 8 * (m : Int)) (by omega) (by omega), shl_i64 (n := 8 * m) (by simp) (by omega), pow_2_8, Int.one_mul, w64 (x := ((256 ^ m : Nat) : Int)) (by omega) (by omega), w64 (by omega) (by omega)]
    have hcast : ((256 : Int) ^ m) = ((256 ^ m : Nat) : Int) := by simp
    by_cases hn : 0 ≤ n ∧ n < 256 ^ m
    · have hn2 := hn.2
      rw [hcast] at hn2
      obtain ⟨q, rfl⟩ := Int.eq_ofNat_of_zero_le hn.1
      obtain ⟨K, hK⟩ := evx (impl_Fixed_l0 q m [] (by omega) (by simp; omega))
      refine evi (K + 1) fun k hk => ?_
      obtain ⟨k, rfl⟩ : ∃ m, k = m + 1 := ⟨k - 1, by omega⟩
      unfold impl_Fixed.f
      rw [impl_in_f]
      simp only [Option.bind_some]
      rw [if_pos (by simpa using hw), if_pos (by rw [w64 (by omega) (by omega)]; omega), e1, impl_in_f]
      simp only [Option.bind_some, impl_Fixed.j0]
      rw [if_neg (by simp; omega), w64 (by omega) (by omega), ints_nil, hK k (by omega), fixS, if_pos ⟨hw, by simpa using hn⟩]
      simp
    · refine evi (1) fun k hk => ?_
      obtain ⟨k, rfl⟩ : ∃ m, k = m + 1 := ⟨k - 1, by omega⟩
      unfold impl_Fixed.f
      rw [impl_in_f]
      simp only [Option.bind_some]
      rw [if_pos (by simpa using hw), if_pos (by rw [w64 (by omega) (by omega)]; omega), e1, impl_in_f]
      simp only [Option.bind_some, impl_Fixed.j0]
      rw [hcast] at hn
      rw [if_pos (by simp only [Bool.not_eq_true', decide_eq_false_iff_not]; omega), fixS, if_neg (fun h => hn (by rw [← hcast]; simpa using h.2))]
      rfl
  · refine evi (1) fun k hk => ?_
    obtain ⟨k, rfl⟩ : ∃ m, k = m + 1 := ⟨k - 1, by omega⟩
    unfold impl_Fixed.f
    rw [impl_in_f]
    simp only [Option.bind_some, impl_Fixed.j0]
    rw [if_neg (by simpa using hw), if_pos trivial, fixS, if_neg (fun h => hw h.1)]
    rfl

theorem spec_Fixed_l0 (n : Nat) (w : Nat) (hw : w ≤ 7) (hn : n ≤ 9223372036854775807) (d : Nat) : ∀ (i : Nat), d + i = w → Ev (fun k => spec_Fixed.l0 k ((n / 256 ^ i : Nat) : Int) (w : Int) (mkS (fixL i n)) (i : Int)) (if n / 256 ^ w = 0 then mkS (fixL w n) else mkS []) := by
  induction d with
  | zero =>
    intro i hi
    obtain rfl : i = w := by omega
    refine evi (1) fun k hk => ?_
    obtain ⟨k, rfl⟩ : ∃ m, k = m + 1 := ⟨k - 1, by omega⟩
    simp only [spec_Fixed.l0]
    rw [if_neg (by omega)]
    by_cases h : n / 256 ^ i = 0
    · rw [if_neg (by rw [h]; omega), if_pos h]
    · rw [if_pos (by have : 0 < n / 256 ^ i := Nat.pos_of_ne_zero h; omega), if_neg h]
      rfl
  | succ d ih =>
    intro i hi
    obtain ⟨K, hK⟩ := evx (ih (i + 1) (by omega))
    refine evi (K + 1) fun k hk => ?_
    obtain ⟨k, rfl⟩ : ∃ m, k = m + 1 := ⟨k - 1, by omega⟩
    have hq : n / 256 ^ i ≤ n := Nat.div_le_self _ _
    have this := hK k (by omega)
    rw [fixL, Nat.pow_succ, ← Nat.div_div_eq_div_mul] at this
    generalize n / 256 ^ i = q at *
    simp only [spec_Fixed.l0, Option.bind_some]
    rw [if_pos (by omega), tmodp (by omega), tdivp (by omega), ints_one q _ (by omega), strOfNums_ints, if_pos (by rw [mkS_size, mkS_size, fixL_length]; simp; omega), mkS_append, w64 (by omega) (by omega), w64 (by omega) (by omega)]
    rw [show ((q : Int) / 256) = ((q / 256 : Nat) : Int) from by omega, show ((i : Int) + 1) = ((i + 1 : Nat) : Int) from by omega]
    exact this
theorem spec_Fixed_ev (n w : Int) (hn : n ≤ 9223372036854775807) : Ev (fun k => spec_Fixed.f k n w) (fixS n w) := by
  by_cases hw : 1 ≤ w ∧ w ≤ 7
  · by_cases h0 : n < 0
    · refine evi (1) fun k hk => ?_
      obtain ⟨k, rfl⟩ : ∃ m, k = m + 1 := ⟨k - 1, by omega⟩
      unfold spec_Fixed.f
      rw [spec_l1In_f]
      simp only [Option.bind_some, spec_Fixed.j0]
      rw [if_pos (by simpa using hw), if_pos (by simpa using h0), fixS, if_neg (fun h => by omega)]
      rfl
    · obtain ⟨m, rfl⟩ := Int.eq_ofNat_of_zero_le (show 0 ≤ w by omega)
      obtain ⟨q, rfl⟩ := Int.eq_ofNat_of_zero_le (show 0 ≤ n by omega)
      obtain ⟨K, hK⟩ := evx (spec_Fixed_l0 q m (by omega) (by omega) m 0 (by omega))
      refine evi (K + 1) fun k hk => ?_
      obtain ⟨k, rfl⟩ : ∃ m, k = m + 1 := ⟨k - 1, by omega⟩
      have hcast : ((256 : Int) ^ m) = ((256 ^ m : Nat) : Int) := by simp
      have hp0 : 0 < 256 ^ m := Nat.pow_pos (by omega)
      unfold spec_Fixed.f
      rw [spec_l1In_f]
      simp only [Option.bind_some, spec_Fixed.j0]
      rw [if_pos (by simpa using hw), if_neg (by simp), mkS_nil]
      have := hK k (by omega)
      rw [Nat.pow_zero, Nat.div_one] at this
      refine this.trans ?_
      rw [fixS]
      by_cases hlt : q < 256 ^ m
      · rw [if_pos (Nat.div_eq_of_lt hlt), if_pos ⟨hw, by omega, by rw [Int.toNat_natCast, hcast]; omega⟩, Int.toNat_natCast, Int.toNat_natCast]
      · rw [if_neg (by rw [Nat.div_eq_zero_iff]; omega), if_neg (fun h => hlt (by have := h.2.2; rw [Int.toNat_natCast, hcast] at this; omega))]
  · refine evi (1) fun k hk => ?_
    obtain ⟨k, rfl⟩ : ∃ m, k = m + 1 := ⟨k - 1, by omega⟩
    unfold spec_Fixed.f
    rw [spec_l1In_f]
    simp only [Option.bind_some, spec_Fixed.j0]
    rw [if_neg (by simpa using hw), if_pos trivial, fixS, if_neg (fun h => hw h.1)]
    rfl

def crcT (c : Nat) : Nat := if c % 2 = 1 then (c / 2) ^^^ 2197175160 else c / 2
def crcN : Nat → Nat → Nat
  | 0, c => c
  | n + 1, c => crcN n (crcT c)
def crcL (c : Nat) (l : List UInt8) : Nat := l.foldl (fun c b => crcN 8 (c ^^^ b.toNat)) c
def crcS (l : List UInt8) : Nat := 4294967295 - crcL 4294967295 l
theorem xor_lt32 {a b : Nat} (ha : a < 4294967296) (hb : b < 4294967296) : a ^^^ b < 4294967296 := Nat.xor_lt_two_pow (n := 32) ha hb
theorem crcT_lt {c : Nat} (h : c < 4294967296) : crcT c < 4294967296 := by
  unfold crcT
  split
  · exact xor_lt32 (by omega) (by omega)
  · omega
theorem crcN_lt (n : Nat) : ∀ c, c < 4294967296 → crcN n c < 4294967296 := by
  induction n with
  | zero => intro c h; exact h
  | succ n ih => intro c h; exact ih _ (crcT_lt h)
theorem crcS_lt (l : List UInt8) : crcS l < 4294967296 := by unfold crcS; omega
theorem bits_xor_nat (k : IntKind) (j : Nat) (hj : j ≤ k.bits) (hk : ∀ n : Int, 0 ≤ n → n < 2 ^ j → k.wrap n = n) (a b : Nat) (ha : a < 2 ^ j) (hb : b < 2 ^ j) : Go.bits .xor k a b = ((a ^^^ b : Nat) : Int) := by
  have hp : 2 ^ j ≤ 2 ^ k.bits := Nat.pow_le_pow_right (by decide) hj
  have ha' : a % 2 ^ k.bits = a := Nat.mod_eq_of_lt (Nat.lt_of_lt_of_le ha hp)
  have hb' : b % 2 ^ k.bits = b := Nat.mod_eq_of_lt (Nat.lt_of_lt_of_le hb hp)
  have cast : ∀ n : Nat, n < 2 ^ j → ((n : Nat) : Int) < 2 ^ j := fun n h => by exact_mod_cast h
  simp only [Go.bits, BitVec.ofInt_natCast, BitVec.toNat_xor, BitVec.toNat_ofNat, ha', hb']
  exact hk _ (Int.natCast_nonneg _) (cast _ (Nat.xor_lt_two_pow ha hb))
theorem xor_u32 {a b : Nat} (ha : a < 4294967296) (hb : b < 4294967296) : Go.bits .xor .u32 (a : Int) (b : Int) = ((a ^^^ b : Nat) : Int) :=
  bits_xor_nat .u32 32 (by decide) (fun n h0 h1 => by rw [IntKind.wrap_u32]; omega) a b ha hb
theorem xor_i64 {a b : Nat} (ha : a < 4294967296) (hb : b < 4294967296) : Go.bits .xor .i64 (a : Int) (b : Int) = ((a ^^^ b : Nat) : Int) :=
  bits_xor_nat .i64 32 (by decide) (fun n h0 h1 => by rw [IntKind.wrap_i64]; omega) a b ha hb
theorem and_u32_1 {a : Nat} (ha : a < 4294967296) : Go.bits .and .u32 (a : Int) 1 = ((a % 2 : Nat) : Int) := by
  have := (bits_nat .u32 32 (by decide) (fun n h0 h1 => by rw [IntKind.wrap_u32]; omega) a 1 ha (by decide)).1
  rw [Nat.and_one_is_mod] at this
  exact this
theorem not_u32 {a : Nat} (ha : a < 4294967296) : Go.bits .xor .u32 (IntKind.u32.max) (a : Int) = ((4294967295 - a : Nat) : Int) := by
  have e : IntKind.u32.max = ((4294967295 : Nat) : Int) := by decide
  rw [e, xor_u32 (by omega) ha]
  congr 1
  have h := BitVec.toNat_not (x := BitVec.ofNat 32 a)
  rw [← BitVec.allOnes_xor, BitVec.toNat_xor, BitVec.toNat_allOnes, BitVec.toNat_ofNat, Nat.mod_eq_of_lt ha] at h
  exact h

theorem impl_Crc_l1 (l : List UInt8) (i : Nat) (r : Int) (hi : i < 9000000000000000000) (d : Nat) : ∀ (j c : Nat), d + j = 8 → c < 4294967296 → Ev (fun k => impl_Crc.l0 k (mkS l) ((crcN d c : Nat) : Int) ((i + 1 : Nat) : Int)) r → Ev (fun k => impl_Crc.l1 k (mkS l) (c : Int) (i : Int) (j : Int)) r := by
  induction d with
  | zero =>
    intro j c hj hc h
    obtain ⟨K, hK⟩ := evx (h)
    refine evi (K + 1) fun k hk => ?_
    obtain ⟨k, rfl⟩ : ∃ m, k = m + 1 := ⟨k - 1, by omega⟩
    simp only [impl_Crc.l1]
    rw [if_neg (by omega), w64 (by omega) (by omega)]
    exact hK k (by omega)
  | succ d ih =>
    intro j c hj hc h
    obtain ⟨K, hK⟩ := evx (ih (j + 1) (crcT c) (by omega) (crcT_lt hc) h)
    refine evi (K + 1) fun k hk => ?_
    obtain ⟨k, rfl⟩ : ∃ m, k = m + 1 := ⟨k - 1, by omega⟩
    simp only [impl_Crc.l1]
    have hgo := hK k (by omega)
    rw [if_pos (by omega), and_u32_1 hc, w64 (by omega) (by omega), show ((j : Int) + 1) = ((j + 1 : Nat) : Int) from by omega]
    unfold crcT at hgo
    by_cases ho : c % 2 = 1
    · rw [if_pos ho] at hgo
      rw [if_pos (by omega), show ((c : Int) / 2) = ((c / 2 : Nat) : Int) from by omega, show (2197175160 : Int) = ((2197175160 : Nat) : Int) from rfl, xor_u32 (by omega) (by omega)]
      exact hgo
    · rw [if_neg ho] at hgo
      rw [if_neg (by omega), show ((c : Int) / 2) = ((c / 2 : Nat) : Int) from by omega]
      exact hgo
theorem impl_Crc_l0 (l : List UInt8) (hl : l.length < 9000000000000000000) (d : Nat) : ∀ (i c : Nat), d + i = l.length → c < 4294967296 → Ev (fun k => impl_Crc.l0 k (mkS l) (c : Int) (i : Int)) ((4294967295 - crcL c (l.drop i) : Nat) : Int) := by
  induction d with
  | zero =>
    intro i c hi hc
    refine evi (1) fun k hk => ?_
    obtain ⟨k, rfl⟩ : ∃ m, k = m + 1 := ⟨k - 1, by omega⟩
    simp only [impl_Crc.l0]
    rw [if_neg (by rw [mkS_size]; omega), not_u32 hc, w64 (by omega) (by omega), List.drop_of_length_le (by omega)]
    rfl
  | succ d ih =>
    intro i c hi hc
    have hlt : i < l.length := by omega
    have hx := (l[i]).toNat_lt
    have hc' : c ^^^ (l[i]).toNat < 4294967296 := xor_lt32 hc (by omega)
    obtain ⟨K, hK⟩ := evx (impl_Crc_l1 l i _ (by omega) 8 0 (c ^^^ (l[i]).toNat) rfl hc' (ih (i + 1) (crcN 8 (c ^^^ (l[i]).toNat)) (by omega) (crcN_lt 8 _ hc')))
    refine evi (K + 1) fun k hk => ?_
    obtain ⟨k, rfl⟩ : ∃ m, k = m + 1 := ⟨k - 1, by omega⟩
    simp only [impl_Crc.l0]
    rw [if_pos (by rw [mkS_size]; omega), if_pos (by omega), bt_mkS l i hlt, Int.emod_eq_of_lt (by omega) (by omega), xor_u32 hc (by omega), List.drop_eq_getElem_cons hlt]
    exact hK k (by omega)
theorem impl_Crc_ev (l : List UInt8) (hl : l.length < 9000000000000000000) : Ev (fun k => impl_Crc.f k (mkS l)) (crcS l : Int) := by
  have h := impl_Crc_l0 l hl l.length 0 4294967295 rfl (by omega)
  exact h

theorem spec_Crc_l1 (l : List UInt8) (i : Nat) (r : Int) (hi : i < 9000000000000000000) (d : Nat) : ∀ (j c : Nat), d + j = 8 → c < 4294967296 → Ev (fun k => spec_Crc.l0 k (mkS l) ((crcN d c : Nat) : Int) ((i + 1 : Nat) : Int)) r → Ev (fun k => spec_Crc.l1 k (mkS l) (c : Int) (i : Int) (j : Int)) r := by
  induction d with
  | zero =>
    intro j c hj hc h
    obtain ⟨K, hK⟩ := evx (h)
    refine evi (K + 1) fun k hk => ?_
    obtain ⟨k, rfl⟩ : ∃ m, k = m + 1 := ⟨k - 1, by omega⟩
    simp only [spec_Crc.l1]
    rw [if_neg (by omega), w64 (by omega) (by omega)]
    exact hK k (by omega)
  | succ d ih =>
    intro j c hj hc h
    obtain ⟨K, hK⟩ := evx (ih (j + 1) (crcT c) (by omega) (crcT_lt hc) h)
    refine evi (K + 1) fun k hk => ?_
    obtain ⟨k, rfl⟩ : ∃ m, k = m + 1 := ⟨k - 1, by omega⟩
    simp only [spec_Crc.l1]
    have hgo := hK k (by omega)
    rw [if_pos (by omega), tmodp (by omega), tdivp (by omega), w64 (x := (j : Int) + 1) (by omega) (by omega), w64 (x := (c : Int) / 2) (by omega) (by omega), show ((j : Int) + 1) = ((j + 1 : Nat) : Int) from by omega]
    unfold crcT at hgo
    by_cases ho : c % 2 = 1
    · rw [if_pos ho] at hgo
      rw [if_pos (by omega), show ((c : Int) / 2) = ((c / 2 : Nat) : Int) from by omega, show (2197175160 : Int) = ((2197175160 : Nat) : Int) from rfl, xor_i64 (by omega) (by omega)]
      exact hgo
    · rw [if_neg ho] at hgo
      rw [if_neg (by omega), show ((c : Int) / 2) = ((c / 2 : Nat) : Int) from by omega]
      exact hgo
theorem spec_Crc_l0 (l : List UInt8) (hl : l.length < 9000000000000000000) (d : Nat) : ∀ (i c : Nat), d + i = l.length → c < 4294967296 → Ev (fun k => spec_Crc.l0 k (mkS l) (c : Int) (i : Int)) ((4294967295 - crcL c (l.drop i) : Nat) : Int) := by
  induction d with
  | zero =>
    intro i c hi hc
    refine evi (1) fun k hk => ?_
    obtain ⟨k, rfl⟩ : ∃ m, k = m + 1 := ⟨k - 1, by omega⟩
    simp only [spec_Crc.l0]
    rw [if_neg (by rw [mkS_size]; omega), w64 (by omega) (by omega), List.drop_of_length_le (by omega)]
    congr 1
    show _ = ((4294967295 - c : Nat) : Int)
    omega
  | succ d ih =>
    intro i c hi hc
    have hlt : i < l.length := by omega
    have hx := (l[i]).toNat_lt
    have hc' : c ^^^ (l[i]).toNat < 4294967296 := xor_lt32 hc (by omega)
    obtain ⟨K, hK⟩ := evx (spec_Crc_l1 l i _ (by omega) 8 0 (c ^^^ (l[i]).toNat) rfl hc' (ih (i + 1) (crcN 8 (c ^^^ (l[i]).toNat)) (by omega) (crcN_lt 8 _ hc')))
    refine evi (K + 1) fun k hk => ?_
    obtain ⟨k, rfl⟩ : ∃ m, k = m + 1 := ⟨k - 1, by omega⟩
    simp only [spec_Crc.l0]
    rw [if_pos (by rw [mkS_size]; omega), if_pos (by omega), w64b, bt_mkS l i hlt, xor_i64 hc (by omega), List.drop_eq_getElem_cons hlt]
    exact hK k (by omega)
theorem spec_Crc_ev (l : List UInt8) (hl : l.length < 9000000000000000000) : Ev (fun k => spec_Crc.f k (mkS l)) (crcS l : Int) := by
  have h := spec_Crc_l0 l hl l.length 0 4294967295 rfl (by omega)
  exact h

/-- What a text begins with: a number, and how many bytes it has; at most f bytes; 'first': a zero byte may be all of it. -/
def rvF : Nat → Bool → List UInt8 → Option (Nat × Nat)
  | 0, _, _ => none
  | _ + 1, _, [] => none
  | f + 1, first, x :: t => if x.toNat < 128 then (if x.toNat = 0 ∧ first = false then none else some (x.toNat, 1)) else (rvF f false t).map fun p => (x.toNat % 128 + 128 * p.1, p.2 + 1)
def rv (l : List UInt8) : Option (Nat × Nat) := rvF 7 true l
/-- The number and how many bytes; two zeros where there is none. -/
def rvP (l : List UInt8) : Nat × Nat := (rv l).getD (0, 0)
theorem byte_ext {a b : UInt8} (h : a.toNat = b.toNat) : a = b := UInt8.toNat_inj.1 h
theorem ofNat_toNat_lt (n : Nat) (h : n < 256) : (UInt8.ofNat n).toNat = n := by simp; omega
theorem rvF_sound (f : Nat) : ∀ (first : Bool) (l : List UInt8) (n k : Nat), rvF f first l = some (n, k) → 0 < k ∧ k ≤ f ∧ k ≤ l.length ∧ l.take k = varL n ∧ n < 128 ^ f ∧ (first = false → n ≠ 0) := by
  induction f with
  | zero => intro first l n k h; simp [rvF] at h
  | succ f ih =>
    intro first l n k h
    cases l with
    | nil => simp [rvF] at h
    | cons x t =>
      rw [rvF] at h
      by_cases hx : x.toNat < 128
      · rw [if_pos hx] at h
        by_cases hz : x.toNat = 0 ∧ first = false
        · rw [if_pos hz] at h; cases h
        · rw [if_neg hz] at h
          injection h with h
          obtain ⟨rfl, rfl⟩ := Prod.mk.inj h
          have hp : 128 ≤ 128 ^ (f + 1) := by rw [Nat.pow_succ]; exact Nat.le_mul_of_pos_left _ (Nat.pow_pos (by omega))
          refine ⟨by omega, by omega, by simp, ?_, by omega, fun hf hn => hz ⟨hn, hf⟩⟩
          rw [varL_small hx]
          simp
      · rw [if_neg hx] at h
        obtain ⟨⟨n', k'⟩, hr, he⟩ := Option.map_eq_some_iff.1 h
        obtain ⟨rfl, rfl⟩ := Prod.mk.inj he
        obtain ⟨h1, h2, h3, h4, h5, h6⟩ := ih false t n' k' hr
        have hn' := h6 rfl
        have hb := x.toNat_lt
        simp only at *
        refine ⟨by omega, by omega, by simp only [List.length_cons]; omega, ?_, by rw [Nat.pow_succ]; omega, fun _ => by omega⟩
        rw [varL_big (by omega), List.take_succ_cons, h4]
        congr 1
        · apply byte_ext
          rw [ofNat_toNat_lt _ (by omega)]
          omega
        · congr 1
          omega
theorem rvF_complete (f : Nat) : ∀ (first : Bool) (n : Nat) (t : List UInt8), n < 128 ^ (f + 1) → (first = false → n ≠ 0) → rvF (f + 1) first (varL n ++ t) = some (n, (varL n).length) := by
  induction f with
  | zero =>
    intro first n t h h0
    have hn : n < 128 := by simpa using h
    rw [varL_small hn, List.singleton_append, rvF, ofNat_toNat_lt _ (by omega), if_pos hn, if_neg (fun hh => h0 hh.2 hh.1)]
    rfl
  | succ f ih =>
    intro first n t h h0
    by_cases hn : n < 128
    · rw [varL_small hn, List.singleton_append, rvF, ofNat_toNat_lt _ (by omega), if_pos hn, if_neg (fun hh => h0 hh.2 hh.1)]
      rfl
    · rw [varL_big hn, List.cons_append, rvF, ofNat_toNat_lt _ (by omega), if_neg (by omega)]
      rw [ih false (n / 128) t (by rw [Nat.div_lt_iff_lt_mul (by omega)]; rw [Nat.pow_succ] at h; exact h) (fun _ => by omega)]
      simp only [Option.map_some, List.length_cons]
      congr 2
      omega
theorem rv_sound {l : List UInt8} {n k : Nat} (h : rv l = some (n, k)) : 0 < k ∧ k ≤ 7 ∧ k ≤ l.length ∧ l.take k = varL n ∧ n ≤ 562949953421311 := by
  obtain ⟨h1, h2, h3, h4, h5, _⟩ := rvF_sound 7 true l n k h
  exact ⟨h1, h2, h3, h4, by omega⟩
theorem rv_complete {n : Nat} (t : List UInt8) (h : n ≤ 562949953421311) : rv (varL n ++ t) = some (n, (varL n).length) :=
  rvF_complete 6 true n t (by omega) (fun h => by cases h)
theorem rv_of_take {l : List UInt8} {n k : Nat} (hk : k ≤ l.length) (h : l.take k = varL n) (hn : n ≤ 562949953421311) : rv l = some (n, k) := by
  have e := rv_complete (l.drop k) hn
  rw [← h, List.take_append_drop, List.length_take] at e
  rw [e]
  congr 2
  omega
theorem rvP_none {l : List UInt8} (h : rv l = none) : rvP l = (0, 0) := by rw [rvP, h]; rfl
theorem rvP_some {l : List UInt8} {p : Nat × Nat} (h : rv l = some p) : rvP l = p := by rw [rvP, h]; rfl
/-- The number that a text's bytes tell. -/
def valL : List UInt8 → Nat
  | [] => 0
  | x :: t => x.toNat % 128 + 128 * valL t
theorem valL_lt (l : List UInt8) : valL l < 128 ^ l.length := by
  induction l with
  | nil => simp [valL]
  | cons x t ih => rw [valL, List.length_cons, Nat.pow_succ]; omega
theorem valL_varL (m : Nat) : ∀ n, n ≤ m → valL (varL n) = n := by
  induction m using Nat.strongRecOn with
  | ind m ih =>
  intro n hm
  by_cases h : n < 128
  · rw [varL_small h, valL, valL, ofNat_toNat_lt _ (by omega)]; omega
  · rw [varL_big h, valL, ih (n / 128) (by omega) _ (Nat.le_refl _), ofNat_toNat_lt _ (by omega)]; omega

def rvAdd (n i : Nat) : Option (Nat × Nat) → Int × Int
  | none => (0, 0)
  | some p => (((n + 128 ^ i * p.1 : Nat) : Int), ((i + p.2 : Nat) : Int))
theorem pow_2_7 (i : Nat) : ((2 : Int) ^ (7 * i)) = ((128 ^ i : Nat) : Int) := by
  rw [show (128 : Nat) = 2 ^ 7 from rfl, ← Nat.pow_mul]
  simp
theorem pow128_le {i : Nat} (h : i ≤ 6) : 128 ^ i ≤ 4398046511104 := Nat.pow_le_pow_right (n := 128) (by omega) h
theorem impl_ReadVar_l0 (l : List UInt8) (f : Nat) : ∀ (n i : Nat), f + i = 7 → n < 128 ^ i → Ev (fun k => impl_ReadVar.l0 k (mkS l) (n : Int) (i : Int)) (rvAdd n i (rvF f (decide (i = 0)) (l.drop i))) := by
  induction f with
  | zero =>
    intro n i hi hn
    refine evi (2) fun k hk => ?_
    obtain ⟨k, rfl⟩ : ∃ m, k = m + 2 := ⟨k - 2, by omega⟩
    simp only [impl_ReadVar.l0, impl_ReadVar.j1]
    rw [if_neg (by omega), if_neg (by decide)]
    rfl
  | succ f ih =>
    intro n i hi hn
    have hP := pow128_le (i := i) (by omega)
    by_cases hlt : i < l.length
    · have hx := (l[i]).toNat_lt
      have hd := List.drop_eq_getElem_cons hlt
      by_cases hx128 : (l[i]).toNat < 128
      · refine evi (2) fun k hk => ?_
        obtain ⟨k, rfl⟩ : ∃ m, k = m + 2 := ⟨k - 2, by omega⟩
        simp only [impl_ReadVar.l0, impl_ReadVar.j1]
        rw [if_pos (by omega), if_pos (by rw [mkS_size]; simpa using hlt), if_pos (by omega), if_pos (by rw [mkS_size]; simpa using hlt), if_pos (by rw [w64 (by omega) (by omega)]; omega), w64b, bt_mkS l i hlt, if_neg (by omega)]
        rw [tmodp (by omega), shl_i64 (n := 7 * i) (by rw [w64 (by omega) (by omega)]; simp) (by omega), pow_2_7, w64 (x := (i : Int) + 1) (by omega) (by omega)]
        have e : ((l[i].toNat : Int) % 128) = ((l[i].toNat : Nat) : Int) := by omega
        have hm : l[i].toNat * 128 ^ i ≤ 127 * 128 ^ i := Nat.mul_le_mul_right _ (by omega)
        have e2 : wrap64 ((n : Int) + wrap64 (((l[i].toNat : Int) % 128) * ((128 ^ i : Nat) : Int))) = ((n + 128 ^ i * l[i].toNat : Nat) : Int) := by
          rw [e, ← Int.natCast_mul, Nat.mul_comm (128 ^ i)]
          rw [w64 (x := ((l[i].toNat * 128 ^ i : Nat) : Int)) (by omega) (by omega), w64 (by omega) (by omega)]
          omega
        rw [e2, hd, rvF, if_pos hx128]
        by_cases hz : l[i].toNat = 0
        · rw [if_pos (by omega)]
          by_cases hi0 : i = 0
          · rw [if_neg (by omega), if_neg (by simp [hi0])]
            rfl
          · rw [if_pos (by omega), if_pos (by simp [hi0, hz])]
            rfl
        · rw [if_neg (by omega), if_neg (fun hh => hz hh.1)]
          rfl
      · have hm : (l[i].toNat % 128) * 128 ^ i ≤ 127 * 128 ^ i := Nat.mul_le_mul_right _ (by omega)
        obtain ⟨K, hK⟩ := evx (ih (n + 128 ^ i * (l[i].toNat % 128)) (i + 1) (by omega) (by rw [Nat.pow_succ, Nat.mul_comm (128 ^ i) (l[i].toNat % 128)]; omega))
        refine evi (K + 2) fun k hk => ?_
        obtain ⟨k, rfl⟩ : ∃ m, k = m + 2 := ⟨k - 2, by omega⟩
        simp only [impl_ReadVar.l0, impl_ReadVar.j1]
        rw [if_pos (by omega), if_pos (by rw [mkS_size]; simpa using hlt), if_pos (by omega), if_pos (by rw [mkS_size]; simpa using hlt), if_pos (by rw [w64 (by omega) (by omega)]; omega), w64b, bt_mkS l i hlt, if_pos (by omega)]
        rw [tmodp (by omega), shl_i64 (n := 7 * i) (by rw [w64 (by omega) (by omega)]; simp) (by omega), pow_2_7, w64 (x := (i : Int) + 1) (by omega) (by omega)]
        have e2 : wrap64 ((n : Int) + wrap64 (((l[i].toNat : Int) % 128) * ((128 ^ i : Nat) : Int))) = ((n + 128 ^ i * (l[i].toNat % 128) : Nat) : Int) := by
          rw [show ((l[i].toNat : Int) % 128) = ((l[i].toNat % 128 : Nat) : Int) from by omega, ← Int.natCast_mul, Nat.mul_comm (128 ^ i)]
          rw [w64 (x := ((l[i].toNat % 128 * 128 ^ i : Nat) : Int)) (by omega) (by omega), w64 (by omega) (by omega)]
          omega
        rw [e2, show ((i : Int) + 1) = ((i + 1 : Nat) : Int) from by omega, hK k (by omega), hd, rvF, if_neg hx128]
        have hdec : decide (i + 1 = 0) = false := by simp
        rw [hdec]
        cases rvF f false (l.drop (i + 1)) with
        | none => rfl
        | some p =>
          simp only [Option.map_some, rvAdd]
          congr 2
          · rw [Nat.pow_succ, Nat.mul_add, Nat.mul_assoc, Nat.add_assoc]
          · omega
    · refine evi (2) fun k hk => ?_
      obtain ⟨k, rfl⟩ : ∃ m, k = m + 2 := ⟨k - 2, by omega⟩
      simp only [impl_ReadVar.l0, impl_ReadVar.j1]
      rw [if_pos (by omega), if_neg (by rw [mkS_size]; simpa using hlt), List.drop_of_length_le (by omega)]
      rfl
/-- A number and how many bytes it has, as Go's two results. -/
def rvI (l : List UInt8) : Int × Int := (((rvP l).1 : Int), ((rvP l).2 : Int))
theorem rvAdd_rvI (l : List UInt8) : rvAdd 0 0 (rv l) = rvI l := by
  unfold rvI rvP
  cases rv l with
  | none => rfl
  | some p => simp [rvAdd]
theorem impl_ReadVar_ev (l : List UInt8) : Ev (fun k => impl_ReadVar.f k (mkS l)) (rvI l) := by
  have h := impl_ReadVar_l0 l 7 0 0 rfl (by simp)
  rw [List.drop_zero] at h
  rw [← rvAdd_rvI]
  exact h

theorem spec_ReadVar_l1 (l : List UInt8) (j : Nat) (hj : j ≤ l.length) (hj7 : j ≤ 7) (r : Int × Int) (hr : Ev (fun k => spec_ReadVar.l1 k (mkS l) (j : Int) ((valL (l.take j) : Nat) : Int) (-1)) r) :
    ∀ m, m ≤ j → Ev (fun k => spec_ReadVar.l1 k (mkS l) (j : Int) ((valL ((l.take j).drop m) : Nat) : Int) ((m : Int) - 1)) r := by
  intro m
  induction m with
  | zero => intro _; simpa using hr
  | succ m ih =>
    intro hm
    obtain ⟨K, hK⟩ := evx (ih (by omega))
    refine evi (K + 1) fun k hk => ?_
    obtain ⟨k, rfl⟩ : ∃ m, k = m + 1 := ⟨k - 1, by omega⟩
    have hlt : m < l.length := by omega
    have hd : (l.take j).drop m = l[m] :: (l.take j).drop (m + 1) := by
      rw [List.drop_eq_getElem_cons (by rw [List.length_take]; omega)]
      congr 1
      simp
    have hv := valL_lt ((l.take j).drop (m + 1))
    have hp : 128 ^ ((l.take j).drop (m + 1)).length ≤ 128 ^ 6 := Nat.pow_le_pow_right (by omega) (by rw [List.length_drop, List.length_take]; omega)
    have hx := (l[m]).toNat_lt
    simp only [spec_ReadVar.l1]
    rw [show (((m + 1 : Nat) : Int) - 1) = (m : Int) from by omega]
    rw [if_pos (by omega), if_pos (by omega), if_pos (by rw [mkS_size]; omega), w64b, bt_mkS l m hlt, tmodp (by omega), w64 (x := (m : Int) - 1) (by omega) (by omega)]
    rw [w64 (x := ((valL ((l.take j).drop (m + 1)) : Nat) : Int) * 128) (by omega) (by omega), w64 (by omega) (by omega)]
    have := hK k (by omega)
    rw [hd, valL] at this
    rw [← this]
    congr 1
    omega
theorem spec_ReadVar_l0 (l : List UInt8) (hl : l.length ≤ 9000000000000000000) (f : Nat) : ∀ (j : Nat), f + j = 8 → 1 ≤ j → (∀ i, 1 ≤ i → i < j → i ≤ l.length → varL (valL (l.take i)) ≠ l.take i) → Ev (fun k => spec_ReadVar.l0 k (mkS l) (j : Int)) (rvI l) := by
  have stop : ∀ j, (∀ i, 1 ≤ i → i < j → i ≤ l.length → varL (valL (l.take i)) ≠ l.take i) → (j = 8 ∨ l.length < j) → rvI l = (0, 0) := by
    intro j hno hj
    unfold rvI
    cases hr : rv l with
    | none => rw [rvP_none hr]; rfl
    | some p =>
      obtain ⟨n, k⟩ := p
      obtain ⟨h1, h2, h3, h4, h5⟩ := rv_sound hr
      refine absurd ?_ (hno k h1 (by omega) h3)
      rw [h4, valL_varL n n (Nat.le_refl _)]
  induction f with
  | zero =>
    intro j hf h1 hno
    rw [stop j hno (.inl (by omega))]
    refine evi (2) fun k hk => ?_
    obtain ⟨k, rfl⟩ : ∃ m, k = m + 2 := ⟨k - 2, by omega⟩
    simp only [spec_ReadVar.l0, spec_ReadVar.j1]
    rw [if_neg (by omega), if_neg (by decide)]
  | succ f ih =>
    intro j hf h1 hno
    by_cases hj : j ≤ l.length
    · have hv := valL_lt (l.take j)
      rw [List.length_take, Nat.min_eq_left hj] at hv
      have hp : 128 ^ j ≤ 128 ^ 7 := Nat.pow_le_pow_right (by omega) (by omega)
      have hend : Ev (fun k => spec_ReadVar.l1 k (mkS l) (j : Int) ((valL (l.take j) : Nat) : Int) (-1)) (rvI l) := by
        obtain ⟨K1, hK1⟩ := evx (spec_Var_ev ((valL (l.take j) : Nat) : Int))
        by_cases heq : varL (valL (l.take j)) = l.take j
        · refine evi (K1 + 1) fun k hk => ?_
          obtain ⟨k, rfl⟩ : ∃ m, k = m + 1 := ⟨k - 1, by omega⟩
          simp only [spec_ReadVar.l1]
          rw [if_neg (by omega), hK1 k (by omega)]
          simp only [Option.bind_some]
          rw [if_pos (by omega), if_pos (by rw [mkS_size]; omega), varS_nat (by omega), mkS_extract, Int.toNat_natCast, List.drop_zero, Nat.sub_zero, mkS_toList, mkS_toList, if_pos heq]
          rw [rvI, rvP_some (rv_of_take hj heq.symm (by omega))]
        · obtain ⟨K2, hK2⟩ := evx <| ih (j + 1) (by omega) (by omega) (fun i h1 h2 h3 => by
            by_cases hij : i = j
            · subst hij; exact heq
            · exact hno i h1 (by omega) h3)
          refine evi (K1 + K2 + 1) fun k hk => ?_
          obtain ⟨k, rfl⟩ : ∃ m, k = m + 1 := ⟨k - 1, by omega⟩
          simp only [spec_ReadVar.l1]
          rw [if_neg (by omega), hK1 k (by omega)]
          simp only [Option.bind_some]
          rw [if_pos (by omega), if_pos (by rw [mkS_size]; omega), varS_nat (by omega), mkS_extract, Int.toNat_natCast, List.drop_zero, Nat.sub_zero, mkS_toList, mkS_toList, if_neg heq, w64 (by omega) (by omega)]
          have := hK2 k (by omega)
          rw [show ((j + 1 : Nat) : Int) = (j : Int) + 1 from by omega] at this
          exact this
      obtain ⟨K, hK⟩ := evx (spec_ReadVar_l1 l j hj (by omega) _ hend j (Nat.le_refl _))
      refine evi (K + 2) fun k hk => ?_
      obtain ⟨k, rfl⟩ : ∃ m, k = m + 2 := ⟨k - 2, by omega⟩
      simp only [spec_ReadVar.l0, spec_ReadVar.j1]
      rw [if_pos (by omega), if_pos (by rw [mkS_size]; simpa using hj), w64 (by omega) (by omega)]
      have := hK k (by omega)
      rw [List.drop_of_length_le (by rw [List.length_take]; omega)] at this
      exact this
    · rw [stop j hno (.inr (by omega))]
      refine evi (2) fun k hk => ?_
      obtain ⟨k, rfl⟩ : ∃ m, k = m + 2 := ⟨k - 2, by omega⟩
      simp only [spec_ReadVar.l0, spec_ReadVar.j1]
      rw [if_pos (by omega), if_neg (by rw [mkS_size]; simpa using hj)]
theorem spec_ReadVar_ev (l : List UInt8) (hl : l.length ≤ 9000000000000000000) : Ev (fun k => spec_ReadVar.f k (mkS l)) (rvI l) :=
  spec_ReadVar_l0 l hl 7 1 rfl (Nat.le_refl _) (fun i h1 h2 _ => by omega)

def varB (n : Int) : List UInt8 := if 0 ≤ n ∧ n ≤ 562949953421311 then varL n.toNat else []
theorem varS_B (n : Int) : varS n = mkS (varB n) := by unfold varS varB; split <;> rfl
theorem varB_length (n : Int) : (varB n).length ≤ 7 := by
  unfold varB
  split
  · exact varL_len7 (by omega)
  · simp
theorem varB_nat {n : Nat} (h : n ≤ 562949953421311) : varB (n : Int) = varL n := by unfold varB; rw [if_pos ⟨by omega, by omega⟩, Int.toNat_natCast]
def varsL (l : List Int) : List UInt8 := l.flatMap varB
theorem varsL_cons (a : Int) (t : List Int) : varsL (a :: t) = varB a ++ varsL t := by simp [varsL]
theorem impl_textOf_ev (l : List UInt8) (hl : l.length ≤ 562949953421311) : Ev (fun k => impl_textOf.f k (mkS l)) (mkS (textL l)) := by
  obtain ⟨K, hK⟩ := evx (impl_Var_ev (l.length : Int))
  have h7 := varL_len7 hl
  refine evi (K) fun k hk => ?_
  unfold impl_textOf.f
  rw [mkS_size, hK k hk, varS_nat hl]
  simp only [Option.bind_some]
  rw [if_pos (by rw [mkS_size]; omega), mkS_append]
  rfl

/-- A number: what it is, what is left, and whether it failed. -/
def numL (s : List UInt8) (bad : Bool) : Nat × List UInt8 × Bool :=
  match rv s with
  | none => (0, s, true)
  | some p => if bad = true then (0, s, true) else (p.1, s.drop p.2, false)
theorem numL_sound {s s' : List UInt8} {bad : Bool} {n : Nat} (h : numL s bad = (n, s', false)) : bad = false ∧ s = varL n ++ s' ∧ n ≤ 562949953421311 := by
  unfold numL at h
  cases hr : rv s with
  | none => rw [hr] at h; simp at h
  | some p =>
    obtain ⟨m, k⟩ := p
    rw [hr] at h
    cases bad with
    | true => simp at h
    | false =>
      simp only [Bool.false_eq_true, if_false, Prod.mk.injEq] at h
      obtain ⟨rfl, rfl, _⟩ := h
      obtain ⟨p1, p2, p3, p4, p5⟩ := rv_sound hr
      refine ⟨rfl, ?_, p5⟩
      rw [← p4, List.take_append_drop]
theorem numL_var {n : Nat} (t : List UInt8) (h : n ≤ 562949953421311) : numL (varL n ++ t) false = (n, t, false) := by
  unfold numL
  rw [rv_complete t h]
  simp
theorem numL_len (s : List UInt8) (bad : Bool) : (numL s bad).2.1.length ≤ s.length := by
  unfold numL
  split
  · exact Nat.le_refl _
  · split
    · exact Nat.le_refl _
    · simp only [List.length_drop]; omega
theorem numL_le (s : List UInt8) (bad : Bool) : (numL s bad).1 ≤ 562949953421311 := by
  unfold numL
  split
  · simp
  · rename_i p hp
    split
    · simp
    · obtain ⟨m, k⟩ := p
      exact (rv_sound hp).2.2.2.2
theorem mkS_drop (l : List UInt8) (i : Nat) : (mkS l).extract i (mkS l).size = mkS (l.drop i) := by rw [mkS_extract, mkS_size, List.take_of_length_le (by rw [List.length_drop]; omega)]
theorem impl_scanner_num_ev (s : List UInt8) (b : Bool) : Ev (fun k => impl_scanner_num.f k (mkS s) b) (((numL s b).1 : Int), mkS (numL s b).2.1, (numL s b).2.2) := by
  obtain ⟨K, hK⟩ := evx (impl_ReadVar_ev s)
  refine evi (K) fun k hk => ?_
  unfold impl_scanner_num.f
  rw [hK k hk]
  simp only [Option.bind_some]
  unfold numL rvI
  cases hr : rv s with
  | none => rw [rvP_none hr]; cases b <;> simp
  | some p =>
    obtain ⟨n, j⟩ := p
    obtain ⟨p1, p2, p3, p4, p5⟩ := rv_sound hr
    rw [rvP_some hr]
    simp only
    cases b with
    | true => rw [if_pos rfl, if_pos rfl]; rfl
    | false => rw [if_neg (by simp), if_neg (by omega), if_pos (by omega), if_pos (by rw [mkS_size]; omega), if_neg (by simp), Int.toNat_natCast, mkS_drop]
def frameL (l : List UInt8) : List UInt8 := if l.length ≤ 200 then fixL 4 (crcS (textL l)) ++ textL l else []
/-- What a frame holds, and how many bytes it has; nothing and 0 where there is none. -/
def unframeL (l : List UInt8) : List UInt8 × Nat :=
  match rv (l.drop 4) with
  | none => ([], 0)
  | some (n, k) => if n ≤ 200 ∧ 4 + k + n ≤ l.length ∧ frameL ((l.drop (4 + k)).take n) = l.take (4 + k + n) then ((l.drop (4 + k)).take n, 4 + k + n) else ([], 0)
theorem fixS_crc (l : List UInt8) : fixS (crcS l : Int) 4 = mkS (fixL 4 (crcS l)) := by
  have := crcS_lt l
  unfold fixS
  rw [if_pos ⟨by omega, by omega, by have e : (256 : Int) ^ (4 : Int).toNat = 4294967296 := by decide
                                     rw [e]; omega⟩, Int.toNat_natCast]
  rfl
theorem frameL_length {l : List UInt8} (h : l.length ≤ 200) : (frameL l).length = 4 + (varL l.length).length + l.length := by
  unfold frameL textL
  rw [if_pos h, List.length_append, fixL_length, List.length_append]
  omega
theorem unframe_frame {l : List UInt8} (t : List UInt8) (h : l.length ≤ 200) : unframeL (frameL l ++ t) = (l, (frameL l).length) := by
  have hv := varL_len7 (n := l.length) (by omega)
  have hfl := frameL_length h
  have e : frameL l = fixL 4 (crcS (textL l)) ++ (varL l.length ++ l) := by unfold frameL textL; rw [if_pos h]
  have hd4 : (frameL l ++ t).drop 4 = varL l.length ++ (l ++ t) := by
    rw [e, List.append_assoc, List.append_assoc]
    exact List.drop_left' (fixL_length 4 _)
  have hdk : (frameL l ++ t).drop (4 + (varL l.length).length) = l ++ t := by
    rw [← List.drop_drop, hd4]
    exact List.drop_left
  unfold unframeL
  rw [hd4, rv_complete _ (by omega)]
  simp only
  rw [hdk, List.take_left, ← hfl, List.take_left, if_pos ⟨h, by rw [List.length_append]; omega, rfl⟩]
theorem unframe_sound {l t : List UInt8} {n : Nat} (h : unframeL l = (t, n)) (hn : n ≠ 0) : t.length ≤ 200 ∧ n = (frameL t).length ∧ n ≤ l.length ∧ l.take n = frameL t := by
  unfold unframeL at h
  cases hr : rv (l.drop 4) with
  | none => rw [hr] at h; simp only [Prod.mk.injEq] at h; omega
  | some p =>
    obtain ⟨m, k⟩ := p
    rw [hr] at h
    simp only at h
    split at h
    · rename_i hc
      obtain ⟨rfl, rfl⟩ := Prod.mk.inj h
      obtain ⟨h1, h2, h3⟩ := hc
      have hl : ((l.drop (4 + k)).take m).length = m := by rw [List.length_take, List.length_drop]; omega
      refine ⟨by omega, ?_, h2, h3.symm⟩
      rw [h3, List.length_take]
      omega
    · simp only [Prod.mk.injEq] at h; omega
def unframeI (l : List UInt8) : ByteArray × Int := (mkS (unframeL l).1, ((unframeL l).2 : Int))

theorem impl_Frame_ev (l : List UInt8) : Ev (fun k => impl_Frame.f k (mkS l)) (mkS (frameL l)) := by
  by_cases h : l.length ≤ 200
  · have ht := textL_length l (by omega)
    obtain ⟨K1, h1⟩ := evx (impl_textOf_ev l (by omega))
    obtain ⟨K2, h2⟩ := evx (impl_Crc_ev (textL l) (by omega))
    obtain ⟨K3, h3⟩ := evx (impl_Fixed_ev (crcS (textL l) : Int) 4)
    refine evi (K1 + K2 + K3) fun k hk => ?_
    unfold impl_Frame.f
    rw [if_neg (by rw [mkS_size]; omega), h1 k (by omega)]
    simp only [Option.bind_some]
    rw [h2 k (by omega)]
    simp only [Option.bind_some]
    rw [h3 k (by omega), fixS_crc]
    simp only [Option.bind_some]
    rw [if_pos (by rw [mkS_size, mkS_size, fixL_length]; omega), mkS_append, frameL, if_pos h]
  · refine evi (0) fun k hk => ?_
    unfold impl_Frame.f
    rw [if_pos (by rw [mkS_size]; omega), frameL, if_neg h]
    rfl

theorem spec_Frame_ev (l : List UInt8) : Ev (fun k => spec_Frame.f k (mkS l)) (mkS (frameL l)) := by
  by_cases h : l.length ≤ 200
  · have ht := textL_length l (by omega)
    obtain ⟨K1, h1⟩ := evx (spec_Var_ev (l.length : Int))
    obtain ⟨K2, h2⟩ := evx (spec_Crc_ev (textL l) (by omega))
    obtain ⟨K3, h3⟩ := evx (spec_Fixed_ev (crcS (textL l) : Int) 4 (by have := crcS_lt (textL l); omega))
    have h7 := varL_len7 (n := l.length) (by omega)
    refine evi (K1 + K2 + K3) fun k hk => ?_
    unfold spec_Frame.f
    rw [if_neg (by rw [mkS_size]; omega), mkS_size, h1 k (by omega), varS_nat (by omega)]
    simp only [Option.bind_some]
    rw [if_pos (by rw [mkS_size]; omega), mkS_append, show varL l.length ++ l = textL l from rfl, h2 k (by omega)]
    simp only [Option.bind_some]
    rw [h3 k (by omega), fixS_crc]
    simp only [Option.bind_some]
    rw [if_pos (by rw [mkS_size, mkS_size, fixL_length]; omega), mkS_append, frameL, if_pos h]
  · refine evi (0) fun k hk => ?_
    unfold spec_Frame.f
    rw [if_pos (by rw [mkS_size]; omega), frameL, if_neg h]
    rfl

theorem impl_Unframe_ev (l : List UInt8) (hl : l.length ≤ 562949953421311) : Ev (fun k => impl_Unframe.f k (mkS l)) (unframeI l) := by
  by_cases h4 : l.length < 4
  · refine evi (0) fun k hk => ?_
    unfold impl_Unframe.f
    rw [if_pos (by rw [mkS_size]; omega)]
    unfold unframeI unframeL
    have hr : rv (l.drop 4) = none := by rw [List.drop_of_length_le (by omega)]; rfl
    rw [hr]
    rfl
  · obtain ⟨K1, h1⟩ := evx (impl_ReadVar_ev (l.drop 4))
    have hd : (mkS l).extract 4 (mkS l).size = mkS (l.drop 4) := by
      rw [mkS_extract, mkS_size, List.take_of_length_le (by rw [List.length_drop]; omega)]
    have e4 : (4 : Int) ≤ ((mkS l).size : Int) := by rw [mkS_size]; omega
    cases hr : rv (l.drop 4) with
    | none =>
      refine evi (K1 + 1) fun k hk => ?_
      obtain ⟨k, rfl⟩ : ∃ m, k = m + 1 := ⟨k - 1, by omega⟩
      unfold impl_Unframe.f
      rw [if_neg (by rw [mkS_size]; omega), if_pos e4, hd, h1 _ (by omega)]
      simp only [Option.bind_some, impl_Unframe.j0]
      unfold rvI unframeI unframeL
      rw [rvP_none hr, hr]
      rfl
    | some p =>
      obtain ⟨n, j⟩ := p
      obtain ⟨p1, p2, p3, p4, p5⟩ := rv_sound hr
      rw [List.length_drop] at p3
      have e2 : rvI (l.drop 4) = ((n : Int), (j : Int)) := by unfold rvI; rw [rvP_some hr]
      have eu : unframeL l = if n ≤ 200 ∧ 4 + j + n ≤ l.length ∧ frameL ((l.drop (4 + j)).take n) = l.take (4 + j + n) then ((l.drop (4 + j)).take n, 4 + j + n) else ([], 0) := by
        unfold unframeL
        rw [hr]
      by_cases hn : n ≤ 200
      · by_cases hl2 : 4 + j + n ≤ l.length
        · obtain ⟨K2, h2⟩ := evx (impl_Frame_ev ((l.drop (4 + j)).take n))
          refine evi (K1 + K2 + 1) fun k hk => ?_
          obtain ⟨k, rfl⟩ : ∃ m, k = m + 1 := ⟨k - 1, by omega⟩
          unfold impl_Unframe.f
          rw [if_neg (by rw [mkS_size]; omega), if_pos e4, hd, h1 _ (by omega), e2]
          simp only [Option.bind_some, impl_Unframe.j0]
          rw [if_neg (by omega), if_neg (by omega), w64 (x := ((mkS l).size : Int) - 4) (by rw [mkS_size]; omega) (by rw [mkS_size]; omega), w64 (x := ((mkS l).size : Int) - 4 - (j : Int)) (by rw [mkS_size]; omega) (by rw [mkS_size]; omega)]
          rw [if_neg (by rw [mkS_size]; simp; omega), w64 (x := 4 + (j : Int)) (by omega) (by omega), w64 (x := 4 + (j : Int) + (n : Int)) (by omega) (by omega)]
          rw [show (4 + (j : Int)) = ((4 + j : Nat) : Int) from by omega, show (((4 + j : Nat) : Int) + (n : Int)) = ((4 + j + n : Nat) : Int) from by omega]
          rw [if_pos (by omega), if_pos (by omega), if_pos (by rw [mkS_size]; omega)]
          rw [Int.toNat_natCast, Int.toNat_natCast, mkS_extract, mkS_extract, List.drop_zero, Nat.sub_zero, show 4 + j + n - (4 + j) = n from by omega]
          rw [h2 _ (by omega)]
          simp only [Option.bind_some, mkS_toList]
          unfold unframeI
          rw [eu]
          by_cases hf : frameL ((l.drop (4 + j)).take n) = l.take (4 + j + n)
          · rw [if_pos (by omega), if_pos hf]
            rw [if_pos ⟨hn, hl2, hf⟩]
          · rw [if_pos (by omega), if_neg hf]
            rw [if_neg (fun hh => hf hh.2.2)]
            rfl
        · refine evi (K1 + 1) fun k hk => ?_
          obtain ⟨k, rfl⟩ : ∃ m, k = m + 1 := ⟨k - 1, by omega⟩
          unfold impl_Unframe.f
          rw [if_neg (by rw [mkS_size]; omega), if_pos e4, hd, h1 _ (by omega), e2]
          simp only [Option.bind_some, impl_Unframe.j0]
          rw [if_neg (by omega), if_neg (by omega), w64 (x := ((mkS l).size : Int) - 4) (by rw [mkS_size]; omega) (by rw [mkS_size]; omega), w64 (x := ((mkS l).size : Int) - 4 - (j : Int)) (by rw [mkS_size]; omega) (by rw [mkS_size]; omega)]
          rw [if_pos (by rw [mkS_size]; simp; omega)]
          unfold unframeI
          rw [eu, if_neg (fun hh => hl2 hh.2.1)]
          rfl
      · refine evi (K1 + 1) fun k hk => ?_
        obtain ⟨k, rfl⟩ : ∃ m, k = m + 1 := ⟨k - 1, by omega⟩
        unfold impl_Unframe.f
        rw [if_neg (by rw [mkS_size]; omega), if_pos e4, hd, h1 _ (by omega), e2]
        simp only [Option.bind_some, impl_Unframe.j0]
        rw [if_neg (by omega), if_pos (by omega), if_pos trivial]
        unfold unframeI
        rw [eu, if_neg (fun hh => hn hh.1)]
        rfl

theorem spec_Unframe_ev (l : List UInt8) (hl : l.length ≤ 562949953421311) : Ev (fun k => spec_Unframe.f k (mkS l)) (unframeI l) := by
  by_cases h4 : l.length < 5
  · refine evi (0) fun k hk => ?_
    unfold spec_Unframe.f
    rw [if_pos (by rw [mkS_size]; omega)]
    unfold unframeI unframeL
    have hr : rv (l.drop 4) = none := by rw [List.drop_of_length_le (by omega)]; rfl
    rw [hr]
    rfl
  · obtain ⟨K1, h1⟩ := evx (spec_ReadVar_ev (l.drop 4) (by rw [List.length_drop]; omega))
    have hd : (mkS l).extract 4 (mkS l).size = mkS (l.drop 4) := by
      rw [mkS_extract, mkS_size, List.take_of_length_le (by rw [List.length_drop]; omega)]
    have e4 : (4 : Int) ≤ ((mkS l).size : Int) := by rw [mkS_size]; omega
    cases hr : rv (l.drop 4) with
    | none =>
      refine evi (K1 + 1) fun k hk => ?_
      obtain ⟨k, rfl⟩ : ∃ m, k = m + 1 := ⟨k - 1, by omega⟩
      unfold spec_Unframe.f
      rw [if_neg (by rw [mkS_size]; omega), if_pos e4, hd, h1 _ (by omega)]
      simp only [Option.bind_some, spec_Unframe.j0]
      unfold rvI unframeI unframeL
      rw [rvP_none hr, hr]
      rfl
    | some p =>
      obtain ⟨n, j⟩ := p
      obtain ⟨p1, p2, p3, p4, p5⟩ := rv_sound hr
      rw [List.length_drop] at p3
      have e2 : rvI (l.drop 4) = ((n : Int), (j : Int)) := by unfold rvI; rw [rvP_some hr]
      have eu : unframeL l = if n ≤ 200 ∧ 4 + j + n ≤ l.length ∧ frameL ((l.drop (4 + j)).take n) = l.take (4 + j + n) then ((l.drop (4 + j)).take n, 4 + j + n) else ([], 0) := by
        unfold unframeL
        rw [hr]
      by_cases hn : n ≤ 200
      · by_cases hl2 : 4 + j + n ≤ l.length
        · obtain ⟨K2, h2⟩ := evx (spec_Frame_ev ((l.drop (4 + j)).take n))
          refine evi (K1 + K2 + 1) fun k hk => ?_
          obtain ⟨k, rfl⟩ : ∃ m, k = m + 1 := ⟨k - 1, by omega⟩
          unfold spec_Unframe.f
          rw [if_neg (by rw [mkS_size]; omega), if_pos e4, hd, h1 _ (by omega), e2]
          simp only [Option.bind_some, spec_Unframe.j0]
          rw [if_neg (by omega), if_neg (by omega), w64 (x := ((mkS l).size : Int) - 4) (by rw [mkS_size]; omega) (by rw [mkS_size]; omega), w64 (x := ((mkS l).size : Int) - 4 - (j : Int)) (by rw [mkS_size]; omega) (by rw [mkS_size]; omega)]
          rw [if_neg (by rw [mkS_size]; simp; omega), w64 (x := 4 + (j : Int)) (by omega) (by omega), w64 (x := 4 + (j : Int) + (n : Int)) (by omega) (by omega)]
          rw [show (4 + (j : Int)) = ((4 + j : Nat) : Int) from by omega, show (((4 + j : Nat) : Int) + (n : Int)) = ((4 + j + n : Nat) : Int) from by omega]
          rw [if_pos (by omega), if_pos (by omega), if_pos (by rw [mkS_size]; omega)]
          rw [Int.toNat_natCast, Int.toNat_natCast, mkS_extract, mkS_extract, List.drop_zero, Nat.sub_zero, show 4 + j + n - (4 + j) = n from by omega]
          rw [if_pos (by omega), h2 _ (by omega)]
          simp only [Option.bind_some, mkS_toList]
          unfold unframeI
          rw [eu]
          by_cases hf : frameL ((l.drop (4 + j)).take n) = l.take (4 + j + n)
          · rw [if_pos hf.symm]
            rw [if_pos ⟨hn, hl2, hf⟩]
          · rw [if_neg (fun hh => hf hh.symm)]
            rw [if_neg (fun hh => hf hh.2.2)]
            rfl
        · refine evi (K1 + 1) fun k hk => ?_
          obtain ⟨k, rfl⟩ : ∃ m, k = m + 1 := ⟨k - 1, by omega⟩
          unfold spec_Unframe.f
          rw [if_neg (by rw [mkS_size]; omega), if_pos e4, hd, h1 _ (by omega), e2]
          simp only [Option.bind_some, spec_Unframe.j0]
          rw [if_neg (by omega), if_neg (by omega), w64 (x := ((mkS l).size : Int) - 4) (by rw [mkS_size]; omega) (by rw [mkS_size]; omega), w64 (x := ((mkS l).size : Int) - 4 - (j : Int)) (by rw [mkS_size]; omega) (by rw [mkS_size]; omega)]
          rw [if_pos (by rw [mkS_size]; simp; omega)]
          unfold unframeI
          rw [eu, if_neg (fun hh => hl2 hh.2.1)]
          rfl
      · refine evi (K1 + 1) fun k hk => ?_
        obtain ⟨k, rfl⟩ : ∃ m, k = m + 1 := ⟨k - 1, by omega⟩
        unfold spec_Unframe.f
        rw [if_neg (by rw [mkS_size]; omega), if_pos e4, hd, h1 _ (by omega), e2]
        simp only [Option.bind_some, spec_Unframe.j0]
        rw [if_neg (by omega), if_pos (by omega), if_pos trivial]
        unfold unframeI
        rw [eu, if_neg (fun hh => hn hh.1)]
        rfl

def lvBad (m : Int) (l : List Int) (i : Nat) : Bool := (!decide (1 ≤ rd l (i : Int) ∧ rd l (i : Int) ≤ m)) || (decide (0 < (i : Int)) && decide (rd l (i : Int) ≤ rd l ((i : Int) - 1)))
def lvL (m : Int) (l : List Int) : Nat → Nat → Bool
 | 0, _ => true
 | d + 1, i => if lvBad m l i = true then false else lvL m l d (i + 1)
def lvOk (n : Int) (l : List Int) : Bool := decide (1 ≤ n ∧ n ≤ 100000) && (decide (1 ≤ (l.length : Int) ∧ (l.length : Int) ≤ 60) && lvL (wrap64 (n - 1)) l l.length 0)

theorem spec_LiveOk_l0 (n : Int) (l : List Int) (hl : l.length ≤ 4611686018427387904) (d : Nat) : ∀ (i : Nat), d + i = l.length → Ev (fun k => spec_LiveOk.l0 k (i : Int) n l) (lvL (wrap64 (n - 1)) l d i) := by
  induction d with
  | zero =>
    intro i hi
    refine evi (1) fun k hk => ?_
    obtain ⟨k, rfl⟩ : ∃ m, k = m + 1 := ⟨k - 1, by omega⟩
    simp only [spec_LiveOk.l0]
    rw [if_neg (by omega)]
    rfl
  | succ d ih =>
    intro i hi
    obtain ⟨K, hK⟩ := evx (ih (i + 1) (by omega))
    refine evi (K + 2) fun k hk => ?_
    obtain ⟨k, rfl⟩ : ∃ m, k = m + 2 := ⟨k - 2, by omega⟩
    have e1 : (i : Int) < (l.length : Int) := by omega
    have e2 : (0 : Int) ≤ i := by omega
    have e3 : wrap64 ((i : Int) + 1) = ((i + 1 : Nat) : Int) := w64 (by omega) (by omega)
    have e4 : (i : Int) > 0 → wrap64 ((i : Int) - 1) = (i : Int) - 1 := fun h => w64 (by omega) (by omega)
    have e5 : (i : Int) > 0 → 0 ≤ (i : Int) - 1 := fun h => by omega
    have e6 : (i : Int) - 1 < (l.length : Int) := by omega
    have hK' := hK k (by omega)
    simp only [spec_LiveOk.l0]
    rw [if_pos e1, if_pos e2, spec_l1In_f, Option.bind_some]
    simp only [lvL]
    by_cases hb : 1 ≤ rd l (i : Int) ∧ rd l (i : Int) ≤ wrap64 (n - 1)
    · rw [decide_eq_true hb, if_pos rfl]
      by_cases h0 : (i : Int) > 0
      · rw [if_pos h0, e4 h0, if_pos (e5 h0), if_pos e6]
        simp only [spec_LiveOk.j2]
        by_cases hc : rd l (i : Int) ≤ rd l ((i : Int) - 1)
        · rw [decide_eq_true hc, if_pos rfl, if_pos (show lvBad (wrap64 (n - 1)) l i = true by unfold lvBad; rw [decide_eq_true hb, decide_eq_true hc, decide_eq_true h0]; rfl)]
        · rw [decide_eq_false hc, if_neg (by decide), if_neg (show ¬ lvBad (wrap64 (n - 1)) l i = true by unfold lvBad; rw [decide_eq_true hb, decide_eq_false hc, decide_eq_true h0]; decide), e3]
          exact hK'
      · rw [if_neg h0]
        simp only [spec_LiveOk.j2]
        rw [if_neg (by decide), if_neg (show ¬ lvBad (wrap64 (n - 1)) l i = true by unfold lvBad; rw [decide_eq_true hb, decide_eq_false h0, Bool.false_and]; decide), e3]
        exact hK'
    · rw [decide_eq_false hb, if_neg (by decide)]
      simp only [spec_LiveOk.j2]
      rw [if_pos trivial, if_pos (show lvBad (wrap64 (n - 1)) l i = true by unfold lvBad; rw [decide_eq_false hb]; rfl)]
theorem spec_LiveOk_ev (n : Int) (l : List Int) (hl : l.length ≤ 4611686018427387904) : Ev (fun k => spec_LiveOk.f k n l) (lvOk n l) := by
  obtain ⟨K, hK⟩ := evx (spec_LiveOk_l0 n l hl l.length 0 rfl)
  refine evi (K + 1) fun k hk => ?_
  obtain ⟨k, rfl⟩ : ∃ m, k = m + 1 := ⟨k - 1, by omega⟩
  have hK' := hK k (by omega)
  unfold spec_LiveOk.f lvOk
  rw [spec_l1In_f, spec_l1In_f, Option.bind_some]
  simp only [spec_LiveOk.j0, Option.bind_some]
  by_cases h1 : 1 ≤ n ∧ n ≤ 100000
  · by_cases h2 : 1 ≤ (l.length : Int) ∧ (l.length : Int) ≤ 60
    · rw [decide_eq_true h1, decide_eq_true h2]
      exact hK'
    · rw [decide_eq_true h1, decide_eq_false h2]; rfl
  · rw [decide_eq_false h1]; rfl

theorem impl_LiveOk_l0 (n : Int) (l : List Int) (hl : l.length ≤ 4611686018427387904) (d : Nat) : ∀ (i : Nat), d + i = l.length → Ev (fun k => impl_LiveOk.l0 k l (l.length : Int) (i : Int) n l) (lvL (wrap64 (n - 1)) l d i && (decide (1 ≤ n ∧ n ≤ 100000) && decide (1 ≤ (l.length : Int) ∧ (l.length : Int) ≤ 60))) := by
  induction d with
  | zero =>
    intro i hi
    refine evi (1) fun k hk => ?_
    obtain ⟨k, rfl⟩ : ∃ m, k = m + 1 := ⟨k - 1, by omega⟩
    simp only [impl_LiveOk.l0]
    rw [if_neg (by omega), impl_in_f, impl_in_f, Option.bind_some, Option.bind_some]
    simp only [lvL, Bool.true_and]
    by_cases h1 : 1 ≤ n ∧ n ≤ 100000
    · rw [decide_eq_true h1]; rfl
    · rw [decide_eq_false h1]; rfl
  | succ d ih =>
    intro i hi
    obtain ⟨K, hK⟩ := evx (ih (i + 1) (by omega))
    refine evi (K + 2) fun k hk => ?_
    obtain ⟨k, rfl⟩ : ∃ m, k = m + 2 := ⟨k - 2, by omega⟩
    have e1 : (i : Int) < (l.length : Int) := by omega
    have e2 : (0 : Int) ≤ i := by omega
    have e3 : wrap64 ((i : Int) + 1) = ((i + 1 : Nat) : Int) := w64 (by omega) (by omega)
    have e4 : (i : Int) > 0 → wrap64 ((i : Int) - 1) = (i : Int) - 1 := fun h => w64 (by omega) (by omega)
    have e5 : (i : Int) > 0 → 0 ≤ (i : Int) - 1 := fun h => by omega
    have e6 : (i : Int) - 1 < (l.length : Int) := by omega
    have hK' := hK k (by omega)
    simp only [impl_LiveOk.l0]
    rw [if_pos e1, if_pos e2, if_pos e1, impl_in_f, Option.bind_some]
    simp only [lvL]
    by_cases hb : 1 ≤ rd l (i : Int) ∧ rd l (i : Int) ≤ wrap64 (n - 1)
    · rw [decide_eq_true hb, if_pos rfl]
      by_cases h0 : (i : Int) > 0
      · rw [if_pos h0, e4 h0, if_pos (e5 h0), if_pos e6]
        simp only [impl_LiveOk.j1]
        by_cases hc : rd l (i : Int) ≤ rd l ((i : Int) - 1)
        · rw [if_pos (show decide (rd l ((i : Int) - 1) ≥ rd l (i : Int)) = true from decide_eq_true hc), if_pos (show lvBad (wrap64 (n - 1)) l i = true by unfold lvBad; rw [decide_eq_true hb, decide_eq_true hc, decide_eq_true h0]; rfl)]
          rfl
        · rw [if_neg (show ¬ decide (rd l ((i : Int) - 1) ≥ rd l (i : Int)) = true from fun h => hc (of_decide_eq_true h)), if_neg (show ¬ lvBad (wrap64 (n - 1)) l i = true by unfold lvBad; rw [decide_eq_true hb, decide_eq_false hc, decide_eq_true h0]; decide), e3]
          exact hK'
      · rw [if_neg h0]
        simp only [impl_LiveOk.j1]
        rw [if_neg (by decide), if_neg (show ¬ lvBad (wrap64 (n - 1)) l i = true by unfold lvBad; rw [decide_eq_true hb, decide_eq_false h0, Bool.false_and]; decide), e3]
        exact hK'
    · rw [decide_eq_false hb, if_neg (by decide)]
      simp only [impl_LiveOk.j1]
      rw [if_pos trivial, if_pos (show lvBad (wrap64 (n - 1)) l i = true by unfold lvBad; rw [decide_eq_false hb]; rfl)]
      rfl
theorem impl_LiveOk_ev (n : Int) (l : List Int) (hl : l.length ≤ 4611686018427387904) : Ev (fun k => impl_LiveOk.f k n l) (lvOk n l) := by
  obtain ⟨K, hK⟩ := evx (impl_LiveOk_l0 n l hl l.length 0 rfl)
  refine evi (K) fun k hk => ?_
  have hK' := hK k hk
  unfold impl_LiveOk.f
  rw [show lvOk n l = (lvL (wrap64 (n - 1)) l l.length 0 && (decide (1 ≤ n ∧ n ≤ 100000) && decide (1 ≤ (l.length : Int) ∧ (l.length : Int) ≤ 60))) by unfold lvOk; rw [← Bool.and_assoc, Bool.and_comm]]
  exact hK'

def showLive (n : Int) (l : List Int) : List UInt8 := if lvOk n l = true then frameL ((varB n ++ varB (l.length : Int)) ++ varsL l) else []
theorem lvOk_len {n : Int} {l : List Int} (h : lvOk n l = true) : l.length ≤ 60 := by
  unfold lvOk at h
  rw [Bool.and_eq_true, Bool.and_eq_true] at h
  have := of_decide_eq_true h.2.1
  omega
theorem spec_ShowLive_l0 (n : Int) (l : List Int) (hl : l.length ≤ 1048576) (d : Nat) : ∀ (i : Nat) (acc : List UInt8), d + i = l.length → acc.length + 7 * d ≤ 100000000000000 → Ev (fun k => spec_ShowLive.l0 k (mkS acc) (i : Int) n l) (mkS (frameL (acc ++ varsL (l.drop i)))) := by
  induction d with
  | zero =>
    intro i acc hi ha
    obtain ⟨K, hK⟩ := evx (spec_Frame_ev acc)
    refine evi (K + 1) fun k hk => ?_
    obtain ⟨k, rfl⟩ : ∃ m, k = m + 1 := ⟨k - 1, by omega⟩
    simp only [spec_ShowLive.l0]
    rw [if_neg (by omega), List.drop_of_length_le (by omega), hK k (by omega)]
    simp [varsL]
  | succ d ih =>
    intro i acc hi ha
    have hlt : i < l.length := by omega
    have hrd : rd l (i : Int) = l[i] := by simp [rd, hlt]
    have hb := varB_length l[i]
    obtain ⟨K1, h1⟩ := evx (spec_Var_ev l[i])
    obtain ⟨K, hK⟩ := evx (ih (i + 1) (acc ++ varB l[i]) (by omega) (by rw [List.length_append]; omega))
    refine evi (K + K1 + 1) fun k hk => ?_
    obtain ⟨k, rfl⟩ : ∃ m, k = m + 1 := ⟨k - 1, by omega⟩
    have hgo := hK k (by omega)
    simp only [spec_ShowLive.l0]
    rw [if_pos (by omega), if_pos (by omega), hrd, h1 k (by omega), varS_B]
    simp only [Option.bind_some]
    rw [if_pos (by rw [mkS_size, mkS_size]; omega), mkS_append, w64 (by omega) (by omega), show ((i : Int) + 1) = ((i + 1 : Nat) : Int) from by omega, hgo, List.drop_eq_getElem_cons hlt, varsL_cons, List.append_assoc]
theorem spec_ShowLive_ev (n : Int) (l : List Int) (hl : l.length ≤ 1048576) : Ev (fun k => spec_ShowLive.f k n l) (mkS (showLive n l)) := by
  obtain ⟨K0, h0⟩ := evx (spec_LiveOk_ev n l (by omega))
  unfold showLive
  by_cases hr : lvOk n l = true
  · have h60 := lvOk_len hr
    obtain ⟨K1, h1⟩ := evx (spec_Var_ev n)
    obtain ⟨K2, h2⟩ := evx (spec_Var_ev (l.length : Int))
    have l1 := varB_length n
    have l2 := varB_length (l.length : Int)
    obtain ⟨K3, h3⟩ := evx (spec_ShowLive_l0 n l hl l.length 0 (varB n ++ varB (l.length : Int)) rfl (by rw [List.length_append]; omega))
    rw [List.drop_zero] at h3
    refine evi (K0 + K1 + K2 + K3) fun k hk => ?_
    have hgo := h3 k (by omega)
    unfold spec_ShowLive.f
    rw [h0 k (by omega), hr, Option.bind_some, if_pos rfl, if_pos rfl, h1 k (by omega), Option.bind_some, h2 k (by omega), Option.bind_some, varS_B, varS_B, if_pos (by rw [mkS_size, mkS_size]; omega), mkS_append]
    exact hgo
  · refine evi (K0) fun k hk => ?_
    unfold spec_ShowLive.f
    rw [h0 k (by omega), Option.bind_some, if_neg hr, if_neg hr]
    rfl

/-- So many numbers; it stops where one is not there (a 0 stands for that one). -/
def numsL : Nat → List UInt8 → Bool → List Int × List UInt8 × Bool
  | 0, s, bad => ([], s, bad)
  | n + 1, s, bad => if bad = true then ([], s, true) else (((numL s bad).1 : Int) :: (numsL n (numL s bad).2.1 (numL s bad).2.2).1, (numsL n (numL s bad).2.1 (numL s bad).2.2).2)
theorem numsL_sound (n : Nat) : ∀ {s s' : List UInt8} {bad : Bool} {ids : List Int}, numsL n s bad = (ids, s', false) → bad = false ∧ s = varsL ids ++ s' ∧ ids.length = n := by
  induction n with
  | zero =>
    intro s s' bad ids h
    simp only [numsL, Prod.mk.injEq] at h
    obtain ⟨rfl, rfl, rfl⟩ := h
    exact ⟨rfl, by simp [varsL], rfl⟩
  | succ n ih =>
    intro s s' bad ids h
    rw [numsL] at h
    cases bad with
    | true => simp at h
    | false =>
      rw [if_neg (by simp)] at h
      generalize ha : numL s false = a at h
      obtain ⟨x, s1, b1⟩ := a
      simp only at h
      generalize hr : numsL n s1 b1 = r at h
      obtain ⟨is, s2, b2⟩ := r
      simp only [Prod.mk.injEq] at h
      obtain ⟨rfl, rfl, rfl⟩ := h
      obtain ⟨rfl, e2, l2⟩ := ih hr
      obtain ⟨_, e1, l1⟩ := numL_sound ha
      refine ⟨rfl, ?_, by simp [l2]⟩
      rw [varsL_cons, varB_nat l1, e1, e2, List.append_assoc]
theorem numsL_vars (ids : List Int) (t : List UInt8) (h : ∀ x ∈ ids, 0 ≤ x ∧ x ≤ 562949953421311) : numsL ids.length (varsL ids ++ t) false = (ids, t, false) := by
  induction ids with
  | nil => simp [numsL, varsL]
  | cons a l ih =>
    have ha := h a (by simp)
    obtain ⟨m, rfl⟩ := Int.eq_ofNat_of_zero_le ha.1
    rw [List.length_cons, numsL, if_neg (by simp), varsL_cons, varB_nat (by omega), List.append_assoc, numL_var _ (by omega)]
    simp only
    rw [ih (fun x hx => h x (by simp [hx]))]
/-- What a text's bytes tell: the next number, the segments, what is left, and whether it failed. -/
def parV (l : List UInt8) : (Int × List Int) × List UInt8 × Bool :=
  (((numL l false).1, (numsL (numL (numL l false).2.1 (numL l false).2.2).1 (numL (numL l false).2.1 (numL l false).2.2).2.1 (numL (numL l false).2.1 (numL l false).2.2).2.2).1), (numsL (numL (numL l false).2.1 (numL l false).2.2).1 (numL (numL l false).2.1 (numL l false).2.2).2.1 (numL (numL l false).2.1 (numL l false).2.2).2.2).2)
def readV (l : List UInt8) : (Int × List Int) × Bool :=
  if (unframeL l).2 ≠ 0 ∧ (unframeL l).2 = l.length ∧ (parV (unframeL l).1).2.2 = false ∧ (parV (unframeL l).1).2.1 = [] ∧ lvOk (parV (unframeL l).1).1.1 (parV (unframeL l).1).1.2 = true then ((parV (unframeL l).1).1, true) else ((0, []), false)
theorem parV_eq {l s1 s2 s3 : List UInt8} {a c : Nat} {b1 b2 b3 : Bool} {ids : List Int} (h1 : numL l false = (a, s1, b1)) (h2 : numL s1 b1 = (c, s2, b2)) (h3 : numsL c s2 b2 = (ids, s3, b3)) : parV l = (((a : Int), ids), s3, b3) := by
  unfold parV
  rw [h1]
  simp only
  rw [h2]
  simp only
  rw [h3]
theorem lvL_mem (m : Int) (l : List Int) (d : Nat) : ∀ i, lvL m l d i = true → ∀ j, i ≤ j → j < i + d → 1 ≤ rd l (j : Int) ∧ rd l (j : Int) ≤ m := by
  induction d with
  | zero => intro i h j h1 h2; omega
  | succ d ih =>
    intro i h j h1 h2
    rw [lvL] at h
    split at h
    · cases h
    · rename_i hb
      by_cases hj : j = i
      · subst hj
        unfold lvBad at hb
        simp only [Bool.or_eq_true, Bool.not_eq_true', decide_eq_false_iff_not, not_or] at hb
        exact Decidable.of_not_not hb.1
      · exact ih (i + 1) h j (by omega) (by omega)
theorem lvOk_mem {n : Int} {l : List Int} (h : lvOk n l = true) : (1 ≤ n ∧ n ≤ 100000) ∧ (1 ≤ l.length ∧ l.length ≤ 60) ∧ ∀ x ∈ l, 1 ≤ x ∧ x ≤ 99999 := by
  unfold lvOk at h
  simp only [Bool.and_eq_true, decide_eq_true_eq] at h
  obtain ⟨hn, hl, hv⟩ := h
  refine ⟨hn, by omega, fun x hx => ?_⟩
  obtain ⟨j, hj, rfl⟩ := List.getElem_of_mem hx
  have := lvL_mem _ l l.length 0 hv j (by omega) (by omega)
  rw [w64 (by omega) (by omega)] at this
  have e : rd l (j : Int) = l[j] := by simp [rd, hj]
  rw [e] at this
  omega
theorem varB_len3 {x : Int} (h : x ≤ 100000) : (varB x).length ≤ 3 := by
  unfold varB
  split
  · exact varL_len 2 _ (by omega)
  · simp
theorem varsL_len3 (l : List Int) (h : ∀ x ∈ l, x ≤ 100000) : (varsL l).length ≤ 3 * l.length := by
  induction l with
  | nil => simp [varsL]
  | cons a t ih =>
    have h1 := varB_len3 (h a (by simp))
    have h2 := ih (fun x hx => h x (by simp [hx]))
    rw [varsL_cons, List.length_append, List.length_cons]
    omega
def liveText (n : Int) (l : List Int) : List UInt8 := (varB n ++ varB (l.length : Int)) ++ varsL l
theorem liveText_len {n : Int} {l : List Int} (h : lvOk n l = true) : (liveText n l).length ≤ 200 := by
  obtain ⟨hn, hl, hx⟩ := lvOk_mem h
  have h1 := varB_len3 hn.2
  have h2 := varB_len3 (x := (l.length : Int)) (by omega)
  have h3 := varsL_len3 l (fun x hx' => by have := hx x hx'; omega)
  unfold liveText
  rw [List.length_append, List.length_append]
  omega
theorem parV_text {n : Int} {l : List Int} (h : lvOk n l = true) : parV (liveText n l) = ((n, l), [], false) := by
  obtain ⟨hn, hl, hx⟩ := lvOk_mem h
  obtain ⟨m, rfl⟩ := Int.eq_ofNat_of_zero_le (show 0 ≤ n by omega)
  have h3 := numsL_vars l [] (fun x hx' => by have := hx x hx'; omega)
  rw [List.append_nil] at h3
  unfold liveText
  rw [varB_nat (by omega), varB_nat (by omega), List.append_assoc]
  exact parV_eq (numL_var _ (by omega)) (numL_var _ (by omega)) h3
theorem parV_sound {l : List UInt8} {n : Int} {ids : List Int} (h : parV l = ((n, ids), [], false)) : liveText n ids = l := by
  generalize ha : numL l false = a
  obtain ⟨x, s1, b1⟩ := a
  generalize hc : numL s1 b1 = c
  obtain ⟨y, s2, b2⟩ := c
  generalize hr : numsL y s2 b2 = r
  obtain ⟨is, s3, b3⟩ := r
  rw [parV_eq ha hc hr] at h
  simp only [Prod.mk.injEq] at h
  obtain ⟨⟨rfl, rfl⟩, rfl, rfl⟩ := h
  obtain ⟨rfl, e3, l3⟩ := numsL_sound y hr
  obtain ⟨rfl, e2, l2⟩ := numL_sound hc
  obtain ⟨_, e1, l1⟩ := numL_sound ha
  unfold liveText
  rw [varB_nat l1, l3, varB_nat l2, e1, e2, e3]
  simp
theorem showLive_eq {n : Int} {ids : List Int} (h : lvOk n ids = true) : showLive n ids = frameL (liveText n ids) := by unfold showLive liveText; rw [if_pos h]
theorem unframe_whole {t : List UInt8} (h : t.length ≤ 200) : unframeL (frameL t) = (t, (frameL t).length) := by
  have := unframe_frame (l := t) [] h
  rwa [List.append_nil] at this
theorem frameL_ne {t : List UInt8} (h : t.length ≤ 200) : (frameL t).length ≠ 0 := by rw [frameL_length h]; omega
theorem readV_cases (l : List UInt8) : (∃ n ids, lvOk n ids = true ∧ showLive n ids = l ∧ readV l = ((n, ids), true)) ∨ ((∀ n ids, lvOk n ids = true → showLive n ids ≠ l) ∧ readV l = ((0, []), false)) := by
  by_cases h : (unframeL l).2 ≠ 0 ∧ (unframeL l).2 = l.length ∧ (parV (unframeL l).1).2.2 = false ∧ (parV (unframeL l).1).2.1 = [] ∧ lvOk (parV (unframeL l).1).1.1 (parV (unframeL l).1).1.2 = true
  · refine Or.inl ⟨(parV (unframeL l).1).1.1, (parV (unframeL l).1).1.2, h.2.2.2.2, ?_, ?_⟩
    · rw [showLive_eq h.2.2.2.2, parV_sound (l := (unframeL l).1) (by rw [← h.2.2.1, ← h.2.2.2.1])]
      obtain ⟨_, h2, h3, h4⟩ := unframe_sound (l := l) (t := (unframeL l).1) (n := (unframeL l).2) rfl h.1
      rw [← h4, h.2.1, List.take_length]
    · unfold readV; rw [if_pos h]
  · refine Or.inr ⟨fun n ids hr hs => h ?_, by unfold readV; rw [if_neg h]⟩
    have hl := liveText_len hr
    rw [← hs, showLive_eq hr, unframe_whole hl]
    simp only
    rw [parV_text hr]
    exact ⟨frameL_ne hl, by trivial, rfl, rfl, hr⟩

theorem unframe_len200 (l : List UInt8) : (unframeL l).1.length ≤ 200 := by
  unfold unframeL
  cases hr : rv (l.drop 4) with
  | none => simp
  | some p =>
    obtain ⟨n, k⟩ := p
    simp only
    split
    · rename_i hc
      simp only [List.length_take]
      omega
    · simp
def marksInt (n : Nat) (a : Int) : List Int := (List.range n).map fun (j : Nat) => a + (j : Int)
theorem marksInt_length (n : Nat) (a : Int) : (marksInt n a).length = n := by simp [marksInt]
theorem laws_markIntS_l0 (n : Nat) (hn : n ≤ 4194304) (a0 : Int) (ha0 : 0 ≤ a0) (ha1 : a0 ≤ 1099511627776) (d : Nat) : ∀ (i : Nat) (x : List Int) (a : Int), d + i = n → x.length = n → a = a0 + (i : Int) → (∀ j, j < i → x[j]? = some (a0 + (j : Int))) →
    Ev (fun k => laws_markIntS.l0 k x a (i : Int)) (a0 + (n : Int), marksInt n a0) := by
  induction d with
  | zero =>
    intro i x a hi hx ha hj
    refine evi (1) fun k hk => ?_
    obtain ⟨k, rfl⟩ : ∃ m, k = m + 1 := ⟨k - 1, by omega⟩
    simp only [laws_markIntS.l0]
    rw [if_neg (by omega)]
    have e : x = marksInt n a0 := by
      apply List.ext_getElem?
      intro j
      by_cases hjn : j < n
      · rw [hj j (by omega)]
        simp [marksInt, hjn]
      · rw [List.getElem?_eq_none (by omega), List.getElem?_eq_none (by rw [marksInt_length]; omega)]
    rw [e, ha, show i = n from by omega]
  | succ d ih =>
    intro i x a hi hx ha hj
    have hlt : i < x.length := by omega
    obtain ⟨K, hK⟩ := evx (ih (i + 1) (x.set i a) (a + 1) (by omega) (by rw [List.length_set]; exact hx) (by omega) (by
      intro j hji
      by_cases hij : j = i
      · rw [hij, List.getElem?_set_self hlt, ha]
      · rw [List.getElem?_set_ne (by omega)]
        exact hj j (by omega)))
    refine evi (K + 1) fun k hk => ?_
    obtain ⟨k, rfl⟩ : ∃ m, k = m + 1 := ⟨k - 1, by omega⟩
    simp only [laws_markIntS.l0]
    rw [if_pos (by omega), if_pos (by omega), Int.toNat_natCast, w64 (x := a + 1) (by omega) (by omega), w64 (x := (i : Int) + 1) (by omega) (by omega)]
    exact hK k (by omega)
theorem laws_markIntS_ev (l : List Int) (hn : l.length ≤ 4194304) (a : Int) (ha0 : 0 ≤ a) (ha1 : a ≤ 1099511627776) : Ev (fun k => laws_markIntS.f k l a) (a + (l.length : Int), marksInt l.length a) :=
  laws_markIntS_l0 l.length hn a ha0 ha1 l.length 0 l a rfl rfl (by omega) (fun j hj => by omega)
theorem laws_heldIntS_l0 (n : Nat) (hn : n ≤ 4194304) (a0 : Int) (ha0 : 0 ≤ a0) (ha1 : a0 ≤ 1099511627776) (d : Nat) : ∀ (i : Nat) (a : Int), d + i = n → a = a0 + (i : Int) → Ev (fun k => laws_heldIntS.l0 k (marksInt n a0) a (i : Int)) (a0 + (n : Int)) := by
  induction d with
  | zero =>
    intro i a hi ha
    refine evi (1) fun k hk => ?_
    obtain ⟨k, rfl⟩ : ∃ m, k = m + 1 := ⟨k - 1, by omega⟩
    simp only [laws_heldIntS.l0]
    rw [if_neg (by rw [marksInt_length]; omega), ha, show i = n from by omega]
  | succ d ih =>
    intro i a hi ha
    obtain ⟨K, hK⟩ := evx (ih (i + 1) (a + 1) (by omega) (by omega))
    refine evi (K + 1) fun k hk => ?_
    obtain ⟨k, rfl⟩ : ∃ m, k = m + 1 := ⟨k - 1, by omega⟩
    have hr : rd (marksInt n a0) (i : Int) = a := by
      have hin : i < n := by omega
      simp [rd, marksInt, hin, ha]
    simp only [laws_heldIntS.l0]
    rw [if_pos (by rw [marksInt_length]; omega), if_pos (by omega), if_pos hr, w64 (x := a + 1) (by omega) (by omega), w64 (x := (i : Int) + 1) (by omega) (by omega)]
    exact hK k (by omega)
theorem laws_heldIntS_ev (n : Nat) (hn : n ≤ 4194304) (a : Int) (ha0 : 0 ≤ a) (ha1 : a ≤ 1099511627776) : Ev (fun k => laws_heldIntS.f k (marksInt n a) a) (a + (n : Int)) :=
  laws_heldIntS_l0 n hn a ha0 ha1 n 0 a rfl (by omega)

def outV (r : (Int × List Int) × Bool) : Int × List Int × Bool := (r.1.1, r.1.2, r.2)
def liveEnd (l : List UInt8) (m : Int) (n : Int) (ids : List Int) (s : List UInt8) (b : Bool) : (Int × List Int) × Bool := if m ≠ 0 ∧ m = (l.length : Int) ∧ b = false ∧ s = [] ∧ lvOk n ids = true then ((n, ids), true) else ((0, []), false)
theorem numL_dec {s s' : List UInt8} {n : Nat} (h : numL s false = (n, s', false)) : s'.length < s.length := by
  obtain ⟨_, e, _⟩ := numL_sound h
  have := varL_pos n
  rw [e, List.length_append]
  omega
theorem impl_ReadLive_j1 (l : List UInt8) (m n : Int) (ids : List Int) (s : List UInt8) (b : Bool) (hi : ids.length ≤ 4611686018427387904) : Ev (fun k => impl_ReadLive.j1 k (mkS l) m (mkS s) b n ids) (outV (liveEnd l m n ids s b)) := by
  obtain ⟨K, hK⟩ := evx (impl_LiveOk_ev n ids hi)
  refine evi (K + 2) fun k hk => ?_
  obtain ⟨k, rfl⟩ : ∃ m, k = m + 2 := ⟨k - 2, by omega⟩
  simp only [impl_ReadLive.j1, impl_ReadLive.j2]
  rw [hK (k + 1) (by omega)]
  unfold liveEnd
  simp only [Option.bind_some, mkS_toList, mkS_size]
  by_cases h1 : m = 0
  · simp [h1, outV]
  · by_cases h2 : m = (l.length : Int)
    · cases b with
      | true => simp [h1, h2, outV]
      | false =>
        by_cases h3 : s = []
        · cases h4 : lvOk n ids <;> simp [h1, h2, h3, outV]
          all_goals (try (split <;> rfl))
        · simp [h1, h2, h3, outV]
    · simp [h1, h2, outV]
theorem impl_ReadLive_l0 (l : List UInt8) (m n : Int) (c : Nat) (hc : c ≤ 562949953421311) (d : Nat) : ∀ (i : Nat) (s : List UInt8) (b : Bool) (acc : List Int), d + i = c → (b = false → acc.length + s.length ≤ 2000000) → acc.length ≤ 2000001 →
    Ev (fun k => impl_ReadLive.l0 k (mkS l) m (c : Int) (i : Int) (mkS s) b n acc) (outV (liveEnd l m n (acc ++ (numsL d s b).1) (numsL d s b).2.1 (numsL d s b).2.2)) := by
  induction d with
  | zero =>
    intro i s b acc hi h1 h2
    obtain ⟨K, hK⟩ := evx (impl_ReadLive_j1 l m n acc s b (by omega))
    refine evi (K + 1) fun k hk => ?_
    obtain ⟨k, rfl⟩ : ∃ m, k = m + 1 := ⟨k - 1, by omega⟩
    simp only [impl_ReadLive.l0]
    rw [if_neg (by omega), hK k (by omega)]
    simp only [numsL, List.append_nil]
  | succ d ih =>
    intro i s b acc hi h1 h2
    cases b with
    | true =>
      obtain ⟨K, hK⟩ := evx (impl_ReadLive_j1 l m n acc s true (by omega))
      refine evi (K + 1) fun k hk => ?_
      obtain ⟨k, rfl⟩ : ∃ m, k = m + 1 := ⟨k - 1, by omega⟩
      simp only [impl_ReadLive.l0]
      rw [if_pos (by omega), if_pos trivial, hK k (by omega)]
      simp only [numsL, if_true, List.append_nil]
    | false =>
      have h1' := h1 rfl
      obtain ⟨K1, hk1⟩ := evx (impl_scanner_num_ev s false)
      have hdec : (numL s false).2.2 = false → (numL s false).2.1.length < s.length := fun hh => by generalize he : numL s false = q at hh ⊢; obtain ⟨x, y, z⟩ := q; simp only at hh ⊢; subst hh; exact numL_dec he
      obtain ⟨K, hK⟩ := evx (ih (i + 1) (numL s false).2.1 (numL s false).2.2 (acc ++ [((numL s false).1 : Int)]) (by omega) (fun hh => by have := hdec hh; rw [List.length_append, List.length_singleton]; omega) (by rw [List.length_append, List.length_singleton]; omega))
      refine evi (K + K1 + 1) fun k hk => ?_
      obtain ⟨k, rfl⟩ : ∃ m, k = m + 1 := ⟨k - 1, by omega⟩
      have hgo := hK k (by omega)
      simp only [impl_ReadLive.l0]
      rw [if_pos (by omega), if_neg (by simp), hk1 k (by omega)]
      simp only [Option.bind_some]
      rw [if_pos (by omega), w64 (by omega) (by omega), show ((i : Int) + 1) = ((i + 1 : Nat) : Int) from by omega, hgo, numsL, if_neg (by simp), List.append_assoc]
      rfl
theorem impl_ReadLive_ev (l : List UInt8) (hl : l.length ≤ 1048576) : Ev (fun k => impl_ReadLive.f k (mkS l)) (outV (readV l)) := by
  obtain ⟨K1, h1⟩ := evx (impl_Unframe_ev l (by omega))
  have hu := unframe_len200 l
  have e0 : readV l = liveEnd l ((unframeL l).2 : Int) (parV (unframeL l).1).1.1 (parV (unframeL l).1).1.2 (parV (unframeL l).1).2.1 (parV (unframeL l).1).2.2 := by
    unfold readV liveEnd
    by_cases hc : (unframeL l).2 ≠ 0 ∧ (unframeL l).2 = l.length ∧ (parV (unframeL l).1).2.2 = false ∧ (parV (unframeL l).1).2.1 = [] ∧ lvOk (parV (unframeL l).1).1.1 (parV (unframeL l).1).1.2 = true
    · rw [if_pos hc, if_pos ⟨by omega, by omega, hc.2.2⟩]
    · rw [if_neg hc, if_neg (fun h => hc ⟨by omega, by omega, h.2.2⟩)]
  generalize hut : unframeL l = u at *
  obtain ⟨t, m⟩ := u
  simp only at *
  obtain ⟨K2, h2⟩ := evx (impl_scanner_num_ev t false)
  generalize ha : numL t false = a at h2
  obtain ⟨n1, s1, b1⟩ := a
  obtain ⟨K3, h3⟩ := evx (impl_scanner_num_ev s1 b1)
  have lc := numL_le s1 b1
  have l1 := numL_len t false
  have l2 := numL_len s1 b1
  rw [ha] at l1
  simp only at l1
  generalize hb : numL s1 b1 = b at *
  obtain ⟨n2, s2, b2⟩ := b
  simp only at *
  obtain ⟨K4, h4⟩ := evx (impl_ReadLive_l0 l (m : Int) (n1 : Int) n2 lc n2 0 s2 b2 [] rfl (fun _ => by simp only [List.length_nil]; omega) (by simp))
  have hp := parV_eq (l := t) ha hb (ids := (numsL n2 s2 b2).1) (s3 := (numsL n2 s2 b2).2.1) (b3 := (numsL n2 s2 b2).2.2) rfl
  refine evi (K1 + K2 + K3 + K4) fun k hk => ?_
  have hgo := h4 k (by omega)
  unfold impl_ReadLive.f
  rw [h1 k (by omega)]
  simp only [Option.bind_some, unframeI, hut]
  rw [h2 k (by omega)]
  simp only [Option.bind_some]
  rw [h3 k (by omega)]
  simp only [Option.bind_some]
  rw [e0, hp]
  exact hgo
def numsS : Nat → List UInt8 → List Int
  | 0, _ => []
  | d + 1, s => ((rvP s).1 : Int) :: numsS d (s.drop (rvP s).2)
theorem numsS_vars (ids : List Int) (t : List UInt8) (h : ∀ x ∈ ids, 0 ≤ x ∧ x ≤ 562949953421311) : numsS ids.length (varsL ids ++ t) = ids := by
  induction ids with
  | nil => rfl
  | cons a l ih =>
    have ha := h a (by simp)
    obtain ⟨m, rfl⟩ := Int.eq_ofNat_of_zero_le ha.1
    rw [List.length_cons, numsS, varsL_cons, varB_nat (by omega), List.append_assoc, rvP_some (rv_complete _ (by omega))]
    simp only
    rw [List.drop_left, ih (fun x hx => h x (by simp [hx]))]
theorem rvP_le (s : List UInt8) : (rvP s).2 ≤ s.length := by
  cases hr : rv s with
  | none => rw [rvP_none hr]; simp
  | some p => obtain ⟨n, j⟩ := p; rw [rvP_some hr]; exact (rv_sound hr).2.2.1
theorem rvP_small (s : List UInt8) : (rvP s).1 ≤ 562949953421311 := by
  cases hr : rv s with
  | none => rw [rvP_none hr]; simp
  | some p => obtain ⟨n, j⟩ := p; rw [rvP_some hr]; exact (rv_sound hr).2.2.2.2
theorem spec_ReadLive_j2 (l : List UInt8) (n : Int) (ids : List Int) (hi : ids.length ≤ 1048576) : Ev (fun k => spec_ReadLive.j2 k (mkS l) n ids) (outV (if showLive n ids = l then ((n, ids), true) else ((0, []), false))) := by
  obtain ⟨K, hK⟩ := evx (spec_ShowLive_ev n ids hi)
  refine evi (K + 1) fun k hk => ?_
  obtain ⟨k, rfl⟩ : ∃ m, k = m + 1 := ⟨k - 1, by omega⟩
  simp only [spec_ReadLive.j2]
  rw [hK k (by omega)]
  simp only [Option.bind_some, mkS_toList]
  split <;> rfl
theorem spec_ReadLive_l0 (l t : List UInt8) (ht : t.length ≤ 200) (n : Int) (c : Nat) (d : Nat) : ∀ (i p : Nat) (acc : List Int), d + i = min c 60 → p ≤ t.length → acc.length = i →
    Ev (fun k => spec_ReadLive.l0 k (mkS l) (mkS t) (c : Int) (p : Int) (i : Int) n acc) (outV (if showLive n (acc ++ numsS d (t.drop p)) = l then ((n, acc ++ numsS d (t.drop p)), true) else ((0, []), false))) := by
  induction d with
  | zero =>
    intro i p acc hi hp ha
    obtain ⟨K, hK⟩ := evx (spec_ReadLive_j2 l n acc (by omega))
    refine evi (K + 1) fun k hk => ?_
    obtain ⟨k, rfl⟩ : ∃ m, k = m + 1 := ⟨k - 1, by omega⟩
    simp only [spec_ReadLive.l0, numsS, List.append_nil]
    by_cases h : i < c
    · rw [if_pos (by omega), if_neg (by omega), hK k (by omega)]
    · rw [if_neg (by omega), hK k (by omega)]
  | succ d ih =>
    intro i p acc hi hp ha
    obtain ⟨K1, h1⟩ := evx (spec_ReadVar_ev (t.drop p) (by rw [List.length_drop]; omega))
    have hle := rvP_le (t.drop p)
    rw [List.length_drop] at hle
    obtain ⟨K, hK⟩ := evx (ih (i + 1) (p + (rvP (t.drop p)).2) (acc ++ [((rvP (t.drop p)).1 : Int)]) (by omega) (by omega) (by rw [List.length_append, List.length_singleton, ha]))
    refine evi (K + K1 + 1) fun k hk => ?_
    obtain ⟨k, rfl⟩ : ∃ m, k = m + 1 := ⟨k - 1, by omega⟩
    have hgo := hK k (by omega)
    simp only [spec_ReadLive.l0]
    rw [if_pos (by omega), if_pos (by omega), if_pos (by omega), if_pos (by rw [mkS_size]; omega), Int.toNat_natCast, mkS_drop, h1 k (by omega)]
    simp only [Option.bind_some, rvI]
    rw [if_pos (by omega), w64 (x := (p : Int) + _) (by omega) (by omega), w64 (x := (i : Int) + 1) (by omega) (by omega), show ((i : Int) + 1) = ((i + 1 : Nat) : Int) from by omega, show ((p : Int) + ((rvP (t.drop p)).2 : Int)) = ((p + (rvP (t.drop p)).2 : Nat) : Int) from by omega, hgo, numsS, List.append_assoc, ← List.drop_drop]
    rfl
theorem spec_ReadLive_ev (l : List UInt8) (hl : l.length ≤ 1048576) : Ev (fun k => spec_ReadLive.f k (mkS l)) (outV (readV l)) := by
  obtain ⟨K1, h1⟩ := evx (spec_Unframe_ev l (by omega))
  have hu := unframe_len200 l
  obtain ⟨K2, h2⟩ := evx (spec_ReadVar_ev (unframeL l).1 (by omega))
  by_cases hg : (unframeL l).2 = l.length ∧ (unframeL l).2 ≠ 0 ∧ (rvP (unframeL l).1).2 ≠ 0
  · obtain ⟨g1, g2, g3⟩ := hg
    have hle := rvP_le (unframeL l).1
    obtain ⟨K3, h3⟩ := evx (spec_ReadVar_ev ((unframeL l).1.drop (rvP (unframeL l).1).2) (by rw [List.length_drop]; omega))
    have hle2 := rvP_le ((unframeL l).1.drop (rvP (unframeL l).1).2)
    rw [List.length_drop] at hle2
    have hsm := rvP_small ((unframeL l).1.drop (rvP (unframeL l).1).2)
    obtain ⟨K4, h4⟩ := evx (spec_ReadLive_l0 l (unframeL l).1 hu ((rvP (unframeL l).1).1 : Int) (rvP ((unframeL l).1.drop (rvP (unframeL l).1).2)).1 (min (rvP ((unframeL l).1.drop (rvP (unframeL l).1).2)).1 60) 0 ((rvP (unframeL l).1).2 + (rvP ((unframeL l).1.drop (rvP (unframeL l).1).2)).2) [] rfl (by omega) rfl)
    have fin : (if showLive ((rvP (unframeL l).1).1 : Int) ([] ++ numsS (min (rvP ((unframeL l).1.drop (rvP (unframeL l).1).2)).1 60) ((unframeL l).1.drop ((rvP (unframeL l).1).2 + (rvP ((unframeL l).1.drop (rvP (unframeL l).1).2)).2))) = l then ((((rvP (unframeL l).1).1 : Int), [] ++ numsS (min (rvP ((unframeL l).1.drop (rvP (unframeL l).1).2)).1 60) ((unframeL l).1.drop ((rvP (unframeL l).1).2 + (rvP ((unframeL l).1.drop (rvP (unframeL l).1).2)).2))), true) else ((0, []), false)) = readV l := by
      rcases readV_cases l with ⟨n, ids, ho, hs, he⟩ | ⟨hn, he⟩
      · subst hs
        have hlen := liveText_len ho
        obtain ⟨hn, hil, hx⟩ := lvOk_mem ho
        obtain ⟨nn, rfl⟩ := Int.eq_ofNat_of_zero_le (show 0 ≤ n by omega)
        have e1 : (unframeL (showLive (nn : Int) ids)).1 = varL nn ++ (varL ids.length ++ (varsL ids ++ [])) := by
          rw [showLive_eq ho, unframe_whole hlen, List.append_nil]
          unfold liveText
          simp only
          rw [varB_nat (by omega), varB_nat (by omega), List.append_assoc]
        rw [he, e1, rvP_some (rv_complete _ (by omega))]
        simp only
        rw [List.drop_left, rvP_some (rv_complete _ (by omega))]
        simp only
        rw [← List.drop_drop, List.drop_left, List.drop_left, show min ids.length 60 = ids.length from by omega, numsS_vars ids [] (fun x hx' => by have := hx x hx'; omega), List.nil_append, if_pos rfl]
      · rw [he]
        split
        · rename_i hs
          exfalso
          by_cases ho : lvOk ((rvP (unframeL l).1).1 : Int) ([] ++ numsS (min (rvP ((unframeL l).1.drop (rvP (unframeL l).1).2)).1 60) ((unframeL l).1.drop ((rvP (unframeL l).1).2 + (rvP ((unframeL l).1.drop (rvP (unframeL l).1).2)).2))) = true
          · exact hn _ _ ho hs
          · unfold showLive at hs
            rw [if_neg ho] at hs
            rw [← hs] at g1
            simp only [List.length_nil] at g1
            rw [← hs] at g2
            exact g2 g1
        · rfl
    refine evi (K1 + K2 + K3 + K4 + 1) fun k hk => ?_
    obtain ⟨k, rfl⟩ : ∃ m, k = m + 1 := ⟨k - 1, by omega⟩
    have hgo := h4 k (by omega)
    unfold spec_ReadLive.f
    rw [h1 _ (by omega)]
    simp only [Option.bind_some, unframeI]
    rw [h2 _ (by omega)]
    simp only [Option.bind_some, rvI, spec_ReadLive.j0]
    rw [if_pos (by rw [mkS_size]; omega), if_neg (by omega), if_neg (by simp; omega), if_pos (by omega), if_pos (by rw [mkS_size]; omega), Int.toNat_natCast, mkS_drop, h3 k (by omega)]
    simp only [Option.bind_some, rvI]
    rw [w64 (by omega) (by omega), show (((rvP (unframeL l).1).2 : Int) + ((rvP ((unframeL l).1.drop (rvP (unframeL l).1).2)).2 : Int)) = (((rvP (unframeL l).1).2 + (rvP ((unframeL l).1.drop (rvP (unframeL l).1).2)).2 : Nat) : Int) from by omega]
    rw [← fin]
    exact hgo
  · have ez : readV l = ((0, []), false) := by
      rcases readV_cases l with ⟨n, ids, ho, hs, he⟩ | ⟨hn, he⟩
      · exfalso
        subst hs
        have hlen := liveText_len ho
        obtain ⟨hn, hil, hx⟩ := lvOk_mem ho
        obtain ⟨nn, rfl⟩ := Int.eq_ofNat_of_zero_le (show 0 ≤ n by omega)
        apply hg
        rw [showLive_eq ho, unframe_whole hlen]
        refine ⟨rfl, frameL_ne hlen, ?_⟩
        simp only
        unfold liveText
        rw [varB_nat (by omega), List.append_assoc, rvP_some (rv_complete _ (by omega))]
        have := varL_pos nn
        simp only
        omega
      · exact he
    rw [ez]
    refine evi (K1 + K2 + 1) fun k hk => ?_
    obtain ⟨k, rfl⟩ : ∃ m, k = m + 1 := ⟨k - 1, by omega⟩
    unfold spec_ReadLive.f
    rw [h1 _ (by omega)]
    simp only [Option.bind_some, unframeI]
    rw [h2 _ (by omega)]
    simp only [Option.bind_some, rvI, spec_ReadLive.j0]
    by_cases g1 : (unframeL l).2 = l.length
    · rw [if_pos (by rw [mkS_size]; omega)]
      by_cases g2 : (unframeL l).2 = 0
      · rw [if_pos (by omega)]; rfl
      · rw [if_neg (by omega)]
        have g3 : (rvP (unframeL l).1).2 = 0 := by
          apply Decidable.byContradiction
          intro g3
          exact hg ⟨g1, g2, g3⟩
        rw [if_pos (by simp; omega)]; rfl
    · rw [if_neg (by rw [mkS_size]; omega)]; rfl



/-! ### the law -/
theorem FnExactReadLive : laws_FnExactReadLive.Pure := by
  intro a h
  by_cases hb : (a.size : Int) > 1048576
  · exact ⟨0, by unfold laws_FnExactReadLive.f; rw [if_pos hb]⟩
  · obtain ⟨l, rfl⟩ := exS a
    have hb' := hb
    rw [mkS_size] at hb'
    obtain ⟨K1, h1⟩ := evx (spec_ReadLive_ev l (by omega))
    obtain ⟨K2, h2⟩ := evx (impl_ReadLive_ev l (by omega))
    have hlen : (readV l).1.2.length ≤ 60 := by
      rcases readV_cases l with ⟨n, ids, ho, _, he⟩ | ⟨_, he⟩
      · rw [he]; exact lvOk_len ho
      · rw [he]; simp
    generalize readV l = c at *
    obtain ⟨⟨c1, c2⟩, c3⟩ := c
    simp only [outV] at *
    obtain ⟨K8, h8⟩ := evx (laws_eqIntS_ev c2 (by omega))
    obtain ⟨Ka, ha⟩ := evx (laws_markIntS_ev c2 (by omega) 1 (by omega) (by omega))
    obtain ⟨Kb, hhb⟩ := evx (laws_heldIntS_ev c2.length (by omega) 1 (by omega) (by omega))
    generalize hK : K1 + K2 + K8 + Ka + Kb = K
    refine ⟨K + 2, ?_⟩
    have e1 : ¬ (1 + (c2.length : Int) < 0) := by omega
    have a1 := h1 (K + 2) (by omega)
    have a2 := h2 (K + 2) (by omega)
    have a8 := h8 (K + 2) (by omega)
    have b2 := h2 (K + 1) (by omega)
    have b8 := h8 (K + 1) (by omega)
    have ba := ha (K + 1) (by omega)
    have bb := hhb (K + 1) (by omega)
    have cb := hhb K (by omega)
    unfold laws_FnExactReadLive.f
    rw [if_neg hb, a1]
    simp only [Option.bind_some]
    rw [a2]
    simp only [Option.bind_some, laws_eqLive.f, if_true]
    rw [a8]
    simp only [Option.bind_some, if_true, laws_FnExactReadLive.j0, bne_self_eq_false, Bool.false_eq_true, if_false, laws_markLive.f, laws_heldLive.f]
    rw [ba]
    simp only [Option.bind_some]
    rw [bb]
    simp only [Option.bind_some, if_neg e1, if_true]
    rw [b2]
    simp only [Option.bind_some, laws_eqLive.f, if_true]
    rw [b8]
    simp only [Option.bind_some, if_true, laws_FnExactReadLive.j1, bne_self_eq_false, Bool.false_eq_true, if_false, laws_heldLive.f]
    rw [cb]
    simp only [Option.bind_some, if_neg e1, if_true]

end Go.Proofs.Ytebeafcdabkkfaa.Pure
