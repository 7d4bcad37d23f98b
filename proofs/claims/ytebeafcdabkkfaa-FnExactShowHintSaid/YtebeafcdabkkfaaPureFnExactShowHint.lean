/- The pure statement of the law FnExactShowHint: for all arguments within the printed bounds the printed function of the law answers true. Conditions: only the bounds that the printed statement itself names. -/
import Derived.Test.YtebeafcdabkkfaaPFnExactShowHintx9
namespace Go.Proofs.Ytebeafcdabkkfaa.Pure
open Go.RowKit Go.Proofs.Ytebeafcdabkkfaa.PFnExactShowHint Go.Proofs.YtebeafcdabkkfaaW.PrintWords Go.Proofs.YtebeafcdabkkfaaW.PrintLast
set_option linter.unusedVariables false
set_option linter.unusedSimpArgs false

/-- The string of a list of bytes. -/
def mkS (l : List UInt8) : ByteArray := ⟨l.toArray⟩
theorem exS (s : ByteArray) : ∃ l, s = mkS l := ⟨s.data.toList, by cases s; simp [mkS]⟩
theorem mkS_size (l : List UInt8) : (mkS l).size = l.length := by simp [mkS, ByteArray.size]
theorem toList_data (s : ByteArray) : s.toList = s.data.toList := by
  have key : ∀ (n i : Nat) (r : List UInt8), s.size - i = n → ByteArray.toList.loop s i r = r.reverse ++ s.data.toList.drop i := by
    intro n
    induction n with
    | zero =>
      intro i r h
      unfold ByteArray.toList.loop
      rw [if_neg (by omega), List.drop_of_length_le (by simp only [Array.length_toList]; have : s.size = s.data.size := rfl; omega), List.append_nil]
    | succ n ih =>
      intro i r h
      unfold ByteArray.toList.loop
      have hi : i < s.data.toList.length := by simp only [Array.length_toList]; have : s.size = s.data.size := rfl; omega
      rw [if_pos (by omega), ih (i + 1) _ (by omega), List.reverse_cons, List.append_assoc, List.drop_eq_getElem_cons hi]
      have : s.get! i = s.data.toList[i] := by
        show s.data[i]! = _
        rw [Array.getElem_toList]
        exact getElem!_pos s.data i (by simpa using hi)
      rw [this]
      rfl
  have := key _ 0 [] rfl
  simpa [ByteArray.toList] using this
theorem mkS_toList (l : List UInt8) : (mkS l).toList = l := by rw [toList_data]; simp [mkS]
theorem mkS_append (a b : List UInt8) : mkS a ++ mkS b = mkS (a ++ b) := by
  apply ByteArray.ext
  simp [mkS, ByteArray.data_append]
theorem mkS_nil : (⟨#[]⟩ : ByteArray) = mkS [] := rfl
theorem bt_mkS (l : List UInt8) (i : Nat) (h : i < l.length) : bt (mkS l) (i : Int) = ((l[i]).toNat : Int) := by
  unfold bt
  have h' : ((i : Int)).toNat < (mkS l).size := by rw [mkS_size]; simpa using h
  rw [dif_pos h']
  simp only [Int.toNat_natCast]
  rfl
/-- A slice of bytes as the print tells it. -/
def ints (l : List UInt8) : List Int := l.map fun b => (b.toNat : Int)
theorem ints_length (l : List UInt8) : (ints l).length = l.length := by simp [ints]
theorem ints_append (a b : List UInt8) : ints a ++ ints b = ints (a ++ b) := by simp [ints]
theorem ints_nil : ([] : List Int) = ints [] := rfl
theorem strOfNums_ints (l : List UInt8) : strOfNums (ints l) = mkS l := by
  unfold strOfNums ints mkS
  congr 2
  rw [List.map_map]
  conv => rhs; rw [← List.map_id l]
  apply List.map_congr_left
  intro b _
  simp
theorem ofNat_cast (n : Nat) : ((UInt8.ofNat n).toNat : Int) = (n : Int) % 256 := by simp
theorem ints_one (n : Nat) (x : Int) (h : x % 256 = ((n % 256 : Nat) : Int)) : [x % 256] = ints [UInt8.ofNat n] := by
  simp only [ints, List.map_cons, List.map_nil]
  rw [h, ofNat_cast]
  simp
theorem w64 {x : Int} (h0 : -9223372036854775808 ≤ x) (h1 : x ≤ 9223372036854775807) : wrap64 x = x := by unfold wrap64; omega
theorem bt_rng (s : ByteArray) (i : Int) : 0 ≤ bt s i ∧ bt s i ≤ 255 := by
  unfold bt
  by_cases h : i.toNat < s.size
  · rw [dif_pos h]
    have := (s[i.toNat]'h).toNat_lt
    omega
  · rw [dif_neg h]
    omega
theorem w64b (s : ByteArray) (i : Int) : wrap64 (bt s i) = bt s i := by have := bt_rng s i; exact w64 (by omega) (by omega)
theorem tdivp {x y : Int} (h : 0 ≤ x) : Int.tdiv x y = x / y := Int.tdiv_eq_ediv_of_nonneg h
theorem tmodp {x y : Int} (h : 0 ≤ x) : Int.tmod x y = x % y := Int.tmod_eq_emod_of_nonneg h
theorem shl_i64 {x y : Int} {n : Nat} (hy : y = (n : Int)) (hn : n ≤ 64) : shl .i64 x y = wrap64 (x * 2 ^ n) := by
  unfold shl
  have e : min y.toNat IntKind.i64.bits = n := by subst hy; simp [IntKind.bits]; omega
  rw [e, IntKind.wrap_i64, wrap64]
theorem shr_i64 {x y : Int} {n : Nat} (hy : y = (n : Int)) (hn : n ≤ 64) : shr .i64 x y = x / 2 ^ n := by
  unfold shr
  have e : min y.toNat IntKind.i64.bits = n := by subst hy; simp [IntKind.bits]; omega
  rw [e]
theorem evx {α : Type} {g : Nat → Option α} {r : α} (h : Ev g r) : ∃ K, ∀ k, K ≤ k → g k = some r := h
theorem evi {α : Type} {g : Nat → Option α} {r : α} (K : Nat) (h : ∀ k, K ≤ k → g k = some r) : Ev g r := ⟨K, h⟩

theorem fill_step {α : Type} (m : List α) (z : α) (i n : Nat) (x : α) (hn : m.length = n) (h : i < n) (hx : m[i]? = some x) : (m.take i ++ List.replicate (n - i) z).set i x = m.take (i + 1) ++ List.replicate (n - (i + 1)) z := by
  subst hn
  have hl : (m.take i).length = i := by rw [List.length_take]; omega
  have e : m.length - i = (m.length - (i + 1)) + 1 := by omega
  have ex : m[i] = x := by rw [List.getElem?_eq_getElem h] at hx; exact Option.some.inj hx
  rw [e, List.replicate_succ, List.set_append_right _ _ (by omega), hl, Nat.sub_self, List.set_cons_zero, List.take_succ_eq_append_getElem h, List.append_assoc, ex]
  rfl

theorem impl_in_f (a b c : Int) : impl_in.f a b c = some (decide (b ≤ a ∧ a ≤ c)) := by
  unfold impl_in.f
  by_cases h : a ≥ b
  · rw [if_pos h]; congr 1; simp [h]
  · rw [if_neg h]; congr 1; simp; omega

theorem spec_l1In_f (a b c : Int) : spec_l1In.f a b c = some (decide (b ≤ a ∧ a ≤ c)) := by
  unfold spec_l1In.f
  by_cases h : a ≥ b
  · rw [if_pos h]; congr 1; simp [h]
  · rw [if_neg h]; congr 1; simp; omega

def keyOkB (l : List UInt8) : Bool := decide (1 ≤ l.length ∧ l.length ≤ 8)
theorem impl_KeyOk_f (l : List UInt8) : impl_KeyOk.f (mkS l) = some (keyOkB l) := by
  unfold impl_KeyOk.f keyOkB
  rw [impl_in_f, mkS_size]
  simp only [Option.bind_some]
  congr 1
  apply decide_eq_decide.2
  omega

theorem spec_KeyOk_f (l : List UInt8) : spec_KeyOk.f (mkS l) = some (keyOkB l) := by
  unfold spec_KeyOk.f keyOkB
  rw [spec_l1In_f, mkS_size]
  simp only [Option.bind_some]
  congr 1
  apply decide_eq_decide.2
  omega

def varL (n : Nat) : List UInt8 := if n < 128 then [UInt8.ofNat n] else UInt8.ofNat (n % 128 + 128) :: varL (n / 128)
termination_by n
decreasing_by omega
theorem varL_small {n : Nat} (h : n < 128) : varL n = [UInt8.ofNat n] := by rw [varL, if_pos h]
theorem varL_big {n : Nat} (h : ¬ n < 128) : varL n = UInt8.ofNat (n % 128 + 128) :: varL (n / 128) := by rw [varL, if_neg h]
theorem varL_pos (n : Nat) : 0 < (varL n).length := by
  by_cases h : n < 128
  · rw [varL_small h]; simp
  · rw [varL_big h]; simp
theorem varL_len (j : Nat) : ∀ n : Nat, n < 128 ^ (j + 1) → (varL n).length ≤ j + 1 := by
  induction j with
  | zero => intro n h; rw [varL_small (by omega)]; simp
  | succ j ih =>
    intro n h
    by_cases hn : n < 128
    · rw [varL_small hn]; simp
    · rw [varL_big hn, List.length_cons]
      have : n / 128 < 128 ^ (j + 1) := by rw [Nat.div_lt_iff_lt_mul (by omega)]; rw [Nat.pow_succ] at h; exact h
      have := ih _ this
      omega
theorem varL_len7 {n : Nat} (h : n ≤ 562949953421311) : (varL n).length ≤ 7 := varL_len 6 n (by omega)
/-- A number's text. -/
def varS (n : Int) : ByteArray := if 0 ≤ n ∧ n ≤ 562949953421311 then mkS (varL n.toNat) else mkS []
theorem varS_nat {n : Nat} (h : n ≤ 562949953421311) : varS (n : Int) = mkS (varL n) := by
  unfold varS
  rw [if_pos ⟨by omega, by omega⟩, Int.toNat_natCast]
/-- A text with its length ahead. -/
def textL (l : List UInt8) : List UInt8 := varL l.length ++ l
theorem textL_length (l : List UInt8) (h : l.length ≤ 562949953421311) : (textL l).length ≤ l.length + 7 := by have := varL_len7 h; rw [textL, List.length_append]; omega

theorem impl_Var_l0 (m : Nat) : ∀ (n : Nat) (acc : List UInt8), n ≤ 562949953421311 → n ≤ m → acc.length + n ≤ 600000000000000 → acc.length + (varL n).length ≤ 100000000000000 → Ev (fun k => impl_Var.l0 k (n : Int) (ints acc)) (mkS (acc ++ varL n)) := by
  induction m using Nat.strongRecOn with
  | ind m ih =>
  intro n acc hn hm _ hl
  have hlp := varL_pos n
  by_cases h : n < 128
  · refine evi (1) fun k hk => ?_
    obtain ⟨k, rfl⟩ : ∃ m, k = m + 1 := ⟨k - 1, by omega⟩
    simp only [impl_Var.l0]
    rw [if_neg (by omega), if_pos (by rw [ints_length]; omega), ints_one n _ (by omega), ints_append, strOfNums_ints, varL_small h]
  · have hd := varL_big h
    obtain ⟨K, hK⟩ := evx (ih (n / 128) (by omega) (n / 128) (acc ++ [UInt8.ofNat (n % 128 + 128)]) (by omega) (Nat.le_refl _) (by rw [List.length_append, List.length_singleton]; omega) (by rw [hd, List.length_cons] at hl; rw [List.length_append, List.length_singleton]; omega))
    refine evi (K + 1) fun k hk => ?_
    obtain ⟨k, rfl⟩ : ∃ m, k = m + 1 := ⟨k - 1, by omega⟩
    simp only [impl_Var.l0]
    rw [if_pos (by omega), if_pos (by rw [ints_length]; omega), tdivp (by omega), tmodp (by omega), w64 (by omega) (by omega), w64 (by omega) (by omega), ints_one (n % 128 + 128) _ (by omega), ints_append]
    have := hK k (by omega)
    simp only [Int.natCast_ediv] at this
    rw [hd, show (128 : Int) = ((128 : Nat) : Int) from rfl, this, List.append_assoc]
    rfl
theorem impl_Var_ev (n : Int) : Ev (fun k => impl_Var.f k n) (varS n) := by
  by_cases h : 0 ≤ n ∧ n ≤ 562949953421311
  · obtain ⟨m, rfl⟩ := Int.eq_ofNat_of_zero_le h.1
    have h7 := varL_len7 (n := m) (by omega)
    obtain ⟨K, hK⟩ := evx (impl_Var_l0 m m [] (by omega) (Nat.le_refl _) (by simp; omega) (by simp; omega))
    refine evi (K) fun k hk => ?_
    unfold impl_Var.f
    rw [impl_in_f]
    simp only [Option.bind_some]
    rw [if_pos (by simpa using h), ints_nil, hK k hk, varS, if_pos h]
    rfl
  · refine evi (0) fun k hk => ?_
    unfold impl_Var.f
    rw [impl_in_f]
    simp only [Option.bind_some]
    rw [if_neg (by simpa using h), varS, if_neg h]
    rfl

theorem spec_Var_l0 (m : Nat) : ∀ (n : Nat) (acc : List UInt8), n ≤ 562949953421311 → n ≤ m → acc.length + (varL n).length ≤ 100000000000000 → Ev (fun k => spec_Var.l0 k (n : Int) (ints acc)) (mkS (acc ++ varL n)) := by
  induction m using Nat.strongRecOn with
  | ind m ih =>
  intro n acc hn hm hl
  have hlp := varL_pos n
  by_cases h : n < 128
  · refine evi (1) fun k hk => ?_
    obtain ⟨k, rfl⟩ : ∃ m, k = m + 1 := ⟨k - 1, by omega⟩
    simp only [spec_Var.l0]
    rw [if_neg (by omega), if_pos (by rw [ints_length]; omega), ints_one n _ (by omega), ints_append, strOfNums_ints, varL_small h]
  · have hd := varL_big h
    obtain ⟨K, hK⟩ := evx (ih (n / 128) (by omega) (n / 128) (acc ++ [UInt8.ofNat (n % 128 + 128)]) (by omega) (Nat.le_refl _) (by rw [hd, List.length_cons] at hl; rw [List.length_append, List.length_singleton]; omega))
    refine evi (K + 1) fun k hk => ?_
    obtain ⟨k, rfl⟩ : ∃ m, k = m + 1 := ⟨k - 1, by omega⟩
    simp only [spec_Var.l0]
    rw [if_pos (by omega), if_pos (by rw [ints_length]; omega), tdivp (by omega), tmodp (by omega), w64 (by omega) (by omega), w64 (by omega) (by omega), ints_one (n % 128 + 128) _ (by omega), ints_append]
    have := hK k (by omega)
    simp only [Int.natCast_ediv] at this
    rw [hd, show (128 : Int) = ((128 : Nat) : Int) from rfl, this, List.append_assoc]
    rfl
theorem spec_Var_ev (n : Int) : Ev (fun k => spec_Var.f k n) (varS n) := by
  by_cases h : 0 ≤ n ∧ n ≤ 562949953421311
  · obtain ⟨m, rfl⟩ := Int.eq_ofNat_of_zero_le h.1
    have h7 := varL_len7 (n := m) (by omega)
    obtain ⟨K, hK⟩ := evx (spec_Var_l0 m m [] (by omega) (Nat.le_refl _) (by simp; omega))
    refine evi (K) fun k hk => ?_
    unfold spec_Var.f
    rw [spec_l1In_f]
    simp only [Option.bind_some]
    rw [if_pos (by simpa using h), ints_nil, hK k hk, varS, if_pos h]
    rfl
  · refine evi (0) fun k hk => ?_
    unfold spec_Var.f
    rw [spec_l1In_f]
    simp only [Option.bind_some]
    rw [if_neg (by simpa using h), varS, if_neg h]
    rfl

def fixL : Nat → Nat → List UInt8
  | 0, _ => []
  | w + 1, n => UInt8.ofNat (n / 256 ^ w) :: fixL w n
theorem fixL_length (w n : Nat) : (fixL w n).length = w := by induction w with
  | zero => rfl
  | succ w ih => rw [fixL, List.length_cons, ih]
def fixS (n w : Int) : ByteArray := if (1 ≤ w ∧ w ≤ 7) ∧ 0 ≤ n ∧ n < 256 ^ w.toNat then mkS (fixL w.toNat n.toNat) else mkS []
theorem pow256_le {i : Nat} (h : i ≤ 7) : 256 ^ i ≤ 72057594037927936 := Nat.pow_le_pow_right (n := 256) (by omega) h
theorem pow_2_8 (i : Nat) : ((2 : Int) ^ (8 * i)) = ((256 ^ i : Nat) : Int) := by
  rw [show (256 : Nat) = 2 ^ 8 from rfl, ← Nat.pow_mul]
  simp

theorem impl_Fixed_l0 (n : Nat) (m : Nat) : ∀ (acc : List UInt8), m ≤ 7 → acc.length + m ≤ 100 → Ev (fun k => impl_Fixed.l0 k (n : Int) (ints acc) ((m : Int) - 1)) (mkS (acc ++ fixL m n)) := by
  induction m with
  | zero =>
    intro acc _ hl
    refine evi (1) fun k hk => ?_
    obtain ⟨k, rfl⟩ : ∃ m, k = m + 1 := ⟨k - 1, by omega⟩
    simp only [impl_Fixed.l0]
    rw [if_neg (by omega), strOfNums_ints, fixL, List.append_nil]
  | succ m ih =>
    intro acc hm hl
    obtain ⟨K, hK⟩ := evx (ih (acc ++ [UInt8.ofNat (n / 256 ^ m)]) (by omega) (by rw [List.length_append, List.length_singleton]; omega))
    refine evi (K + 1) fun k hk => ?_
    obtain ⟨k, rfl⟩ : ∃ m, k = m + 1 := ⟨k - 1, by omega⟩
    simp only [impl_Fixed.l0]
    rw [show (((m + 1 : Nat) : Int) - 1) = (m : Int) from by omega]
    rw [if_pos (by omega), w64 (x := 8 * (m : Int)) (by omega) (by omega), if_pos (by omega), if_pos (by rw [ints_length]; omega), shr_i64 (n := 8 * m) (by simp) (by omega), pow_2_8, w64 (by omega) (by omega), ints_one (n / 256 ^ m) _ (by rw [← Int.natCast_ediv]; omega), ints_append, hK k (by omega), fixL, List.append_assoc]
    rfl
theorem impl_Fixed_ev (n w : Int) : Ev (fun k => impl_Fixed.f k n w) (fixS n w) := by
  by_cases hw : 1 ≤ w ∧ w ≤ 7
  · obtain ⟨m, rfl⟩ := Int.eq_ofNat_of_zero_le (show 0 ≤ w by omega)
    have hp := pow256_le (i := m) (by omega)
    have hp0 : 0 < 256 ^ m := Nat.pow_pos (by omega)
    have e1 : wrap64 (shl .i64 1 (wrap64 (8 * (m : Int))) - 1) = ((256 ^ m : Nat) : Int) - 1 := by
      rw [w64 (x := 8 * (m : Int)) (by omega) (by omega), shl_i64 (n := 8 * m) (by simp) (by omega), pow_2_8, Int.one_mul, w64 (x := ((256 ^ m : Nat) : Int)) (by omega) (by omega), w64 (by omega) (by omega)]
    have hcast : ((256 : Int) ^ m) = ((256 ^ m : Nat) : Int) := by simp
    by_cases hn : 0 ≤ n ∧ n < 256 ^ m
    · have hn2 := hn.2
      rw [hcast] at hn2
      obtain ⟨q, rfl⟩ := Int.eq_ofNat_of_zero_le hn.1
      obtain ⟨K, hK⟩ := evx (impl_Fixed_l0 q m [] (by omega) (by simp; omega))
      refine evi (K + 1) fun k hk => ?_
      obtain ⟨k, rfl⟩ : ∃ m, k = m + 1 := ⟨k - 1, by omega⟩
      unfold impl_Fixed.f
      rw [impl_in_f]
      simp only [Option.bind_some]
      rw [if_pos (by simpa using hw), if_pos (by rw [w64 (by omega) (by omega)]; omega), e1, impl_in_f]
      simp only [Option.bind_some, impl_Fixed.j0]
      rw [if_neg (by simp; omega), w64 (by omega) (by omega), ints_nil, hK k (by omega), fixS, if_pos ⟨hw, by simpa using hn⟩]
      simp
    · refine evi (1) fun k hk => ?_
      obtain ⟨k, rfl⟩ : ∃ m, k = m + 1 := ⟨k - 1, by omega⟩
      unfold impl_Fixed.f
      rw [impl_in_f]
      simp only [Option.bind_some]
      rw [if_pos (by simpa using hw), if_pos (by rw [w64 (by omega) (by omega)]; omega), e1, impl_in_f]
      simp only [Option.bind_some, impl_Fixed.j0]
      rw [hcast] at hn
      rw [if_pos (by simp only [Bool.not_eq_true', decide_eq_false_iff_not]; omega), fixS, if_neg (fun h => hn (by rw [← hcast]; simpa using h.2))]
      rfl
  · refine evi (1) fun k hk => ?_
    obtain ⟨k, rfl⟩ : ∃ m, k = m + 1 := ⟨k - 1, by omega⟩
    unfold impl_Fixed.f
    rw [impl_in_f]
    simp only [Option.bind_some, impl_Fixed.j0]
    rw [if_neg (by simpa using hw), if_pos trivial, fixS, if_neg (fun h => hw h.1)]
    rfl

theorem spec_Fixed_l0 (n : Nat) (w : Nat) (hw : w ≤ 7) (hn : n ≤ 9223372036854775807) (d : Nat) : ∀ (i : Nat), d + i = w → Ev (fun k => spec_Fixed.l0 k ((n / 256 ^ i : Nat) : Int) (w : Int) (mkS (fixL i n)) (i : Int)) (if n / 256 ^ w = 0 then mkS (fixL w n) else mkS []) := by
  induction d with
  | zero =>
    intro i hi
    obtain rfl : i = w := by omega
    refine evi (1) fun k hk => ?_
    obtain ⟨k, rfl⟩ : ∃ m, k = m + 1 := ⟨k - 1, by omega⟩
    simp only [spec_Fixed.l0]
    rw [if_neg (by omega)]
    by_cases h : n / 256 ^ i = 0
    · rw [if_neg (by rw [h]; omega), if_pos h]
    · rw [if_pos (by have : 0 < n / 256 ^ i := Nat.pos_of_ne_zero h; omega), if_neg h]
      rfl
  | succ d ih =>
    intro i hi
    obtain ⟨K, hK⟩ := evx (ih (i + 1) (by omega))
    refine evi (K + 1) fun k hk => ?_
    obtain ⟨k, rfl⟩ : ∃ m, k = m + 1 := ⟨k - 1, by omega⟩
    have hq : n / 256 ^ i ≤ n := Nat.div_le_self _ _
    have this := hK k (by omega)
    rw [fixL, Nat.pow_succ, ← Nat.div_div_eq_div_mul] at this
    generalize n / 256 ^ i = q at *
    simp only [spec_Fixed.l0, Option.bind_some]
    rw [if_pos (by omega), tmodp (by omega), tdivp (by omega), ints_one q _ (by omega), strOfNums_ints, if_pos (by rw [mkS_size, mkS_size, fixL_length]; simp; omega), mkS_append, w64 (by omega) (by omega), w64 (by omega) (by omega)]
    rw [show ((q : Int) / 256) = ((q / 256 : Nat) : Int) from by omega, show ((i : Int) + 1) = ((i + 1 : Nat) : Int) from by omega]
    exact this
theorem spec_Fixed_ev (n w : Int) (hn : n ≤ 9223372036854775807) : Ev (fun k => spec_Fixed.f k n w) (fixS n w) := by
  by_cases hw : 1 ≤ w ∧ w ≤ 7
  · by_cases h0 : n < 0
    · refine evi (1) fun k hk => ?_
      obtain ⟨k, rfl⟩ : ∃ m, k = m + 1 := ⟨k - 1, by omega⟩
      unfold spec_Fixed.f
      rw [spec_l1In_f]
      simp only [Option.bind_some, spec_Fixed.j0]
      rw [if_pos (by simpa using hw), if_pos (by simpa using h0), fixS, if_neg (fun h => by omega)]
      rfl
    · obtain ⟨m, rfl⟩ := Int.eq_ofNat_of_zero_le (show 0 ≤ w by omega)
      obtain ⟨q, rfl⟩ := Int.eq_ofNat_of_zero_le (show 0 ≤ n by omega)
      obtain ⟨K, hK⟩ := evx (spec_Fixed_l0 q m (by omega) (by omega) m 0 (by omega))
      refine evi (K + 1) fun k hk => ?_
      obtain ⟨k, rfl⟩ : ∃ m, k = m + 1 := ⟨k - 1, by omega⟩
      have hcast : ((256 : Int) ^ m) = ((256 ^ m : Nat) : Int) := by simp
      have hp0 : 0 < 256 ^ m := Nat.pow_pos (by omega)
      unfold spec_Fixed.f
      rw [spec_l1In_f]
      simp only [Option.bind_some, spec_Fixed.j0]
      rw [if_pos (by simpa using hw), if_neg (by simp), mkS_nil]
      have := hK k (by omega)
      rw [Nat.pow_zero, Nat.div_one] at this
      refine this.trans ?_
      rw [fixS]
      by_cases hlt : q < 256 ^ m
      · rw [if_pos (Nat.div_eq_of_lt hlt), if_pos ⟨hw, by omega, by rw [Int.toNat_natCast, hcast]; omega⟩, Int.toNat_natCast, Int.toNat_natCast]
      · rw [if_neg (by rw [Nat.div_eq_zero_iff]; omega), if_neg (fun h => hlt (by have := h.2.2; rw [Int.toNat_natCast, hcast] at this; omega))]
  · refine evi (1) fun k hk => ?_
    obtain ⟨k, rfl⟩ : ∃ m, k = m + 1 := ⟨k - 1, by omega⟩
    unfold spec_Fixed.f
    rw [spec_l1In_f]
    simp only [Option.bind_some, spec_Fixed.j0]
    rw [if_neg (by simpa using hw), if_pos trivial, fixS, if_neg (fun h => hw h.1)]
    rfl

def crcT (c : Nat) : Nat := if c % 2 = 1 then (c / 2) ^^^ 2197175160 else c / 2
def crcN : Nat → Nat → Nat
  | 0, c => c
  | n + 1, c => crcN n (crcT c)
def crcL (c : Nat) (l : List UInt8) : Nat := l.foldl (fun c b => crcN 8 (c ^^^ b.toNat)) c
def crcS (l : List UInt8) : Nat := 4294967295 - crcL 4294967295 l
theorem xor_lt32 {a b : Nat} (ha : a < 4294967296) (hb : b < 4294967296) : a ^^^ b < 4294967296 := Nat.xor_lt_two_pow (n := 32) ha hb
theorem crcT_lt {c : Nat} (h : c < 4294967296) : crcT c < 4294967296 := by
  unfold crcT
  split
  · exact xor_lt32 (by omega) (by omega)
  · omega
theorem crcN_lt (n : Nat) : ∀ c, c < 4294967296 → crcN n c < 4294967296 := by
  induction n with
  | zero => intro c h; exact h
  | succ n ih => intro c h; exact ih _ (crcT_lt h)
theorem crcS_lt (l : List UInt8) : crcS l < 4294967296 := by unfold crcS; omega
theorem bits_xor_nat (k : IntKind) (j : Nat) (hj : j ≤ k.bits) (hk : ∀ n : Int, 0 ≤ n → n < 2 ^ j → k.wrap n = n) (a b : Nat) (ha : a < 2 ^ j) (hb : b < 2 ^ j) : Go.bits .xor k a b = ((a ^^^ b : Nat) : Int) := by
  have hp : 2 ^ j ≤ 2 ^ k.bits := Nat.pow_le_pow_right (by decide) hj
  have ha' : a % 2 ^ k.bits = a := Nat.mod_eq_of_lt (Nat.lt_of_lt_of_le ha hp)
  have hb' : b % 2 ^ k.bits = b := Nat.mod_eq_of_lt (Nat.lt_of_lt_of_le hb hp)
  have cast : ∀ n : Nat, n < 2 ^ j → ((n : Nat) : Int) < 2 ^ j := fun n h => by exact_mod_cast h
  simp only [Go.bits, BitVec.ofInt_natCast, BitVec.toNat_xor, BitVec.toNat_ofNat, ha', hb']
  exact hk _ (Int.natCast_nonneg _) (cast _ (Nat.xor_lt_two_pow ha hb))
theorem xor_u32 {a b : Nat} (ha : a < 4294967296) (hb : b < 4294967296) : Go.bits .xor .u32 (a : Int) (b : Int) = ((a ^^^ b : Nat) : Int) :=
  bits_xor_nat .u32 32 (by decide) (fun n h0 h1 => by rw [IntKind.wrap_u32]; omega) a b ha hb
theorem xor_i64 {a b : Nat} (ha : a < 4294967296) (hb : b < 4294967296) : Go.bits .xor .i64 (a : Int) (b : Int) = ((a ^^^ b : Nat) : Int) :=
  bits_xor_nat .i64 32 (by decide) (fun n h0 h1 => by rw [IntKind.wrap_i64]; omega) a b ha hb
theorem and_u32_1 {a : Nat} (ha : a < 4294967296) : Go.bits .and .u32 (a : Int) 1 = ((a % 2 : Nat) : Int) := by
  have := (bits_nat .u32 32 (by decide) (fun n h0 h1 => by rw [IntKind.wrap_u32]; omega) a 1 ha (by decide)).1
  rw [Nat.and_one_is_mod] at this
  exact this
theorem not_u32 {a : Nat} (ha : a < 4294967296) : Go.bits .xor .u32 (IntKind.u32.max) (a : Int) = ((4294967295 - a : Nat) : Int) := by
  have e : IntKind.u32.max = ((4294967295 : Nat) : Int) := by decide
  rw [e, xor_u32 (by omega) ha]
  congr 1
  have h := BitVec.toNat_not (x := BitVec.ofNat 32 a)
  rw [← BitVec.allOnes_xor, BitVec.toNat_xor, BitVec.toNat_allOnes, BitVec.toNat_ofNat, Nat.mod_eq_of_lt ha] at h
  exact h

theorem impl_Crc_l1 (l : List UInt8) (i : Nat) (r : Int) (hi : i < 9000000000000000000) (d : Nat) : ∀ (j c : Nat), d + j = 8 → c < 4294967296 → Ev (fun k => impl_Crc.l0 k (mkS l) ((crcN d c : Nat) : Int) ((i + 1 : Nat) : Int)) r → Ev (fun k => impl_Crc.l1 k (mkS l) (c : Int) (i : Int) (j : Int)) r := by
  induction d with
  | zero =>
    intro j c hj hc h
    obtain ⟨K, hK⟩ := evx (h)
    refine evi (K + 1) fun k hk => ?_
    obtain ⟨k, rfl⟩ : ∃ m, k = m + 1 := ⟨k - 1, by omega⟩
    simp only [impl_Crc.l1]
    rw [if_neg (by omega), w64 (by omega) (by omega)]
    exact hK k (by omega)
  | succ d ih =>
    intro j c hj hc h
    obtain ⟨K, hK⟩ := evx (ih (j + 1) (crcT c) (by omega) (crcT_lt hc) h)
    refine evi (K + 1) fun k hk => ?_
    obtain ⟨k, rfl⟩ : ∃ m, k = m + 1 := ⟨k - 1, by omega⟩
    simp only [impl_Crc.l1]
    have hgo := hK k (by omega)
    rw [if_pos (by omega), and_u32_1 hc, w64 (by omega) (by omega), show ((j : Int) + 1) = ((j + 1 : Nat) : Int) from by omega]
    unfold crcT at hgo
    by_cases ho : c % 2 = 1
    · rw [if_pos ho] at hgo
      rw [if_pos (by omega), show ((c : Int) / 2) = ((c / 2 : Nat) : Int) from by omega, show (2197175160 : Int) = ((2197175160 : Nat) : Int) from rfl, xor_u32 (by omega) (by omega)]
      exact hgo
    · rw [if_neg ho] at hgo
      rw [if_neg (by omega), show ((c : Int) / 2) = ((c / 2 : Nat) : Int) from by omega]
      exact hgo
theorem impl_Crc_l0 (l : List UInt8) (hl : l.length < 9000000000000000000) (d : Nat) : ∀ (i c : Nat), d + i = l.length → c < 4294967296 → Ev (fun k => impl_Crc.l0 k (mkS l) (c : Int) (i : Int)) ((4294967295 - crcL c (l.drop i) : Nat) : Int) := by
  induction d with
  | zero =>
    intro i c hi hc
    refine evi (1) fun k hk => ?_
    obtain ⟨k, rfl⟩ : ∃ m, k = m + 1 := ⟨k - 1, by omega⟩
    simp only [impl_Crc.l0]
    rw [if_neg (by rw [mkS_size]; omega), not_u32 hc, w64 (by omega) (by omega), List.drop_of_length_le (by omega)]
    rfl
  | succ d ih =>
    intro i c hi hc
    have hlt : i < l.length := by omega
    have hx := (l[i]).toNat_lt
    have hc' : c ^^^ (l[i]).toNat < 4294967296 := xor_lt32 hc (by omega)
    obtain ⟨K, hK⟩ := evx (impl_Crc_l1 l i _ (by omega) 8 0 (c ^^^ (l[i]).toNat) rfl hc' (ih (i + 1) (crcN 8 (c ^^^ (l[i]).toNat)) (by omega) (crcN_lt 8 _ hc')))
    refine evi (K + 1) fun k hk => ?_
    obtain ⟨k, rfl⟩ : ∃ m, k = m + 1 := ⟨k - 1, by omega⟩
    simp only [impl_Crc.l0]
    rw [if_pos (by rw [mkS_size]; omega), if_pos (by omega), bt_mkS l i hlt, Int.emod_eq_of_lt (by omega) (by omega), xor_u32 hc (by omega), List.drop_eq_getElem_cons hlt]
    exact hK k (by omega)
theorem impl_Crc_ev (l : List UInt8) (hl : l.length < 9000000000000000000) : Ev (fun k => impl_Crc.f k (mkS l)) (crcS l : Int) := by
  have h := impl_Crc_l0 l hl l.length 0 4294967295 rfl (by omega)
  exact h

theorem spec_Crc_l1 (l : List UInt8) (i : Nat) (r : Int) (hi : i < 9000000000000000000) (d : Nat) : ∀ (j c : Nat), d + j = 8 → c < 4294967296 → Ev (fun k => spec_Crc.l0 k (mkS l) ((crcN d c : Nat) : Int) ((i + 1 : Nat) : Int)) r → Ev (fun k => spec_Crc.l1 k (mkS l) (c : Int) (i : Int) (j : Int)) r := by
  induction d with
  | zero =>
    intro j c hj hc h
    obtain ⟨K, hK⟩ := evx (h)
    refine evi (K + 1) fun k hk => ?_
    obtain ⟨k, rfl⟩ : ∃ m, k = m + 1 := ⟨k - 1, by omega⟩
    simp only [spec_Crc.l1]
    rw [if_neg (by omega), w64 (by omega) (by omega)]
    exact hK k (by omega)
  | succ d ih =>
    intro j c hj hc h
    obtain ⟨K, hK⟩ := evx (ih (j + 1) (crcT c) (by omega) (crcT_lt hc) h)
    refine evi (K + 1) fun k hk => ?_
    obtain ⟨k, rfl⟩ : ∃ m, k = m + 1 := ⟨k - 1, by omega⟩
    simp only [spec_Crc.l1]
    have hgo := hK k (by omega)
    rw [if_pos (by omega), tmodp (by omega), tdivp (by omega), w64 (x := (j : Int) + 1) (by omega) (by omega), w64 (x := (c : Int) / 2) (by omega) (by omega), show ((j : Int) + 1) = ((j + 1 : Nat) : Int) from by omega]
    unfold crcT at hgo
    by_cases ho : c % 2 = 1
    · rw [if_pos ho] at hgo
      rw [if_pos (by omega), show ((c : Int) / 2) = ((c / 2 : Nat) : Int) from by omega, show (2197175160 : Int) = ((2197175160 : Nat) : Int) from rfl, xor_i64 (by omega) (by omega)]
      exact hgo
    · rw [if_neg ho] at hgo
      rw [if_neg (by omega), show ((c : Int) / 2) = ((c / 2 : Nat) : Int) from by omega]
      exact hgo
theorem spec_Crc_l0 (l : List UInt8) (hl : l.length < 9000000000000000000) (d : Nat) : ∀ (i c : Nat), d + i = l.length → c < 4294967296 → Ev (fun k => spec_Crc.l0 k (mkS l) (c : Int) (i : Int)) ((4294967295 - crcL c (l.drop i) : Nat) : Int) := by
  induction d with
  | zero =>
    intro i c hi hc
    refine evi (1) fun k hk => ?_
    obtain ⟨k, rfl⟩ : ∃ m, k = m + 1 := ⟨k - 1, by omega⟩
    simp only [spec_Crc.l0]
    rw [if_neg (by rw [mkS_size]; omega), w64 (by omega) (by omega), List.drop_of_length_le (by omega)]
    congr 1
    show _ = ((4294967295 - c : Nat) : Int)
    omega
  | succ d ih =>
    intro i c hi hc
    have hlt : i < l.length := by omega
    have hx := (l[i]).toNat_lt
    have hc' : c ^^^ (l[i]).toNat < 4294967296 := xor_lt32 hc (by omega)
    obtain ⟨K, hK⟩ := evx (spec_Crc_l1 l i _ (by omega) 8 0 (c ^^^ (l[i]).toNat) rfl hc' (ih (i + 1) (crcN 8 (c ^^^ (l[i]).toNat)) (by omega) (crcN_lt 8 _ hc')))
    refine evi (K + 1) fun k hk => ?_
    obtain ⟨k, rfl⟩ : ∃ m, k = m + 1 := ⟨k - 1, by omega⟩
    simp only [spec_Crc.l0]
    rw [if_pos (by rw [mkS_size]; omega), if_pos (by omega), w64b, bt_mkS l i hlt, xor_i64 hc (by omega), List.drop_eq_getElem_cons hlt]
    exact hK k (by omega)
theorem spec_Crc_ev (l : List UInt8) (hl : l.length < 9000000000000000000) : Ev (fun k => spec_Crc.f k (mkS l)) (crcS l : Int) := by
  have h := spec_Crc_l0 l hl l.length 0 4294967295 rfl (by omega)
  exact h

def varB (n : Int) : List UInt8 := if 0 ≤ n ∧ n ≤ 562949953421311 then varL n.toNat else []
theorem varS_B (n : Int) : varS n = mkS (varB n) := by unfold varS varB; split <;> rfl
theorem varB_length (n : Int) : (varB n).length ≤ 7 := by
  unfold varB
  split
  · exact varL_len7 (by omega)
  · simp
def varsL (l : List Int) : List UInt8 := l.flatMap varB
theorem varsL_cons (a : Int) (t : List Int) : varsL (a :: t) = varB a ++ varsL t := by simp [varsL]
theorem varsL_length (l : List Int) : (varsL l).length ≤ 7 * l.length := by
  induction l with
  | nil => simp [varsL]
  | cons a t ih =>
    have := varB_length a
    have e : varsL (a :: t) = varB a ++ varsL t := by simp [varsL]
    rw [e, List.length_append, List.length_cons]
    omega
theorem impl_vars_l0 (l : List Int) (hl : l.length ≤ 1099511627776) (d : Nat) : ∀ (i : Nat) (acc : List UInt8), d + i = l.length → acc.length + 7 * d ≤ 100000000000000 → Ev (fun k => impl_vars.l0 k (mkS acc) l (l.length : Int) (i : Int)) (mkS (acc ++ varsL (l.drop i))) := by
  induction d with
  | zero =>
    intro i acc hi ha
    refine evi (1) fun k hk => ?_
    obtain ⟨k, rfl⟩ : ∃ m, k = m + 1 := ⟨k - 1, by omega⟩
    simp only [impl_vars.l0]
    rw [if_neg (by omega), List.drop_of_length_le (by omega)]
    simp [varsL]
  | succ d ih =>
    intro i acc hi ha
    have hlt : i < l.length := by omega
    have hrd : rd l (i : Int) = l[i] := by simp [rd, hlt]
    have hb := varB_length l[i]
    obtain ⟨K1, h1⟩ := evx (impl_Var_ev l[i])
    obtain ⟨K, hK⟩ := evx (ih (i + 1) (acc ++ varB l[i]) (by omega) (by rw [List.length_append]; omega))
    refine evi (K + K1 + 1) fun k hk => ?_
    obtain ⟨k, rfl⟩ : ∃ m, k = m + 1 := ⟨k - 1, by omega⟩
    have hgo := hK k (by omega)
    simp only [impl_vars.l0]
    rw [if_pos (by omega), if_pos (by omega), if_pos (by omega), hrd, h1 k (by omega), varS_B]
    simp only [Option.bind_some]
    rw [if_pos (by rw [mkS_size, mkS_size]; omega), mkS_append, w64 (by omega) (by omega), show ((i : Int) + 1) = ((i + 1 : Nat) : Int) from by omega, hgo, List.drop_eq_getElem_cons hlt, varsL_cons, List.append_assoc]
theorem impl_vars_ev (l : List Int) (hl : l.length ≤ 1048576) : Ev (fun k => impl_vars.f k l) (mkS (varsL l)) := by
  have := impl_vars_l0 l (by omega) l.length 0 [] rfl (by simp only [List.length_nil]; omega)
  exact this

theorem impl_textOf_ev (l : List UInt8) (hl : l.length ≤ 562949953421311) : Ev (fun k => impl_textOf.f k (mkS l)) (mkS (textL l)) := by
  obtain ⟨K, hK⟩ := evx (impl_Var_ev (l.length : Int))
  have h7 := varL_len7 hl
  refine evi (K) fun k hk => ?_
  unfold impl_textOf.f
  rw [mkS_size, hK k hk, varS_nat hl]
  simp only [Option.bind_some]
  rw [if_pos (by rw [mkS_size]; omega), mkS_append]
  rfl

theorem mkS_self (s : ByteArray) : mkS s.toList = s := by obtain ⟨l, rfl⟩ := exS s; rw [mkS_toList]

theorem fixS_crc (l : List UInt8) : fixS (crcS l : Int) 4 = mkS (fixL 4 (crcS l)) := by
  have := crcS_lt l
  unfold fixS
  rw [if_pos ⟨by omega, by omega, by have e : (256 : Int) ^ (4 : Int).toNat = 4294967296 := by decide
                                     rw [e]; omega⟩, Int.toNat_natCast]
  rfl
/-- Entry i of a directory is right, with the one ahead of it. -/
def dirAt (l : List S113) (i : Nat) : Bool :=
  keyOkB (l.getD i z113).f0.toList && (decide (1 ≤ (l.getD i z113).f1 ∧ (l.getD i z113).f1 ≤ 100000) && (decide (0 ≤ (l.getD i z113).f2) && (decide (1 ≤ (l.getD i z113).f3 ∧ (l.getD i z113).f3 ≤ 210) && (decide (1 ≤ (l.getD i z113).f4 ∧ (l.getD i z113).f4 ≤ 1000000) && (decide (i = 0) || Go.Op.bytesLess (l.getD (i - 1) z113).f0.toList (l.getD i z113).f0.toList)))))
def dirFrom (l : List S113) : Nat → Nat → Bool
  | 0, _ => true
  | d + 1, i => dirAt l i && dirFrom l d (i + 1)
def dirOkB (l : List S113) : Bool := decide (l.length ≤ 20) && dirFrom l l.length 0
theorem keyOk_list (s : ByteArray) : s = mkS s.toList := by obtain ⟨l, rfl⟩ := exS s; rw [mkS_toList]
theorem impl_KeyOk_s (s : ByteArray) : impl_KeyOk.f s = some (keyOkB s.toList) := by
  conv => lhs; rw [keyOk_list s]
  exact impl_KeyOk_f _
theorem spec_KeyOk_s (s : ByteArray) : spec_KeyOk.f s = some (keyOkB s.toList) := by
  conv => lhs; rw [keyOk_list s]
  exact spec_KeyOk_f _
theorem spec_DirOk_l0 (l : List S113) (hl : l.length ≤ 4611686018427387904) (d : Nat) : ∀ (i : Nat), d + i = l.length → Ev (fun k => spec_DirOk.l0 k l (i : Int)) (dirFrom l d i) := by
  induction d with
  | zero =>
    intro i hi
    refine evi (1) fun k hk => ?_
    obtain ⟨k, rfl⟩ : ∃ m, k = m + 1 := ⟨k - 1, by omega⟩
    simp only [spec_DirOk.l0]
    rw [if_neg (by omega)]
    rfl
  | succ d ih =>
    intro i hi
    have h1 : rd_T113 l (i : Int) = l.getD i z113 := by simp [rd_T113]
    obtain ⟨K, hK⟩ := evx (ih (i + 1) (by omega))
    refine evi (K + 1) fun k hk => ?_
    obtain ⟨k, rfl⟩ : ∃ m, k = m + 1 := ⟨k - 1, by omega⟩
    have hgo := hK k (by omega)
    rw [spec_DirOk.l0]
    rw [if_pos (by omega), if_pos (by omega), h1, spec_KeyOk_s]
    simp only [spec_l1In_f, Option.bind_some]
    rw [w64 (x := (i : Int) + 1) (by omega) (by omega), show ((i : Int) + 1) = ((i + 1 : Nat) : Int) from by omega, hgo, dirFrom]
    unfold dirAt
    have h2 : i ≠ 0 → rd_T113 l (wrap64 ((i : Int) - 1)) = l.getD (i - 1) z113 := fun hi0 => by
      rw [w64 (by omega) (by omega), show ((i : Int) - 1) = ((i - 1 : Nat) : Int) from by omega]
      simp [rd_T113]
    have e1 : i ≠ 0 → 0 ≤ wrap64 ((i : Int) - 1) := fun hi0 => by rw [w64 (by omega) (by omega)]; omega
    have e2 : i ≠ 0 → wrap64 ((i : Int) - 1) < (l.length : Int) := fun hi0 => by rw [w64 (by omega) (by omega)]; omega
    generalize l.getD i z113 = e
    generalize l.getD (i - 1) z113 = p at h2
    cases keyOkB e.f0.toList with
    | false => simp
    | true =>
      by_cases c1 : 1 ≤ e.f1 ∧ e.f1 ≤ 100000
      · by_cases c2 : e.f2 < 0
        · have c2n : ¬ 0 ≤ e.f2 := by omega
          simp [c1, c2, c2n]
        · by_cases c3 : 1 ≤ e.f3 ∧ e.f3 ≤ 210
          · by_cases c4 : 1 ≤ e.f4 ∧ e.f4 ≤ 1000000
            · have c2' : 0 ≤ e.f2 := by omega
              by_cases c5 : i = 0
              · subst c5
                simp [c1, c2, c2', c3, c4]
              · have c6 : (i : Int) > 0 := by omega
                rw [h2 c5, if_pos (e1 c5), if_pos (e2 c5)]
                cases Go.Op.bytesLess p.f0.toList e.f0.toList <;> simp [c1, c2, c2', c3, c4, c5, c6]
            · simp [c1, c2, c3, c4]
          · simp [c1, c2, c3]
      · simp [c1]
theorem spec_DirOk_ev (l : List S113) (hl : l.length ≤ 4611686018427387904) : Ev (fun k => spec_DirOk.f k l) (dirOkB l) := by
  unfold dirOkB
  by_cases h : l.length ≤ 20
  · obtain ⟨K, hK⟩ := evx (spec_DirOk_l0 l hl l.length 0 rfl)
    refine evi (K) fun k hk => ?_
    unfold spec_DirOk.f
    rw [if_neg (by omega), decide_eq_true h, Bool.true_and]
    exact hK k hk
  · refine evi (0) fun k hk => ?_
    unfold spec_DirOk.f
    rw [if_pos (by omega), decide_eq_false h, Bool.false_and]
theorem impl_DirOk_l0 (l : List S113) (hl : l.length ≤ 4611686018427387904) (d : Nat) : ∀ (i : Nat), d + i = l.length → Ev (fun k => impl_DirOk.l0 k l l (l.length : Int) (i : Int)) (dirFrom l d i && decide (l.length ≤ 20)) := by
  induction d with
  | zero =>
    intro i hi
    refine evi (1) fun k hk => ?_
    obtain ⟨k, rfl⟩ : ∃ m, k = m + 1 := ⟨k - 1, by omega⟩
    simp only [impl_DirOk.l0]
    rw [if_neg (by omega), dirFrom, Bool.true_and]
    congr 1
    apply decide_eq_decide.2
    omega
  | succ d ih =>
    intro i hi
    have h1 : rd_T113 l (i : Int) = l.getD i z113 := by simp [rd_T113]
    obtain ⟨K, hK⟩ := evx (ih (i + 1) (by omega))
    refine evi (K + 1) fun k hk => ?_
    obtain ⟨k, rfl⟩ : ∃ m, k = m + 1 := ⟨k - 1, by omega⟩
    have hgo := hK k (by omega)
    rw [impl_DirOk.l0]
    rw [if_pos (by omega), if_pos (by omega), if_pos (by omega), h1, impl_KeyOk_s]
    simp only [impl_in_f, Option.bind_some]
    rw [w64 (x := (i : Int) + 1) (by omega) (by omega), show ((i : Int) + 1) = ((i + 1 : Nat) : Int) from by omega, hgo, dirFrom]
    unfold dirAt
    have h2 : i ≠ 0 → rd_T113 l (wrap64 ((i : Int) - 1)) = l.getD (i - 1) z113 := fun hi0 => by
      rw [w64 (by omega) (by omega), show ((i : Int) - 1) = ((i - 1 : Nat) : Int) from by omega]
      simp [rd_T113]
    have e1 : i ≠ 0 → 0 ≤ wrap64 ((i : Int) - 1) := fun hi0 => by rw [w64 (by omega) (by omega)]; omega
    have e2 : i ≠ 0 → wrap64 ((i : Int) - 1) < (l.length : Int) := fun hi0 => by rw [w64 (by omega) (by omega)]; omega
    generalize l.getD i z113 = e
    generalize l.getD (i - 1) z113 = p at h2
    cases keyOkB e.f0.toList with
    | false => simp
    | true =>
      by_cases c1 : 1 ≤ e.f1 ∧ e.f1 ≤ 100000
      · by_cases c2 : e.f2 < 0
        · have c2n : ¬ 0 ≤ e.f2 := by omega
          simp [c1, c2, c2n]
        · by_cases c3 : 1 ≤ e.f3 ∧ e.f3 ≤ 210
          · by_cases c4 : 1 ≤ e.f4 ∧ e.f4 ≤ 1000000
            · have c2' : 0 ≤ e.f2 := by omega
              by_cases c5 : i = 0
              · subst c5
                simp [c1, c2, c2', c3, c4]
              · have c6 : (i : Int) > 0 := by omega
                rw [h2 c5, if_pos (e1 c5), if_pos (e2 c5)]
                cases Go.Op.bytesLess p.f0.toList e.f0.toList <;> simp [c1, c2, c2', c3, c4, c5, c6]
            · simp [c1, c2, c3, c4]
          · simp [c1, c2, c3]
      · simp [c1]
theorem impl_DirOk_ev (l : List S113) (hl : l.length ≤ 4611686018427387904) : Ev (fun k => impl_DirOk.f k l) (dirOkB l) := by
  have := impl_DirOk_l0 l hl l.length 0 rfl
  rw [Bool.and_comm] at this
  exact this

def bigEntry (e : S142) : Prop := e.f0.size ≤ maxLen
def smallEntry (e : S142) : Prop := e.f0.size ≤ 1048576
theorem laws_szEntry_f (e : S142) (h : bigEntry e) (a : Int) (h0 : 0 ≤ a) (h1 : a ≤ 1048576) : ∃ s, laws_szEntry.f e.f0 e.f1 e.f2 e.f3 e.f4 a = some s ∧ s ≤ a ∧ (s < 0 ∨ 0 ≤ s ∧ smallEntry e) := by
  have hmax : maxLen = 9223372036854775807 := rfl
  unfold bigEntry at h
  unfold laws_szEntry.f smallEntry wrap64
  repeat' split
  all_goals refine ⟨_, rfl, by omega, by omega⟩
theorem laws_szEntryS_l0 (l : List S142) (hl : l.length ≤ 4611686018427387904) (hb : ∀ e ∈ l, bigEntry e) (d : Nat) : ∀ (i : Nat) (a : Int), d + i = l.length → 0 ≤ a → a ≤ 1048576 →
    ∃ s, Ev (fun k => laws_szEntryS.l0 k l a (i : Int)) s ∧ s ≤ a ∧ (s < 0 ∨ 0 ≤ s ∧ ∀ e ∈ l.drop i, smallEntry e) := by
  induction d with
  | zero =>
    intro i a hi h0 h1
    refine ⟨a, evi (1) (fun k hk => ?_), by omega, .inr ⟨h0, fun e he => by rw [List.drop_of_length_le (by omega)] at he; cases he⟩⟩
    obtain ⟨k, rfl⟩ : ∃ m, k = m + 1 := ⟨k - 1, by omega⟩
    simp only [laws_szEntryS.l0]
    rw [if_neg (by omega)]
  | succ d ih =>
    intro i a hi h0 h1
    have hlt : i < l.length := by omega
    have hrd : rd_T142 l (i : Int) = l[i] := by simp [rd_T142, hlt]
    obtain ⟨s, hs, hsa, hs0⟩ := laws_szEntry_f l[i] (hb _ (List.getElem_mem hlt)) a h0 h1
    by_cases hn : s < 0
    · refine ⟨-1, evi (1) (fun k hk => ?_), by omega, .inl (by omega)⟩
      obtain ⟨k, rfl⟩ : ∃ m, k = m + 1 := ⟨k - 1, by omega⟩
      simp only [laws_szEntryS.l0]
      rw [if_pos (by omega), if_pos (by omega), hrd, hs]
      simp only [Option.bind_some]
      rw [if_pos hn]
    · obtain ⟨r, hr, hra, hr0⟩ := ih (i + 1) s (by omega) (by omega) (by omega)
      obtain ⟨K, hK⟩ := evx hr
      refine ⟨r, evi (K + 1) (fun k hk => ?_), by omega, ?_⟩
      · obtain ⟨k, rfl⟩ : ∃ m, k = m + 1 := ⟨k - 1, by omega⟩
        simp only [laws_szEntryS.l0]
        rw [if_pos (by omega), if_pos (by omega), hrd, hs]
        simp only [Option.bind_some]
        rw [if_neg hn, w64 (by omega) (by omega)]
        exact hK k (by omega)
      · rcases hr0 with hr0 | ⟨hr0, hr1⟩
        · exact .inl hr0
        · refine .inr ⟨hr0, fun e he => ?_⟩
          rw [List.drop_eq_getElem_cons hlt] at he
          rcases List.mem_cons.1 he with rfl | he
          · rcases hs0 with hs0 | ⟨_, hs0⟩
            · exact absurd hs0 hn
            · exact hs0
          · exact hr1 e he
theorem laws_szEntryS_ev (l : List S142) (hl : l.length ≤ maxLen) (hb : ∀ e ∈ l, bigEntry e) (a : Int) (h0 : 0 ≤ a) (h1 : a ≤ 1048576) :
    ∃ s, Ev (fun k => laws_szEntryS.f k l a) s ∧ s ≤ a ∧ (s < 0 ∨ 0 ≤ s ∧ l.length ≤ 1048576 ∧ ∀ e ∈ l, smallEntry e) := by
  have hmax : maxLen = 9223372036854775807 := rfl
  by_cases hn : wrap64 (a - (l.length : Int)) < 0
  · refine ⟨-1, evi (0) (fun k hk => ?_), by omega, .inl (by omega)⟩
    unfold laws_szEntryS.f
    rw [if_pos hn]
  · have hle : (l.length : Int) ≤ a := by unfold wrap64 at hn; omega
    rw [w64 (by omega) (by omega)] at hn
    obtain ⟨s, hs, hsa, hs0⟩ := laws_szEntryS_l0 l (by omega) hb l.length 0 (a - (l.length : Int)) rfl (by omega) (by omega)
    obtain ⟨K, hK⟩ := evx hs
    refine ⟨s, evi (K) (fun k hk => ?_), by omega, ?_⟩
    · unfold laws_szEntryS.f
      rw [w64 (x := a - (l.length : Int)) (by omega) (by omega), if_neg hn]
      exact hK k hk
    · rcases hs0 with hs0 | ⟨hs0, hs1⟩
      · exact .inl hs0
      · exact .inr ⟨hs0, by omega, by simpa using hs1⟩

def convEntry (e : S142) : S113 := ⟨e.f0, e.f1, e.f2, e.f3, e.f4⟩
theorem laws_toEntryS_l0 (l : List S142) (hl : l.length ≤ 4611686018427387904) (d : Nat) : ∀ (i : Nat), d + i = l.length → Ev (fun k => laws_toEntryS.l0 k l ((l.map convEntry).take i ++ List.replicate (l.length - i) z113) (i : Int)) (l.map convEntry) := by
  induction d with
  | zero =>
    intro i hi
    refine evi (1) fun k hk => ?_
    obtain ⟨k, rfl⟩ : ∃ m, k = m + 1 := ⟨k - 1, by omega⟩
    simp only [laws_toEntryS.l0]
    rw [if_neg (by omega), List.take_of_length_le (by rw [List.length_map]; omega), show l.length - i = 0 from by omega, List.replicate_zero, List.append_nil]
  | succ d ih =>
    intro i hi
    have hlt : i < l.length := by omega
    have hrd : rd_T142 l (i : Int) = l[i] := by simp [rd_T142, hlt]
    obtain ⟨K, hK⟩ := evx (ih (i + 1) (by omega))
    refine evi (K + 1) fun k hk => ?_
    obtain ⟨k, rfl⟩ : ∃ m, k = m + 1 := ⟨k - 1, by omega⟩
    simp only [laws_toEntryS.l0, laws_toEntry.f, Option.bind_some]
    rw [if_pos (by omega), if_pos (by omega), if_pos (by rw [List.length_append, List.length_take, List.length_replicate, List.length_map]; omega), hrd, Int.toNat_natCast, w64 (by omega) (by omega)]
    have e : (⟨l[i].f0, l[i].f1, l[i].f2, l[i].f3, l[i].f4⟩ : S113) = convEntry l[i] := rfl
    rw [e, fill_step (l.map convEntry) z113 i l.length (convEntry l[i]) (List.length_map ..) hlt (by rw [List.getElem?_map, List.getElem?_eq_getElem hlt]; rfl)]
    exact hK k (by omega)
theorem laws_toEntryS_ev (l : List S142) (hl : l.length ≤ 1048576) : Ev (fun k => laws_toEntryS.f k l) (l.map convEntry) := by
  obtain ⟨K, hK⟩ := evx (laws_toEntryS_l0 l (by omega) l.length 0 rfl)
  refine evi (K) fun k hk => ?_
  unfold laws_toEntryS.f
  rw [if_pos (by omega), if_pos (by omega), Int.toNat_natCast]
  have := hK k hk
  rw [List.take_zero, List.nil_append, Nat.sub_zero] at this
  exact this

theorem laws_eqEntry_self (e : S113) : laws_eqEntry.f e.f0 e.f1 e.f2 e.f3 e.f4 e.f0 e.f1 e.f2 e.f3 e.f4 = some true := by
  unfold laws_eqEntry.f
  simp
theorem laws_eqEntryS_l0 (l : List S113) (hl : l.length ≤ 4611686018427387904) (d : Nat) : ∀ (i : Nat), d + i = l.length → Ev (fun k => laws_eqEntryS.l0 k l l (i : Int)) true := by
  induction d with
  | zero =>
    intro i hi
    refine evi (1) fun k hk => ?_
    obtain ⟨k, rfl⟩ : ∃ m, k = m + 1 := ⟨k - 1, by omega⟩
    simp only [laws_eqEntryS.l0]
    rw [if_neg (by omega)]
  | succ d ih =>
    intro i hi
    obtain ⟨K, hK⟩ := evx (ih (i + 1) (by omega))
    refine evi (K + 1) fun k hk => ?_
    obtain ⟨k, rfl⟩ : ∃ m, k = m + 1 := ⟨k - 1, by omega⟩
    simp only [laws_eqEntryS.l0]
    rw [if_pos (by omega), if_pos (by omega), if_pos (by omega), laws_eqEntry_self]
    simp only [Option.bind_some]
    rw [if_pos trivial, w64 (by omega) (by omega)]
    exact hK k (by omega)
theorem laws_eqEntryS_ev (l : List S113) (hl : l.length ≤ 4611686018427387904) : Ev (fun k => laws_eqEntryS.f k l l) true := by
  obtain ⟨K, hK⟩ := evx (laws_eqEntryS_l0 l hl l.length 0 rfl)
  refine evi (K) fun k hk => ?_
  unfold laws_eqEntryS.f
  rw [if_pos rfl]
  exact hK k hk

/-- An entry's text in a hint. -/
def entL (e : S113) : List UInt8 := textL e.f0.toList ++ varsL [e.f1, e.f2, e.f3, e.f4]
def entsL (l : List S113) : List UInt8 := l.flatMap entL
theorem entsL_cons (e : S113) (l : List S113) : entsL (e :: l) = entL e ++ entsL l := by simp [entsL]
/-- All entries of one segment, and none beyond the greatest place. -/
def segAt (l : List S113) (i : Nat) : Bool := decide ((l.getD i z113).f1 = (l.getD 0 z113).f1) && decide ((l.getD i z113).f2 ≤ 100000)
def segFrom (l : List S113) : Nat → Nat → Bool
  | 0, _ => true
  | d + 1, i => segAt l i && segFrom l d (i + 1)
def hintOkB (size mark : Int) (l : List S113) : Bool := segFrom l l.length 0 && (decide (0 ≤ size ∧ size ≤ 100000) && (decide (0 ≤ mark ∧ mark ≤ 1000000) && dirOkB l))
def hintText (size mark : Int) (l : List S113) : List UInt8 := varsL [size, mark, (l.length : Int)] ++ entsL l
def showHint (size mark : Int) (l : List S113) : List UInt8 := if hintOkB size mark l = true then fixL 4 (crcS (hintText size mark l)) ++ hintText size mark l else []
theorem size_toList (s : ByteArray) : s.size = s.toList.length := by obtain ⟨l, rfl⟩ := exS s; rw [mkS_toList, mkS_size]
theorem entL_len (e : S113) (h : e.f0.size ≤ 1048576) : (entL e).length ≤ 1048620 := by
  rw [size_toList] at h
  have h1 := textL_length e.f0.toList (by omega)
  have h2 := varsL_length [e.f1, e.f2, e.f3, e.f4]
  unfold entL
  rw [List.length_append]
  simp only [List.length_cons, List.length_nil] at h2
  omega
theorem rd_getD (l : List S113) (i : Nat) : rd_T113 l (i : Int) = l.getD i z113 := by simp only [rd_T113, Int.toNat_natCast]

theorem spec_l10Ok_l0 (l : List S113) (size mark : Int) (hl : l.length ≤ 1048576) (d : Nat) : ∀ (i : Nat), d + i = l.length → Ev (fun k => spec_l10Ok.l0 k (i : Int) size mark l) (segFrom l d i) := by
  induction d with
  | zero =>
    intro i hi
    refine evi (1) fun k hk => ?_
    obtain ⟨k, rfl⟩ : ∃ m, k = m + 1 := ⟨k - 1, by omega⟩
    simp only [spec_l10Ok.l0]
    rw [if_neg (by omega)]
    rfl
  | succ d ih =>
    intro i hi
    obtain ⟨K, hK⟩ := evx (ih (i + 1) (by omega))
    refine evi (K + 1) fun k hk => ?_
    obtain ⟨k, rfl⟩ : ∃ m, k = m + 1 := ⟨k - 1, by omega⟩
    have hgo := hK k (by omega)
    have r0 := rd_getD l 0
    simp only [spec_l10Ok.l0]
    rw [if_pos (by omega), if_pos (by omega), if_pos (by omega), rd_getD, show ((0 : Int)) = ((0 : Nat) : Int) from rfl, rd_getD, segFrom]
    unfold segAt
    by_cases h1 : (l.getD i z113).f1 = (l.getD 0 z113).f1
    · by_cases h2 : (l.getD i z113).f2 ≤ 100000
      · rw [if_pos h1, if_neg (by omega), w64 (by omega) (by omega), show ((i : Int) + 1) = ((i + 1 : Nat) : Int) from by omega, hgo, decide_eq_true h1, decide_eq_true h2]; rfl
      · rw [if_pos h1, if_pos (by omega), decide_eq_false h2, Bool.and_false, Bool.false_and]
    · rw [if_neg h1, decide_eq_false h1, Bool.false_and, Bool.false_and]
theorem spec_l10Ok_ev (l : List S113) (size mark : Int) (hl : l.length ≤ 1048576) : Ev (fun k => spec_l10Ok.f k size mark l) (hintOkB size mark l) := by
  obtain ⟨K1, h1⟩ := evx (spec_DirOk_ev l (by omega))
  obtain ⟨K2, h2⟩ := evx (spec_l10Ok_l0 l size mark hl l.length 0 rfl)
  refine evi (K1 + K2 + 1) fun k hk => ?_
  obtain ⟨k, rfl⟩ : ∃ m, k = m + 1 := ⟨k - 1, by omega⟩
  have hgo := h2 k (by omega)
  unfold spec_l10Ok.f hintOkB
  simp only [spec_l1In_f, Option.bind_some, spec_l10Ok.j0]
  rw [h1 _ (by omega)]
  by_cases c1 : 0 ≤ size ∧ size ≤ 100000
  · rw [decide_eq_true c1, if_pos rfl]
    by_cases c2 : 0 ≤ mark ∧ mark ≤ 1000000
    · rw [decide_eq_true c2, if_pos rfl]
      simp only [Option.bind_some]
      cases hd : dirOkB l with
      | true => rw [if_neg (by simp)]; rw [show ((0 : Nat) : Int) = 0 from rfl] at hgo; rw [hgo]; simp
      | false => rw [if_pos (by rfl)]; simp
    · rw [decide_eq_false c2, if_neg (by simp), if_pos trivial]; simp
  · rw [decide_eq_false c1, if_neg (by simp), if_pos trivial]; simp
theorem impl_hintOk_l0 (l : List S113) (size mark : Int) (hl : l.length ≤ 1048576) (d : Nat) : ∀ (i : Nat), d + i = l.length → Ev (fun k => impl_hintOk.l0 k l (l.length : Int) (i : Int) size mark l) (segFrom l d i && (decide (0 ≤ size ∧ size ≤ 100000) && (decide (0 ≤ mark ∧ mark ≤ 1000000) && dirOkB l))) := by
  induction d with
  | zero =>
    intro i hi
    obtain ⟨K1, h1⟩ := evx (impl_DirOk_ev l (by omega))
    refine evi (K1 + 1) fun k hk => ?_
    obtain ⟨k, rfl⟩ : ∃ m, k = m + 1 := ⟨k - 1, by omega⟩
    simp only [impl_hintOk.l0, impl_in_f, Option.bind_some]
    rw [if_neg (by omega), h1 k (by omega)]
    simp only [Option.bind_some, segFrom, Bool.true_and]
    by_cases c1 : 0 ≤ size ∧ size ≤ 100000
    · rw [decide_eq_true c1, if_pos rfl]
      by_cases c2 : 0 ≤ mark ∧ mark ≤ 1000000
      · rw [decide_eq_true c2, if_pos rfl]; simp
      · rw [decide_eq_false c2, if_neg (by simp)]; simp
    · rw [decide_eq_false c1, if_neg (by simp)]; simp
  | succ d ih =>
    intro i hi
    obtain ⟨K, hK⟩ := evx (ih (i + 1) (by omega))
    refine evi (K + 1) fun k hk => ?_
    obtain ⟨k, rfl⟩ : ∃ m, k = m + 1 := ⟨k - 1, by omega⟩
    have hgo := hK k (by omega)
    simp only [impl_hintOk.l0]
    rw [if_pos (by omega), if_pos (by omega), if_pos (by omega), if_pos (by omega), rd_getD, show ((0 : Int)) = ((0 : Nat) : Int) from rfl, rd_getD, segFrom]
    unfold segAt
    by_cases h1 : (l.getD i z113).f1 = (l.getD 0 z113).f1
    · by_cases h2 : (l.getD i z113).f2 ≤ 100000
      · rw [if_pos h1, if_neg (by omega), w64 (by omega) (by omega), show ((i : Int) + 1) = ((i + 1 : Nat) : Int) from by omega]
        rw [show ((0 : Nat) : Int) = (0 : Int) from rfl] at *
        rw [hgo, decide_eq_true h1, decide_eq_true h2]; rfl
      · rw [if_pos h1, if_pos (by omega), decide_eq_false h2, Bool.and_false, Bool.false_and, Bool.false_and]
    · rw [if_neg h1, decide_eq_false h1, Bool.false_and, Bool.false_and, Bool.false_and]
theorem impl_hintOk_ev (l : List S113) (size mark : Int) (hl : l.length ≤ 1048576) : Ev (fun k => impl_hintOk.f k size mark l) (hintOkB size mark l) := impl_hintOk_l0 l size mark hl l.length 0 rfl
theorem impl_ShowHint_l0 (l : List S113) (hl : l.length ≤ 1048576) (hs : ∀ e ∈ l, e.f0.size ≤ 1048576) (d : Nat) : ∀ (i : Nat) (acc : List UInt8), d + i = l.length → acc.length + 1048620 * d ≤ 100000000000000 →
    Ev (fun k => impl_ShowHint.l0 k (mkS acc) l (l.length : Int) (i : Int)) (mkS (fixL 4 (crcS (acc ++ entsL (l.drop i))) ++ (acc ++ entsL (l.drop i)))) := by
  induction d with
  | zero =>
    intro i acc hi ha
    obtain ⟨K1, h1⟩ := evx (impl_Crc_ev acc (by omega))
    obtain ⟨K2, h2⟩ := evx (impl_Fixed_ev (crcS acc : Int) 4)
    refine evi (K1 + K2 + 1) fun k hk => ?_
    obtain ⟨k, rfl⟩ : ∃ m, k = m + 1 := ⟨k - 1, by omega⟩
    simp only [impl_ShowHint.l0]
    rw [if_neg (by omega), List.drop_of_length_le (by omega), h1 k (by omega)]
    simp only [Option.bind_some]
    rw [h2 k (by omega), fixS_crc]
    simp only [Option.bind_some]
    rw [if_pos (by rw [mkS_size, mkS_size, fixL_length]; omega), mkS_append]
    simp [entsL]
  | succ d ih =>
    intro i acc hi ha
    have hlt : i < l.length := by omega
    have hrd : rd_T113 l (i : Int) = l[i] := by simp [rd_T113, hlt]
    have hz := hs l[i] (List.getElem_mem hlt)
    have hb := entL_len l[i] hz
    rw [size_toList] at hz
    obtain ⟨K1, h1⟩ := evx (impl_textOf_ev l[i].f0.toList (by omega))
    rw [mkS_self] at h1
    obtain ⟨K2, h2⟩ := evx (impl_vars_ev [l[i].f1, l[i].f2, l[i].f3, l[i].f4] (by simp))
    obtain ⟨K, hK⟩ := evx (ih (i + 1) (acc ++ entL l[i]) (by omega) (by rw [List.length_append]; omega))
    have hsum : (textL l[i].f0.toList).length + (varsL [l[i].f1, l[i].f2, l[i].f3, l[i].f4]).length = (entL l[i]).length := by unfold entL; rw [List.length_append]
    refine evi (K + K1 + K2 + 1) fun k hk => ?_
    obtain ⟨k, rfl⟩ : ∃ m, k = m + 1 := ⟨k - 1, by omega⟩
    have hgo := hK k (by omega)
    simp only [impl_ShowHint.l0]
    rw [if_pos (by omega), if_pos (by omega), if_pos (by omega), hrd, h1 k (by omega)]
    simp only [Option.bind_some]
    rw [h2 k (by omega)]
    simp only [Option.bind_some]
    rw [if_pos (by rw [mkS_size, mkS_size]; omega), mkS_append, if_pos (by rw [mkS_size, mkS_size, List.length_append]; omega), mkS_append, w64 (by omega) (by omega), show ((i : Int) + 1) = ((i + 1 : Nat) : Int) from by omega]
    rw [show acc ++ (textL l[i].f0.toList ++ varsL [l[i].f1, l[i].f2, l[i].f3, l[i].f4]) = acc ++ entL l[i] from rfl, hgo, List.drop_eq_getElem_cons hlt, entsL_cons, List.append_assoc]
theorem impl_ShowHint_ev (l : List S113) (size mark : Int) (hl : l.length ≤ 1048576) (hs : ∀ e ∈ l, e.f0.size ≤ 1048576) : Ev (fun k => impl_ShowHint.f k size mark l) (mkS (showHint size mark l)) := by
  obtain ⟨K0, h0⟩ := evx (impl_hintOk_ev l size mark hl)
  unfold showHint
  by_cases hr : hintOkB size mark l = true
  · obtain ⟨K1, h1⟩ := evx (impl_vars_ev [size, mark, (l.length : Int)] (by simp))
    have l1 := varsL_length [size, mark, (l.length : Int)]
    simp only [List.length_cons, List.length_nil] at l1
    obtain ⟨K2, h2⟩ := evx (impl_ShowHint_l0 l hl hs l.length 0 (varsL [size, mark, (l.length : Int)]) rfl (by omega))
    refine evi (K0 + K1 + K2) fun k hk => ?_
    have hgo := h2 k (by omega)
    unfold impl_ShowHint.f
    rw [h0 k (by omega), hr]
    simp only [Option.bind_some, if_true]
    rw [h1 k (by omega)]
    simp only [Option.bind_some]
    rw [List.drop_zero] at hgo
    exact hgo
  · refine evi (K0) fun k hk => ?_
    unfold impl_ShowHint.f
    rw [h0 k hk]
    simp only [Option.bind_some]
    rw [if_neg hr, if_neg hr]
    rfl
theorem spec_ShowHint_l0 (l : List S113) (size mark : Int) (hl : l.length ≤ 1048576) (hs : ∀ e ∈ l, e.f0.size ≤ 1048576) (d : Nat) : ∀ (i : Nat) (acc : List UInt8), d + i = l.length → acc.length + 1048620 * d ≤ 100000000000000 →
    Ev (fun k => spec_ShowHint.l0 k (mkS acc) (i : Int) size mark l) (mkS (fixL 4 (crcS (acc ++ entsL (l.drop i))) ++ (acc ++ entsL (l.drop i)))) := by
  induction d with
  | zero =>
    intro i acc hi ha
    obtain ⟨K1, h1⟩ := evx (spec_Crc_ev acc (by omega))
    obtain ⟨K2, h2⟩ := evx (spec_Fixed_ev (crcS acc : Int) 4 (by have := crcS_lt acc; omega))
    refine evi (K1 + K2 + 1) fun k hk => ?_
    obtain ⟨k, rfl⟩ : ∃ m, k = m + 1 := ⟨k - 1, by omega⟩
    simp only [spec_ShowHint.l0]
    rw [if_neg (by omega), List.drop_of_length_le (by omega), h1 k (by omega)]
    simp only [Option.bind_some]
    rw [h2 k (by omega), fixS_crc]
    simp only [Option.bind_some]
    rw [if_pos (by rw [mkS_size, mkS_size, fixL_length]; omega), mkS_append]
    simp [entsL]
  | succ d ih =>
    intro i acc hi ha
    have hlt : i < l.length := by omega
    have hrd : rd_T113 l (i : Int) = l[i] := by simp [rd_T113, hlt]
    have hz := hs l[i] (List.getElem_mem hlt)
    have hb := entL_len l[i] hz
    obtain ⟨s, hs0⟩ := exS l[i].f0
    have hst : l[i].f0.toList = s := by rw [hs0, mkS_toList]
    rw [hs0, mkS_size] at hz
    obtain ⟨K1, h1⟩ := evx (spec_Var_ev (s.length : Int))
    obtain ⟨K2, h2⟩ := evx (spec_Var_ev l[i].f1)
    obtain ⟨K3, h3⟩ := evx (spec_Var_ev l[i].f2)
    obtain ⟨K4, h4⟩ := evx (spec_Var_ev l[i].f3)
    obtain ⟨K5, h5⟩ := evx (spec_Var_ev l[i].f4)
    have v1 := varL_len7 (n := s.length) (by omega)
    have v2 := varB_length l[i].f1
    have v3 := varB_length l[i].f2
    have v4 := varB_length l[i].f3
    have v5 := varB_length l[i].f4
    obtain ⟨K, hK⟩ := evx (ih (i + 1) (acc ++ entL l[i]) (by omega) (by rw [List.length_append]; omega))
    refine evi (K + K1 + K2 + K3 + K4 + K5 + 1) fun k hk => ?_
    obtain ⟨k, rfl⟩ : ∃ m, k = m + 1 := ⟨k - 1, by omega⟩
    have hgo := hK k (by omega)
    have e : acc ++ entL l[i] = ((((((acc ++ varL s.length) ++ s) ++ varB l[i].f1) ++ varB l[i].f2) ++ varB l[i].f3) ++ varB l[i].f4) := by
      unfold entL textL
      rw [hst]
      simp [varsL, List.append_assoc]
    simp only [spec_ShowHint.l0]
    rw [if_pos (by omega), if_pos (by omega), hrd, hs0, mkS_size, h1 k (by omega), h2 k (by omega), h3 k (by omega), h4 k (by omega), h5 k (by omega), varS_nat (by omega), varS_B, varS_B, varS_B, varS_B]
    simp only [Option.bind_some]
    rw [if_pos (by simp only [mkS_size, List.length_append]; omega), mkS_append, if_pos (by simp only [mkS_size, List.length_append]; omega), mkS_append, if_pos (by simp only [mkS_size, List.length_append]; omega), mkS_append, if_pos (by simp only [mkS_size, List.length_append]; omega), mkS_append, if_pos (by simp only [mkS_size, List.length_append]; omega), mkS_append, if_pos (by simp only [mkS_size, List.length_append]; omega), mkS_append, w64 (by omega) (by omega), show ((i : Int) + 1) = ((i + 1 : Nat) : Int) from by omega]
    rw [← e, hgo, List.drop_eq_getElem_cons hlt, entsL_cons, List.append_assoc]
theorem spec_ShowHint_ev (l : List S113) (size mark : Int) (hl : l.length ≤ 1048576) (hs : ∀ e ∈ l, e.f0.size ≤ 1048576) : Ev (fun k => spec_ShowHint.f k size mark l) (mkS (showHint size mark l)) := by
  obtain ⟨K0, h0⟩ := evx (spec_l10Ok_ev l size mark hl)
  unfold showHint
  by_cases hr : hintOkB size mark l = true
  · obtain ⟨K1, h1⟩ := evx (spec_Var_ev size)
    obtain ⟨K2, h2⟩ := evx (spec_Var_ev mark)
    obtain ⟨K3, h3⟩ := evx (spec_Var_ev (l.length : Int))
    have v1 := varB_length size
    have v2 := varB_length mark
    have v3 := varB_length (l.length : Int)
    obtain ⟨K4, h4⟩ := evx (spec_ShowHint_l0 l size mark hl hs l.length 0 ((varB size ++ varB mark) ++ varB (l.length : Int)) rfl (by simp only [List.length_append]; omega))
    refine evi (K0 + K1 + K2 + K3 + K4) fun k hk => ?_
    have hgo := h4 k (by omega)
    have e : hintText size mark l = ((varB size ++ varB mark) ++ varB (l.length : Int)) ++ entsL l := by unfold hintText; simp [varsL]
    unfold spec_ShowHint.f
    rw [h0 k (by omega), hr]
    simp only [Option.bind_some, if_true]
    rw [h1 k (by omega), h2 k (by omega), h3 k (by omega), varS_B, varS_B, varS_B]
    simp only [Option.bind_some]
    rw [if_pos (by simp only [mkS_size]; omega), mkS_append, if_pos (by simp only [mkS_size, List.length_append]; omega), mkS_append, e]
    rw [List.drop_zero] at hgo
    exact hgo
  · refine evi (K0) fun k hk => ?_
    unfold spec_ShowHint.f
    rw [h0 k hk]
    simp only [Option.bind_some]
    rw [if_neg hr, if_neg hr]
    rfl



/-! ### the law -/
theorem FnExactShowHint : laws_FnExactShowHint.Pure := by
  intro size mark a h1 h2 ha
  have big : ∀ e ∈ a, bigEntry e := fun e he => (ha.2 e he).1
  obtain ⟨s, hs, hs1, hs2⟩ := laws_szEntryS_ev a ha.1 big 1048576 (by omega) (by omega)
  obtain ⟨K1, h1⟩ := evx hs
  have szr : ∀ k, K1 ≤ k → laws_szHint.f k size mark a 1048576 = some (if s < 0 then -1 else s) := by
    intro k hk
    unfold laws_szHint.f
    rw [h1 k hk]
    simp only [Option.bind_some]
    split <;> rfl
  by_cases hn : s < 0
  · exact ⟨K1, by unfold laws_FnExactShowHint.f; rw [szr _ (by omega), if_pos hn]; rfl⟩
  · have la : a.length ≤ 1048576 := by omega
    obtain ⟨K3, h3⟩ := evx (laws_toEntryS_ev a la)
    have lb : (a.map convEntry).length = a.length := List.length_map ..
    have sb : ∀ e ∈ a.map convEntry, e.f0.size ≤ 1048576 := by
      rcases hs2 with h | h
      · exact absurd h hn
      · intro e he
        obtain ⟨x, hx, rfl⟩ := List.mem_map.1 he
        exact h.2.2 x hx
    generalize a.map convEntry = b at *
    obtain ⟨K5, h5⟩ := evx (spec_ShowHint_ev b size mark (by omega) sb)
    obtain ⟨K6, h6⟩ := evx (impl_ShowHint_ev b size mark (by omega) sb)
    obtain ⟨K7, h7⟩ := evx (laws_eqEntryS_ev b (by omega))
    refine ⟨K1 + K3 + K5 + K6 + K7 + 1, ?_⟩
    have a3 := h3 (K1 + K3 + K5 + K6 + K7 + 1) (by omega)
    have a5 := h5 (K1 + K3 + K5 + K6 + K7 + 1) (by omega)
    have a6 := h6 (K1 + K3 + K5 + K6 + K7 + 1) (by omega)
    have a7 := h7 (K1 + K3 + K5 + K6 + K7 + 1) (by omega)
    unfold laws_FnExactShowHint.f
    rw [szr _ (by omega), if_neg hn]
    simp only [Option.bind_some, laws_toHint.f, if_neg hn]
    rw [a3]
    simp only [Option.bind_some]
    rw [a5]
    simp only [Option.bind_some]
    rw [a6]
    simp only [Option.bind_some, if_true, laws_eqHint.f]
    rw [a7]
    simp only [Option.bind_some, if_true]

end Go.Proofs.Ytebeafcdabkkfaa.Pure
