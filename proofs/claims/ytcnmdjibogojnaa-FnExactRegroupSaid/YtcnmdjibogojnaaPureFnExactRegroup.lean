/- The pure statement of the law FnExactRegroup: for all arguments within the printed bounds the printed function of the law answers true. Conditions: only the bounds that the printed statement itself names. -/
import Derived.Test.YtcnmdjibogojnaaPFnExactRegroupx23
namespace Go.Proofs.Ytcnmdjibogojnaa.Pure
open Go.RowKit Go.Proofs.Ytcnmdjibogojnaa.PFnExactRegroup Go.Proofs.YtcnmdjibogojnaaW.PrintWords Go.Proofs.YtcnmdjibogojnaaW.PrintLast
set_option linter.unusedVariables false
set_option linter.unusedSimpArgs false

/-- The string of a list of bytes. -/
def mkS (l : List UInt8) : ByteArray := ⟨l.toArray⟩
theorem exS (s : ByteArray) : ∃ l, s = mkS l := ⟨s.data.toList, by cases s; simp [mkS]⟩
theorem mkS_size (l : List UInt8) : (mkS l).size = l.length := by simp [mkS, ByteArray.size]
theorem toList_data (s : ByteArray) : s.toList = s.data.toList := by
  have key : ∀ (n i : Nat) (r : List UInt8), s.size - i = n → ByteArray.toList.loop s i r = r.reverse ++ s.data.toList.drop i := by
    intro n
    induction n with
    | zero =>
      intro i r h
      unfold ByteArray.toList.loop
      rw [if_neg (by omega), List.drop_of_length_le (by simp only [Array.length_toList]; have : s.size = s.data.size := rfl; omega), List.append_nil]
    | succ n ih =>
      intro i r h
      unfold ByteArray.toList.loop
      have hi : i < s.data.toList.length := by simp only [Array.length_toList]; have : s.size = s.data.size := rfl; omega
      rw [if_pos (by omega), ih (i + 1) _ (by omega), List.reverse_cons, List.append_assoc, List.drop_eq_getElem_cons hi]
      have : s.get! i = s.data.toList[i] := by
        show s.data[i]! = _
        rw [Array.getElem_toList]
        exact getElem!_pos s.data i (by simpa using hi)
      rw [this]
      rfl
  have := key _ 0 [] rfl
  simpa [ByteArray.toList] using this
theorem mkS_toList (l : List UInt8) : (mkS l).toList = l := by rw [toList_data]; simp [mkS]
theorem mkS_append (a b : List UInt8) : mkS a ++ mkS b = mkS (a ++ b) := by
  apply ByteArray.ext
  simp [mkS, ByteArray.data_append]
theorem mkS_nil : (⟨#[]⟩ : ByteArray) = mkS [] := rfl
theorem bt_mkS (l : List UInt8) (i : Nat) (h : i < l.length) : bt (mkS l) (i : Int) = ((l[i]).toNat : Int) := by
  unfold bt
  have h' : ((i : Int)).toNat < (mkS l).size := by rw [mkS_size]; simpa using h
  rw [dif_pos h']
  simp only [Int.toNat_natCast]
  rfl
/-- A slice of bytes as the print tells it. -/
def ints (l : List UInt8) : List Int := l.map fun b => (b.toNat : Int)
theorem ints_length (l : List UInt8) : (ints l).length = l.length := by simp [ints]
theorem ints_append (a b : List UInt8) : ints a ++ ints b = ints (a ++ b) := by simp [ints]
theorem ints_nil : ([] : List Int) = ints [] := rfl
theorem strOfNums_ints (l : List UInt8) : strOfNums (ints l) = mkS l := by
  unfold strOfNums ints mkS
  congr 2
  rw [List.map_map]
  conv => rhs; rw [← List.map_id l]
  apply List.map_congr_left
  intro b _
  simp
theorem ofNat_cast (n : Nat) : ((UInt8.ofNat n).toNat : Int) = (n : Int) % 256 := by simp
theorem ints_one (n : Nat) (x : Int) (h : x % 256 = ((n % 256 : Nat) : Int)) : [x % 256] = ints [UInt8.ofNat n] := by
  simp only [ints, List.map_cons, List.map_nil]
  rw [h, ofNat_cast]
  simp
theorem w64 {x : Int} (h0 : -9223372036854775808 ≤ x) (h1 : x ≤ 9223372036854775807) : wrap64 x = x := by unfold wrap64; omega
theorem bt_rng (s : ByteArray) (i : Int) : 0 ≤ bt s i ∧ bt s i ≤ 255 := by
  unfold bt
  by_cases h : i.toNat < s.size
  · rw [dif_pos h]
    have := (s[i.toNat]'h).toNat_lt
    omega
  · rw [dif_neg h]
    omega
theorem w64b (s : ByteArray) (i : Int) : wrap64 (bt s i) = bt s i := by have := bt_rng s i; exact w64 (by omega) (by omega)
theorem tdivp {x y : Int} (h : 0 ≤ x) : Int.tdiv x y = x / y := Int.tdiv_eq_ediv_of_nonneg h
theorem tmodp {x y : Int} (h : 0 ≤ x) : Int.tmod x y = x % y := Int.tmod_eq_emod_of_nonneg h
theorem shl_i64 {x y : Int} {n : Nat} (hy : y = (n : Int)) (hn : n ≤ 64) : shl .i64 x y = wrap64 (x * 2 ^ n) := by
  unfold shl
  have e : min y.toNat IntKind.i64.bits = n := by subst hy; simp [IntKind.bits]; omega
  rw [e, IntKind.wrap_i64, wrap64]
theorem shr_i64 {x y : Int} {n : Nat} (hy : y = (n : Int)) (hn : n ≤ 64) : shr .i64 x y = x / 2 ^ n := by
  unfold shr
  have e : min y.toNat IntKind.i64.bits = n := by subst hy; simp [IntKind.bits]; omega
  rw [e]
theorem evx {α : Type} {g : Nat → Option α} {r : α} (h : Ev g r) : ∃ K, ∀ k, K ≤ k → g k = some r := h
theorem evi {α : Type} {g : Nat → Option α} {r : α} (K : Nat) (h : ∀ k, K ≤ k → g k = some r) : Ev g r := ⟨K, h⟩

theorem fill_step {α : Type} (m : List α) (z : α) (i n : Nat) (x : α) (hn : m.length = n) (h : i < n) (hx : m[i]? = some x) : (m.take i ++ List.replicate (n - i) z).set i x = m.take (i + 1) ++ List.replicate (n - (i + 1)) z := by
  subst hn
  have hl : (m.take i).length = i := by rw [List.length_take]; omega
  have e : m.length - i = (m.length - (i + 1)) + 1 := by omega
  have ex : m[i] = x := by rw [List.getElem?_eq_getElem h] at hx; exact Option.some.inj hx
  rw [e, List.replicate_succ, List.set_append_right _ _ (by omega), hl, Nat.sub_self, List.set_cons_zero, List.take_succ_eq_append_getElem h, List.append_assoc, ex]
  rfl

theorem impl_in_f (a b c : Int) : impl_in.f a b c = some (decide (b ≤ a ∧ a ≤ c)) := by
  unfold impl_in.f
  by_cases h : a ≥ b
  · rw [if_pos h]; congr 1; simp [h]
  · rw [if_neg h]; congr 1; simp; omega

theorem spec_l1In_f (a b c : Int) : spec_l1In.f a b c = some (decide (b ≤ a ∧ a ≤ c)) := by
  unfold spec_l1In.f
  by_cases h : a ≥ b
  · rw [if_pos h]; congr 1; simp [h]
  · rw [if_neg h]; congr 1; simp; omega

def keyOkB (l : List UInt8) : Bool := decide (1 ≤ l.length ∧ l.length ≤ 8)
theorem impl_KeyOk_f (l : List UInt8) : impl_KeyOk.f (mkS l) = some (keyOkB l) := by
  unfold impl_KeyOk.f keyOkB
  rw [impl_in_f, mkS_size]
  simp only [Option.bind_some]
  congr 1
  apply decide_eq_decide.2
  omega

theorem spec_KeyOk_f (l : List UInt8) : spec_KeyOk.f (mkS l) = some (keyOkB l) := by
  unfold spec_KeyOk.f keyOkB
  rw [spec_l1In_f, mkS_size]
  simp only [Option.bind_some]
  congr 1
  apply decide_eq_decide.2
  omega

def varL (n : Nat) : List UInt8 := if n < 128 then [UInt8.ofNat n] else UInt8.ofNat (n % 128 + 128) :: varL (n / 128)
termination_by n
decreasing_by omega
theorem varL_small {n : Nat} (h : n < 128) : varL n = [UInt8.ofNat n] := by rw [varL, if_pos h]
theorem varL_big {n : Nat} (h : ¬ n < 128) : varL n = UInt8.ofNat (n % 128 + 128) :: varL (n / 128) := by rw [varL, if_neg h]
theorem varL_pos (n : Nat) : 0 < (varL n).length := by
  by_cases h : n < 128
  · rw [varL_small h]; simp
  · rw [varL_big h]; simp
theorem varL_len (j : Nat) : ∀ n : Nat, n < 128 ^ (j + 1) → (varL n).length ≤ j + 1 := by
  induction j with
  | zero => intro n h; rw [varL_small (by omega)]; simp
  | succ j ih =>
    intro n h
    by_cases hn : n < 128
    · rw [varL_small hn]; simp
    · rw [varL_big hn, List.length_cons]
      have : n / 128 < 128 ^ (j + 1) := by rw [Nat.div_lt_iff_lt_mul (by omega)]; rw [Nat.pow_succ] at h; exact h
      have := ih _ this
      omega
theorem varL_len7 {n : Nat} (h : n ≤ 562949953421311) : (varL n).length ≤ 7 := varL_len 6 n (by omega)
/-- A number's text. -/
def varS (n : Int) : ByteArray := if 0 ≤ n ∧ n ≤ 562949953421311 then mkS (varL n.toNat) else mkS []
theorem varS_nat {n : Nat} (h : n ≤ 562949953421311) : varS (n : Int) = mkS (varL n) := by
  unfold varS
  rw [if_pos ⟨by omega, by omega⟩, Int.toNat_natCast]
/-- A text with its length ahead. -/
def textL (l : List UInt8) : List UInt8 := varL l.length ++ l
theorem textL_length (l : List UInt8) (h : l.length ≤ 562949953421311) : (textL l).length ≤ l.length + 7 := by have := varL_len7 h; rw [textL, List.length_append]; omega

theorem impl_Var_l0 (m : Nat) : ∀ (n : Nat) (acc : List UInt8), n ≤ 562949953421311 → n ≤ m → acc.length + n ≤ 600000000000000 → acc.length + (varL n).length ≤ 100000000000000 → Ev (fun k => impl_Var.l0 k (n : Int) (ints acc)) (mkS (acc ++ varL n)) := by
  induction m using Nat.strongRecOn with
  | ind m ih =>
  intro n acc hn hm _ hl
  have hlp := varL_pos n
  by_cases h : n < 128
  · refine evi (1) fun k hk => ?_
    obtain ⟨k, rfl⟩ : ∃ m, k = m + 1 := ⟨k - 1, by omega⟩
    simp only [impl_Var.l0]
    rw [if_neg (by omega), if_pos (by rw [ints_length]; omega), ints_one n _ (by omega), ints_append, strOfNums_ints, varL_small h]
  · have hd := varL_big h
    obtain ⟨K, hK⟩ := evx (ih (n / 128) (by omega) (n / 128) (acc ++ [UInt8.ofNat (n % 128 + 128)]) (by omega) (Nat.le_refl _) (by rw [List.length_append, List.length_singleton]; omega) (by rw [hd, List.length_cons] at hl; rw [List.length_append, List.length_singleton]; omega))
    refine evi (K + 1) fun k hk => ?_
    obtain ⟨k, rfl⟩ : ∃ m, k = m + 1 := ⟨k - 1, by omega⟩
    simp only [impl_Var.l0]
    rw [if_pos (by omega), if_pos (by rw [ints_length]; omega), tdivp (by omega), tmodp (by omega), w64 (by omega) (by omega), w64 (by omega) (by omega), ints_one (n % 128 + 128) _ (by omega), ints_append]
    have := hK k (by omega)
    simp only [Int.natCast_ediv] at this
    rw [hd, show (128 : Int) = ((128 : Nat) : Int) from rfl, this, List.append_assoc]
    rfl
theorem impl_Var_ev (n : Int) : Ev (fun k => impl_Var.f k n) (varS n) := by
  by_cases h : 0 ≤ n ∧ n ≤ 562949953421311
  · obtain ⟨m, rfl⟩ := Int.eq_ofNat_of_zero_le h.1
    have h7 := varL_len7 (n := m) (by omega)
    obtain ⟨K, hK⟩ := evx (impl_Var_l0 m m [] (by omega) (Nat.le_refl _) (by simp; omega) (by simp; omega))
    refine evi (K) fun k hk => ?_
    unfold impl_Var.f
    rw [impl_in_f]
    simp only [Option.bind_some]
    rw [if_pos (by simpa using h), ints_nil, hK k hk, varS, if_pos h]
    rfl
  · refine evi (0) fun k hk => ?_
    unfold impl_Var.f
    rw [impl_in_f]
    simp only [Option.bind_some]
    rw [if_neg (by simpa using h), varS, if_neg h]
    rfl

theorem spec_Var_l0 (m : Nat) : ∀ (n : Nat) (acc : List UInt8), n ≤ 562949953421311 → n ≤ m → acc.length + (varL n).length ≤ 100000000000000 → Ev (fun k => spec_Var.l0 k (n : Int) (ints acc)) (mkS (acc ++ varL n)) := by
  induction m using Nat.strongRecOn with
  | ind m ih =>
  intro n acc hn hm hl
  have hlp := varL_pos n
  by_cases h : n < 128
  · refine evi (1) fun k hk => ?_
    obtain ⟨k, rfl⟩ : ∃ m, k = m + 1 := ⟨k - 1, by omega⟩
    simp only [spec_Var.l0]
    rw [if_neg (by omega), if_pos (by rw [ints_length]; omega), ints_one n _ (by omega), ints_append, strOfNums_ints, varL_small h]
  · have hd := varL_big h
    obtain ⟨K, hK⟩ := evx (ih (n / 128) (by omega) (n / 128) (acc ++ [UInt8.ofNat (n % 128 + 128)]) (by omega) (Nat.le_refl _) (by rw [hd, List.length_cons] at hl; rw [List.length_append, List.length_singleton]; omega))
    refine evi (K + 1) fun k hk => ?_
    obtain ⟨k, rfl⟩ : ∃ m, k = m + 1 := ⟨k - 1, by omega⟩
    simp only [spec_Var.l0]
    rw [if_pos (by omega), if_pos (by rw [ints_length]; omega), tdivp (by omega), tmodp (by omega), w64 (by omega) (by omega), w64 (by omega) (by omega), ints_one (n % 128 + 128) _ (by omega), ints_append]
    have := hK k (by omega)
    simp only [Int.natCast_ediv] at this
    rw [hd, show (128 : Int) = ((128 : Nat) : Int) from rfl, this, List.append_assoc]
    rfl
theorem spec_Var_ev (n : Int) : Ev (fun k => spec_Var.f k n) (varS n) := by
  by_cases h : 0 ≤ n ∧ n ≤ 562949953421311
  · obtain ⟨m, rfl⟩ := Int.eq_ofNat_of_zero_le h.1
    have h7 := varL_len7 (n := m) (by omega)
    obtain ⟨K, hK⟩ := evx (spec_Var_l0 m m [] (by omega) (Nat.le_refl _) (by simp; omega))
    refine evi (K) fun k hk => ?_
    unfold spec_Var.f
    rw [spec_l1In_f]
    simp only [Option.bind_some]
    rw [if_pos (by simpa using h), ints_nil, hK k hk, varS, if_pos h]
    rfl
  · refine evi (0) fun k hk => ?_
    unfold spec_Var.f
    rw [spec_l1In_f]
    simp only [Option.bind_some]
    rw [if_neg (by simpa using h), varS, if_neg h]
    rfl

def fixL : Nat → Nat → List UInt8
  | 0, _ => []
  | w + 1, n => UInt8.ofNat (n / 256 ^ w) :: fixL w n
theorem fixL_length (w n : Nat) : (fixL w n).length = w := by induction w with
  | zero => rfl
  | succ w ih => rw [fixL, List.length_cons, ih]
def fixS (n w : Int) : ByteArray := if (1 ≤ w ∧ w ≤ 7) ∧ 0 ≤ n ∧ n < 256 ^ w.toNat then mkS (fixL w.toNat n.toNat) else mkS []
theorem pow256_le {i : Nat} (h : i ≤ 7) : 256 ^ i ≤ 72057594037927936 := Nat.pow_le_pow_right (n := 256) (by omega) h
theorem pow_2_8 (i : Nat) : ((2 : Int) ^ (8 * i)) = ((256 ^ i : Nat) : Int) := by
  rw [show (256 : Nat) = 2 ^ 8 from rfl, ← Nat.pow_mul]
  simp

theorem impl_Fixed_l0 (n : Nat) (m : Nat) : ∀ (acc : List UInt8), m ≤ 7 → acc.length + m ≤ 100 → Ev (fun k => impl_Fixed.l0 k (n : Int) (ints acc) ((m : Int) - 1)) (mkS (acc ++ fixL m n)) := by
  induction m with
  | zero =>
    intro acc _ hl
    refine evi (1) fun k hk => ?_
    obtain ⟨k, rfl⟩ : ∃ m, k = m + 1 := ⟨k - 1, by omega⟩
    simp only [impl_Fixed.l0]
    rw [if_neg (by omega), strOfNums_ints, fixL, List.append_nil]
  | succ m ih =>
    intro acc hm hl
    obtain ⟨K, hK⟩ := evx (ih (acc ++ [UInt8.ofNat (n / 256 ^ m)]) (by omega) (by rw [List.length_append, List.length_singleton]; omega))
    refine evi (K + 1) fun k hk => ?_
    obtain ⟨k, rfl⟩ : ∃ m, k = m + 1 := ⟨k - 1, by omega⟩
    simp only [impl_Fixed.l0]
    rw [show (((m + 1 : Nat) : Int) - 1) = (m : Int) from by omega]
    rw [if_pos (by omega), w64 (x := 8 * (m : Int)) (by omega) (by omega), if_pos (by omega), if_pos (by rw [ints_length]; omega), shr_i64 (n := 8 * m) (by simp) (by omega), pow_2_8, w64 (by omega) (by omega), ints_one (n / 256 ^ m) _ (by rw [← Int.natCast_ediv]; omega), ints_append, hK k (by omega), fixL, List.append_assoc]
    rfl
theorem impl_Fixed_ev (n w : Int) : Ev (fun k => impl_Fixed.f k n w) (fixS n w) := by
  by_cases hw : 1 ≤ w ∧ w ≤ 7
  · obtain ⟨m, rfl⟩ := Int.eq_ofNat_of_zero_le (show 0 ≤ w by omega)
    have hp := pow256_le (i := m) (by omega)
    have hp0 : 0 < 256 ^ m := Nat.pow_pos (by omega)
    have e1 : wrap64 (shl .i64 1 (wrap64 (8 * (m : Int))) - 1) = ((256 ^ m : Nat) : Int) - 1 := by
      rw [w64 (x := 8 * (m : Int)) (by omega) (by omega), shl_i64 (n := 8 * m) (by simp) (by omega), pow_2_8, Int.one_mul, w64 (x := ((256 ^ m : Nat) : Int)) (by omega) (by omega), w64 (by omega) (by omega)]
    have hcast : ((256 : Int) ^ m) = ((256 ^ m : Nat) : Int) := by simp
    by_cases hn : 0 ≤ n ∧ n < 256 ^ m
    · have hn2 := hn.2
      rw [hcast] at hn2
      obtain ⟨q, rfl⟩ := Int.eq_ofNat_of_zero_le hn.1
      obtain ⟨K, hK⟩ := evx (impl_Fixed_l0 q m [] (by omega) (by simp; omega))
      refine evi (K + 1) fun k hk => ?_
      obtain ⟨k, rfl⟩ : ∃ m, k = m + 1 := ⟨k - 1, by omega⟩
      unfold impl_Fixed.f
      rw [impl_in_f]
      simp only [Option.bind_some]
      rw [if_pos (by simpa using hw), if_pos (by rw [w64 (by omega) (by omega)]; omega), e1, impl_in_f]
      simp only [Option.bind_some, impl_Fixed.j0]
      rw [if_neg (by simp; omega), w64 (by omega) (by omega), ints_nil, hK k (by omega), fixS, if_pos ⟨hw, by simpa using hn⟩]
      simp
    · refine evi (1) fun k hk => ?_
      obtain ⟨k, rfl⟩ : ∃ m, k = m + 1 := ⟨k - 1, by omega⟩
      unfold impl_Fixed.f
      rw [impl_in_f]
      simp only [Option.bind_some]
      rw [if_pos (by simpa using hw), if_pos (by rw [w64 (by omega) (by omega)]; omega), e1, impl_in_f]
      simp only [Option.bind_some, impl_Fixed.j0]
      rw [hcast] at hn
      rw [if_pos (by simp only [Bool.not_eq_true', decide_eq_false_iff_not]; omega), fixS, if_neg (fun h => hn (by rw [← hcast]; simpa using h.2))]
      rfl
  · refine evi (1) fun k hk => ?_
    obtain ⟨k, rfl⟩ : ∃ m, k = m + 1 := ⟨k - 1, by omega⟩
    unfold impl_Fixed.f
    rw [impl_in_f]
    simp only [Option.bind_some, impl_Fixed.j0]
    rw [if_neg (by simpa using hw), if_pos trivial, fixS, if_neg (fun h => hw h.1)]
    rfl

theorem spec_Fixed_l0 (n : Nat) (w : Nat) (hw : w ≤ 7) (hn : n ≤ 9223372036854775807) (d : Nat) : ∀ (i : Nat), d + i = w → Ev (fun k => spec_Fixed.l0 k ((n / 256 ^ i : Nat) : Int) (w : Int) (mkS (fixL i n)) (i : Int)) (if n / 256 ^ w = 0 then mkS (fixL w n) else mkS []) := by
  induction d with
  | zero =>
    intro i hi
    obtain rfl : i = w := by omega
    refine evi (1) fun k hk => ?_
    obtain ⟨k, rfl⟩ : ∃ m, k = m + 1 := ⟨k - 1, by omega⟩
    simp only [spec_Fixed.l0]
    rw [if_neg (by omega)]
    by_cases h : n / 256 ^ i = 0
    · rw [if_neg (by rw [h]; omega), if_pos h]
    · rw [if_pos (by have : 0 < n / 256 ^ i := Nat.pos_of_ne_zero h; omega), if_neg h]
      rfl
  | succ d ih =>
    intro i hi
    obtain ⟨K, hK⟩ := evx (ih (i + 1) (by omega))
    refine evi (K + 1) fun k hk => ?_
    obtain ⟨k, rfl⟩ : ∃ m, k = m + 1 := ⟨k - 1, by omega⟩
    have hq : n / 256 ^ i ≤ n := Nat.div_le_self _ _
    have this := hK k (by omega)
    rw [fixL, Nat.pow_succ, ← Nat.div_div_eq_div_mul] at this
    generalize n / 256 ^ i = q at *
    simp only [spec_Fixed.l0, Option.bind_some]
    rw [if_pos (by omega), tmodp (by omega), tdivp (by omega), ints_one q _ (by omega), strOfNums_ints, if_pos (by rw [mkS_size, mkS_size, fixL_length]; simp; omega), mkS_append, w64 (by omega) (by omega), w64 (by omega) (by omega)]
    rw [show ((q : Int) / 256) = ((q / 256 : Nat) : Int) from by omega, show ((i : Int) + 1) = ((i + 1 : Nat) : Int) from by omega]
    exact this
theorem spec_Fixed_ev (n w : Int) (hn : n ≤ 9223372036854775807) : Ev (fun k => spec_Fixed.f k n w) (fixS n w) := by
  by_cases hw : 1 ≤ w ∧ w ≤ 7
  · by_cases h0 : n < 0
    · refine evi (1) fun k hk => ?_
      obtain ⟨k, rfl⟩ : ∃ m, k = m + 1 := ⟨k - 1, by omega⟩
      unfold spec_Fixed.f
      rw [spec_l1In_f]
      simp only [Option.bind_some, spec_Fixed.j0]
      rw [if_pos (by simpa using hw), if_pos (by simpa using h0), fixS, if_neg (fun h => by omega)]
      rfl
    · obtain ⟨m, rfl⟩ := Int.eq_ofNat_of_zero_le (show 0 ≤ w by omega)
      obtain ⟨q, rfl⟩ := Int.eq_ofNat_of_zero_le (show 0 ≤ n by omega)
      obtain ⟨K, hK⟩ := evx (spec_Fixed_l0 q m (by omega) (by omega) m 0 (by omega))
      refine evi (K + 1) fun k hk => ?_
      obtain ⟨k, rfl⟩ : ∃ m, k = m + 1 := ⟨k - 1, by omega⟩
      have hcast : ((256 : Int) ^ m) = ((256 ^ m : Nat) : Int) := by simp
      have hp0 : 0 < 256 ^ m := Nat.pow_pos (by omega)
      unfold spec_Fixed.f
      rw [spec_l1In_f]
      simp only [Option.bind_some, spec_Fixed.j0]
      rw [if_pos (by simpa using hw), if_neg (by simp), mkS_nil]
      have := hK k (by omega)
      rw [Nat.pow_zero, Nat.div_one] at this
      refine this.trans ?_
      rw [fixS]
      by_cases hlt : q < 256 ^ m
      · rw [if_pos (Nat.div_eq_of_lt hlt), if_pos ⟨hw, by omega, by rw [Int.toNat_natCast, hcast]; omega⟩, Int.toNat_natCast, Int.toNat_natCast]
      · rw [if_neg (by rw [Nat.div_eq_zero_iff]; omega), if_neg (fun h => hlt (by have := h.2.2; rw [Int.toNat_natCast, hcast] at this; omega))]
  · refine evi (1) fun k hk => ?_
    obtain ⟨k, rfl⟩ : ∃ m, k = m + 1 := ⟨k - 1, by omega⟩
    unfold spec_Fixed.f
    rw [spec_l1In_f]
    simp only [Option.bind_some, spec_Fixed.j0]
    rw [if_neg (by simpa using hw), if_pos trivial, fixS, if_neg (fun h => hw h.1)]
    rfl

def crcT (c : Nat) : Nat := if c % 2 = 1 then (c / 2) ^^^ 2197175160 else c / 2
def crcN : Nat → Nat → Nat
  | 0, c => c
  | n + 1, c => crcN n (crcT c)
def crcL (c : Nat) (l : List UInt8) : Nat := l.foldl (fun c b => crcN 8 (c ^^^ b.toNat)) c
def crcS (l : List UInt8) : Nat := 4294967295 - crcL 4294967295 l
theorem xor_lt32 {a b : Nat} (ha : a < 4294967296) (hb : b < 4294967296) : a ^^^ b < 4294967296 := Nat.xor_lt_two_pow (n := 32) ha hb
theorem crcT_lt {c : Nat} (h : c < 4294967296) : crcT c < 4294967296 := by
  unfold crcT
  split
  · exact xor_lt32 (by omega) (by omega)
  · omega
theorem crcN_lt (n : Nat) : ∀ c, c < 4294967296 → crcN n c < 4294967296 := by
  induction n with
  | zero => intro c h; exact h
  | succ n ih => intro c h; exact ih _ (crcT_lt h)
theorem bits_xor_nat (k : IntKind) (j : Nat) (hj : j ≤ k.bits) (hk : ∀ n : Int, 0 ≤ n → n < 2 ^ j → k.wrap n = n) (a b : Nat) (ha : a < 2 ^ j) (hb : b < 2 ^ j) : Go.bits .xor k a b = ((a ^^^ b : Nat) : Int) := by
  have hp : 2 ^ j ≤ 2 ^ k.bits := Nat.pow_le_pow_right (by decide) hj
  have ha' : a % 2 ^ k.bits = a := Nat.mod_eq_of_lt (Nat.lt_of_lt_of_le ha hp)
  have hb' : b % 2 ^ k.bits = b := Nat.mod_eq_of_lt (Nat.lt_of_lt_of_le hb hp)
  have cast : ∀ n : Nat, n < 2 ^ j → ((n : Nat) : Int) < 2 ^ j := fun n h => by exact_mod_cast h
  simp only [Go.bits, BitVec.ofInt_natCast, BitVec.toNat_xor, BitVec.toNat_ofNat, ha', hb']
  exact hk _ (Int.natCast_nonneg _) (cast _ (Nat.xor_lt_two_pow ha hb))
theorem xor_u32 {a b : Nat} (ha : a < 4294967296) (hb : b < 4294967296) : Go.bits .xor .u32 (a : Int) (b : Int) = ((a ^^^ b : Nat) : Int) :=
  bits_xor_nat .u32 32 (by decide) (fun n h0 h1 => by rw [IntKind.wrap_u32]; omega) a b ha hb
theorem xor_i64 {a b : Nat} (ha : a < 4294967296) (hb : b < 4294967296) : Go.bits .xor .i64 (a : Int) (b : Int) = ((a ^^^ b : Nat) : Int) :=
  bits_xor_nat .i64 32 (by decide) (fun n h0 h1 => by rw [IntKind.wrap_i64]; omega) a b ha hb
theorem and_u32_1 {a : Nat} (ha : a < 4294967296) : Go.bits .and .u32 (a : Int) 1 = ((a % 2 : Nat) : Int) := by
  have := (bits_nat .u32 32 (by decide) (fun n h0 h1 => by rw [IntKind.wrap_u32]; omega) a 1 ha (by decide)).1
  rw [Nat.and_one_is_mod] at this
  exact this
theorem not_u32 {a : Nat} (ha : a < 4294967296) : Go.bits .xor .u32 (IntKind.u32.max) (a : Int) = ((4294967295 - a : Nat) : Int) := by
  have e : IntKind.u32.max = ((4294967295 : Nat) : Int) := by decide
  rw [e, xor_u32 (by omega) ha]
  congr 1
  have h := BitVec.toNat_not (x := BitVec.ofNat 32 a)
  rw [← BitVec.allOnes_xor, BitVec.toNat_xor, BitVec.toNat_allOnes, BitVec.toNat_ofNat, Nat.mod_eq_of_lt ha] at h
  exact h

theorem impl_Crc_l1 (l : List UInt8) (i : Nat) (r : Int) (hi : i < 9000000000000000000) (d : Nat) : ∀ (j c : Nat), d + j = 8 → c < 4294967296 → Ev (fun k => impl_Crc.l0 k (mkS l) ((crcN d c : Nat) : Int) ((i + 1 : Nat) : Int)) r → Ev (fun k => impl_Crc.l1 k (mkS l) (c : Int) (i : Int) (j : Int)) r := by
  induction d with
  | zero =>
    intro j c hj hc h
    obtain ⟨K, hK⟩ := evx (h)
    refine evi (K + 1) fun k hk => ?_
    obtain ⟨k, rfl⟩ : ∃ m, k = m + 1 := ⟨k - 1, by omega⟩
    simp only [impl_Crc.l1]
    rw [if_neg (by omega), w64 (by omega) (by omega)]
    exact hK k (by omega)
  | succ d ih =>
    intro j c hj hc h
    obtain ⟨K, hK⟩ := evx (ih (j + 1) (crcT c) (by omega) (crcT_lt hc) h)
    refine evi (K + 1) fun k hk => ?_
    obtain ⟨k, rfl⟩ : ∃ m, k = m + 1 := ⟨k - 1, by omega⟩
    simp only [impl_Crc.l1]
    have hgo := hK k (by omega)
    rw [if_pos (by omega), and_u32_1 hc, w64 (by omega) (by omega), show ((j : Int) + 1) = ((j + 1 : Nat) : Int) from by omega]
    unfold crcT at hgo
    by_cases ho : c % 2 = 1
    · rw [if_pos ho] at hgo
      rw [if_pos (by omega), show ((c : Int) / 2) = ((c / 2 : Nat) : Int) from by omega, show (2197175160 : Int) = ((2197175160 : Nat) : Int) from rfl, xor_u32 (by omega) (by omega)]
      exact hgo
    · rw [if_neg ho] at hgo
      rw [if_neg (by omega), show ((c : Int) / 2) = ((c / 2 : Nat) : Int) from by omega]
      exact hgo
theorem impl_Crc_l0 (l : List UInt8) (hl : l.length < 9000000000000000000) (d : Nat) : ∀ (i c : Nat), d + i = l.length → c < 4294967296 → Ev (fun k => impl_Crc.l0 k (mkS l) (c : Int) (i : Int)) ((4294967295 - crcL c (l.drop i) : Nat) : Int) := by
  induction d with
  | zero =>
    intro i c hi hc
    refine evi (1) fun k hk => ?_
    obtain ⟨k, rfl⟩ : ∃ m, k = m + 1 := ⟨k - 1, by omega⟩
    simp only [impl_Crc.l0]
    rw [if_neg (by rw [mkS_size]; omega), not_u32 hc, w64 (by omega) (by omega), List.drop_of_length_le (by omega)]
    rfl
  | succ d ih =>
    intro i c hi hc
    have hlt : i < l.length := by omega
    have hx := (l[i]).toNat_lt
    have hc' : c ^^^ (l[i]).toNat < 4294967296 := xor_lt32 hc (by omega)
    obtain ⟨K, hK⟩ := evx (impl_Crc_l1 l i _ (by omega) 8 0 (c ^^^ (l[i]).toNat) rfl hc' (ih (i + 1) (crcN 8 (c ^^^ (l[i]).toNat)) (by omega) (crcN_lt 8 _ hc')))
    refine evi (K + 1) fun k hk => ?_
    obtain ⟨k, rfl⟩ : ∃ m, k = m + 1 := ⟨k - 1, by omega⟩
    simp only [impl_Crc.l0]
    rw [if_pos (by rw [mkS_size]; omega), if_pos (by omega), bt_mkS l i hlt, Int.emod_eq_of_lt (by omega) (by omega), xor_u32 hc (by omega), List.drop_eq_getElem_cons hlt]
    exact hK k (by omega)
theorem impl_Crc_ev (l : List UInt8) (hl : l.length < 9000000000000000000) : Ev (fun k => impl_Crc.f k (mkS l)) (crcS l : Int) := by
  have h := impl_Crc_l0 l hl l.length 0 4294967295 rfl (by omega)
  exact h

theorem spec_Crc_l1 (l : List UInt8) (i : Nat) (r : Int) (hi : i < 9000000000000000000) (d : Nat) : ∀ (j c : Nat), d + j = 8 → c < 4294967296 → Ev (fun k => spec_Crc.l0 k (mkS l) ((crcN d c : Nat) : Int) ((i + 1 : Nat) : Int)) r → Ev (fun k => spec_Crc.l1 k (mkS l) (c : Int) (i : Int) (j : Int)) r := by
  induction d with
  | zero =>
    intro j c hj hc h
    obtain ⟨K, hK⟩ := evx (h)
    refine evi (K + 1) fun k hk => ?_
    obtain ⟨k, rfl⟩ : ∃ m, k = m + 1 := ⟨k - 1, by omega⟩
    simp only [spec_Crc.l1]
    rw [if_neg (by omega), w64 (by omega) (by omega)]
    exact hK k (by omega)
  | succ d ih =>
    intro j c hj hc h
    obtain ⟨K, hK⟩ := evx (ih (j + 1) (crcT c) (by omega) (crcT_lt hc) h)
    refine evi (K + 1) fun k hk => ?_
    obtain ⟨k, rfl⟩ : ∃ m, k = m + 1 := ⟨k - 1, by omega⟩
    simp only [spec_Crc.l1]
    have hgo := hK k (by omega)
    rw [if_pos (by omega), tmodp (by omega), tdivp (by omega), w64 (x := (j : Int) + 1) (by omega) (by omega), w64 (x := (c : Int) / 2) (by omega) (by omega), show ((j : Int) + 1) = ((j + 1 : Nat) : Int) from by omega]
    unfold crcT at hgo
    by_cases ho : c % 2 = 1
    · rw [if_pos ho] at hgo
      rw [if_pos (by omega), show ((c : Int) / 2) = ((c / 2 : Nat) : Int) from by omega, show (2197175160 : Int) = ((2197175160 : Nat) : Int) from rfl, xor_i64 (by omega) (by omega)]
      exact hgo
    · rw [if_neg ho] at hgo
      rw [if_neg (by omega), show ((c : Int) / 2) = ((c / 2 : Nat) : Int) from by omega]
      exact hgo
theorem spec_Crc_l0 (l : List UInt8) (hl : l.length < 9000000000000000000) (d : Nat) : ∀ (i c : Nat), d + i = l.length → c < 4294967296 → Ev (fun k => spec_Crc.l0 k (mkS l) (c : Int) (i : Int)) ((4294967295 - crcL c (l.drop i) : Nat) : Int) := by
  induction d with
  | zero =>
    intro i c hi hc
    refine evi (1) fun k hk => ?_
    obtain ⟨k, rfl⟩ : ∃ m, k = m + 1 := ⟨k - 1, by omega⟩
    simp only [spec_Crc.l0]
    rw [if_neg (by rw [mkS_size]; omega), w64 (by omega) (by omega), List.drop_of_length_le (by omega)]
    congr 1
    show _ = ((4294967295 - c : Nat) : Int)
    omega
  | succ d ih =>
    intro i c hi hc
    have hlt : i < l.length := by omega
    have hx := (l[i]).toNat_lt
    have hc' : c ^^^ (l[i]).toNat < 4294967296 := xor_lt32 hc (by omega)
    obtain ⟨K, hK⟩ := evx (spec_Crc_l1 l i _ (by omega) 8 0 (c ^^^ (l[i]).toNat) rfl hc' (ih (i + 1) (crcN 8 (c ^^^ (l[i]).toNat)) (by omega) (crcN_lt 8 _ hc')))
    refine evi (K + 1) fun k hk => ?_
    obtain ⟨k, rfl⟩ : ∃ m, k = m + 1 := ⟨k - 1, by omega⟩
    simp only [spec_Crc.l0]
    rw [if_pos (by rw [mkS_size]; omega), if_pos (by omega), w64b, bt_mkS l i hlt, xor_i64 hc (by omega), List.drop_eq_getElem_cons hlt]
    exact hK k (by omega)
theorem spec_Crc_ev (l : List UInt8) (hl : l.length < 9000000000000000000) : Ev (fun k => spec_Crc.f k (mkS l)) (crcS l : Int) := by
  have h := spec_Crc_l0 l hl l.length 0 4294967295 rfl (by omega)
  exact h

def varB (n : Int) : List UInt8 := if 0 ≤ n ∧ n ≤ 562949953421311 then varL n.toNat else []
theorem varS_B (n : Int) : varS n = mkS (varB n) := by unfold varS varB; split <;> rfl
theorem varB_length (n : Int) : (varB n).length ≤ 7 := by
  unfold varB
  split
  · exact varL_len7 (by omega)
  · simp
def varsL (l : List Int) : List UInt8 := l.flatMap varB
theorem varsL_cons (a : Int) (t : List Int) : varsL (a :: t) = varB a ++ varsL t := by simp [varsL]
theorem varsL_length (l : List Int) : (varsL l).length ≤ 7 * l.length := by
  induction l with
  | nil => simp [varsL]
  | cons a t ih =>
    have := varB_length a
    have e : varsL (a :: t) = varB a ++ varsL t := by simp [varsL]
    rw [e, List.length_append, List.length_cons]
    omega
theorem impl_vars_l0 (l : List Int) (hl : l.length ≤ 1099511627776) (d : Nat) : ∀ (i : Nat) (acc : List UInt8), d + i = l.length → acc.length + 7 * d ≤ 100000000000000 → Ev (fun k => impl_vars.l0 k (mkS acc) l (l.length : Int) (i : Int)) (mkS (acc ++ varsL (l.drop i))) := by
  induction d with
  | zero =>
    intro i acc hi ha
    refine evi (1) fun k hk => ?_
    obtain ⟨k, rfl⟩ : ∃ m, k = m + 1 := ⟨k - 1, by omega⟩
    simp only [impl_vars.l0]
    rw [if_neg (by omega), List.drop_of_length_le (by omega)]
    simp [varsL]
  | succ d ih =>
    intro i acc hi ha
    have hlt : i < l.length := by omega
    have hrd : rd l (i : Int) = l[i] := by simp [rd, hlt]
    have hb := varB_length l[i]
    obtain ⟨K1, h1⟩ := evx (impl_Var_ev l[i])
    obtain ⟨K, hK⟩ := evx (ih (i + 1) (acc ++ varB l[i]) (by omega) (by rw [List.length_append]; omega))
    refine evi (K + K1 + 1) fun k hk => ?_
    obtain ⟨k, rfl⟩ : ∃ m, k = m + 1 := ⟨k - 1, by omega⟩
    have hgo := hK k (by omega)
    simp only [impl_vars.l0]
    rw [if_pos (by omega), if_pos (by omega), if_pos (by omega), hrd, h1 k (by omega), varS_B]
    simp only [Option.bind_some]
    rw [if_pos (by rw [mkS_size, mkS_size]; omega), mkS_append, w64 (by omega) (by omega), show ((i : Int) + 1) = ((i + 1 : Nat) : Int) from by omega, hgo, List.drop_eq_getElem_cons hlt, varsL_cons, List.append_assoc]
theorem impl_vars_ev (l : List Int) (hl : l.length ≤ 1048576) : Ev (fun k => impl_vars.f k l) (mkS (varsL l)) := by
  have := impl_vars_l0 l (by omega) l.length 0 [] rfl (by simp only [List.length_nil]; omega)
  exact this

theorem impl_textOf_ev (l : List UInt8) (hl : l.length ≤ 562949953421311) : Ev (fun k => impl_textOf.f k (mkS l)) (mkS (textL l)) := by
  obtain ⟨K, hK⟩ := evx (impl_Var_ev (l.length : Int))
  have h7 := varL_len7 hl
  refine evi (K) fun k hk => ?_
  unfold impl_textOf.f
  rw [mkS_size, hK k hk, varS_nat hl]
  simp only [Option.bind_some]
  rw [if_pos (by rw [mkS_size]; omega), mkS_append]
  rfl

/-- A record is right: its kind, batch, key, value, count and sum. -/
def recOk (kind batch : Int) (key value : List UInt8) (count sum : Int) : Bool :=
  decide (0 ≤ batch ∧ batch ≤ 1000000) && (decide (batch ≠ 0) || decide (kind = 5)) &&
  (if kind = 1 ∨ kind = 4 then keyOkB key && decide (value.length ≤ 24) && decide (count = 0) && decide (sum = 0)
   else if kind = 2 then keyOkB key && decide (value = []) && decide (count = 0) && decide (sum = 0)
   else if kind = 3 then decide (key = []) && decide (value = []) && decide (0 ≤ count ∧ count ≤ 8) && decide (0 ≤ sum ∧ sum ≤ 4294967295)
   else if kind = 5 then decide (key = []) && decide (value = []) && decide (0 ≤ count ∧ count ≤ 20) && decide (0 ≤ sum ∧ sum ≤ 4294967295)
   else false)

theorem impl_RecOk_f (kind batch count sum : Int) (key value : List UInt8) (k : Nat) (hk : 0 < k) : impl_RecOk.f k kind batch (mkS key) (mkS value) count sum = some (recOk kind batch key value count sum) := by
  obtain ⟨k, rfl⟩ : ∃ m, k = m + 1 := ⟨k - 1, by omega⟩
  unfold impl_RecOk.f
  simp only [impl_RecOk.j0, impl_KeyOk_f, impl_in_f, Option.bind_some, mkS_size, mkS_toList, mkS_nil, beq_iff_eq, decide_eq_true_eq, Bool.false_eq_true, if_false]
  unfold recOk
  generalize keyOkB key = kb
  have hv : value = [] ↔ value.length = 0 := by simp
  have hke : key = [] ↔ key.length = 0 := by simp
  clear hk
  by_cases h1 : kind = 1
  · subst h1; cases kb <;> simp <;> (repeat' split) <;> simp_all <;> (try rw [Bool.eq_iff_iff]) <;> (try simp) <;> (try omega) <;> (try (constructor <;> (intro hh; simp_all <;> omega)))
  · by_cases h4 : kind = 4
    · subst h4; cases kb <;> simp <;> (repeat' split) <;> simp_all <;> (try rw [Bool.eq_iff_iff]) <;> (try simp) <;> (try omega) <;> (try (constructor <;> (intro hh; simp_all <;> omega)))
    · by_cases h2 : kind = 2
      · subst h2; cases kb <;> simp <;> (repeat' split) <;> simp_all <;> (try rw [Bool.eq_iff_iff]) <;> (try simp) <;> (try omega) <;> (try (constructor <;> (intro hh; simp_all <;> omega)))
      · by_cases h3 : kind = 3
        · subst h3; simp <;> (repeat' split) <;> simp_all <;> (try rw [Bool.eq_iff_iff]) <;> (try simp) <;> (try omega) <;> (try (constructor <;> (intro hh; simp_all <;> omega)))
        · by_cases h5 : kind = 5
          · subst h5; simp <;> (repeat' split) <;> simp_all <;> (try rw [Bool.eq_iff_iff]) <;> (try simp) <;> (try omega) <;> (try (constructor <;> (intro hh; simp_all <;> omega)))
          · simp [h1, h2, h3, h4, h5]

theorem spec_RecOk_f (kind batch count sum : Int) (key value : List UInt8) (k : Nat) (hk : 1 < k) : spec_RecOk.f k kind batch (mkS key) (mkS value) count sum = some (recOk kind batch key value count sum) := by
  obtain ⟨k, rfl⟩ : ∃ m, k = m + 2 := ⟨k - 2, by omega⟩
  unfold spec_RecOk.f
  simp only [spec_RecOk.j0, spec_RecOk.j1, spec_KeyOk_f, spec_l1In_f, Option.bind_some, mkS_size, mkS_toList, mkS_nil, beq_iff_eq, bne_iff_ne, decide_eq_true_eq, Bool.false_eq_true, if_false, if_true]
  unfold recOk
  generalize keyOkB key = kb
  have hv : value = [] ↔ value.length = 0 := by simp
  have hke : key = [] ↔ key.length = 0 := by simp
  clear hk
  by_cases h1 : kind = 1
  · subst h1; cases kb <;> simp <;> (repeat' split) <;> simp_all <;> (try rw [Bool.eq_iff_iff]) <;> (try simp) <;> (try omega) <;> (try (constructor <;> (intro hh; simp_all <;> omega)))
  · by_cases h4 : kind = 4
    · subst h4; cases kb <;> simp <;> (repeat' split) <;> simp_all <;> (try rw [Bool.eq_iff_iff]) <;> (try simp) <;> (try omega) <;> (try (constructor <;> (intro hh; simp_all <;> omega)))
    · by_cases h2 : kind = 2
      · subst h2; cases kb <;> simp <;> (repeat' split) <;> simp_all <;> (try rw [Bool.eq_iff_iff]) <;> (try simp) <;> (try omega) <;> (try (constructor <;> (intro hh; simp_all <;> omega)))
      · by_cases h3 : kind = 3
        · subst h3; simp <;> (repeat' split) <;> simp_all <;> (try rw [Bool.eq_iff_iff]) <;> (try simp) <;> (try omega) <;> (try (constructor <;> (intro hh; simp_all <;> omega)))
        · by_cases h5 : kind = 5
          · subst h5; simp <;> (repeat' split) <;> simp_all <;> (try rw [Bool.eq_iff_iff]) <;> (try simp) <;> (try omega) <;> (try (constructor <;> (intro hh; simp_all <;> omega)))
          · simp [h1, h2, h3, h4, h5]

def showRec (kind batch : Int) (key value : List UInt8) (count sum : Int) : List UInt8 :=
  if recOk kind batch key value count sum = true then
    (varB kind ++ varB batch) ++ (if kind = 1 ∨ kind = 4 then textL key ++ textL value else if kind = 2 then textL key else varB count ++ fixL 4 sum.toNat)
  else []
theorem recOk_key {kind batch : Int} {key value : List UInt8} {count sum : Int} (h : recOk kind batch key value count sum = true) : key.length ≤ 8 ∧ value.length ≤ 24 ∧ (¬ (kind = 1 ∨ kind = 4) → ¬ kind = 2 → 0 ≤ sum ∧ sum ≤ 4294967295) := by
  unfold recOk keyOkB at h
  simp only [Bool.and_eq_true] at h
  obtain ⟨_, h⟩ := h
  split at h
  · simp only [Bool.and_eq_true, decide_eq_true_eq] at h
    exact ⟨by omega, by omega, fun hh => absurd ‹_› hh⟩
  · split at h
    · simp only [Bool.and_eq_true, decide_eq_true_eq] at h
      refine ⟨by omega, by rw [h.1.1.2]; simp, fun _ hh => absurd ‹_› hh⟩
    · split at h
      · simp only [Bool.and_eq_true, decide_eq_true_eq] at h
        exact ⟨by rw [h.1.1.1]; simp, by rw [h.1.1.2]; simp, fun _ _ => h.2⟩
      · split at h
        · simp only [Bool.and_eq_true, decide_eq_true_eq] at h
          exact ⟨by rw [h.1.1.1]; simp, by rw [h.1.1.2]; simp, fun _ _ => h.2⟩
        · cases h
theorem fixS_sum {s : Int} (h0 : 0 ≤ s) (h1 : s ≤ 4294967295) : fixS s 4 = mkS (fixL 4 s.toNat) := by
  unfold fixS
  have e : (256 : Int) ^ (4 : Int).toNat = 4294967296 := by decide
  rw [if_pos ⟨by omega, by omega, by rw [e]; omega⟩]
  rfl
theorem impl_ShowRec_ev (kind batch count sum : Int) (key value : List UInt8) : Ev (fun k => impl_ShowRec.f k kind batch (mkS key) (mkS value) count sum) (mkS (showRec kind batch key value count sum)) := by
  unfold showRec
  by_cases hr : recOk kind batch key value count sum = true
  · obtain ⟨hk8, hv24, hsum⟩ := recOk_key hr
    obtain ⟨K1, h1⟩ := evx (impl_vars_ev [kind, batch] (by simp))
    obtain ⟨K2, h2⟩ := evx (impl_textOf_ev key (by omega))
    obtain ⟨K3, h3⟩ := evx (impl_textOf_ev value (by omega))
    obtain ⟨K4, h4⟩ := evx (impl_Var_ev count)
    obtain ⟨K5, h5⟩ := evx (impl_Fixed_ev sum 4)
    have l1 := varsL_length [kind, batch]
    have l2 := textL_length key (by omega)
    have l3 := textL_length value (by omega)
    have l4 := varB_length count
    have ev : varsL [kind, batch] = varB kind ++ varB batch := by simp [varsL]
    simp only [List.length_cons, List.length_nil] at l1
    refine evi (K1 + K2 + K3 + K4 + K5 + 2) fun k hk => ?_
    obtain ⟨k, rfl⟩ : ∃ m, k = m + 1 := ⟨k - 1, by omega⟩
    unfold impl_ShowRec.f
    rw [impl_RecOk_f _ _ _ _ _ _ _ (by omega), hr, h1 _ (by omega)]
    simp only [Option.bind_some, if_true, impl_ShowRec.j0, beq_iff_eq]
    rw [h2 _ (by omega), h3 _ (by omega), h4 _ (by omega), h5 _ (by omega), varS_B]
    simp only [Option.bind_some]
    have g1 : (mkS (varsL [kind, batch])).size + (mkS (textL key)).size ≤ 9223372036854775807 := by rw [mkS_size, mkS_size]; omega
    have g2 : (mkS (varsL [kind, batch] ++ textL key)).size + (mkS (textL value)).size ≤ 9223372036854775807 := by rw [mkS_size, mkS_size, List.length_append]; omega
    have g3 : (mkS (varsL [kind, batch])).size + (mkS (varB count)).size ≤ 9223372036854775807 := by rw [mkS_size, mkS_size]; omega
    have g4 : (mkS (varsL [kind, batch] ++ varB count)).size + (mkS (fixL 4 sum.toNat)).size ≤ 9223372036854775807 := by rw [mkS_size, mkS_size, List.length_append, fixL_length]; omega
    rw [← ev]
    by_cases c1 : kind = 1
    · simp only [c1] at *
      simp [g1, g2, mkS_append]
    · by_cases c4 : kind = 4
      · simp only [c4] at *
        simp [g1, g2, mkS_append]
      · by_cases c2 : kind = 2
        · simp only [c2] at *
          simp [g1, g2, mkS_append]
        · obtain ⟨s0, s1⟩ := hsum (by omega) c2
          rw [fixS_sum s0 s1]
          simp [c1, c2, c4, g3, g4, mkS_append]
  · have hf : recOk kind batch key value count sum = false := by simpa using hr
    refine evi (1) fun k hk => ?_
    unfold impl_ShowRec.f
    rw [impl_RecOk_f _ _ _ _ _ _ _ (by omega), hf]
    rfl

theorem spec_ShowRec_ev (kind batch count sum : Int) (key value : List UInt8) : Ev (fun k => spec_ShowRec.f k kind batch (mkS key) (mkS value) count sum) (mkS (showRec kind batch key value count sum)) := by
  unfold showRec
  by_cases hr : recOk kind batch key value count sum = true
  · obtain ⟨hk8, hv24, hsum⟩ := recOk_key hr
    obtain ⟨K1, h1⟩ := evx (spec_Var_ev kind)
    obtain ⟨K6, h6⟩ := evx (spec_Var_ev batch)
    obtain ⟨K2, h2⟩ := evx (spec_Var_ev (key.length : Int))
    obtain ⟨K3, h3⟩ := evx (spec_Var_ev (value.length : Int))
    obtain ⟨K4, h4⟩ := evx (spec_Var_ev count)
    have l1 := varB_length kind
    have l6 := varB_length batch
    have l2 := varL_len7 (n := key.length) (by omega)
    have l3 := varL_len7 (n := value.length) (by omega)
    have l4 := varB_length count
    by_cases c3 : kind = 1 ∨ kind = 4 ∨ kind = 2
    · refine evi (K1 + K2 + K3 + K4 + K6 + 3) fun k hk => ?_
      obtain ⟨k, rfl⟩ : ∃ m, k = m + 1 := ⟨k - 1, by omega⟩
      unfold spec_ShowRec.f
      have q2 := h2 k (by omega)
      have q3 := h3 k (by omega)
      rw [varS_nat (by omega)] at q2 q3
      rw [spec_RecOk_f _ _ _ _ _ _ _ (by omega), hr, h1 _ (by omega), h6 _ (by omega), varS_B, varS_B]
      have g0 : (varB kind).length + (varB batch).length ≤ 9223372036854775807 := by omega
      have g1 : (varB kind ++ varB batch).length + (varL key.length).length ≤ 9223372036854775807 := by rw [List.length_append]; omega
      have g2 : ((varB kind ++ varB batch) ++ varL key.length).length + key.length ≤ 9223372036854775807 := by rw [List.length_append, List.length_append]; omega
      have g3 : (((varB kind ++ varB batch) ++ varL key.length) ++ key).length + (varL value.length).length ≤ 9223372036854775807 := by rw [List.length_append, List.length_append, List.length_append]; omega
      have g4 : ((((varB kind ++ varB batch) ++ varL key.length) ++ key) ++ varL value.length).length + value.length ≤ 9223372036854775807 := by rw [List.length_append, List.length_append, List.length_append, List.length_append]; omega
      simp only [Option.bind_some, if_true, spec_ShowRec.j0, beq_iff_eq, mkS_size, mkS_append, q2, q3, if_pos g0, if_pos g1, if_pos g2, if_pos g3, if_pos g4]
      rcases c3 with c | c | c <;> subst c <;> simp [textL]
    · have c1 : ¬ kind = 1 := fun h => c3 (.inl h)
      have c4 : ¬ kind = 4 := fun h => c3 (.inr (.inl h))
      have c2 : ¬ kind = 2 := fun h => c3 (.inr (.inr h))
      obtain ⟨s0, s1⟩ := hsum (by omega) c2
      obtain ⟨K5, h5⟩ := evx (spec_Fixed_ev sum 4 (by omega))
      refine evi (K1 + K2 + K3 + K4 + K5 + K6 + 3) fun k hk => ?_
      obtain ⟨k, rfl⟩ : ∃ m, k = m + 1 := ⟨k - 1, by omega⟩
      unfold spec_ShowRec.f
      have q4 := h4 k (by omega)
      have q5 := h5 k (by omega)
      rw [varS_B] at q4
      rw [fixS_sum s0 s1] at q5
      rw [spec_RecOk_f _ _ _ _ _ _ _ (by omega), hr, h1 _ (by omega), h6 _ (by omega), varS_B, varS_B]
      have g0 : (varB kind).length + (varB batch).length ≤ 9223372036854775807 := by omega
      have g1 : (varB kind ++ varB batch).length + (varB count).length ≤ 9223372036854775807 := by rw [List.length_append]; omega
      have g2 : ((varB kind ++ varB batch) ++ varB count).length + (fixL 4 sum.toNat).length ≤ 9223372036854775807 := by rw [List.length_append, List.length_append, fixL_length]; omega
      simp only [Option.bind_some, if_true, spec_ShowRec.j0, beq_iff_eq, mkS_size, mkS_append, if_neg c1, if_neg c4, if_neg c2, q4, q5, if_pos g0, if_pos g1, if_pos g2]
      simp [c1, c2, c4]
  · have hf : recOk kind batch key value count sum = false := by simpa using hr
    refine evi (2) fun k hk => ?_
    unfold spec_ShowRec.f
    rw [spec_RecOk_f _ _ _ _ _ _ _ (by omega), hf]
    rfl

/-- A record in plain words: kind, batch, key, value, count, sum. -/
abbrev R6 := Int × Int × List UInt8 × List UInt8 × Int × Int
def okR (r : R6) : Bool := recOk r.1 r.2.1 r.2.2.1 r.2.2.2.1 r.2.2.2.2.1 r.2.2.2.2.2
def showR (r : R6) : List UInt8 := showRec r.1 r.2.1 r.2.2.1 r.2.2.2.1 r.2.2.2.2.1 r.2.2.2.2.2
theorem okR_kind {r : R6} (h : okR r = true) : (r.1 = 1 ∨ r.1 = 4 ∨ r.1 = 2 ∨ r.1 = 3 ∨ r.1 = 5) ∧ (0 ≤ r.2.1 ∧ r.2.1 ≤ 1000000) ∧ r.2.2.1.length ≤ 8 ∧ r.2.2.2.1.length ≤ 24 ∧ (¬ (r.1 = 1 ∨ r.1 = 4) → r.2.2.2.1 = []) ∧ ((r.1 = 1 ∨ r.1 = 4 ∨ r.1 = 2) → r.2.2.2.2.1 = 0 ∧ r.2.2.2.2.2 = 0) ∧ ((r.1 = 3 ∨ r.1 = 5) → r.2.2.1 = [] ∧ (0 ≤ r.2.2.2.2.1 ∧ r.2.2.2.2.1 ≤ 20) ∧ (0 ≤ r.2.2.2.2.2 ∧ r.2.2.2.2.2 ≤ 4294967295)) := by
  obtain ⟨kind, batch, key, value, count, sum⟩ := r
  have hk := recOk_key h
  simp only [okR] at h
  unfold recOk at h
  simp only [Bool.and_eq_true, decide_eq_true_eq] at h
  obtain ⟨⟨hb, _⟩, h⟩ := h
  refine ⟨?_, hb, hk.1, hk.2.1, ?_, ?_, ?_⟩
  · by_cases h1 : kind = 1 ∨ kind = 4
    · rcases h1 with h1 | h1 <;> simp [h1]
    · by_cases h2 : kind = 2
      · simp [h2]
      · by_cases h3 : kind = 3
        · simp [h3]
        · by_cases h5 : kind = 5
          · simp [h5]
          · rw [if_neg h1, if_neg h2, if_neg h3, if_neg h5] at h; cases h
  · intro h1
    simp only at h1
    rw [if_neg h1] at h
    by_cases h2 : kind = 2
    · rw [if_pos h2] at h; simp only [Bool.and_eq_true, decide_eq_true_eq] at h; exact h.1.1.2
    · rw [if_neg h2] at h
      by_cases h3 : kind = 3
      · rw [if_pos h3] at h; simp only [Bool.and_eq_true, decide_eq_true_eq] at h; exact h.1.1.2
      · rw [if_neg h3] at h
        by_cases h5 : kind = 5
        · rw [if_pos h5] at h; simp only [Bool.and_eq_true, decide_eq_true_eq] at h; exact h.1.1.2
        · rw [if_neg h5] at h; cases h
  · intro h1
    simp only at h1
    by_cases h14 : kind = 1 ∨ kind = 4
    · rw [if_pos h14] at h; simp only [Bool.and_eq_true, decide_eq_true_eq] at h; exact ⟨h.1.2, h.2⟩
    · have h2 : kind = 2 := by omega
      rw [if_neg h14, if_pos h2] at h; simp only [Bool.and_eq_true, decide_eq_true_eq] at h; exact ⟨h.1.2, h.2⟩
  · intro h1
    simp only at h1
    rw [if_neg (by omega), if_neg (by omega)] at h
    by_cases h3 : kind = 3
    · rw [if_pos h3] at h; simp only [Bool.and_eq_true, decide_eq_true_eq] at h; exact ⟨h.1.1.1, ⟨h.1.2.1, by have := h.1.2.2; show count ≤ 20; omega⟩, h.2⟩
    · rw [if_neg h3, if_pos (by omega)] at h; simp only [Bool.and_eq_true, decide_eq_true_eq] at h; exact ⟨h.1.1.1, h.1.2, h.2⟩
theorem showR_nil {r : R6} (h : ¬ okR r = true) : showR r = [] := by
  unfold showR showRec
  unfold okR at h
  rw [if_neg h]
theorem showR_len (r : R6) : (showR r).length ≤ 60 := by
  by_cases h : okR r = true
  · obtain ⟨hk, hb, h8, h24, hv, hz, hs⟩ := okR_kind h
    have hok' : recOk r.1 r.2.1 r.2.2.1 r.2.2.2.1 r.2.2.2.2.1 r.2.2.2.2.2 = true := h
    unfold showR showRec
    rw [if_pos hok']
    have l1 := varB_length r.1
    have l2 := varB_length r.2.1
    have l3 := textL_length r.2.2.1 (by omega)
    have l4 := textL_length r.2.2.2.1 (by omega)
    have l5 := varB_length r.2.2.2.2.1
    have l6 := fixL_length 4 r.2.2.2.2.2.toNat
    by_cases h14 : r.1 = 1 ∨ r.1 = 4
    · rw [if_pos h14]; simp only [List.length_append]; omega
    · by_cases h2 : r.1 = 2
      · rw [if_neg h14, if_pos h2]; simp only [List.length_append]; omega
      · rw [if_neg h14, if_neg h2]; simp only [List.length_append]; omega
  · rw [showR_nil h]; simp
def recOf (e : S46) : R6 := (e.f0, e.f1, e.f2.toList, e.f3.toList, e.f4, e.f5)
def sumT (l : List S46) : List UInt8 := l.flatMap fun e => showR (recOf e)
theorem sumT_cons (e : S46) (l : List S46) : sumT (e :: l) = showR (recOf e) ++ sumT l := by simp [sumT]
theorem mkS_self (s : ByteArray) : mkS s.toList = s := by obtain ⟨l, rfl⟩ := exS s; rw [mkS_toList]

def bigRec (e : S43) : Prop := e.f2.size ≤ maxLen ∧ e.f3.size ≤ maxLen
def smallRec (e : S43) : Prop := e.f2.size ≤ 1048576 ∧ e.f3.size ≤ 1048576
theorem laws_szRec_f (e : S43) (h : bigRec e) (a : Int) (h0 : 0 ≤ a) (h1 : a ≤ 1048576) : ∃ s, laws_szRec.f e.f0 e.f1 e.f2 e.f3 e.f4 e.f5 a = some s ∧ s ≤ a ∧ (s < 0 ∨ 0 ≤ s ∧ smallRec e) := by
  have hmax : maxLen = 9223372036854775807 := rfl
  unfold bigRec at h
  unfold laws_szRec.f smallRec wrap64
  repeat' split
  all_goals refine ⟨_, rfl, by omega, by omega⟩
theorem impl_ShowRec_e (e : S46) : Ev (fun k => impl_ShowRec.f k e.f0 e.f1 e.f2 e.f3 e.f4 e.f5) (mkS (showR (recOf e))) := by
  have := impl_ShowRec_ev e.f0 e.f1 e.f4 e.f5 e.f2.toList e.f3.toList
  rw [mkS_self, mkS_self] at this
  exact this
theorem impl_SumOf_l0 (l : List S46) (hl : l.length ≤ 1048576) (d : Nat) : ∀ (i : Nat) (acc : List UInt8), d + i = l.length → acc.length + 60 * d ≤ 100000000000 → Ev (fun k => impl_SumOf.l0 k (mkS acc) l (l.length : Int) (i : Int)) (crcS (acc ++ sumT (l.drop i)) : Int) := by
  induction d with
  | zero =>
    intro i acc hi ha
    obtain ⟨K, hK⟩ := evx (impl_Crc_ev acc (by omega))
    refine evi (K + 1) fun k hk => ?_
    obtain ⟨k, rfl⟩ : ∃ m, k = m + 1 := ⟨k - 1, by omega⟩
    simp only [impl_SumOf.l0]
    rw [if_neg (by omega), List.drop_of_length_le (by omega), hK k (by omega)]
    simp [sumT]
  | succ d ih =>
    intro i acc hi ha
    have hlt : i < l.length := by omega
    have hrd : rd_T46 l (i : Int) = l[i] := by simp [rd_T46, hlt]
    have hb := showR_len (recOf l[i])
    obtain ⟨K1, h1⟩ := evx (impl_ShowRec_e l[i])
    obtain ⟨K, hK⟩ := evx (ih (i + 1) (acc ++ showR (recOf l[i])) (by omega) (by rw [List.length_append]; omega))
    refine evi (K + K1 + 1) fun k hk => ?_
    obtain ⟨k, rfl⟩ : ∃ m, k = m + 1 := ⟨k - 1, by omega⟩
    have hgo := hK k (by omega)
    simp only [impl_SumOf.l0]
    rw [if_pos (by omega), if_pos (by omega), if_pos (by omega), hrd, h1 k (by omega)]
    simp only [Option.bind_some]
    rw [if_pos (by rw [mkS_size, mkS_size]; omega), mkS_append, w64 (by omega) (by omega), show ((i : Int) + 1) = ((i + 1 : Nat) : Int) from by omega, hgo, List.drop_eq_getElem_cons hlt, sumT_cons, List.append_assoc]
theorem impl_SumOf_ev (l : List S46) (hl : l.length ≤ 1048576) : Ev (fun k => impl_SumOf.f k l) (crcS (sumT l) : Int) := by
  have := impl_SumOf_l0 l hl l.length 0 [] rfl (by simp only [List.length_nil]; omega)
  exact this

theorem spec_ShowRec_e (e : S46) : Ev (fun k => spec_ShowRec.f k e.f0 e.f1 e.f2 e.f3 e.f4 e.f5) (mkS (showR (recOf e))) := by
  have := spec_ShowRec_ev e.f0 e.f1 e.f4 e.f5 e.f2.toList e.f3.toList
  rw [mkS_self, mkS_self] at this
  exact this
theorem spec_SumOf_l0 (l : List S46) (hl : l.length ≤ 1048576) (d : Nat) : ∀ (i : Nat) (acc : List UInt8), d + i = l.length → acc.length + 60 * d ≤ 100000000000 → Ev (fun k => spec_SumOf.l0 k l (mkS acc) (i : Int)) (crcS (acc ++ sumT (l.drop i)) : Int) := by
  induction d with
  | zero =>
    intro i acc hi ha
    obtain ⟨K, hK⟩ := evx (spec_Crc_ev acc (by omega))
    refine evi (K + 1) fun k hk => ?_
    obtain ⟨k, rfl⟩ : ∃ m, k = m + 1 := ⟨k - 1, by omega⟩
    simp only [spec_SumOf.l0]
    rw [if_neg (by omega), List.drop_of_length_le (by omega), hK k (by omega)]
    simp [sumT]
  | succ d ih =>
    intro i acc hi ha
    have hlt : i < l.length := by omega
    have hrd : rd_T46 l (i : Int) = l[i] := by simp [rd_T46, hlt]
    have hb := showR_len (recOf l[i])
    obtain ⟨K1, h1⟩ := evx (spec_ShowRec_e l[i])
    obtain ⟨K, hK⟩ := evx (ih (i + 1) (acc ++ showR (recOf l[i])) (by omega) (by rw [List.length_append]; omega))
    refine evi (K + K1 + 1) fun k hk => ?_
    obtain ⟨k, rfl⟩ : ∃ m, k = m + 1 := ⟨k - 1, by omega⟩
    have hgo := hK k (by omega)
    simp only [spec_SumOf.l0]
    rw [if_pos (by omega), if_pos (by omega), hrd, h1 k (by omega)]
    simp only [Option.bind_some]
    rw [if_pos (by rw [mkS_size, mkS_size]; omega), mkS_append, w64 (by omega) (by omega), show ((i : Int) + 1) = ((i + 1 : Nat) : Int) from by omega, hgo, List.drop_eq_getElem_cons hlt, sumT_cons, List.append_assoc]
theorem spec_SumOf_ev (l : List S46) (hl : l.length ≤ 1048576) : Ev (fun k => spec_SumOf.f k l) (crcS (sumT l) : Int) := by
  have := spec_SumOf_l0 l hl l.length 0 [] rfl (by simp only [List.length_nil]; omega)
  exact this

def bigPlace (e : S45) : Prop := e.f3.f2.size ≤ maxLen ∧ e.f3.f3.size ≤ maxLen
def smallPlace (e : S45) : Prop := e.f3.f2.size ≤ 1048576 ∧ e.f3.f3.size ≤ 1048576
theorem laws_szPlace_f (e : S45) (h : bigPlace e) (a : Int) (h0 : 0 ≤ a) (h1 : a ≤ 1048576) : ∃ s, laws_szPlace.f e.f0 e.f1 e.f2 e.f3.f0 e.f3.f1 e.f3.f2 e.f3.f3 e.f3.f4 e.f3.f5 a = some s ∧ s ≤ a ∧ (s < 0 ∨ 0 ≤ s ∧ smallPlace e) := by
  obtain ⟨s, hs, hsa, hs0⟩ := laws_szRec_f e.f3 h a h0 h1
  unfold laws_szPlace.f
  rw [hs, Option.bind_some]
  by_cases hn : s < 0
  · exact ⟨-1, by rw [if_pos hn], by omega, .inl (by omega)⟩
  · exact ⟨s, by rw [if_neg hn], hsa, hs0⟩
theorem laws_szPlaceS_l0 (l : List S45) (hl : l.length ≤ 4611686018427387904) (hb : ∀ e ∈ l, bigPlace e) (d : Nat) : ∀ (i : Nat) (a : Int), d + i = l.length → 0 ≤ a → a ≤ 1048576 →
    ∃ s, Ev (fun k => laws_szPlaceS.l0 k l a (i : Int)) s ∧ s ≤ a ∧ (s < 0 ∨ 0 ≤ s ∧ ∀ e ∈ l.drop i, smallPlace e) := by
  induction d with
  | zero =>
    intro i a hi h0 h1
    refine ⟨a, evi (1) (fun k hk => ?_), by omega, .inr ⟨h0, fun e he => by rw [List.drop_of_length_le (by omega)] at he; cases he⟩⟩
    obtain ⟨k, rfl⟩ : ∃ m, k = m + 1 := ⟨k - 1, by omega⟩
    simp only [laws_szPlaceS.l0]
    rw [if_neg (by omega)]
  | succ d ih =>
    intro i a hi h0 h1
    have hlt : i < l.length := by omega
    have hrd : rd_T45 l (i : Int) = l[i] := by simp [rd_T45, hlt]
    obtain ⟨s, hs, hsa, hs0⟩ := laws_szPlace_f l[i] (hb _ (List.getElem_mem hlt)) a h0 h1
    by_cases hn : s < 0
    · refine ⟨-1, evi (1) (fun k hk => ?_), by omega, .inl (by omega)⟩
      obtain ⟨k, rfl⟩ : ∃ m, k = m + 1 := ⟨k - 1, by omega⟩
      simp only [laws_szPlaceS.l0]
      rw [if_pos (by omega), if_pos (by omega), hrd, hs]
      simp only [Option.bind_some]
      rw [if_pos hn]
    · obtain ⟨r, hr, hra, hr0⟩ := ih (i + 1) s (by omega) (by omega) (by omega)
      obtain ⟨K, hK⟩ := evx hr
      refine ⟨r, evi (K + 1) (fun k hk => ?_), by omega, ?_⟩
      · obtain ⟨k, rfl⟩ : ∃ m, k = m + 1 := ⟨k - 1, by omega⟩
        simp only [laws_szPlaceS.l0]
        rw [if_pos (by omega), if_pos (by omega), hrd, hs]
        simp only [Option.bind_some]
        rw [if_neg hn, w64 (by omega) (by omega)]
        exact hK k (by omega)
      · rcases hr0 with hr0 | ⟨hr0, hr1⟩
        · exact .inl hr0
        · refine .inr ⟨hr0, fun e he => ?_⟩
          rw [List.drop_eq_getElem_cons hlt] at he
          rcases List.mem_cons.1 he with rfl | he
          · rcases hs0 with hs0 | ⟨_, hs0⟩
            · exact absurd hs0 hn
            · exact hs0
          · exact hr1 e he
theorem laws_szPlaceS_ev (l : List S45) (hl : l.length ≤ maxLen) (hb : ∀ e ∈ l, bigPlace e) (a : Int) (h0 : 0 ≤ a) (h1 : a ≤ 1048576) :
    ∃ s, Ev (fun k => laws_szPlaceS.f k l a) s ∧ s ≤ a ∧ (s < 0 ∨ 0 ≤ s ∧ l.length ≤ 1048576 ∧ ∀ e ∈ l, smallPlace e) := by
  have hmax : maxLen = 9223372036854775807 := rfl
  by_cases hn : wrap64 (a - (l.length : Int)) < 0
  · refine ⟨-1, evi (0) (fun k hk => ?_), by omega, .inl (by omega)⟩
    unfold laws_szPlaceS.f
    rw [if_pos hn]
  · have hle : (l.length : Int) ≤ a := by unfold wrap64 at hn; omega
    rw [w64 (by omega) (by omega)] at hn
    obtain ⟨s, hs, hsa, hs0⟩ := laws_szPlaceS_l0 l (by omega) hb l.length 0 (a - (l.length : Int)) rfl (by omega) (by omega)
    obtain ⟨K, hK⟩ := evx hs
    refine ⟨s, evi (K) (fun k hk => ?_), by omega, ?_⟩
    · unfold laws_szPlaceS.f
      rw [w64 (x := a - (l.length : Int)) (by omega) (by omega), if_neg hn]
      exact hK k hk
    · rcases hs0 with hs0 | ⟨hs0, hs1⟩
      · exact .inl hs0
      · exact .inr ⟨hs0, by omega, by simpa using hs1⟩

def convPlace (e : S45) : S48 := ⟨e.f0, e.f1, e.f2, (⟨e.f3.f0, e.f3.f1, e.f3.f2, e.f3.f3, e.f3.f4, e.f3.f5⟩ : S46)⟩
theorem laws_toPlaceS_l0 (l : List S45) (hl : l.length ≤ 4611686018427387904) (d : Nat) : ∀ (i : Nat), d + i = l.length → Ev (fun k => laws_toPlaceS.l0 k l ((l.map convPlace).take i ++ List.replicate (l.length - i) z48) (i : Int)) (l.map convPlace) := by
  induction d with
  | zero =>
    intro i hi
    refine evi (1) fun k hk => ?_
    obtain ⟨k, rfl⟩ : ∃ m, k = m + 1 := ⟨k - 1, by omega⟩
    simp only [laws_toPlaceS.l0]
    rw [if_neg (by omega), List.take_of_length_le (by rw [List.length_map]; omega), show l.length - i = 0 from by omega, List.replicate_zero, List.append_nil]
  | succ d ih =>
    intro i hi
    have hlt : i < l.length := by omega
    have hrd : rd_T45 l (i : Int) = l[i] := by simp [rd_T45, hlt]
    obtain ⟨K, hK⟩ := evx (ih (i + 1) (by omega))
    refine evi (K + 1) fun k hk => ?_
    obtain ⟨k, rfl⟩ : ∃ m, k = m + 1 := ⟨k - 1, by omega⟩
    simp only [laws_toPlaceS.l0, laws_toPlace.f, laws_toRec.f, Option.bind_some]
    rw [if_pos (by omega), if_pos (by omega), if_pos (by rw [List.length_append, List.length_take, List.length_replicate, List.length_map]; omega), hrd, Int.toNat_natCast, w64 (by omega) (by omega)]
    have e : (⟨l[i].f0, l[i].f1, l[i].f2, (⟨l[i].f3.f0, l[i].f3.f1, l[i].f3.f2, l[i].f3.f3, l[i].f3.f4, l[i].f3.f5⟩ : S46)⟩ : S48) = convPlace l[i] := rfl
    rw [e, fill_step (l.map convPlace) z48 i l.length (convPlace l[i]) (List.length_map ..) hlt (by rw [List.getElem?_map, List.getElem?_eq_getElem hlt]; rfl)]
    exact hK k (by omega)
theorem laws_toPlaceS_ev (l : List S45) (hl : l.length ≤ 1048576) : Ev (fun k => laws_toPlaceS.f k l) (l.map convPlace) := by
  obtain ⟨K, hK⟩ := evx (laws_toPlaceS_l0 l (by omega) l.length 0 rfl)
  refine evi (K) fun k hk => ?_
  unfold laws_toPlaceS.f
  rw [if_pos (by omega), if_pos (by omega), Int.toNat_natCast]
  have := hK k hk
  rw [List.take_zero, List.nil_append, Nat.sub_zero] at this
  exact this

theorem laws_eqPlace_self (e : S48) : laws_eqPlace.f e.f0 e.f1 e.f2 e.f3.f0 e.f3.f1 e.f3.f2 e.f3.f3 e.f3.f4 e.f3.f5 e.f0 e.f1 e.f2 e.f3.f0 e.f3.f1 e.f3.f2 e.f3.f3 e.f3.f4 e.f3.f5 = some true := by
  unfold laws_eqPlace.f laws_eqRec.f
  simp
theorem laws_eqPlaceS_l0 (l : List S48) (hl : l.length ≤ 4611686018427387904) (d : Nat) : ∀ (i : Nat), d + i = l.length → Ev (fun k => laws_eqPlaceS.l0 k l l (i : Int)) true := by
  induction d with
  | zero =>
    intro i hi
    refine evi (1) fun k hk => ?_
    obtain ⟨k, rfl⟩ : ∃ m, k = m + 1 := ⟨k - 1, by omega⟩
    simp only [laws_eqPlaceS.l0]
    rw [if_neg (by omega)]
  | succ d ih =>
    intro i hi
    obtain ⟨K, hK⟩ := evx (ih (i + 1) (by omega))
    refine evi (K + 1) fun k hk => ?_
    obtain ⟨k, rfl⟩ : ∃ m, k = m + 1 := ⟨k - 1, by omega⟩
    simp only [laws_eqPlaceS.l0]
    rw [if_pos (by omega), if_pos (by omega), if_pos (by omega), laws_eqPlace_self]
    simp only [Option.bind_some]
    rw [if_pos trivial, w64 (by omega) (by omega)]
    exact hK k (by omega)
theorem laws_eqPlaceS_ev (l : List S48) (hl : l.length ≤ 4611686018427387904) : Ev (fun k => laws_eqPlaceS.f k l l) true := by
  obtain ⟨K, hK⟩ := evx (laws_eqPlaceS_l0 l hl l.length 0 rfl)
  refine evi (K) fun k hk => ?_
  unfold laws_eqPlaceS.f
  rw [if_pos rfl]
  exact hK k hk

def bigEntry (e : S64) : Prop := e.f0.size ≤ maxLen
def smallEntry (e : S64) : Prop := e.f0.size ≤ 1048576
theorem laws_szEntry_f (e : S64) (h : bigEntry e) (a : Int) (h0 : 0 ≤ a) (h1 : a ≤ 1048576) : ∃ s, laws_szEntry.f e.f0 e.f1 e.f2 e.f3 e.f4 a = some s ∧ s ≤ a ∧ (s < 0 ∨ 0 ≤ s ∧ smallEntry e) := by
  have hmax : maxLen = 9223372036854775807 := rfl
  unfold bigEntry at h
  unfold laws_szEntry.f smallEntry wrap64
  repeat' split
  all_goals refine ⟨_, rfl, by omega, by omega⟩
theorem laws_szEntryS_l0 (l : List S64) (hl : l.length ≤ 4611686018427387904) (hb : ∀ e ∈ l, bigEntry e) (d : Nat) : ∀ (i : Nat) (a : Int), d + i = l.length → 0 ≤ a → a ≤ 1048576 →
    ∃ s, Ev (fun k => laws_szEntryS.l0 k l a (i : Int)) s ∧ s ≤ a ∧ (s < 0 ∨ 0 ≤ s ∧ ∀ e ∈ l.drop i, smallEntry e) := by
  induction d with
  | zero =>
    intro i a hi h0 h1
    refine ⟨a, evi (1) (fun k hk => ?_), by omega, .inr ⟨h0, fun e he => by rw [List.drop_of_length_le (by omega)] at he; cases he⟩⟩
    obtain ⟨k, rfl⟩ : ∃ m, k = m + 1 := ⟨k - 1, by omega⟩
    simp only [laws_szEntryS.l0]
    rw [if_neg (by omega)]
  | succ d ih =>
    intro i a hi h0 h1
    have hlt : i < l.length := by omega
    have hrd : rd_T64 l (i : Int) = l[i] := by simp [rd_T64, hlt]
    obtain ⟨s, hs, hsa, hs0⟩ := laws_szEntry_f l[i] (hb _ (List.getElem_mem hlt)) a h0 h1
    by_cases hn : s < 0
    · refine ⟨-1, evi (1) (fun k hk => ?_), by omega, .inl (by omega)⟩
      obtain ⟨k, rfl⟩ : ∃ m, k = m + 1 := ⟨k - 1, by omega⟩
      simp only [laws_szEntryS.l0]
      rw [if_pos (by omega), if_pos (by omega), hrd, hs]
      simp only [Option.bind_some]
      rw [if_pos hn]
    · obtain ⟨r, hr, hra, hr0⟩ := ih (i + 1) s (by omega) (by omega) (by omega)
      obtain ⟨K, hK⟩ := evx hr
      refine ⟨r, evi (K + 1) (fun k hk => ?_), by omega, ?_⟩
      · obtain ⟨k, rfl⟩ : ∃ m, k = m + 1 := ⟨k - 1, by omega⟩
        simp only [laws_szEntryS.l0]
        rw [if_pos (by omega), if_pos (by omega), hrd, hs]
        simp only [Option.bind_some]
        rw [if_neg hn, w64 (by omega) (by omega)]
        exact hK k (by omega)
      · rcases hr0 with hr0 | ⟨hr0, hr1⟩
        · exact .inl hr0
        · refine .inr ⟨hr0, fun e he => ?_⟩
          rw [List.drop_eq_getElem_cons hlt] at he
          rcases List.mem_cons.1 he with rfl | he
          · rcases hs0 with hs0 | ⟨_, hs0⟩
            · exact absurd hs0 hn
            · exact hs0
          · exact hr1 e he
theorem laws_szEntryS_ev (l : List S64) (hl : l.length ≤ maxLen) (hb : ∀ e ∈ l, bigEntry e) (a : Int) (h0 : 0 ≤ a) (h1 : a ≤ 1048576) :
    ∃ s, Ev (fun k => laws_szEntryS.f k l a) s ∧ s ≤ a ∧ (s < 0 ∨ 0 ≤ s ∧ l.length ≤ 1048576 ∧ ∀ e ∈ l, smallEntry e) := by
  have hmax : maxLen = 9223372036854775807 := rfl
  by_cases hn : wrap64 (a - (l.length : Int)) < 0
  · refine ⟨-1, evi (0) (fun k hk => ?_), by omega, .inl (by omega)⟩
    unfold laws_szEntryS.f
    rw [if_pos hn]
  · have hle : (l.length : Int) ≤ a := by unfold wrap64 at hn; omega
    rw [w64 (by omega) (by omega)] at hn
    obtain ⟨s, hs, hsa, hs0⟩ := laws_szEntryS_l0 l (by omega) hb l.length 0 (a - (l.length : Int)) rfl (by omega) (by omega)
    obtain ⟨K, hK⟩ := evx hs
    refine ⟨s, evi (K) (fun k hk => ?_), by omega, ?_⟩
    · unfold laws_szEntryS.f
      rw [w64 (x := a - (l.length : Int)) (by omega) (by omega), if_neg hn]
      exact hK k hk
    · rcases hs0 with hs0 | ⟨hs0, hs1⟩
      · exact .inl hs0
      · exact .inr ⟨hs0, by omega, by simpa using hs1⟩

def convEntry (e : S64) : S71 := ⟨e.f0, e.f1, e.f2, e.f3, e.f4⟩
theorem laws_toEntryS_l0 (l : List S64) (hl : l.length ≤ 4611686018427387904) (d : Nat) : ∀ (i : Nat), d + i = l.length → Ev (fun k => laws_toEntryS.l0 k l ((l.map convEntry).take i ++ List.replicate (l.length - i) z71) (i : Int)) (l.map convEntry) := by
  induction d with
  | zero =>
    intro i hi
    refine evi (1) fun k hk => ?_
    obtain ⟨k, rfl⟩ : ∃ m, k = m + 1 := ⟨k - 1, by omega⟩
    simp only [laws_toEntryS.l0]
    rw [if_neg (by omega), List.take_of_length_le (by rw [List.length_map]; omega), show l.length - i = 0 from by omega, List.replicate_zero, List.append_nil]
  | succ d ih =>
    intro i hi
    have hlt : i < l.length := by omega
    have hrd : rd_T64 l (i : Int) = l[i] := by simp [rd_T64, hlt]
    obtain ⟨K, hK⟩ := evx (ih (i + 1) (by omega))
    refine evi (K + 1) fun k hk => ?_
    obtain ⟨k, rfl⟩ : ∃ m, k = m + 1 := ⟨k - 1, by omega⟩
    simp only [laws_toEntryS.l0, laws_toEntry.f, Option.bind_some]
    rw [if_pos (by omega), if_pos (by omega), if_pos (by rw [List.length_append, List.length_take, List.length_replicate, List.length_map]; omega), hrd, Int.toNat_natCast, w64 (by omega) (by omega)]
    have e : (⟨l[i].f0, l[i].f1, l[i].f2, l[i].f3, l[i].f4⟩ : S71) = convEntry l[i] := rfl
    rw [e, fill_step (l.map convEntry) z71 i l.length (convEntry l[i]) (List.length_map ..) hlt (by rw [List.getElem?_map, List.getElem?_eq_getElem hlt]; rfl)]
    exact hK k (by omega)
theorem laws_toEntryS_ev (l : List S64) (hl : l.length ≤ 1048576) : Ev (fun k => laws_toEntryS.f k l) (l.map convEntry) := by
  obtain ⟨K, hK⟩ := evx (laws_toEntryS_l0 l (by omega) l.length 0 rfl)
  refine evi (K) fun k hk => ?_
  unfold laws_toEntryS.f
  rw [if_pos (by omega), if_pos (by omega), Int.toNat_natCast]
  have := hK k hk
  rw [List.take_zero, List.nil_append, Nat.sub_zero] at this
  exact this

theorem laws_eqEntry_self (e : S71) : laws_eqEntry.f e.f0 e.f1 e.f2 e.f3 e.f4 e.f0 e.f1 e.f2 e.f3 e.f4 = some true := by
  unfold laws_eqEntry.f
  simp
theorem laws_eqEntryS_l0 (l : List S71) (hl : l.length ≤ 4611686018427387904) (d : Nat) : ∀ (i : Nat), d + i = l.length → Ev (fun k => laws_eqEntryS.l0 k l l (i : Int)) true := by
  induction d with
  | zero =>
    intro i hi
    refine evi (1) fun k hk => ?_
    obtain ⟨k, rfl⟩ : ∃ m, k = m + 1 := ⟨k - 1, by omega⟩
    simp only [laws_eqEntryS.l0]
    rw [if_neg (by omega)]
  | succ d ih =>
    intro i hi
    obtain ⟨K, hK⟩ := evx (ih (i + 1) (by omega))
    refine evi (K + 1) fun k hk => ?_
    obtain ⟨k, rfl⟩ : ∃ m, k = m + 1 := ⟨k - 1, by omega⟩
    simp only [laws_eqEntryS.l0]
    rw [if_pos (by omega), if_pos (by omega), if_pos (by omega), laws_eqEntry_self]
    simp only [Option.bind_some]
    rw [if_pos trivial, w64 (by omega) (by omega)]
    exact hK k (by omega)
theorem laws_eqEntryS_ev (l : List S71) (hl : l.length ≤ 4611686018427387904) : Ev (fun k => laws_eqEntryS.f k l l) true := by
  obtain ⟨K, hK⟩ := evx (laws_eqEntryS_l0 l hl l.length 0 rfl)
  refine evi (K) fun k hk => ?_
  unfold laws_eqEntryS.f
  rw [if_pos rfl]
  exact hK k hk

theorem laws_markText_l0 (m : Nat) : ∀ (n : Nat) (s : ByteArray), n ≤ m → s.size + n ≤ 4611686018427387904 → ∃ r, Ev (fun k => laws_markText.l0 k (n : Int) s) r := by
  induction m using Nat.strongRecOn with
  | ind m ih =>
  intro n s hn hs
  by_cases h0 : n = 0
  · subst h0
    refine ⟨(⟨#[109]⟩ : ByteArray) ++ s, evi 1 (fun k hk => ?_)⟩
    obtain ⟨k, rfl⟩ : ∃ m, k = m + 1 := ⟨k - 1, by omega⟩
    simp only [laws_markText.l0]
    rw [if_neg (by omega), if_pos (by omega)]
  · obtain ⟨r, hr⟩ := ih (n / 10) (by omega) (n / 10) (strOfNums [(wrap64 (48 + (Int.tmod (n : Int) 10))) % 256] ++ s) (Nat.le_refl _) (by rw [ByteArray.size_append, strOfNums_size]; simp only [List.length_singleton]; omega)
    obtain ⟨K, hK⟩ := evx hr
    refine ⟨r, evi (K + 1) (fun k hk => ?_)⟩
    obtain ⟨k, rfl⟩ : ∃ m, k = m + 1 := ⟨k - 1, by omega⟩
    simp only [laws_markText.l0, Option.bind_some]
    rw [if_pos (by omega), if_pos (by rw [strOfNums_size]; simp only [List.length_singleton]; omega), tdivp (by omega), w64 (x := (n : Int) / 10) (by omega) (by omega), show ((n : Int) / 10) = ((n / 10 : Nat) : Int) from by omega]
    exact hK k (by omega)
theorem laws_markText_ex (a : Int) : ∃ r, a ≤ 4611686018427387904 → Ev (fun k => laws_markText.f k a) r := by
  by_cases h : a ≤ 0
  · exact ⟨_, fun _ => evi 0 (fun k _ => by unfold laws_markText.f; rw [if_pos h])⟩
  · by_cases h2 : a ≤ 4611686018427387904
    · obtain ⟨n, rfl⟩ := Int.eq_ofNat_of_zero_le (show 0 ≤ a by omega)
      obtain ⟨r, hr⟩ := laws_markText_l0 n n (⟨#[]⟩ : ByteArray) (Nat.le_refl _) (by show 0 + n ≤ _; omega)
      obtain ⟨K, hK⟩ := evx hr
      exact ⟨r, fun _ => evi K (fun k hk => by unfold laws_markText.f; rw [if_neg h]; exact hK k hk)⟩
    · exact ⟨(⟨#[]⟩ : ByteArray), fun hh => absurd hh h2⟩
noncomputable def markS (a : Int) : ByteArray := Classical.choose (laws_markText_ex a)
theorem markS_ev (a : Int) (h : a ≤ 4611686018427387904) : Ev (fun k => laws_markText.f k a) (markS a) := Classical.choose_spec (laws_markText_ex a) h
noncomputable def stepEntry (a : Int) : S71 := ⟨markS (a), a + 1, a + 1 + 1, a + 1 + 1 + 1, a + 1 + 1 + 1 + 1⟩
noncomputable def marksEntry (n : Nat) (a : Int) : List S71 := (List.range n).map fun (j : Nat) => stepEntry (a + 5 * (j : Int))
theorem marksEntry_length (n : Nat) (a : Int) : (marksEntry n a).length = n := by simp [marksEntry]
theorem rd_T71_set (x : List S71) (i : Nat) (v : S71) (h : i < x.length) : rd_T71 (x.set i v) (i : Int) = v := by simp [rd_T71, h]
theorem laws_markEntryS_l0 (n : Nat) (hn : n ≤ 2097152) (a0 : Int) (ha0 : 0 ≤ a0) (ha1 : a0 ≤ 1099511627776) (d : Nat) : ∀ (i : Nat) (x : List S71) (a : Int), d + i = n → x.length = n → a = a0 + 5 * (i : Int) → (∀ j, j < i → x[j]? = some (stepEntry (a0 + 5 * (j : Int)))) →
    Ev (fun k => laws_markEntryS.l0 k x a (i : Int)) (a0 + 5 * (n : Int), marksEntry n a0) := by
  induction d with
  | zero =>
    intro i x a hi hx ha hj
    refine evi (1) fun k hk => ?_
    obtain ⟨k, rfl⟩ : ∃ m, k = m + 1 := ⟨k - 1, by omega⟩
    simp only [laws_markEntryS.l0]
    rw [if_neg (by omega)]
    have e : x = marksEntry n a0 := by
      apply List.ext_getElem?
      intro j
      by_cases hjn : j < n
      · rw [hj j (by omega)]
        simp [marksEntry, hjn]
      · rw [List.getElem?_eq_none (by omega), List.getElem?_eq_none (by rw [marksEntry_length]; omega)]
    rw [e, ha, show i = n from by omega]
  | succ d ih =>
    intro i x a hi hx ha hj
    have hlt : i < x.length := by omega
    obtain ⟨M0, hM0⟩ := evx (markS_ev (a) (by omega))
    obtain ⟨K, hK⟩ := evx (ih (i + 1) (x.set i (stepEntry a)) (a + 1 + 1 + 1 + 1 + 1) (by omega) (by rw [List.length_set]; exact hx) (by omega) (by
      intro j hji
      by_cases hij : j = i
      · rw [hij, List.getElem?_set_self hlt, ha]
      · rw [List.getElem?_set_ne (by omega)]
        exact hj j (by omega)))
    refine evi (K + M0 + 1) fun k hk => ?_
    obtain ⟨k, rfl⟩ : ∃ m, k = m + 1 := ⟨k - 1, by omega⟩
    simp only [laws_markEntryS.l0]
    have e0 : (0 : Int) ≤ (i : Int) := by omega
    have e1 : (i : Int) < (x.length : Int) := by omega
    have hset : ∀ v : S71, rd_T71 (x.set i v) (i : Int) = v := fun v => rd_T71_set x i v hlt
    have hK' := hK k (by omega)
    have m0 := hM0 k (by omega)
    have b0 : -9223372036854775808 ≤ (i : Int) + 1 ∧ (i : Int) + 1 ≤ 9223372036854775807 := by omega
    have b1 : -9223372036854775808 ≤ a + 1 ∧ a + 1 ≤ 9223372036854775807 := by omega
    have b2 : -9223372036854775808 ≤ a + 1 + 1 ∧ a + 1 + 1 ≤ 9223372036854775807 := by omega
    have b3 : -9223372036854775808 ≤ a + 1 + 1 + 1 ∧ a + 1 + 1 + 1 ≤ 9223372036854775807 := by omega
    have b4 : -9223372036854775808 ≤ a + 1 + 1 + 1 + 1 ∧ a + 1 + 1 + 1 + 1 ≤ 9223372036854775807 := by omega
    have b5 : -9223372036854775808 ≤ a + 1 + 1 + 1 + 1 + 1 ∧ a + 1 + 1 + 1 + 1 + 1 ≤ 9223372036854775807 := by omega
    have c0 : (i : Int) + 1 = ((i + 1 : Nat) : Int) := by omega
    have e2 : wrap64 ((i : Int) + 1) = ((i + 1 : Nat) : Int) := by rw [w64 b0.1 b0.2, c0]
    have w1 : wrap64 (a + 1) = a + 1 := w64 b1.1 b1.2
    have w2 : wrap64 (a + 1 + 1) = a + 1 + 1 := w64 b2.1 b2.2
    have w3 : wrap64 (a + 1 + 1 + 1) = a + 1 + 1 + 1 := w64 b3.1 b3.2
    have w4 : wrap64 (a + 1 + 1 + 1 + 1) = a + 1 + 1 + 1 + 1 := w64 b4.1 b4.2
    have w5 : wrap64 (a + 1 + 1 + 1 + 1 + 1) = a + 1 + 1 + 1 + 1 + 1 := w64 b5.1 b5.2
    simp only [w1, w2, w3, w4, w5, m0, if_pos e0, if_pos e1, e2, Option.bind_some, Int.toNat_natCast, hset, List.set_set]
    exact hK'
theorem laws_markEntryS_ev (l : List S71) (hn : l.length ≤ 2097152) (a : Int) (ha0 : 0 ≤ a) (ha1 : a ≤ 1099511627776) : Ev (fun k => laws_markEntryS.f k l a) (a + 5 * (l.length : Int), marksEntry l.length a) := by
  have := laws_markEntryS_l0 l.length hn a ha0 ha1 l.length 0 l a rfl rfl (by omega) (fun j hj => by omega)
  exact this

theorem laws_heldEntryS_l0 (n : Nat) (hn : n ≤ 2097152) (a0 : Int) (ha0 : 0 ≤ a0) (ha1 : a0 ≤ 1099511627776) (d : Nat) : ∀ (i : Nat) (a : Int), d + i = n → a = a0 + 5 * (i : Int) → Ev (fun k => laws_heldEntryS.l0 k (marksEntry n a0) a (i : Int)) (a0 + 5 * (n : Int)) := by
  induction d with
  | zero =>
    intro i a hi ha
    refine evi (1) fun k hk => ?_
    obtain ⟨k, rfl⟩ : ∃ m, k = m + 1 := ⟨k - 1, by omega⟩
    simp only [laws_heldEntryS.l0]
    rw [if_neg (by rw [marksEntry_length]; omega), ha, show i = n from by omega]
  | succ d ih =>
    intro i a hi ha
    obtain ⟨M0, hM0⟩ := evx (markS_ev (a) (by omega))
    obtain ⟨K, hK⟩ := evx (ih (i + 1) (a + 1 + 1 + 1 + 1 + 1) (by omega) (by omega))
    refine evi (K + M0 + 1) fun k hk => ?_
    obtain ⟨k, rfl⟩ : ∃ m, k = m + 1 := ⟨k - 1, by omega⟩
    simp only [laws_heldEntryS.l0]
    have e0 : (0 : Int) ≤ (i : Int) := by omega
    have e1 : (i : Int) < ((marksEntry n a0).length : Int) := by rw [marksEntry_length]; omega
    have hr : rd_T71 (marksEntry n a0) (i : Int) = stepEntry a := by
      have hin : i < n := by omega
      simp [rd_T71, marksEntry, hin, ha]
    have hK' := hK k (by omega)
    have m0 := hM0 k (by omega)
    have b0 : -9223372036854775808 ≤ (i : Int) + 1 ∧ (i : Int) + 1 ≤ 9223372036854775807 := by omega
    have b1 : -9223372036854775808 ≤ a + 1 ∧ a + 1 ≤ 9223372036854775807 := by omega
    have b2 : -9223372036854775808 ≤ a + 1 + 1 ∧ a + 1 + 1 ≤ 9223372036854775807 := by omega
    have b3 : -9223372036854775808 ≤ a + 1 + 1 + 1 ∧ a + 1 + 1 + 1 ≤ 9223372036854775807 := by omega
    have b4 : -9223372036854775808 ≤ a + 1 + 1 + 1 + 1 ∧ a + 1 + 1 + 1 + 1 ≤ 9223372036854775807 := by omega
    have b5 : -9223372036854775808 ≤ a + 1 + 1 + 1 + 1 + 1 ∧ a + 1 + 1 + 1 + 1 + 1 ≤ 9223372036854775807 := by omega
    have c0 : (i : Int) + 1 = ((i + 1 : Nat) : Int) := by omega
    have e2 : wrap64 ((i : Int) + 1) = ((i + 1 : Nat) : Int) := by rw [w64 b0.1 b0.2, c0]
    have w1 : wrap64 (a + 1) = a + 1 := w64 b1.1 b1.2
    have w2 : wrap64 (a + 1 + 1) = a + 1 + 1 := w64 b2.1 b2.2
    have w3 : wrap64 (a + 1 + 1 + 1) = a + 1 + 1 + 1 := w64 b3.1 b3.2
    have w4 : wrap64 (a + 1 + 1 + 1 + 1) = a + 1 + 1 + 1 + 1 := w64 b4.1 b4.2
    have w5 : wrap64 (a + 1 + 1 + 1 + 1 + 1) = a + 1 + 1 + 1 + 1 + 1 := w64 b5.1 b5.2
    simp only [w1, w2, w3, w4, w5, m0, if_pos e0, if_pos e1, e2, Option.bind_some, hr, stepEntry, if_true]
    exact hK'
theorem laws_heldEntryS_ev (n : Nat) (hn : n ≤ 2097152) (a : Int) (ha0 : 0 ≤ a) (ha1 : a ≤ 1099511627776) : Ev (fun k => laws_heldEntryS.f k (marksEntry n a) a) (a + 5 * (n : Int)) := by
  have := laws_heldEntryS_l0 n hn a ha0 ha1 n 0 a rfl (by omega)
  exact this

noncomputable def stepPlace (a : Int) : S48 := ⟨a, a + 1, a + 1 + 1, (⟨a + 1 + 1 + 1, a + 1 + 1 + 1 + 1, markS (a + 1 + 1 + 1 + 1 + 1), markS (a + 1 + 1 + 1 + 1 + 1 + 1), a + 1 + 1 + 1 + 1 + 1 + 1 + 1, a + 1 + 1 + 1 + 1 + 1 + 1 + 1 + 1⟩ : S46)⟩
noncomputable def marksPlace (n : Nat) (a : Int) : List S48 := (List.range n).map fun (j : Nat) => stepPlace (a + 9 * (j : Int))
theorem marksPlace_length (n : Nat) (a : Int) : (marksPlace n a).length = n := by simp [marksPlace]
theorem rd_T48_set (x : List S48) (i : Nat) (v : S48) (h : i < x.length) : rd_T48 (x.set i v) (i : Int) = v := by simp [rd_T48, h]
theorem laws_markPlaceS_l0 (n : Nat) (hn : n ≤ 2097152) (a0 : Int) (ha0 : 0 ≤ a0) (ha1 : a0 ≤ 1099511627776) (d : Nat) : ∀ (i : Nat) (x : List S48) (a : Int), d + i = n → x.length = n → a = a0 + 9 * (i : Int) → (∀ j, j < i → x[j]? = some (stepPlace (a0 + 9 * (j : Int)))) →
    Ev (fun k => laws_markPlaceS.l0 k x a (i : Int)) (a0 + 9 * (n : Int), marksPlace n a0) := by
  induction d with
  | zero =>
    intro i x a hi hx ha hj
    refine evi (1) fun k hk => ?_
    obtain ⟨k, rfl⟩ : ∃ m, k = m + 1 := ⟨k - 1, by omega⟩
    simp only [laws_markPlaceS.l0]
    rw [if_neg (by omega)]
    have e : x = marksPlace n a0 := by
      apply List.ext_getElem?
      intro j
      by_cases hjn : j < n
      · rw [hj j (by omega)]
        simp [marksPlace, hjn]
      · rw [List.getElem?_eq_none (by omega), List.getElem?_eq_none (by rw [marksPlace_length]; omega)]
    rw [e, ha, show i = n from by omega]
  | succ d ih =>
    intro i x a hi hx ha hj
    have hlt : i < x.length := by omega
    obtain ⟨M5, hM5⟩ := evx (markS_ev (a + 1 + 1 + 1 + 1 + 1) (by omega))
    obtain ⟨M6, hM6⟩ := evx (markS_ev (a + 1 + 1 + 1 + 1 + 1 + 1) (by omega))
    obtain ⟨K, hK⟩ := evx (ih (i + 1) (x.set i (stepPlace a)) (a + 1 + 1 + 1 + 1 + 1 + 1 + 1 + 1 + 1) (by omega) (by rw [List.length_set]; exact hx) (by omega) (by
      intro j hji
      by_cases hij : j = i
      · rw [hij, List.getElem?_set_self hlt, ha]
      · rw [List.getElem?_set_ne (by omega)]
        exact hj j (by omega)))
    refine evi (K + M5 + M6 + 1) fun k hk => ?_
    obtain ⟨k, rfl⟩ : ∃ m, k = m + 1 := ⟨k - 1, by omega⟩
    simp only [laws_markPlaceS.l0]
    have e0 : (0 : Int) ≤ (i : Int) := by omega
    have e1 : (i : Int) < (x.length : Int) := by omega
    have hset : ∀ v : S48, rd_T48 (x.set i v) (i : Int) = v := fun v => rd_T48_set x i v hlt
    have hK' := hK k (by omega)
    have m5 := hM5 k (by omega)
    have m6 := hM6 k (by omega)
    have b0 : -9223372036854775808 ≤ (i : Int) + 1 ∧ (i : Int) + 1 ≤ 9223372036854775807 := by omega
    have b1 : -9223372036854775808 ≤ a + 1 ∧ a + 1 ≤ 9223372036854775807 := by omega
    have b2 : -9223372036854775808 ≤ a + 1 + 1 ∧ a + 1 + 1 ≤ 9223372036854775807 := by omega
    have b3 : -9223372036854775808 ≤ a + 1 + 1 + 1 ∧ a + 1 + 1 + 1 ≤ 9223372036854775807 := by omega
    have b4 : -9223372036854775808 ≤ a + 1 + 1 + 1 + 1 ∧ a + 1 + 1 + 1 + 1 ≤ 9223372036854775807 := by omega
    have b5 : -9223372036854775808 ≤ a + 1 + 1 + 1 + 1 + 1 ∧ a + 1 + 1 + 1 + 1 + 1 ≤ 9223372036854775807 := by omega
    have b6 : -9223372036854775808 ≤ a + 1 + 1 + 1 + 1 + 1 + 1 ∧ a + 1 + 1 + 1 + 1 + 1 + 1 ≤ 9223372036854775807 := by omega
    have b7 : -9223372036854775808 ≤ a + 1 + 1 + 1 + 1 + 1 + 1 + 1 ∧ a + 1 + 1 + 1 + 1 + 1 + 1 + 1 ≤ 9223372036854775807 := by omega
    have b8 : -9223372036854775808 ≤ a + 1 + 1 + 1 + 1 + 1 + 1 + 1 + 1 ∧ a + 1 + 1 + 1 + 1 + 1 + 1 + 1 + 1 ≤ 9223372036854775807 := by omega
    have b9 : -9223372036854775808 ≤ a + 1 + 1 + 1 + 1 + 1 + 1 + 1 + 1 + 1 ∧ a + 1 + 1 + 1 + 1 + 1 + 1 + 1 + 1 + 1 ≤ 9223372036854775807 := by omega
    have c0 : (i : Int) + 1 = ((i + 1 : Nat) : Int) := by omega
    have e2 : wrap64 ((i : Int) + 1) = ((i + 1 : Nat) : Int) := by rw [w64 b0.1 b0.2, c0]
    have w1 : wrap64 (a + 1) = a + 1 := w64 b1.1 b1.2
    have w2 : wrap64 (a + 1 + 1) = a + 1 + 1 := w64 b2.1 b2.2
    have w3 : wrap64 (a + 1 + 1 + 1) = a + 1 + 1 + 1 := w64 b3.1 b3.2
    have w4 : wrap64 (a + 1 + 1 + 1 + 1) = a + 1 + 1 + 1 + 1 := w64 b4.1 b4.2
    have w5 : wrap64 (a + 1 + 1 + 1 + 1 + 1) = a + 1 + 1 + 1 + 1 + 1 := w64 b5.1 b5.2
    have w6 : wrap64 (a + 1 + 1 + 1 + 1 + 1 + 1) = a + 1 + 1 + 1 + 1 + 1 + 1 := w64 b6.1 b6.2
    have w7 : wrap64 (a + 1 + 1 + 1 + 1 + 1 + 1 + 1) = a + 1 + 1 + 1 + 1 + 1 + 1 + 1 := w64 b7.1 b7.2
    have w8 : wrap64 (a + 1 + 1 + 1 + 1 + 1 + 1 + 1 + 1) = a + 1 + 1 + 1 + 1 + 1 + 1 + 1 + 1 := w64 b8.1 b8.2
    have w9 : wrap64 (a + 1 + 1 + 1 + 1 + 1 + 1 + 1 + 1 + 1) = a + 1 + 1 + 1 + 1 + 1 + 1 + 1 + 1 + 1 := w64 b9.1 b9.2
    simp only [w1, w2, w3, w4, w5, w6, w7, w8, w9, m5, m6, if_pos e0, if_pos e1, e2, Option.bind_some, Int.toNat_natCast, hset, List.set_set]
    exact hK'
theorem laws_markPlaceS_ev (l : List S48) (hn : l.length ≤ 2097152) (a : Int) (ha0 : 0 ≤ a) (ha1 : a ≤ 1099511627776) : Ev (fun k => laws_markPlaceS.f k l a) (a + 9 * (l.length : Int), marksPlace l.length a) := by
  have := laws_markPlaceS_l0 l.length hn a ha0 ha1 l.length 0 l a rfl rfl (by omega) (fun j hj => by omega)
  exact this

theorem rdP (l : List S48) (i : Nat) : rd_T48 l (i : Int) = l.getD i z48 := by simp only [rd_T48, Int.toNat_natCast]
theorem getD_lt {α : Type} {l : List α} {i : Nat} (z : α) (h : i < l.length) : l.getD i z = l[i] := by simp [h]
def fitsB (count sum : Int) (own : List S48) : Bool := decide (count = (own.length : Int)) && (sum == (crcS (sumT (own.map fun p => p.f3)) : Int))
theorem impl_fits_l0 (own : List S48) (hl : own.length ≤ 1048576) (kind b : Int) (key value : ByteArray) (count sum : Int) (d : Nat) : ∀ (i : Nat), d + i = own.length →
    Ev (fun k => impl_fits.l0 k ((own.take i).map fun p => p.f3) own (own.length : Int) (i : Int) kind b key value count sum) (fitsB count sum own) := by
  induction d with
  | zero =>
    intro i hi
    obtain ⟨K1, h1⟩ := evx (impl_SumOf_ev (own.map fun p => p.f3) (by rw [List.length_map]; omega))
    refine evi (K1 + 1) fun k hk => ?_
    obtain ⟨k, rfl⟩ : ∃ m, k = m + 1 := ⟨k - 1, by omega⟩
    simp only [impl_fits.l0]
    rw [if_neg (by omega), List.take_of_length_le (by omega), h1 k (by omega), List.length_map]
    unfold fitsB
    by_cases hc : count = (own.length : Int)
    · rw [if_pos hc, decide_eq_true hc]; simp
    · rw [if_neg hc, decide_eq_false hc]; simp
  | succ d ih =>
    intro i hi
    have hlt : i < own.length := by omega
    obtain ⟨K, hK⟩ := evx (ih (i + 1) (by omega))
    refine evi (K + 1) fun k hk => ?_
    obtain ⟨k, rfl⟩ : ∃ m, k = m + 1 := ⟨k - 1, by omega⟩
    have hgo := hK k (by omega)
    simp only [impl_fits.l0]
    rw [if_pos (by omega), if_pos (by omega), if_pos (by omega), if_pos (by rw [List.length_map, List.length_take]; omega), rdP, getD_lt _ hlt, w64 (by omega) (by omega), show ((i : Int) + 1) = ((i + 1 : Nat) : Int) from by omega]
    rw [List.take_succ_eq_append_getElem hlt, List.map_append] at hgo
    exact hgo
theorem impl_fits_ev (own : List S48) (hl : own.length ≤ 1048576) (kind b : Int) (key value : ByteArray) (count sum : Int) : Ev (fun k => impl_fits.f k kind b key value count sum own) (fitsB count sum own) :=
  impl_fits_l0 own hl kind b key value count sum own.length 0 rfl
theorem spec_l9Recs_l0 (own : List S48) (hl : own.length ≤ 1048576) (d : Nat) : ∀ (i : Nat), d + i = own.length → Ev (fun k => spec_l9Recs.l0 k own ((own.take i).map fun p => p.f3) (i : Int)) (own.map fun p => p.f3) := by
  induction d with
  | zero =>
    intro i hi
    refine evi (1) fun k hk => ?_
    obtain ⟨k, rfl⟩ : ∃ m, k = m + 1 := ⟨k - 1, by omega⟩
    simp only [spec_l9Recs.l0]
    rw [if_neg (by omega), List.take_of_length_le (by omega)]
  | succ d ih =>
    intro i hi
    have hlt : i < own.length := by omega
    obtain ⟨K, hK⟩ := evx (ih (i + 1) (by omega))
    refine evi (K + 1) fun k hk => ?_
    obtain ⟨k, rfl⟩ : ∃ m, k = m + 1 := ⟨k - 1, by omega⟩
    have hgo := hK k (by omega)
    simp only [spec_l9Recs.l0]
    rw [if_pos (by omega), if_pos (by omega), if_pos (by rw [List.length_map, List.length_take]; omega), rdP, getD_lt _ hlt, w64 (by omega) (by omega), show ((i : Int) + 1) = ((i + 1 : Nat) : Int) from by omega]
    rw [List.take_succ_eq_append_getElem hlt, List.map_append] at hgo
    exact hgo
theorem spec_l9Fits_ev (own : List S48) (hl : own.length ≤ 1048576) (kind b : Int) (key value : ByteArray) (count sum : Int) : Ev (fun k => spec_l9Fits.f k kind b key value count sum own) (fitsB count sum own) := by
  obtain ⟨K1, h1⟩ := evx (spec_l9Recs_l0 own hl own.length 0 rfl)
  obtain ⟨K2, h2⟩ := evx (spec_SumOf_ev (own.map fun p => p.f3) (by rw [List.length_map]; omega))
  refine evi (K1 + K2) fun k hk => ?_
  have f1 : spec_l9Recs.f k own = some (own.map fun p => p.f3) := h1 k (by omega)
  unfold spec_l9Fits.f fitsB
  rw [f1]
  simp only [Option.bind_some]
  rw [h2 k (by omega)]
  simp only [Option.bind_some]
  by_cases hc : count = (own.length : Int)
  · rw [if_pos hc, decide_eq_true hc]; simp
  · rw [if_neg hc, decide_eq_false hc]; simp
def dirDrop (key : ByteArray) (l : List S71) : List S71 := l.filter fun e => !(e.f0.toList == key.toList)
theorem impl_DirDrop_l0 (l : List S71) (key : ByteArray) (hl : l.length ≤ 1099511627776) (d : Nat) : ∀ (i : Nat) (acc : List S71), d + i = l.length → acc.length + d ≤ 1099511627776 → Ev (fun k => impl_DirDrop.l0 k key acc l (l.length : Int) (i : Int)) (acc ++ dirDrop key (l.drop i)) := by
  induction d with
  | zero =>
    intro i acc hi ha
    refine evi (1) fun k hk => ?_
    obtain ⟨k, rfl⟩ : ∃ m, k = m + 1 := ⟨k - 1, by omega⟩
    simp only [impl_DirDrop.l0]
    rw [if_neg (by omega), List.drop_of_length_le (by omega)]
    simp [dirDrop]
  | succ d ih =>
    intro i acc hi ha
    have hlt : i < l.length := by omega
    have h1 : rd_T71 l (i : Int) = l[i] := by simp [rd_T71, hlt]
    by_cases h : l[i].f0.toList = key.toList
    · obtain ⟨K, hK⟩ := evx (ih (i + 1) acc (by omega) (by omega))
      refine evi (K + 1) fun k hk => ?_
      obtain ⟨k, rfl⟩ : ∃ m, k = m + 1 := ⟨k - 1, by omega⟩
      simp only [impl_DirDrop.l0]
      rw [if_pos (by omega), if_pos (by omega), if_pos (by omega), h1, if_pos h, w64 (by omega) (by omega), List.drop_eq_getElem_cons hlt, dirDrop, List.filter_cons, if_neg (by simp [h])]
      exact hK k (by omega)
    · obtain ⟨K, hK⟩ := evx (ih (i + 1) (acc ++ [l[i]]) (by omega) (by rw [List.length_append, List.length_singleton]; omega))
      refine evi (K + 1) fun k hk => ?_
      obtain ⟨k, rfl⟩ : ∃ m, k = m + 1 := ⟨k - 1, by omega⟩
      simp only [impl_DirDrop.l0]
      rw [if_pos (by omega), if_pos (by omega), if_pos (by omega), h1, if_neg h, if_pos (by omega), w64 (by omega) (by omega), List.drop_eq_getElem_cons hlt, dirDrop, List.filter_cons, if_pos (by simp [h])]
      have := hK k (by omega)
      rw [List.append_assoc, List.singleton_append] at this
      exact this
theorem impl_DirDrop_ev (l : List S71) (key : ByteArray) (hl : l.length ≤ 1099511627776) : Ev (fun k => impl_DirDrop.f k l key) (dirDrop key l) := by
  have := impl_DirDrop_l0 l key hl l.length 0 [] rfl (by simp only [List.length_nil]; omega)
  exact this
theorem dirDrop_length (key : ByteArray) (l : List S71) : (dirDrop key l).length ≤ l.length := List.length_filter_le _ _

theorem spec_DirDrop_l0 (l : List S71) (key : ByteArray) (hl : l.length ≤ 1099511627776) (d : Nat) : ∀ (i : Nat) (acc : List S71), d + i = l.length → acc.length + d ≤ 1099511627776 → Ev (fun k => spec_DirDrop.l0 k l key acc (i : Int)) (acc ++ dirDrop key (l.drop i)) := by
  induction d with
  | zero =>
    intro i acc hi ha
    refine evi (1) fun k hk => ?_
    obtain ⟨k, rfl⟩ : ∃ m, k = m + 1 := ⟨k - 1, by omega⟩
    simp only [spec_DirDrop.l0]
    rw [if_neg (by omega), List.drop_of_length_le (by omega)]
    simp [dirDrop]
  | succ d ih =>
    intro i acc hi ha
    have hlt : i < l.length := by omega
    have h1 : rd_T71 l (i : Int) = l[i] := by simp [rd_T71, hlt]
    by_cases h : l[i].f0.toList = key.toList
    · obtain ⟨K, hK⟩ := evx (ih (i + 1) acc (by omega) (by omega))
      refine evi (K + 1) fun k hk => ?_
      obtain ⟨k, rfl⟩ : ∃ m, k = m + 1 := ⟨k - 1, by omega⟩
      simp only [spec_DirDrop.l0]
      rw [if_pos (by omega), if_pos (by omega), h1, if_pos h, w64 (by omega) (by omega), List.drop_eq_getElem_cons hlt, dirDrop, List.filter_cons, if_neg (by simp [h])]
      exact hK k (by omega)
    · obtain ⟨K, hK⟩ := evx (ih (i + 1) (acc ++ [l[i]]) (by omega) (by rw [List.length_append, List.length_singleton]; omega))
      refine evi (K + 1) fun k hk => ?_
      obtain ⟨k, rfl⟩ : ∃ m, k = m + 1 := ⟨k - 1, by omega⟩
      simp only [spec_DirDrop.l0]
      rw [if_pos (by omega), if_pos (by omega), h1, if_neg h, if_pos (by omega), w64 (by omega) (by omega), List.drop_eq_getElem_cons hlt, dirDrop, List.filter_cons, if_pos (by simp [h])]
      have := hK k (by omega)
      rw [List.append_assoc, List.singleton_append] at this
      exact this
theorem spec_DirDrop_ev (l : List S71) (key : ByteArray) (hl : l.length ≤ 1099511627776) : Ev (fun k => spec_DirDrop.f k l key) (dirDrop key l) := by
  have := spec_DirDrop_l0 l key hl l.length 0 [] rfl (by simp only [List.length_nil]; omega)
  exact this

def insL (e : S71) : List S71 → List S71
 | [] => [e]
 | x :: t => if Op.bytesLess e.f0.toList x.f0.toList = true then e :: x :: t else x :: insL e t
theorem insL_length (e : S71) (l : List S71) : (insL e l).length = l.length + 1 := by
  induction l with
  | nil => rfl
  | cons x t ih =>
    unfold insL
    split
    · rfl
    · rw [List.length_cons, ih, List.length_cons]
def dirPut (e : S71) (l : List S71) : List S71 := insL e (dirDrop e.f0 l)
theorem dirPut_length (e : S71) (l : List S71) : (dirPut e l).length ≤ l.length + 1 := by
  unfold dirPut
  rw [insL_length]
  have := dirDrop_length e.f0 l
  omega

theorem impl_DirPut_l0 (l : List S71) (e : S71) (hl : l.length ≤ 1099511627776) (d : Nat) : ∀ (i : Nat), d + i = l.length → Ev (fun k => impl_DirPut.l0 k l (i : Int) e.f0 e.f1 e.f2 e.f3 e.f4) (l.take i ++ insL e (l.drop i)) := by
  induction d with
  | zero =>
    intro i hi
    refine evi (1) fun k hk => ?_
    obtain ⟨k, rfl⟩ : ∃ m, k = m + 1 := ⟨k - 1, by omega⟩
    simp only [impl_DirPut.l0, impl_copyDir.f, Int.toNat_natCast]
    have c1 : ([] : List S71).length + (l.take i).length < 2932031007402 := by rw [List.length_take, List.length_nil]; omega
    have c2 : (([] : List S71) ++ l.take i).length + [e].length < 2932031007402 := by rw [List.nil_append, List.length_take, List.length_singleton]; omega
    have c3 : ((([] : List S71) ++ l.take i) ++ [e]).length + (l.drop i).length < 2932031007402 := by rw [List.nil_append, List.length_append, List.length_take, List.length_singleton, List.length_drop]; omega
    rw [if_neg (by omega), if_pos (by omega), if_pos (by omega), if_pos c1]
    simp only [Option.bind_some]
    refine (if_pos c2).trans ?_
    refine (if_pos c3).trans ?_
    rw [List.drop_of_length_le (by omega)]
    simp [insL]
  | succ d ih =>
    intro i hi
    have hlt : i < l.length := by omega
    have h1 : rd_T71 l (i : Int) = l[i] := by simp [rd_T71, hlt]
    obtain ⟨K, hK⟩ := evx (ih (i + 1) (by omega))
    refine evi (K + 1) fun k hk => ?_
    obtain ⟨k, rfl⟩ : ∃ m, k = m + 1 := ⟨k - 1, by omega⟩
    have hgo := hK k (by omega)
    have hw : wrap64 ((i : Int) + 1) = ((i + 1 : Nat) : Int) := w64 (by omega) (by omega)
    have c1 : ([] : List S71).length + (l.take i).length < 2932031007402 := by rw [List.length_take, List.length_nil]; clear hw; omega
    have c2 : (([] : List S71) ++ l.take i).length + [e].length < 2932031007402 := by rw [List.nil_append, List.length_take, List.length_singleton]; clear hw; omega
    have c3 : ((([] : List S71) ++ l.take i) ++ [e]).length + (l.drop i).length < 2932031007402 := by rw [List.nil_append, List.length_append, List.length_take, List.length_singleton, List.length_drop]; clear hw; omega
    have d1 : (i : Int) < (l.length : Int) := by clear hw; omega
    have d2 : (0 : Int) ≤ (i : Int) := by clear hw; omega
    have d3 : (i : Int) ≤ (l.length : Int) := by clear hw; omega
    clear hK ih
    simp only [impl_DirPut.l0, impl_copyDir.f, Int.toNat_natCast]
    rw [if_pos d1, if_pos d2, h1]
    by_cases hb : Op.bytesLess e.f0.toList l[i].f0.toList = true
    · rw [if_pos hb, if_pos d3, if_pos c1]
      simp only [Option.bind_some]
      refine (if_pos c2).trans ?_
      refine (if_pos c3).trans ?_
      rw [List.drop_eq_getElem_cons hlt, insL, if_pos hb]
      simp
    · rw [if_neg hb, hw, List.drop_eq_getElem_cons hlt, insL, if_neg hb]
      rw [List.take_succ_eq_append_getElem hlt, List.append_assoc, List.singleton_append] at hgo
      exact hgo
theorem spec_DirPut_l0 (l : List S71) (e : S71) (hl : l.length ≤ 1099511627776) (d : Nat) : ∀ (i : Nat) (acc : List S71) (dn : Bool), d + i = l.length → acc.length + 2 * d ≤ 2932031007000 → Ev (fun k => spec_DirPut.l0 k l acc dn (i : Int) e.f0 e.f1 e.f2 e.f3 e.f4) (acc ++ (if dn = true then dirDrop e.f0 (l.drop i) else insL e (dirDrop e.f0 (l.drop i)))) := by
  induction d with
  | zero =>
    intro i acc dn hi ha
    refine evi (1) fun k hk => ?_
    obtain ⟨k, rfl⟩ : ∃ m, k = m + 1 := ⟨k - 1, by omega⟩
    simp only [spec_DirPut.l0]
    rw [if_neg (by omega), List.drop_of_length_le (by omega)]
    cases dn with
    | true => rw [if_pos rfl, if_pos rfl]; simp [dirDrop]
    | false => rw [if_neg (by decide), if_pos (by omega), if_neg (by decide)]; rfl
  | succ d ih =>
    intro i acc dn hi ha
    have hlt : i < l.length := by omega
    have h1 : rd_T71 l (i : Int) = l[i] := by simp [rd_T71, hlt]
    by_cases h : l[i].f0.toList = e.f0.toList
    · obtain ⟨K, hK⟩ := evx (ih (i + 1) acc dn (by omega) (by omega))
      refine evi (K + 1) fun k hk => ?_
      obtain ⟨k, rfl⟩ : ∃ m, k = m + 1 := ⟨k - 1, by omega⟩
      have hgo := hK k (by omega)
      simp only [spec_DirPut.l0]
      have hd : dirDrop e.f0 (l.drop i) = dirDrop e.f0 (l.drop (i + 1)) := by rw [List.drop_eq_getElem_cons hlt, dirDrop, List.filter_cons, if_neg (by simp [h])]; rfl
      rw [if_pos (by omega), if_pos (by omega), h1, if_pos h, w64 (by omega) (by omega), hd]
      exact hgo
    · have hd : dirDrop e.f0 (l.drop i) = l[i] :: dirDrop e.f0 (l.drop (i + 1)) := by rw [List.drop_eq_getElem_cons hlt, dirDrop, List.filter_cons, if_pos (by simp [h])]; rfl
      have hw : wrap64 ((i : Int) + 1) = ((i + 1 : Nat) : Int) := w64 (by omega) (by omega)
      cases dn with
      | true =>
        obtain ⟨K, hK⟩ := evx (ih (i + 1) (acc ++ [l[i]]) true (by omega) (by rw [List.length_append, List.length_singleton]; omega))
        refine evi (K + 1) fun k hk => ?_
        obtain ⟨k, rfl⟩ : ∃ m, k = m + 1 := ⟨k - 1, by omega⟩
        have hgo := hK k (by omega)
        clear hK ih
        have c1 : (i : Int) < (l.length : Int) := by clear hw; omega
        have c2 : (0 : Int) ≤ (i : Int) := by clear hw; omega
        have c3 : acc.length < 2932031007402 := by clear hw; omega
        simp only [spec_DirPut.l0]
        rw [if_pos c1, if_pos c2, h1, if_neg h, if_pos trivial, if_pos c3, hw, hd, if_pos trivial]
        rw [if_pos rfl, List.append_assoc, List.singleton_append] at hgo
        exact hgo
      | false =>
        by_cases hb : Op.bytesLess e.f0.toList l[i].f0.toList = true
        · obtain ⟨K, hK⟩ := evx (ih (i + 1) ((acc ++ [e]) ++ [l[i]]) true (by omega) (by rw [List.length_append, List.length_append, List.length_singleton, List.length_singleton]; omega))
          refine evi (K + 1) fun k hk => ?_
          obtain ⟨k, rfl⟩ : ∃ m, k = m + 1 := ⟨k - 1, by omega⟩
          have hgo := hK k (by omega)
          clear hK ih
          have c1 : (i : Int) < (l.length : Int) := by clear hw; omega
          have c2 : (0 : Int) ≤ (i : Int) := by clear hw; omega
          have c3 : acc.length < 2932031007402 := by clear hw; omega
          have c4 : (acc ++ [e]).length < 2932031007402 := by rw [List.length_append, List.length_singleton]; clear hw; omega
          simp only [spec_DirPut.l0]
          rw [if_pos c1, if_pos c2, h1, if_neg h, if_neg (by decide), if_pos hb, if_pos c3]
          simp only [Option.bind_some]
          rw [if_pos c4, hw, hd, if_neg (by decide), insL, if_pos hb]
          rw [if_pos rfl] at hgo
          exact hgo.trans (by simp)
        · obtain ⟨K, hK⟩ := evx (ih (i + 1) (acc ++ [l[i]]) false (by omega) (by rw [List.length_append, List.length_singleton]; omega))
          refine evi (K + 1) fun k hk => ?_
          obtain ⟨k, rfl⟩ : ∃ m, k = m + 1 := ⟨k - 1, by omega⟩
          have hgo := hK k (by omega)
          clear hK ih
          have c1 : (i : Int) < (l.length : Int) := by clear hw; omega
          have c2 : (0 : Int) ≤ (i : Int) := by clear hw; omega
          have c3 : acc.length < 2932031007402 := by clear hw; omega
          simp only [spec_DirPut.l0]
          rw [if_pos c1, if_pos c2, h1, if_neg h, if_neg (by decide), if_neg hb, if_pos c3, hw, hd, if_neg (by decide), insL, if_neg hb]
          rw [if_neg (by decide), List.append_assoc, List.singleton_append] at hgo
          exact hgo
theorem spec_DirPut_ev (l : List S71) (e : S71) (hl : l.length ≤ 1099511627776) : Ev (fun k => spec_DirPut.f k l e.f0 e.f1 e.f2 e.f3 e.f4) (dirPut e l) := by
  have := spec_DirPut_l0 l e hl l.length 0 [] false rfl (by simp only [List.length_nil]; omega)
  exact this

def ownG (kind b : Int) (acc : List S48) (p : S48) : List S48 := if kind = 3 ∧ ¬ p.f3.f1 = b then acc else if p.f3.f0 = kind then [] else if kind = 3 ∧ (p.f3.f0 = 1 ∨ p.f3.f0 = 2) ∨ kind = 5 ∧ p.f3.f0 = 4 then acc ++ [p] else acc
theorem ownG_len (kind b : Int) (acc : List S48) (p : S48) : (ownG kind b acc p).length ≤ acc.length + 1 := by
  unfold ownG
  repeat' split
  all_goals simp
theorem ownG_fold_len (kind b : Int) (l : List S48) : ∀ acc : List S48, (l.foldl (ownG kind b) acc).length ≤ acc.length + l.length := by
  induction l with
  | nil => intro acc; simp
  | cons p l ih =>
    intro acc
    have h1 := ih (ownG kind b acc p)
    have h2 := ownG_len kind b acc p
    rw [List.foldl_cons, List.length_cons]
    omega
theorem impl_ownOfG_l0 (l : List S48) (hl : l.length ≤ 1048576) (kind b : Int) (key value : ByteArray) (count sum : Int) (d : Nat) : ∀ (i : Nat) (acc : List S48), d + i = l.length → acc.length + d ≤ 4000000 →
    Ev (fun k => impl_ownOf.l0 k acc l (l.length : Int) (i : Int) kind b key value count sum) ((l.drop i).foldl (ownG kind b) acc) := by
  induction d with
  | zero =>
    intro i acc hi ha
    refine evi 1 (fun k hk => ?_)
    obtain ⟨k, rfl⟩ : ∃ m, k = m + 1 := ⟨k - 1, by omega⟩
    simp only [impl_ownOf.l0]
    rw [if_neg (by omega), List.drop_of_length_le (by omega)]
    rfl
  | succ d ih =>
    intro i acc hi ha
    have hlt : i < l.length := by omega
    have hs := ownG_len kind b acc l[i]
    obtain ⟨K, hK⟩ := evx (ih (i + 1) (ownG kind b acc l[i]) (by omega) (by omega))
    refine evi (K + 4) (fun k hk => ?_)
    obtain ⟨k, rfl⟩ : ∃ m, k = m + 4 := ⟨k - 4, by omega⟩
    have g0 := hK k (by omega)
    have g1 := hK (k + 1) (by omega)
    have g2 := hK (k + 2) (by omega)
    have e : (l.drop i).foldl (ownG kind b) acc = (l.drop (i + 1)).foldl (ownG kind b) (ownG kind b acc l[i]) := by rw [List.drop_eq_getElem_cons hlt]; rfl
    rw [e]
    have hw : wrap64 ((i : Int) + 1) = ((i + 1 : Nat) : Int) := by rw [w64 (by omega) (by omega)]; omega
    have hr : rd_T48 l (i : Int) = l[i] := by rw [rdP, getD_lt _ hlt]
    simp only [impl_ownOf.l0]
    rw [if_pos (by omega), if_pos (by omega), if_pos (by omega), hr]
    by_cases hk : kind = 3
    · rw [if_pos hk]
      by_cases hb : l[i].f3.f1 = b
      · have hj : impl_ownOf.j1 (k + 3) acc l (l.length : Int) (i : Int) (l[i].f3.f1 != b) kind b key value count sum l[i].f0 l[i].f1 l[i].f2 l[i].f3.f0 l[i].f3.f1 l[i].f3.f2 l[i].f3.f3 l[i].f3.f4 l[i].f3.f5 l[i].f3.f0 l[i].f3.f1 l[i].f3.f2 l[i].f3.f3 l[i].f3.f4 l[i].f3.f5 = some ((l.drop (i + 1)).foldl (ownG kind b) (ownG kind b acc l[i])) := by
          simp only [impl_ownOf.j1]
          rw [if_neg (by simp [hb]), hw]
          by_cases h3 : l[i].f3.f0 = kind
          · have est : ownG kind b acc l[i] = [] := by unfold ownG; rw [if_neg (fun h => h.2 hb), if_pos h3]
            rw [est] at g2 ⊢
            rw [if_pos h3]
            exact g2
          · rw [if_neg h3, if_pos hk]
            by_cases h1 : l[i].f3.f0 = 1
            · have est : ownG kind b acc l[i] = acc ++ [l[i]] := by unfold ownG; rw [if_neg (fun h => h.2 hb), if_neg h3, if_pos (Or.inl ⟨hk, Or.inl h1⟩)]
              rw [est] at g0 ⊢
              rw [if_pos h1]
              simp only [impl_ownOf.j2]
              rw [if_pos trivial]
              simp only [impl_ownOf.j3]
              rw [if_pos trivial, if_pos (by omega), hw]
              exact g0
            · rw [if_neg h1]
              simp only [impl_ownOf.j2]
              by_cases h2 : l[i].f3.f0 = 2
              · have est : ownG kind b acc l[i] = acc ++ [l[i]] := by unfold ownG; rw [if_neg (fun h => h.2 hb), if_neg h3, if_pos (Or.inl ⟨hk, Or.inr h2⟩)]
                rw [est] at g0 ⊢
                rw [if_pos (by simp [h2])]
                simp only [impl_ownOf.j3]
                rw [if_pos (by simp [h2]), if_pos (by omega), hw]
                exact g0
              · have est : ownG kind b acc l[i] = acc := by unfold ownG; rw [if_neg (fun h => h.2 hb), if_neg h3, if_neg (by omega)]
                rw [est] at g0 ⊢
                rw [if_neg (by simp [h2]), if_neg (by omega)]
                simp only [impl_ownOf.j3]
                rw [if_neg (by simp), hw]
                exact g0
        exact hj
      · have est : ownG kind b acc l[i] = acc := by unfold ownG; rw [if_pos ⟨hk, hb⟩]
        rw [est] at g2 ⊢
        simp only [impl_ownOf.j1]
        rw [if_pos (by simp [hb]), hw]
        exact g2
    · rw [if_neg hk]
      simp only [impl_ownOf.j1]
      rw [if_neg (by simp), hw]
      by_cases h3 : l[i].f3.f0 = kind
      · have est : ownG kind b acc l[i] = [] := by unfold ownG; rw [if_neg (fun h => hk h.1), if_pos h3]
        rw [est] at g2 ⊢
        rw [if_pos h3]
        exact g2
      · rw [if_neg h3, if_neg hk]
        simp only [impl_ownOf.j2]
        rw [if_neg (by simp)]
        by_cases h5 : kind = 5
        · rw [if_pos h5]
          simp only [impl_ownOf.j3]
          by_cases h4 : l[i].f3.f0 = 4
          · have est : ownG kind b acc l[i] = acc ++ [l[i]] := by unfold ownG; rw [if_neg (fun h => hk h.1), if_neg h3, if_pos (Or.inr ⟨h5, h4⟩)]
            rw [est] at g0 ⊢
            rw [if_pos (by simp [h4]), if_pos (by omega), hw]
            exact g0
          · have est : ownG kind b acc l[i] = acc := by unfold ownG; rw [if_neg (fun h => hk h.1), if_neg h3, if_neg (by omega)]
            rw [est] at g0 ⊢
            rw [if_neg (by simp [h4]), hw]
            exact g0
        · have est : ownG kind b acc l[i] = acc := by unfold ownG; rw [if_neg (fun h => hk h.1), if_neg h3, if_neg (by omega)]
          rw [est] at g0 ⊢
          rw [if_neg h5]
          simp only [impl_ownOf.j3]
          rw [if_neg (by simp), hw]
          exact g0
theorem impl_ownOfG_ev (l : List S48) (hl : l.length ≤ 1048576) (kind b : Int) (key value : ByteArray) (count sum : Int) : Ev (fun k => impl_ownOf.f k l kind b key value count sum) (l.foldl (ownG kind b) []) := by
  have h := impl_ownOfG_l0 l hl kind b key value count sum l.length 0 [] rfl (by simp only [List.length_nil]; omega)
  exact h
theorem ownG_mark (b b' : Int) : ownG 5 b = ownG 5 b' := by
  funext acc p
  unfold ownG
  rw [if_neg (show ¬ ((5 : Int) = 3 ∧ ¬ p.f3.f1 = b) by omega), if_neg (show ¬ ((5 : Int) = 3 ∧ ¬ p.f3.f1 = b') by omega)]
theorem spec_l9Kept_l0 (l : List S48) (e : Nat) (hl : l.length ≤ 1048576) (he : e ≤ l.length) (d : Nat) : ∀ (i : Nat) (acc : List S48), d + i = e → acc.length + d ≤ 4000000 →
    Ev (fun k => spec_l9Kept.l0 k l (e : Int) acc (i : Int)) (((l.take e).drop i).foldl (ownG 5 0) acc) := by
  induction d with
  | zero =>
    intro i acc hi ha
    refine evi 1 (fun k hk => ?_)
    obtain ⟨k, rfl⟩ : ∃ m, k = m + 1 := ⟨k - 1, by omega⟩
    simp only [spec_l9Kept.l0]
    rw [if_neg (by omega), List.drop_of_length_le (by rw [List.length_take]; omega)]
    rfl
  | succ d ih =>
    intro i acc hi ha
    have hlt : i < l.length := by omega
    have hs := ownG_len 5 0 acc l[i]
    obtain ⟨K, hK⟩ := evx (ih (i + 1) (ownG 5 0 acc l[i]) (by omega) (by omega))
    refine evi (K + 2) (fun k hk => ?_)
    obtain ⟨k, rfl⟩ : ∃ m, k = m + 2 := ⟨k - 2, by omega⟩
    have g0 := hK k (by omega)
    have e1 : ((l.take e).drop i).foldl (ownG 5 0) acc = ((l.take e).drop (i + 1)).foldl (ownG 5 0) (ownG 5 0 acc l[i]) := by
      rw [List.drop_eq_getElem_cons (by rw [List.length_take]; omega), List.getElem_take]; rfl
    have hr : rd_T48 l (i : Int) = l[i] := by rw [rdP, getD_lt _ hlt]
    rw [e1]
    simp only [spec_l9Kept.l0]
    rw [if_pos (by omega), if_pos (by omega), if_pos (by omega), hr]
    have hw : wrap64 ((i : Int) + 1) = ((i + 1 : Nat) : Int) := by rw [w64 (by omega) (by omega)]; omega
    by_cases h5 : l[i].f3.f0 = 5
    · have est : ownG 5 0 acc l[i] = [] := by unfold ownG; rw [if_neg (by omega), if_pos h5]
      rw [est] at g0 ⊢
      rw [if_pos h5]
      simp only [spec_l9Kept.j1]
      rw [if_pos (by omega), if_pos (by omega), hr, if_neg (by omega), hw]
      exact g0
    · rw [if_neg h5]
      simp only [spec_l9Kept.j1]
      rw [if_pos (by omega), if_pos (by omega), hr, hw]
      by_cases h4 : l[i].f3.f0 = 4
      · have est : ownG 5 0 acc l[i] = acc ++ [l[i]] := by unfold ownG; rw [if_neg (by omega), if_neg h5, if_pos (Or.inr ⟨rfl, h4⟩)]
        rw [est] at g0 ⊢
        rw [if_pos h4, if_pos (by omega)]
        exact g0
      · have est : ownG 5 0 acc l[i] = acc := by unfold ownG; rw [if_neg (by omega), if_neg h5, if_neg (by omega)]
        rw [est] at g0 ⊢
        rw [if_neg h4]
        exact g0
theorem spec_l9Kept_ev (l : List S48) (e : Nat) (hl : l.length ≤ 1048576) (he : e ≤ l.length) : Ev (fun k => spec_l9Kept.f k l (e : Int)) ((l.take e).foldl (ownG 5 0) []) := by
  have h := spec_l9Kept_l0 l e hl he e 0 [] rfl (by simp only [List.length_nil]; omega)
  rw [List.drop_zero] at h
  exact h
theorem spec_l9OfG_l0 (l : List S48) (e : Nat) (hl : l.length ≤ 1048576) (he : e ≤ l.length) (b : Int) (d : Nat) : ∀ (i : Nat) (acc : List S48), d + i = e → acc.length + d ≤ 4000000 →
    Ev (fun k => spec_l9Of.l0 k l (e : Int) b acc (i : Int)) (((l.take e).drop i).foldl (ownG 3 b) acc) := by
  induction d with
  | zero =>
    intro i acc hi ha
    refine evi 1 (fun k hk => ?_)
    obtain ⟨k, rfl⟩ : ∃ m, k = m + 1 := ⟨k - 1, by omega⟩
    simp only [spec_l9Of.l0]
    rw [if_neg (by omega), List.drop_of_length_le (by rw [List.length_take]; omega)]
    rfl
  | succ d ih =>
    intro i acc hi ha
    have hlt : i < l.length := by omega
    have hs := ownG_len 3 b acc l[i]
    obtain ⟨K, hK⟩ := evx (ih (i + 1) (ownG 3 b acc l[i]) (by omega) (by omega))
    refine evi (K + 4) (fun k hk => ?_)
    obtain ⟨k, rfl⟩ : ∃ m, k = m + 4 := ⟨k - 4, by omega⟩
    have g0 := hK k (by omega)
    have e1 : ((l.take e).drop i).foldl (ownG 3 b) acc = ((l.take e).drop (i + 1)).foldl (ownG 3 b) (ownG 3 b acc l[i]) := by
      rw [List.drop_eq_getElem_cons (by rw [List.length_take]; omega), List.getElem_take]; rfl
    have hr : rd_T48 l (i : Int) = l[i] := by rw [rdP, getD_lt _ hlt]
    have hw : wrap64 ((i : Int) + 1) = ((i + 1 : Nat) : Int) := by rw [w64 (by omega) (by omega)]; omega
    rw [e1]
    simp only [spec_l9Of.l0]
    rw [if_pos (by omega), if_pos (by omega), if_pos (by omega), hr]
    simp only [spec_l9Of.j1]
    by_cases hb : l[i].f3.f1 = b
    · rw [if_pos hb]
      by_cases h3 : l[i].f3.f0 = 3
      · have est : ownG 3 b acc l[i] = [] := by unfold ownG; rw [if_neg (fun h => h.2 hb), if_pos h3]
        rw [est] at g0 ⊢
        rw [if_pos (by simp [h3])]
        simp only [spec_l9Of.j2]
        rw [if_pos hb, if_neg (by omega)]
        simp only [spec_l9Of.j3]
        rw [if_neg (by simp [h3]), hw]
        exact g0
      · rw [if_neg (by simp [h3])]
        simp only [spec_l9Of.j2]
        rw [if_pos hb]
        by_cases h1 : l[i].f3.f0 = 1
        · have est : ownG 3 b acc l[i] = acc ++ [l[i]] := by unfold ownG; rw [if_neg (fun h => h.2 hb), if_neg h3, if_pos (Or.inl ⟨rfl, Or.inl h1⟩)]
          rw [est] at g0 ⊢
          rw [if_pos h1]
          simp only [spec_l9Of.j3]
          rw [if_pos trivial, if_pos (by omega), if_pos (by omega), if_pos (by omega), hr, hw]
          exact g0
        · rw [if_neg h1]
          simp only [spec_l9Of.j3]
          by_cases h2 : l[i].f3.f0 = 2
          · have est : ownG 3 b acc l[i] = acc ++ [l[i]] := by unfold ownG; rw [if_neg (fun h => h.2 hb), if_neg h3, if_pos (Or.inl ⟨rfl, Or.inr h2⟩)]
            rw [est] at g0 ⊢
            rw [if_pos (by simp [h2]), if_pos (by omega), if_pos (by omega), if_pos (by omega), hr, hw]
            exact g0
          · have est : ownG 3 b acc l[i] = acc := by unfold ownG; rw [if_neg (fun h => h.2 hb), if_neg h3, if_neg (by omega)]
            rw [est] at g0 ⊢
            rw [if_neg (by simp [h2]), hw]
            exact g0
    · have est : ownG 3 b acc l[i] = acc := by unfold ownG; rw [if_pos ⟨rfl, hb⟩]
      rw [est] at g0 ⊢
      rw [if_neg hb, if_neg (by simp)]
      simp only [spec_l9Of.j2]
      rw [if_neg hb]
      simp only [spec_l9Of.j3]
      rw [if_neg (by simp), hw]
      exact g0
theorem spec_l9OfG_ev (l : List S48) (e : Nat) (hl : l.length ≤ 1048576) (he : e ≤ l.length) (b : Int) : Ev (fun k => spec_l9Of.f k l (e : Int) b) ((l.take e).foldl (ownG 3 b) []) := by
  have h := spec_l9OfG_l0 l e hl he b e 0 [] rfl (by simp only [List.length_nil]; omega)
  rw [List.drop_zero] at h
  exact h

theorem impl_copyDir_small (l : List S71) (hl : l.length ≤ 1099511627776) : impl_copyDir.f l = some l := by
  unfold impl_copyDir.f
  rw [if_pos (by simp only [List.length_nil]; omega), List.nil_append]
theorem impl_DirPutW_ev (l : List S71) (e : S71) (hl : l.length ≤ 1099511627776) : Ev (fun k => impl_DirPut.f k l e.f0 e.f1 e.f2 e.f3 e.f4) (dirPut e l) := by
  obtain ⟨K1, h1⟩ := evx (impl_DirDrop_ev l e.f0 (by omega))
  have hd := dirDrop_length e.f0 l
  obtain ⟨K2, h2⟩ := evx (impl_DirPut_l0 (dirDrop e.f0 l) e (by omega) _ 0 rfl)
  refine evi (K1 + K2) (fun k hk => ?_)
  have hgo := h2 k (by omega)
  unfold impl_DirPut.f
  rw [h1 k (by omega), Option.bind_some]
  exact hgo
def entP (p : S48) : S71 := ⟨p.f3.f2, p.f0, p.f1, p.f2, p.f3.f1⟩
def putD (dir : List S71) (p : S48) : List S71 := if p.f3.f0 = 2 then dirDrop p.f3.f2 dir else dirPut (entP p) dir
theorem putD_len (dir : List S71) (p : S48) : (putD dir p).length ≤ dir.length + 1 := by
  unfold putD
  split
  · have := dirDrop_length p.f3.f2 dir; omega
  · exact dirPut_length _ _
theorem putD_fold_len (own : List S48) : ∀ dir : List S71, (own.foldl putD dir).length ≤ dir.length + own.length := by
  induction own with
  | nil => intro dir; simp
  | cons p own ih =>
    intro dir
    have h1 := ih (putD dir p)
    have h2 := putD_len dir p
    rw [List.foldl_cons, List.length_cons]
    omega
/-- What the code is behind records that were put: too many keys. -/
def codeD (dir : List S71) (code : Int) : Int := if (dir.length : Int) > 20 then 2 else code
theorem impl_apply_l0 (own : List S48) (hl : own.length ≤ 1048576) (last code : Int) (d : Nat) : ∀ (i : Nat) (dir : List S71), d + i = own.length → dir.length + d ≤ 4000000 →
    Ev (fun k => impl_Group_apply.l0 k own (own.length : Int) (i : Int) dir last code) ((own.drop i).foldl putD dir, last, codeD ((own.drop i).foldl putD dir) code) := by
  induction d with
  | zero =>
    intro i dir hi hd
    refine evi 1 (fun k hk => ?_)
    obtain ⟨k, rfl⟩ : ∃ m, k = m + 1 := ⟨k - 1, by omega⟩
    rw [impl_Group_apply.l0, if_neg (by omega), List.drop_of_length_le (by omega), List.foldl_nil]
    unfold codeD
    split <;> rfl
  | succ d ih =>
    intro i dir hi hd
    have hlt : i < own.length := by omega
    have hp := putD_len dir own[i]
    obtain ⟨K, hK⟩ := evx (ih (i + 1) (putD dir own[i]) (by omega) (by omega))
    obtain ⟨K1, h1⟩ := evx (impl_DirDrop_ev dir own[i].f3.f2 (by omega))
    obtain ⟨K2, h2⟩ := evx (impl_DirPutW_ev dir (entP own[i]) (by omega))
    refine evi (K + K1 + K2 + 1) (fun k hk => ?_)
    obtain ⟨k, rfl⟩ : ∃ m, k = m + 1 := ⟨k - 1, by omega⟩
    have hgo := hK k (by omega)
    have hr : rd_T48 own (i : Int) = own[i] := by rw [rdP, getD_lt _ hlt]
    rw [List.drop_eq_getElem_cons hlt, List.foldl_cons]
    rw [impl_Group_apply.l0, if_pos (by omega), if_pos (by omega), if_pos (by omega), hr, w64 (by omega) (by omega), show ((i : Int) + 1) = ((i + 1 : Nat) : Int) from by omega]
    unfold putD at hgo ⊢
    by_cases h : own[i].f3.f0 = 2
    · rw [if_pos h] at hgo ⊢
      rw [if_pos h, h1 k (by omega), Option.bind_some]
      exact hgo
    · rw [if_neg h] at hgo ⊢
      have h2' : impl_DirPut.f k dir own[i].f3.f2 own[i].f0 own[i].f1 own[i].f2 own[i].f3.f1 = some (dirPut (entP own[i]) dir) := h2 k (by omega)
      rw [if_neg h, h2', Option.bind_some]
      exact hgo
theorem impl_apply_ev (own : List S48) (hl : own.length ≤ 1048576) (dir : List S71) (hd : dir.length ≤ 1048576) (last code : Int) :
    Ev (fun k => impl_Group_apply.f k dir last code own) (own.foldl putD dir, last, codeD (own.foldl putD dir) code) := by
  obtain ⟨K, hK⟩ := evx (impl_apply_l0 own hl last code own.length 0 dir rfl (by omega))
  refine evi K (fun k hk => ?_)
  unfold impl_Group_apply.f
  have := hK k hk
  rw [List.drop_zero] at this
  exact this
theorem spec_l9Put_ev (dir : List S71) (hd : dir.length ≤ 1099511627776) (p : S48) : Ev (fun k => spec_l9Put.f k dir p.f0 p.f1 p.f2 p.f3.f0 p.f3.f1 p.f3.f2 p.f3.f3 p.f3.f4 p.f3.f5) (putD dir p) := by
  obtain ⟨K1, h1⟩ := evx (spec_DirDrop_ev dir p.f3.f2 (by omega))
  obtain ⟨K2, h2⟩ := evx (spec_DirPut_ev dir (entP p) (by omega))
  refine evi (K1 + K2) (fun k hk => ?_)
  unfold spec_l9Put.f putD
  by_cases h : p.f3.f0 = 2
  · rw [if_pos h, if_pos h, h1 k (by omega), Option.bind_some]
  · have h2' : spec_DirPut.f k dir p.f3.f2 p.f0 p.f1 p.f2 p.f3.f1 = some (dirPut (entP p) dir) := h2 k (by omega)
    rw [if_neg h, if_neg h, h2', Option.bind_some]
theorem spec_Regroup_l1 (l own : List S48) (hl : own.length ≤ 1048576) (n : Nat) (hn : n ≤ 1048576) (last code : Int) (r : List S71 × Int × Int) (d : Nat) : ∀ (i : Nat) (dir : List S71), d + i = own.length → dir.length + d ≤ 4000000 →
    Ev (fun k => spec_Regroup.l0 k l ((n + 1 : Nat) : Int) ((own.drop i).foldl putD dir) last (codeD ((own.drop i).foldl putD dir) code)) r →
    Ev (fun k => spec_Regroup.l1 k l (n : Int) own (i : Int) dir last code) r := by
  induction d with
  | zero =>
    intro i dir hi hd hE
    obtain ⟨K, hK⟩ := evx hE
    refine evi (K + 1) (fun k hk => ?_)
    obtain ⟨k, rfl⟩ : ∃ m, k = m + 1 := ⟨k - 1, by omega⟩
    have hgo := hK k (by omega)
    rw [List.drop_of_length_le (by omega), List.foldl_nil] at hgo
    rw [spec_Regroup.l1, if_neg (by omega), w64 (by omega) (by omega), show ((n : Int) + 1) = ((n + 1 : Nat) : Int) from by omega]
    unfold codeD at hgo
    by_cases h : (dir.length : Int) > 20
    · rw [if_pos h] at hgo ⊢
      exact hgo
    · rw [if_neg h] at hgo ⊢
      exact hgo
  | succ d ih =>
    intro i dir hi hd hE
    have hlt : i < own.length := by omega
    have hp := putD_len dir own[i]
    rw [List.drop_eq_getElem_cons hlt, List.foldl_cons] at hE
    obtain ⟨K, hK⟩ := evx (ih (i + 1) (putD dir own[i]) (by omega) (by omega) hE)
    obtain ⟨K1, h1⟩ := evx (spec_l9Put_ev dir (by omega) own[i])
    refine evi (K + K1 + 1) (fun k hk => ?_)
    obtain ⟨k, rfl⟩ : ∃ m, k = m + 1 := ⟨k - 1, by omega⟩
    have hgo := hK k (by omega)
    have hr : rd_T48 own (i : Int) = own[i] := by rw [rdP, getD_lt _ hlt]
    rw [spec_Regroup.l1, if_pos (by omega), if_pos (by omega), hr, h1 k (by omega), Option.bind_some, w64 (by omega) (by omega), show ((i : Int) + 1) = ((i + 1 : Nat) : Int) from by omega]
    exact hgo
/-- The records that remain, from number i on. -/
def regF (l : List S48) : Nat → Nat → List S71 → Int → Int → List S71 × Int × Int
  | 0, _, dir, last, code => if code = 0 then (if ((l.foldl (ownG 5 0) []).length : Int) > 0 then (dir, last, 1) else (dir, last, code)) else (dir, last, code)
  | d + 1, i, dir, last, code => if code = 0 then
      (if (l.getD i z48).f3.f0 = 3 then
        (if fitsB (l.getD i z48).f3.f4 (l.getD i z48).f3.f5 ((l.take i).foldl (ownG 3 (l.getD i z48).f3.f1) []) = true then regF l d (i + 1) (((l.take i).foldl (ownG 3 (l.getD i z48).f3.f1) []).foldl putD dir) (mx last (l.getD i z48).f3.f1) (codeD (((l.take i).foldl (ownG 3 (l.getD i z48).f3.f1) []).foldl putD dir) code)
        else regF l d (i + 1) dir (mx last (l.getD i z48).f3.f1) code)
      else if (l.getD i z48).f3.f0 = 5 then
        (if fitsB (l.getD i z48).f3.f4 (l.getD i z48).f3.f5 ((l.take i).foldl (ownG 5 0) []) = true then regF l d (i + 1) (((l.take i).foldl (ownG 5 0) []).foldl putD dir) (mx last (l.getD i z48).f3.f1) (codeD (((l.take i).foldl (ownG 5 0) []).foldl putD dir) code)
        else regF l d (i + 1) dir (mx last (l.getD i z48).f3.f1) 1)
      else regF l d (i + 1) dir (mx last (l.getD i z48).f3.f1) code)
    else (dir, last, code)
theorem regF_len (l : List S48) (d : Nat) : ∀ (i : Nat) (dir : List S71) (last code : Int), (code = 0 → dir.length ≤ 1048576) → dir.length ≤ 1048576 + l.length → (regF l d i dir last code).1.length ≤ 1048576 + l.length := by
  induction d with
  | zero =>
    intro i dir last code _ hd
    rw [regF]
    repeat' split
    all_goals exact hd
  | succ d ih =>
    intro i dir last code h0 hd
    rw [regF]
    have key : ∀ (f : List S48) (c : Int), f.length ≤ l.length → code = 0 → (codeD (f.foldl putD dir) c = 0 → (f.foldl putD dir).length ≤ 1048576) ∧ (f.foldl putD dir).length ≤ 1048576 + l.length := by
      intro f c hf hc
      have h1 := putD_fold_len f dir
      have h2 := h0 hc
      refine ⟨fun hz => ?_, by omega⟩
      unfold codeD at hz
      split at hz
      · omega
      · omega
    have hf : ∀ kind b : Int, ((l.take i).foldl (ownG kind b) []).length ≤ l.length := by
      intro kind b
      have := ownG_fold_len kind b (l.take i) []
      rw [List.length_take, List.length_nil] at this
      omega
    split
    · rename_i hc
      split
      · split
        · have := key _ code (hf 3 (l.getD i z48).f3.f1) hc
          exact ih _ _ _ _ this.1 this.2
        · exact ih _ _ _ _ h0 hd
      · split
        · split
          · have := key _ code (hf 5 0) hc
            exact ih _ _ _ _ this.1 this.2
          · exact ih _ _ _ _ (fun h => by omega) hd
        · exact ih _ _ _ _ h0 hd
    · exact hd
theorem impl_Regroup_j1_go (l : List S48) (i : Nat) (p : S48) (dir : List S71) (last : Int) (hi : i < l.length) (hl : l.length ≤ 1048576) (hd : dir.length ≤ 1048576) (r : List S71 × Int × Int)
    (own : List S48) (ho : own = (l.take i).foldl (ownG p.f3.f0 p.f3.f1) [])
    (hE : Ev (fun k => if fitsB p.f3.f4 p.f3.f5 own = true then impl_Regroup.l0 k l l (l.length : Int) ((i + 1 : Nat) : Int) (own.foldl putD dir) last (codeD (own.foldl putD dir) 0) else if p.f3.f0 = 5 then impl_Regroup.l0 k l l (l.length : Int) ((i + 1 : Nat) : Int) dir last 1 else impl_Regroup.l0 k l l (l.length : Int) ((i + 1 : Nat) : Int) dir last 0) r) :
    Ev (fun k => impl_Regroup.j1 k l (i : Int) l (l.length : Int) (i : Int) false dir last 0 p.f0 p.f1 p.f2 p.f3.f0 p.f3.f1 p.f3.f2 p.f3.f3 p.f3.f4 p.f3.f5) r := by
  have hol : own.length ≤ 1048576 := by
    have := ownG_fold_len p.f3.f0 p.f3.f1 (l.take i) []
    rw [← ho, List.length_take, List.length_nil] at this
    omega
  obtain ⟨K, hK⟩ := evx hE
  obtain ⟨K1, h1⟩ := evx (impl_ownOfG_ev (l.take i) (by rw [List.length_take]; omega) p.f3.f0 p.f3.f1 p.f3.f2 p.f3.f3 p.f3.f4 p.f3.f5)
  rw [← ho] at h1
  obtain ⟨K2, h2⟩ := evx (impl_fits_ev own hol p.f3.f0 p.f3.f1 p.f3.f2 p.f3.f3 p.f3.f4 p.f3.f5)
  obtain ⟨K3, h3⟩ := evx (impl_apply_ev own hol dir hd last 0)
  refine evi (K + K1 + K2 + K3 + 1) (fun k hk => ?_)
  obtain ⟨k, rfl⟩ : ∃ m, k = m + 1 := ⟨k - 1, by omega⟩
  have hgo := hK k (by omega)
  have hw : wrap64 ((i : Int) + 1) = ((i + 1 : Nat) : Int) := by rw [w64 (by omega) (by omega)]; omega
  rw [impl_Regroup.j1, if_neg (by simp), if_pos (by omega), if_pos (by omega), Int.toNat_natCast, h1 k (by omega), Option.bind_some, h2 k (by omega), Option.bind_some, h3 k (by omega), Option.bind_some, hw]
  exact hgo
theorem impl_Regroup_l0 (l : List S48) (hl : l.length ≤ 1048576) (d : Nat) : ∀ (i : Nat) (dir : List S71) (last code : Int), d + i = l.length → (code = 0 → dir.length ≤ 1048576) →
    Ev (fun k => impl_Regroup.l0 k l l (l.length : Int) (i : Int) dir last code) (regF l d i dir last code) := by
  induction d with
  | zero =>
    intro i dir last code hi h0
    obtain ⟨K1, h1⟩ := evx (impl_ownOfG_ev l hl 5 0 (⟨#[]⟩ : ByteArray) (⟨#[]⟩ : ByteArray) 0 0)
    refine evi (K1 + 1) (fun k hk => ?_)
    obtain ⟨k, rfl⟩ : ∃ m, k = m + 1 := ⟨k - 1, by omega⟩
    rw [impl_Regroup.l0, if_neg (by omega), regF]
    by_cases hc : code = 0
    · rw [if_pos hc, if_pos hc, h1 k (by omega), Option.bind_some]
      split <;> rfl
    · rw [if_neg hc, if_neg hc]
  | succ d ih =>
    intro i dir last code hi h0
    have hlt : i < l.length := by omega
    have hr : rd_T48 l (i : Int) = l[i] := by rw [rdP, getD_lt _ hlt]
    have hw : wrap64 ((i : Int) + 1) = ((i + 1 : Nat) : Int) := by rw [w64 (by omega) (by omega)]; omega
    by_cases hc : code = 0
    · have hd := h0 hc
      subst hc
      have hfold : ∀ kind b : Int, ∀ c, codeD (((l.take i).foldl (ownG kind b) []).foldl putD dir) c = 0 → (((l.take i).foldl (ownG kind b) []).foldl putD dir).length ≤ 1048576 := by
        intro kind b c hz
        unfold codeD at hz
        split at hz <;> omega
      rw [regF, if_pos rfl, getD_lt _ hlt]
      have step : ∀ r, (l[i].f3.f0 = 3 ∨ l[i].f3.f0 = 5) → Ev (fun k => impl_Regroup.j1 k l (i : Int) l (l.length : Int) (i : Int) false dir (mx last l[i].f3.f1) 0 l[i].f0 l[i].f1 l[i].f2 l[i].f3.f0 l[i].f3.f1 l[i].f3.f2 l[i].f3.f3 l[i].f3.f4 l[i].f3.f5) r → Ev (fun k => impl_Regroup.l0 k l l (l.length : Int) (i : Int) dir last 0) r := by
        intro r hk hE
        obtain ⟨K, hK⟩ := evx hE
        refine evi (K + 1) (fun k hk' => ?_)
        obtain ⟨k, rfl⟩ : ∃ m, k = m + 1 := ⟨k - 1, by omega⟩
        have hgo := hK k (by omega)
        rw [impl_Regroup.l0, if_pos (by omega), if_pos (by omega), if_pos (by omega), if_pos rfl, hr]
        by_cases h3 : l[i].f3.f0 = 3
        · rw [if_pos h3]
          exact hgo
        · have h5 : l[i].f3.f0 = 5 := by omega
          rw [if_neg h3, show (l[i].f3.f0 != 5) = false by simp [h5]]
          exact hgo
      by_cases h3 : l[i].f3.f0 = 3
      · rw [if_pos h3]
        refine step _ (Or.inl h3) (impl_Regroup_j1_go l i l[i] dir _ hlt hl hd _ _ rfl ?_)
        rw [h3]
        by_cases hf : fitsB l[i].f3.f4 l[i].f3.f5 ((l.take i).foldl (ownG 3 l[i].f3.f1) []) = true
        · simp only [if_pos hf]
          exact ih (i + 1) _ _ _ (by omega) (hfold 3 _ 0)
        · simp only [if_neg hf]
          exact ih (i + 1) _ _ _ (by omega) h0
      · rw [if_neg h3]
        by_cases h5 : l[i].f3.f0 = 5
        · rw [if_pos h5]
          refine step _ (Or.inr h5) (impl_Regroup_j1_go l i l[i] dir _ hlt hl hd _ _ rfl ?_)
          rw [h5, ownG_mark _ 0]
          by_cases hf : fitsB l[i].f3.f4 l[i].f3.f5 ((l.take i).foldl (ownG 5 0) []) = true
          · simp only [if_pos hf]
            exact ih (i + 1) _ _ _ (by omega) (hfold 5 0 0)
          · simp only [if_neg hf, if_true]
            exact ih (i + 1) _ _ _ (by omega) (fun h => by omega)
        · rw [if_neg h5]
          obtain ⟨K, hK⟩ := evx (ih (i + 1) dir (mx last l[i].f3.f1) 0 (by omega) h0)
          refine evi (K + 2) (fun k hk' => ?_)
          obtain ⟨k, rfl⟩ : ∃ m, k = m + 2 := ⟨k - 2, by omega⟩
          have hgo := hK k (by omega)
          rw [impl_Regroup.l0, if_pos (by omega), if_pos (by omega), if_pos (by omega), if_pos rfl, hr, if_neg h3, show (l[i].f3.f0 != 5) = true by simp [h5], impl_Regroup.j1, if_pos rfl, hw]
          exact hgo
    · refine evi 1 (fun k hk => ?_)
      obtain ⟨k, rfl⟩ : ∃ m, k = m + 1 := ⟨k - 1, by omega⟩
      rw [impl_Regroup.l0, if_pos (by omega), if_pos (by omega), if_pos (by omega), if_neg hc, regF, if_neg hc]
theorem impl_Regroup_ev (l : List S48) (hl : l.length ≤ 1048576) (dir : List S71) (hd : dir.length ≤ 1048576) (last code : Int) : Ev (fun k => impl_Regroup.f k dir last code l) (regF l l.length 0 dir last code) := by
  obtain ⟨K, hK⟩ := evx (impl_Regroup_l0 l hl l.length 0 dir last code rfl (fun _ => hd))
  refine evi K (fun k hk => ?_)
  unfold impl_Regroup.f
  rw [impl_copyDir_small dir (by omega), Option.bind_some]
  exact hK k hk
theorem spec_Regroup_l0 (l : List S48) (hl : l.length ≤ 1048576) (d : Nat) : ∀ (i : Nat) (dir : List S71) (last code : Int), d + i = l.length → (code = 0 → dir.length ≤ 1048576) →
    Ev (fun k => spec_Regroup.l0 k l (i : Int) dir last code) (regF l d i dir last code) := by
  have fin : ∀ (i : Nat) (dir : List S71) (last code : Int) (r : List S71 × Int × Int), r = (if code = 0 then (if ((l.foldl (ownG 5 0) []).length : Int) > 0 then (dir, last, 1) else (dir, last, code)) else (dir, last, code)) →
      Ev (fun k => spec_Regroup.j1 k l (i : Int) false dir last code) r := by
    intro i dir last code r hr
    obtain ⟨K1, h1⟩ := evx (spec_l9Kept_ev l l.length hl (Nat.le_refl _))
    rw [List.take_length] at h1
    refine evi (K1 + 1) (fun k hk => ?_)
    obtain ⟨k, rfl⟩ : ∃ m, k = m + 1 := ⟨k - 1, by omega⟩
    rw [spec_Regroup.j1, if_neg (by simp), hr]
    by_cases hc : code = 0
    · rw [if_pos hc, if_pos hc, h1 k (by omega), Option.bind_some]
      split <;> rfl
    · rw [if_neg hc, if_neg hc]
  induction d with
  | zero =>
    intro i dir last code hi h0
    obtain ⟨K, hK⟩ := evx (fin i dir last code _ rfl)
    refine evi (K + 1) (fun k hk => ?_)
    obtain ⟨k, rfl⟩ : ∃ m, k = m + 1 := ⟨k - 1, by omega⟩
    rw [spec_Regroup.l0, if_neg (by omega), regF]
    exact hK k (by omega)
  | succ d ih =>
    intro i dir last code hi h0
    have hlt : i < l.length := by omega
    have hr : rd_T48 l (i : Int) = l[i] := by rw [rdP, getD_lt _ hlt]
    have hw : wrap64 ((i : Int) + 1) = ((i + 1 : Nat) : Int) := by rw [w64 (by omega) (by omega)]; omega
    by_cases hc : code = 0
    · have hd := h0 hc
      subst hc
      have hfold : ∀ kind b : Int, ∀ c, codeD (((l.take i).foldl (ownG kind b) []).foldl putD dir) c = 0 → (((l.take i).foldl (ownG kind b) []).foldl putD dir).length ≤ 1048576 := by
        intro kind b c hz
        unfold codeD at hz
        split at hz <;> omega
      have hol : ∀ kind b : Int, ((l.take i).foldl (ownG kind b) []).length ≤ 1048576 := by
        intro kind b
        have := ownG_fold_len kind b (l.take i) []
        rw [List.length_take, List.length_nil] at this
        omega
      have step : ∀ r, Ev (fun k => spec_Regroup.j1 k l (i : Int) true dir last 0) r → Ev (fun k => spec_Regroup.l0 k l (i : Int) dir last 0) r := by
        intro r hE
        obtain ⟨K, hK⟩ := evx hE
        refine evi (K + 1) (fun k hk => ?_)
        obtain ⟨k, rfl⟩ : ∃ m, k = m + 1 := ⟨k - 1, by omega⟩
        rw [spec_Regroup.l0, if_pos (by omega)]
        exact hK k (by omega)
      rw [regF, if_pos rfl, getD_lt _ hlt]
      refine step _ ?_
      by_cases h3 : l[i].f3.f0 = 3
      · rw [if_pos h3]
        obtain ⟨K1, h1⟩ := evx (spec_l9OfG_ev l i hl (by omega) l[i].f3.f1)
        obtain ⟨K2, h2⟩ := evx (spec_l9Fits_ev ((l.take i).foldl (ownG 3 l[i].f3.f1) []) (hol 3 _) l[i].f3.f0 l[i].f3.f1 l[i].f3.f2 l[i].f3.f3 l[i].f3.f4 l[i].f3.f5)
        by_cases hf : fitsB l[i].f3.f4 l[i].f3.f5 ((l.take i).foldl (ownG 3 l[i].f3.f1) []) = true
        · rw [if_pos hf]
          obtain ⟨K3, h3'⟩ := evx (spec_Regroup_l1 l ((l.take i).foldl (ownG 3 l[i].f3.f1) []) (hol 3 _) i (by omega) (mx last l[i].f3.f1) 0 _ _ 0 dir rfl (by have := hol 3 l[i].f3.f1; omega) (by rw [List.drop_zero]; exact ih (i + 1) _ _ _ (by omega) (hfold 3 _ 0)))
          refine evi (K1 + K2 + K3 + 2) (fun k hk => ?_)
          obtain ⟨k, rfl⟩ : ∃ m, k = m + 2 := ⟨k - 2, by omega⟩
          rw [spec_Regroup.j1, if_pos rfl, if_pos (by omega), if_pos (by omega), hr, if_pos h3, h1 _ (by omega), Option.bind_some, h2 _ (by omega), Option.bind_some, if_pos hf, spec_Regroup.j2]
          exact h3' k (by omega)
        · rw [if_neg hf]
          obtain ⟨K3, h3'⟩ := evx (ih (i + 1) dir (mx last l[i].f3.f1) 0 (by omega) h0)
          refine evi (K1 + K2 + K3 + 1) (fun k hk => ?_)
          obtain ⟨k, rfl⟩ : ∃ m, k = m + 1 := ⟨k - 1, by omega⟩
          rw [spec_Regroup.j1, if_pos rfl, if_pos (by omega), if_pos (by omega), hr, if_pos h3, h1 _ (by omega), Option.bind_some, h2 _ (by omega), Option.bind_some, if_neg hf, hw]
          exact h3' k (by omega)
      · rw [if_neg h3]
        by_cases h5 : l[i].f3.f0 = 5
        · rw [if_pos h5]
          obtain ⟨K1, h1⟩ := evx (spec_l9Kept_ev l i hl (by omega))
          obtain ⟨K2, h2⟩ := evx (spec_l9Fits_ev ((l.take i).foldl (ownG 5 0) []) (hol 5 _) l[i].f3.f0 l[i].f3.f1 l[i].f3.f2 l[i].f3.f3 l[i].f3.f4 l[i].f3.f5)
          by_cases hf : fitsB l[i].f3.f4 l[i].f3.f5 ((l.take i).foldl (ownG 5 0) []) = true
          · rw [if_pos hf]
            obtain ⟨K3, h3'⟩ := evx (spec_Regroup_l1 l ((l.take i).foldl (ownG 5 0) []) (hol 5 _) i (by omega) (mx last l[i].f3.f1) 0 _ _ 0 dir rfl (by have := hol 5 0; omega) (by rw [List.drop_zero]; exact ih (i + 1) _ _ _ (by omega) (hfold 5 _ 0)))
            refine evi (K1 + K2 + K3 + 2) (fun k hk => ?_)
            obtain ⟨k, rfl⟩ : ∃ m, k = m + 2 := ⟨k - 2, by omega⟩
            rw [spec_Regroup.j1, if_pos rfl, if_pos (by omega), if_pos (by omega), hr, if_neg h3, if_pos h5, h1 _ (by omega), Option.bind_some, h2 _ (by omega), Option.bind_some, if_pos hf, spec_Regroup.j2]
            exact h3' k (by omega)
          · rw [if_neg hf]
            obtain ⟨K3, h3'⟩ := evx (ih (i + 1) dir (mx last l[i].f3.f1) 1 (by omega) (fun h => by omega))
            refine evi (K1 + K2 + K3 + 1) (fun k hk => ?_)
            obtain ⟨k, rfl⟩ : ∃ m, k = m + 1 := ⟨k - 1, by omega⟩
            rw [spec_Regroup.j1, if_pos rfl, if_pos (by omega), if_pos (by omega), hr, if_neg h3, if_pos h5, h1 _ (by omega), Option.bind_some, h2 _ (by omega), Option.bind_some, if_neg hf, hw]
            exact h3' k (by omega)
        · rw [if_neg h5]
          obtain ⟨K3, h3'⟩ := evx (ih (i + 1) dir (mx last l[i].f3.f1) 0 (by omega) h0)
          refine evi (K3 + 1) (fun k hk => ?_)
          obtain ⟨k, rfl⟩ : ∃ m, k = m + 1 := ⟨k - 1, by omega⟩
          rw [spec_Regroup.j1, if_pos rfl, if_pos (by omega), if_pos (by omega), hr, if_neg h3, if_neg h5, hw]
          exact h3' k (by omega)
    · obtain ⟨K, hK⟩ := evx (fin i dir last code (dir, last, code) (by rw [if_neg hc]))
      refine evi (K + 1) (fun k hk => ?_)
      obtain ⟨k, rfl⟩ : ∃ m, k = m + 1 := ⟨k - 1, by omega⟩
      rw [spec_Regroup.l0, if_pos (by omega), show (code == 0) = false by simp [hc], regF, if_neg hc]
      exact hK k (by omega)
theorem spec_Regroup_ev (l : List S48) (hl : l.length ≤ 1048576) (dir : List S71) (hd : dir.length ≤ 1048576) (last code : Int) : Ev (fun k => spec_Regroup.f k dir last code l) (regF l l.length 0 dir last code) := by
  obtain ⟨K, hK⟩ := evx (spec_Regroup_l0 l hl l.length 0 dir last code rfl (fun _ => hd))
  refine evi K (fun k hk => ?_)
  unfold spec_Regroup.f
  simp only [Option.bind_some]
  rw [if_pos (by simp only [List.length_nil]; omega), List.nil_append]
  exact hK k hk



/-! ### the law -/
theorem FnExactRegroup : laws_FnExactRegroup.Pure := by
  intro a last code p ha hlast hcode hp
  have bigA : ∀ e ∈ a, bigEntry e := fun e he => (ha.2 e he).1
  have bigP : ∀ e ∈ p, bigPlace e := fun e he => ⟨(hp.2 e he).2.2.2.2.2.1, (hp.2 e he).2.2.2.2.2.2.1⟩
  obtain ⟨s, hs, hs1, hs2⟩ := laws_szEntryS_ev a ha.1 bigA 1048576 (by omega) (by omega)
  obtain ⟨K1, h1⟩ := evx hs
  by_cases hn : s < 0
  · refine ⟨K1, ?_⟩
    unfold laws_FnExactRegroup.f laws_szGroup.f
    rw [h1 _ (by omega)]
    simp only [Option.bind_some]
    rw [if_pos hn]
    simp
  · have la : a.length ≤ 1048576 := by omega
    obtain ⟨s', hs', hs1', hs2'⟩ := laws_szPlaceS_ev p hp.1 bigP s (by omega) (by omega)
    obtain ⟨K2, h2⟩ := evx hs'
    by_cases hn' : s' < 0
    · refine ⟨K1 + K2, ?_⟩
      unfold laws_FnExactRegroup.f laws_szGroup.f
      rw [h1 _ (by omega)]
      simp only [Option.bind_some]
      rw [if_neg hn]
      simp only [Option.bind_some]
      rw [if_neg hn, h2 _ (by omega)]
      simp only [Option.bind_some]
      rw [if_pos hn']
    · have lp : p.length ≤ 1048576 := by omega
      obtain ⟨K3, h3⟩ := evx (laws_toEntryS_ev a la)
      obtain ⟨K4, h4⟩ := evx (laws_toPlaceS_ev p lp)
      have lb : (a.map convEntry).length = a.length := List.length_map ..
      have lq : (p.map convPlace).length = p.length := List.length_map ..
      generalize a.map convEntry = b at *
      generalize p.map convPlace = q at *
      obtain ⟨K5, h5⟩ := evx (spec_Regroup_ev q (by omega) b (by omega) last code)
      obtain ⟨K6, h6⟩ := evx (impl_Regroup_ev q (by omega) b (by omega) last code)
      have lc := regF_len q q.length 0 b last code (fun _ => by omega) (by omega)
      generalize regF q q.length 0 b last code = g at h5 h6 lc
      obtain ⟨c, cl, cc⟩ := g
      have lc : c.length ≤ 1048576 + q.length := lc
      obtain ⟨K7, h7⟩ := evx (laws_eqEntryS_ev b (by omega))
      obtain ⟨K8, h8⟩ := evx (laws_eqEntryS_ev c (by omega))
      obtain ⟨K9, h9⟩ := evx (laws_eqPlaceS_ev q (by omega))
      obtain ⟨Ka, hA_⟩ := evx (laws_markEntryS_ev b (by omega) 1 (by omega) (by omega))
      obtain ⟨Kb, hB_⟩ := evx (laws_markPlaceS_ev q (by omega) (1 + 5 * (b.length : Int)) (by omega) (by omega))
      obtain ⟨Kc, hC_⟩ := evx (laws_markEntryS_ev c (by omega) 1 (by omega) (by omega))
      obtain ⟨Kd, hD_⟩ := evx (laws_heldEntryS_ev c.length (by omega) 1 (by omega) (by omega))
      have e1 : ¬ (1 + 5 * (b.length : Int) + 9 * (q.length : Int) < 0) := by omega
      have e2 : ¬ (1 + 5 * (c.length : Int) < 0) := by omega
      generalize hK : K1 + K2 + K3 + K4 + K5 + K6 + K7 + K8 + K9 + Ka + Kb + Kc + Kd = K
      have tg : ∀ k, K ≤ k → laws_toGroup.f k a last code = some (b, last, code) := fun k hk => by unfold laws_toGroup.f; rw [h3 k (by omega), Option.bind_some]
      have eg : ∀ (l : List S71) (x y : Int) (k : Nat), laws_eqEntryS.f k l l = some true → laws_eqGroup.f k l x y l x y = some true := fun l x y k h => by unfold laws_eqGroup.f; rw [h]; simp
      have mg : ∀ k, K ≤ k → laws_markGroup.f k b last code 1 = some (1 + 5 * (b.length : Int), marksEntry b.length 1) := fun k hk => by unfold laws_markGroup.f; rw [hA_ k (by omega), Option.bind_some]
      have mc : ∀ k, K ≤ k → laws_markGroup.f k c cl cc 1 = some (1 + 5 * (c.length : Int), marksEntry c.length 1) := fun k hk => by unfold laws_markGroup.f; rw [hC_ k (by omega), Option.bind_some]
      have hg : ∀ k, K ≤ k → laws_heldGroup.f k (marksEntry c.length 1) cl cc 1 = some (1 + 5 * (c.length : Int)) := fun k hk => by unfold laws_heldGroup.f; rw [hD_ k (by omega), Option.bind_some, if_neg e2]
      have j0 : ∀ k, K ≤ k → laws_FnExactRegroup.j0 (k + 1) p false a last code c cl cc c cl cc = some true := by
        intro k hk
        rw [laws_FnExactRegroup.j0, if_neg (by simp), mc k hk]
        simp only [Option.bind_some]
        rw [hg k hk]
        simp only [Option.bind_some]
        rw [if_neg e2, if_pos (by trivial), tg k hk]
        simp only [Option.bind_some]
        rw [h4 k (by omega)]
        simp only [Option.bind_some]
        rw [h6 k (by omega)]
        simp only [Option.bind_some]
        rw [eg c cl cc k (h8 k (by omega))]
        simp only [Option.bind_some]
        rw [if_pos (by trivial), if_neg e2, if_pos (by trivial)]
      refine ⟨K + 1, ?_⟩
      unfold laws_FnExactRegroup.f laws_szGroup.f
      rw [h1 _ (by omega)]
      simp only [Option.bind_some]
      rw [if_neg hn]
      simp only [Option.bind_some]
      rw [if_neg hn, h2 _ (by omega)]
      simp only [Option.bind_some]
      rw [if_neg hn', tg _ (by omega)]
      simp only [Option.bind_some]
      rw [h4 _ (by omega)]
      simp only [Option.bind_some]
      rw [h5 _ (by omega)]
      simp only [Option.bind_some]
      rw [h6 _ (by omega)]
      simp only [Option.bind_some]
      rw [eg c cl cc _ (h8 _ (by omega))]
      simp only [Option.bind_some]
      rw [if_pos (by trivial), eg b last code _ (h7 _ (by omega))]
      simp only [Option.bind_some]
      rw [if_pos (by trivial), h9 _ (by omega)]
      simp only [Option.bind_some]
      rw [if_pos (by trivial), mg _ (by omega)]
      simp only [Option.bind_some]
      rw [hB_ _ (by omega)]
      simp only [Option.bind_some]
      rw [if_neg e1]
      exact j0 K (Nat.le_refl _)

end Go.Proofs.Ytcnmdjibogojnaa.Pure
