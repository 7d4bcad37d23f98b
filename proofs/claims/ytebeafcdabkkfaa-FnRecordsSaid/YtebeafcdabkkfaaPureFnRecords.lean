/- The pure statement of the law FnRecords: for all arguments within the printed bounds the printed function of the law answers true. Conditions: only the bounds that the printed statement itself names. -/
import Derived.Test.YtebeafcdabkkfaaPFnRecordsx15
namespace Go.Proofs.Ytebeafcdabkkfaa.Pure
open Go.RowKit Go.Proofs.Ytebeafcdabkkfaa.PFnRecords Go.Proofs.YtebeafcdabkkfaaW.PrintWords Go.Proofs.YtebeafcdabkkfaaW.PrintLast
set_option linter.unusedVariables false
set_option linter.unusedSimpArgs false

/-- The string of a list of bytes. -/
def mkS (l : List UInt8) : ByteArray := ⟨l.toArray⟩
theorem exS (s : ByteArray) : ∃ l, s = mkS l := ⟨s.data.toList, by cases s; simp [mkS]⟩
theorem mkS_size (l : List UInt8) : (mkS l).size = l.length := by simp [mkS, ByteArray.size]
theorem toList_data (s : ByteArray) : s.toList = s.data.toList := by
  have key : ∀ (n i : Nat) (r : List UInt8), s.size - i = n → ByteArray.toList.loop s i r = r.reverse ++ s.data.toList.drop i := by
    intro n
    induction n with
    | zero =>
      intro i r h
      unfold ByteArray.toList.loop
      rw [if_neg (by omega), List.drop_of_length_le (by simp only [Array.length_toList]; have : s.size = s.data.size := rfl; omega), List.append_nil]
    | succ n ih =>
      intro i r h
      unfold ByteArray.toList.loop
      have hi : i < s.data.toList.length := by simp only [Array.length_toList]; have : s.size = s.data.size := rfl; omega
      rw [if_pos (by omega), ih (i + 1) _ (by omega), List.reverse_cons, List.append_assoc, List.drop_eq_getElem_cons hi]
      have : s.get! i = s.data.toList[i] := by
        show s.data[i]! = _
        rw [Array.getElem_toList]
        exact getElem!_pos s.data i (by simpa using hi)
      rw [this]
      rfl
  have := key _ 0 [] rfl
  simpa [ByteArray.toList] using this
theorem mkS_toList (l : List UInt8) : (mkS l).toList = l := by rw [toList_data]; simp [mkS]
theorem mkS_append (a b : List UInt8) : mkS a ++ mkS b = mkS (a ++ b) := by
  apply ByteArray.ext
  simp [mkS, ByteArray.data_append]
theorem mkS_extract (l : List UInt8) (i j : Nat) : (mkS l).extract i j = mkS ((l.drop i).take (j - i)) := by
  apply ByteArray.ext
  rw [ByteArray.data_extract]
  simp only [mkS]
  apply Array.ext'
  rw [Array.toList_extract]
  try simp [List.extract_eq_drop_take]
theorem mkS_nil : (⟨#[]⟩ : ByteArray) = mkS [] := rfl
theorem bt_mkS (l : List UInt8) (i : Nat) (h : i < l.length) : bt (mkS l) (i : Int) = ((l[i]).toNat : Int) := by
  unfold bt
  have h' : ((i : Int)).toNat < (mkS l).size := by rw [mkS_size]; simpa using h
  rw [dif_pos h']
  simp only [Int.toNat_natCast]
  rfl
/-- A slice of bytes as the print tells it. -/
def ints (l : List UInt8) : List Int := l.map fun b => (b.toNat : Int)
theorem ints_length (l : List UInt8) : (ints l).length = l.length := by simp [ints]
theorem ints_append (a b : List UInt8) : ints a ++ ints b = ints (a ++ b) := by simp [ints]
theorem ints_nil : ([] : List Int) = ints [] := rfl
theorem strOfNums_ints (l : List UInt8) : strOfNums (ints l) = mkS l := by
  unfold strOfNums ints mkS
  congr 2
  rw [List.map_map]
  conv => rhs; rw [← List.map_id l]
  apply List.map_congr_left
  intro b _
  simp
theorem ofNat_cast (n : Nat) : ((UInt8.ofNat n).toNat : Int) = (n : Int) % 256 := by simp
theorem ints_one (n : Nat) (x : Int) (h : x % 256 = ((n % 256 : Nat) : Int)) : [x % 256] = ints [UInt8.ofNat n] := by
  simp only [ints, List.map_cons, List.map_nil]
  rw [h, ofNat_cast]
  simp
theorem w64 {x : Int} (h0 : -9223372036854775808 ≤ x) (h1 : x ≤ 9223372036854775807) : wrap64 x = x := by unfold wrap64; omega
theorem bt_rng (s : ByteArray) (i : Int) : 0 ≤ bt s i ∧ bt s i ≤ 255 := by
  unfold bt
  by_cases h : i.toNat < s.size
  · rw [dif_pos h]
    have := (s[i.toNat]'h).toNat_lt
    omega
  · rw [dif_neg h]
    omega
theorem w64b (s : ByteArray) (i : Int) : wrap64 (bt s i) = bt s i := by have := bt_rng s i; exact w64 (by omega) (by omega)
theorem tdivp {x y : Int} (h : 0 ≤ x) : Int.tdiv x y = x / y := Int.tdiv_eq_ediv_of_nonneg h
theorem tmodp {x y : Int} (h : 0 ≤ x) : Int.tmod x y = x % y := Int.tmod_eq_emod_of_nonneg h
theorem shl_i64 {x y : Int} {n : Nat} (hy : y = (n : Int)) (hn : n ≤ 64) : shl .i64 x y = wrap64 (x * 2 ^ n) := by
  unfold shl
  have e : min y.toNat IntKind.i64.bits = n := by subst hy; simp [IntKind.bits]; omega
  rw [e, IntKind.wrap_i64, wrap64]
theorem shr_i64 {x y : Int} {n : Nat} (hy : y = (n : Int)) (hn : n ≤ 64) : shr .i64 x y = x / 2 ^ n := by
  unfold shr
  have e : min y.toNat IntKind.i64.bits = n := by subst hy; simp [IntKind.bits]; omega
  rw [e]
theorem evx {α : Type} {g : Nat → Option α} {r : α} (h : Ev g r) : ∃ K, ∀ k, K ≤ k → g k = some r := h
theorem evi {α : Type} {g : Nat → Option α} {r : α} (K : Nat) (h : ∀ k, K ≤ k → g k = some r) : Ev g r := ⟨K, h⟩

theorem impl_in_f (a b c : Int) : impl_in.f a b c = some (decide (b ≤ a ∧ a ≤ c)) := by
  unfold impl_in.f
  by_cases h : a ≥ b
  · rw [if_pos h]; congr 1; simp [h]
  · rw [if_neg h]; congr 1; simp; omega

theorem spec_l1In_f (a b c : Int) : spec_l1In.f a b c = some (decide (b ≤ a ∧ a ≤ c)) := by
  unfold spec_l1In.f
  by_cases h : a ≥ b
  · rw [if_pos h]; congr 1; simp [h]
  · rw [if_neg h]; congr 1; simp; omega

def keyOkB (l : List UInt8) : Bool := decide (1 ≤ l.length ∧ l.length ≤ 8)
theorem impl_KeyOk_f (l : List UInt8) : impl_KeyOk.f (mkS l) = some (keyOkB l) := by
  unfold impl_KeyOk.f keyOkB
  rw [impl_in_f, mkS_size]
  simp only [Option.bind_some]
  congr 1
  apply decide_eq_decide.2
  omega

theorem spec_KeyOk_f (l : List UInt8) : spec_KeyOk.f (mkS l) = some (keyOkB l) := by
  unfold spec_KeyOk.f keyOkB
  rw [spec_l1In_f, mkS_size]
  simp only [Option.bind_some]
  congr 1
  apply decide_eq_decide.2
  omega

def varL (n : Nat) : List UInt8 := if n < 128 then [UInt8.ofNat n] else UInt8.ofNat (n % 128 + 128) :: varL (n / 128)
termination_by n
decreasing_by omega
theorem varL_small {n : Nat} (h : n < 128) : varL n = [UInt8.ofNat n] := by rw [varL, if_pos h]
theorem varL_big {n : Nat} (h : ¬ n < 128) : varL n = UInt8.ofNat (n % 128 + 128) :: varL (n / 128) := by rw [varL, if_neg h]
theorem varL_pos (n : Nat) : 0 < (varL n).length := by
  by_cases h : n < 128
  · rw [varL_small h]; simp
  · rw [varL_big h]; simp
theorem varL_len (j : Nat) : ∀ n : Nat, n < 128 ^ (j + 1) → (varL n).length ≤ j + 1 := by
  induction j with
  | zero => intro n h; rw [varL_small (by omega)]; simp
  | succ j ih =>
    intro n h
    by_cases hn : n < 128
    · rw [varL_small hn]; simp
    · rw [varL_big hn, List.length_cons]
      have : n / 128 < 128 ^ (j + 1) := by rw [Nat.div_lt_iff_lt_mul (by omega)]; rw [Nat.pow_succ] at h; exact h
      have := ih _ this
      omega
theorem varL_len7 {n : Nat} (h : n ≤ 562949953421311) : (varL n).length ≤ 7 := varL_len 6 n (by omega)
/-- A number's text. -/
def varS (n : Int) : ByteArray := if 0 ≤ n ∧ n ≤ 562949953421311 then mkS (varL n.toNat) else mkS []
theorem varS_nat {n : Nat} (h : n ≤ 562949953421311) : varS (n : Int) = mkS (varL n) := by
  unfold varS
  rw [if_pos ⟨by omega, by omega⟩, Int.toNat_natCast]
/-- A text with its length ahead. -/
def textL (l : List UInt8) : List UInt8 := varL l.length ++ l
theorem textL_length (l : List UInt8) (h : l.length ≤ 562949953421311) : (textL l).length ≤ l.length + 7 := by have := varL_len7 h; rw [textL, List.length_append]; omega

theorem impl_Var_l0 (m : Nat) : ∀ (n : Nat) (acc : List UInt8), n ≤ 562949953421311 → n ≤ m → acc.length + n ≤ 600000000000000 → acc.length + (varL n).length ≤ 100000000000000 → Ev (fun k => impl_Var.l0 k (n : Int) (ints acc)) (mkS (acc ++ varL n)) := by
  induction m using Nat.strongRecOn with
  | ind m ih =>
  intro n acc hn hm _ hl
  have hlp := varL_pos n
  by_cases h : n < 128
  · refine evi (1) fun k hk => ?_
    obtain ⟨k, rfl⟩ : ∃ m, k = m + 1 := ⟨k - 1, by omega⟩
    simp only [impl_Var.l0]
    rw [if_neg (by omega), if_pos (by rw [ints_length]; omega), ints_one n _ (by omega), ints_append, strOfNums_ints, varL_small h]
  · have hd := varL_big h
    obtain ⟨K, hK⟩ := evx (ih (n / 128) (by omega) (n / 128) (acc ++ [UInt8.ofNat (n % 128 + 128)]) (by omega) (Nat.le_refl _) (by rw [List.length_append, List.length_singleton]; omega) (by rw [hd, List.length_cons] at hl; rw [List.length_append, List.length_singleton]; omega))
    refine evi (K + 1) fun k hk => ?_
    obtain ⟨k, rfl⟩ : ∃ m, k = m + 1 := ⟨k - 1, by omega⟩
    simp only [impl_Var.l0]
    rw [if_pos (by omega), if_pos (by rw [ints_length]; omega), tdivp (by omega), tmodp (by omega), w64 (by omega) (by omega), w64 (by omega) (by omega), ints_one (n % 128 + 128) _ (by omega), ints_append]
    have := hK k (by omega)
    simp only [Int.natCast_ediv] at this
    rw [hd, show (128 : Int) = ((128 : Nat) : Int) from rfl, this, List.append_assoc]
    rfl
theorem impl_Var_ev (n : Int) : Ev (fun k => impl_Var.f k n) (varS n) := by
  by_cases h : 0 ≤ n ∧ n ≤ 562949953421311
  · obtain ⟨m, rfl⟩ := Int.eq_ofNat_of_zero_le h.1
    have h7 := varL_len7 (n := m) (by omega)
    obtain ⟨K, hK⟩ := evx (impl_Var_l0 m m [] (by omega) (Nat.le_refl _) (by simp; omega) (by simp; omega))
    refine evi (K) fun k hk => ?_
    unfold impl_Var.f
    rw [impl_in_f]
    simp only [Option.bind_some]
    rw [if_pos (by simpa using h), ints_nil, hK k hk, varS, if_pos h]
    rfl
  · refine evi (0) fun k hk => ?_
    unfold impl_Var.f
    rw [impl_in_f]
    simp only [Option.bind_some]
    rw [if_neg (by simpa using h), varS, if_neg h]
    rfl

theorem spec_Var_l0 (m : Nat) : ∀ (n : Nat) (acc : List UInt8), n ≤ 562949953421311 → n ≤ m → acc.length + (varL n).length ≤ 100000000000000 → Ev (fun k => spec_Var.l0 k (n : Int) (ints acc)) (mkS (acc ++ varL n)) := by
  induction m using Nat.strongRecOn with
  | ind m ih =>
  intro n acc hn hm hl
  have hlp := varL_pos n
  by_cases h : n < 128
  · refine evi (1) fun k hk => ?_
    obtain ⟨k, rfl⟩ : ∃ m, k = m + 1 := ⟨k - 1, by omega⟩
    simp only [spec_Var.l0]
    rw [if_neg (by omega), if_pos (by rw [ints_length]; omega), ints_one n _ (by omega), ints_append, strOfNums_ints, varL_small h]
  · have hd := varL_big h
    obtain ⟨K, hK⟩ := evx (ih (n / 128) (by omega) (n / 128) (acc ++ [UInt8.ofNat (n % 128 + 128)]) (by omega) (Nat.le_refl _) (by rw [hd, List.length_cons] at hl; rw [List.length_append, List.length_singleton]; omega))
    refine evi (K + 1) fun k hk => ?_
    obtain ⟨k, rfl⟩ : ∃ m, k = m + 1 := ⟨k - 1, by omega⟩
    simp only [spec_Var.l0]
    rw [if_pos (by omega), if_pos (by rw [ints_length]; omega), tdivp (by omega), tmodp (by omega), w64 (by omega) (by omega), w64 (by omega) (by omega), ints_one (n % 128 + 128) _ (by omega), ints_append]
    have := hK k (by omega)
    simp only [Int.natCast_ediv] at this
    rw [hd, show (128 : Int) = ((128 : Nat) : Int) from rfl, this, List.append_assoc]
    rfl
theorem spec_Var_ev (n : Int) : Ev (fun k => spec_Var.f k n) (varS n) := by
  by_cases h : 0 ≤ n ∧ n ≤ 562949953421311
  · obtain ⟨m, rfl⟩ := Int.eq_ofNat_of_zero_le h.1
    have h7 := varL_len7 (n := m) (by omega)
    obtain ⟨K, hK⟩ := evx (spec_Var_l0 m m [] (by omega) (Nat.le_refl _) (by simp; omega))
    refine evi (K) fun k hk => ?_
    unfold spec_Var.f
    rw [spec_l1In_f]
    simp only [Option.bind_some]
    rw [if_pos (by simpa using h), ints_nil, hK k hk, varS, if_pos h]
    rfl
  · refine evi (0) fun k hk => ?_
    unfold spec_Var.f
    rw [spec_l1In_f]
    simp only [Option.bind_some]
    rw [if_neg (by simpa using h), varS, if_neg h]
    rfl

def fixL : Nat → Nat → List UInt8
  | 0, _ => []
  | w + 1, n => UInt8.ofNat (n / 256 ^ w) :: fixL w n
theorem fixL_length (w n : Nat) : (fixL w n).length = w := by induction w with
  | zero => rfl
  | succ w ih => rw [fixL, List.length_cons, ih]
def fixS (n w : Int) : ByteArray := if (1 ≤ w ∧ w ≤ 7) ∧ 0 ≤ n ∧ n < 256 ^ w.toNat then mkS (fixL w.toNat n.toNat) else mkS []
def beL (l : List UInt8) : Nat := l.foldl (fun a b => a * 256 + b.toNat) 0
theorem beL_snoc (l : List UInt8) (x : UInt8) : beL (l ++ [x]) = beL l * 256 + x.toNat := by simp [beL, List.foldl_append]
theorem beL_fold (l : List UInt8) : ∀ a : Nat, l.foldl (fun a b => a * 256 + b.toNat) a = a * 256 ^ l.length + beL l := by
  induction l with
  | nil => intro a; simp [beL]
  | cons x t ih =>
    intro a
    have e : beL (x :: t) = (0 * 256 + x.toNat) * 256 ^ t.length + beL t := ih _
    rw [List.foldl_cons, ih, e, List.length_cons, Nat.pow_succ, Nat.add_mul, Nat.zero_mul, Nat.zero_add, Nat.mul_assoc, Nat.mul_comm 256, Nat.add_assoc]
theorem beL_cons (x : UInt8) (t : List UInt8) : beL (x :: t) = x.toNat * 256 ^ t.length + beL t := by
  rw [beL, List.foldl_cons, beL_fold, Nat.zero_mul, Nat.zero_add]
theorem beL_lt (l : List UInt8) : beL l < 256 ^ l.length := by
  induction l with
  | nil => simp [beL]
  | cons x t ih =>
    rw [beL_cons, List.length_cons, Nat.pow_succ]
    have := x.toNat_lt
    have : x.toNat * 256 ^ t.length ≤ 255 * 256 ^ t.length := Nat.mul_le_mul_right _ (by omega)
    omega
theorem beL_fixL (w : Nat) : ∀ n, beL (fixL w n) = n % 256 ^ w := by
  induction w with
  | zero => intro n; simp [fixL, beL, Nat.mod_one]
  | succ w ih =>
    intro n
    rw [fixL, beL_cons, fixL_length, ih, Nat.pow_succ]
    have h1 : (UInt8.ofNat (n / 256 ^ w)).toNat = n / 256 ^ w % 256 := by simp
    rw [h1, Nat.mod_mul, Nat.mul_comm (n / 256 ^ w % 256), Nat.add_comm]
theorem fixL_beL (l : List UInt8) : ∀ w, l.length = w → ∀ c, fixL w (c * 256 ^ w + beL l) = l := by
  induction l with
  | nil => intro w h c; subst h; rfl
  | cons x t ih =>
    intro w h c
    subst h
    rw [List.length_cons, fixL]
    have hb := beL_lt t
    have e : c * 256 ^ (t.length + 1) + beL (x :: t) = (c * 256 + x.toNat) * 256 ^ t.length + beL t := by
      rw [beL_cons, Nat.pow_succ, Nat.add_mul, ← Nat.add_assoc, Nat.mul_assoc, Nat.mul_comm 256]
    rw [e, ih _ rfl]
    congr 1
    have e2 : ((c * 256 + x.toNat) * 256 ^ t.length + beL t) / 256 ^ t.length = c * 256 + x.toNat := by
      rw [Nat.mul_comm, Nat.mul_add_div (Nat.pow_pos (by omega)), Nat.div_eq_of_lt hb, Nat.add_zero]
    rw [e2]
    apply UInt8.toNat_inj.1
    have := x.toNat_lt
    rw [UInt8.toNat_ofNat']
    omega
theorem fixL_be (l : List UInt8) (w : Nat) (h : l.length = w) : fixL w (beL l) = l := by
  have := fixL_beL l w h 0
  rwa [Nat.zero_mul, Nat.zero_add] at this
theorem pow256_le {i : Nat} (h : i ≤ 7) : 256 ^ i ≤ 72057594037927936 := Nat.pow_le_pow_right (n := 256) (by omega) h
theorem pow_2_8 (i : Nat) : ((2 : Int) ^ (8 * i)) = ((256 ^ i : Nat) : Int) := by
  rw [show (256 : Nat) = 2 ^ 8 from rfl, ← Nat.pow_mul]
  simp

theorem impl_Fixed_l0 (n : Nat) (m : Nat) : ∀ (acc : List UInt8), m ≤ 7 → acc.length + m ≤ 100 → Ev (fun k => impl_Fixed.l0 k (n : Int) (ints acc) ((m : Int) - 1)) (mkS (acc ++ fixL m n)) := by
  induction m with
  | zero =>
    intro acc _ hl
    refine evi (1) fun k hk => ?_
    obtain ⟨k, rfl⟩ : ∃ m, k = m + 1 := ⟨k - 1, by omega⟩
    simp only [impl_Fixed.l0]
    rw [if_neg (by omega), strOfNums_ints, fixL, List.append_nil]
  | succ m ih =>
    intro acc hm hl
    obtain ⟨K, hK⟩ := evx (ih (acc ++ [UInt8.ofNat (n / 256 ^ m)]) (by omega) (by rw [List.length_append, List.length_singleton]; omega))
    refine evi (K + 1) fun k hk => ?_
    obtain ⟨k, rfl⟩ : ∃ m, k = m + 1 := ⟨k - 1, by omega⟩
    simp only [impl_Fixed.l0]
    rw [show (((m + 1 : Nat) : Int) - 1) = (m : Int) from by omega]
    rw [if_pos (by omega), w64 (x := 8 * (m : Int)) (by omega) (by omega), if_pos (by omega), if_pos (by rw [ints_length]; omega), shr_i64 (n := 8 * m) (by simp) (by omega), pow_2_8, w64 (by omega) (by omega), ints_one (n / 256 ^ m) _ (by rw [← Int.natCast_ediv]; omega), ints_append, hK k (by omega), fixL, List.append_assoc]
    rfl
theorem impl_Fixed_ev (n w : Int) : Ev (fun k => impl_Fixed.f k n w) (fixS n w) := by
  by_cases hw : 1 ≤ w ∧ w ≤ 7
  · obtain ⟨m, rfl⟩ := Int.eq_ofNat_of_zero_le (show 0 ≤ w by omega)
    have hp := pow256_le (i := m) (by omega)
    have hp0 : 0 < 256 ^ m := Nat.pow_pos (by omega)
    have e1 : wrap64 (shl .i64 1 (wrap64 (8 * (m : Int))) - 1) = ((256 ^ m : Nat) : Int) - 1 := by
      rw [w64 (x := 8 * (m : Int)) (by omega) (by omega), shl_i64 (n := 8 * m) (by simp) (by omega), pow_2_8, Int.one_mul, w64 (x := ((256 ^ m : Nat) : Int)) (by omega) (by omega), w64 (by omega) (by omega)]
    have hcast : ((256 : Int) ^ m) = ((256 ^ m : Nat) : Int) := by simp
    by_cases hn : 0 ≤ n ∧ n < 256 ^ m
    · have hn2 := hn.2
      rw [hcast] at hn2
      obtain ⟨q, rfl⟩ := Int.eq_ofNat_of_zero_le hn.1
      obtain ⟨K, hK⟩ := evx (impl_Fixed_l0 q m [] (by omega) (by simp; omega))
      refine evi (K + 1) fun k hk => ?_
      obtain ⟨k, rfl⟩ : ∃ m, k = m + 1 := ⟨k - 1, by omega⟩
      unfold impl_Fixed.f
      rw [impl_in_f]
      simp only [Option.bind_some]
      rw [if_pos (by simpa using hw), if_pos (by rw [w64 (by omega) (by omega)]; omega), e1, impl_in_f]
      simp only [Option.bind_some, impl_Fixed.j0]
      rw [if_neg (by simp; omega), w64 (by omega) (by omega), ints_nil, hK k (by omega), fixS, if_pos ⟨hw, by simpa using hn⟩]
      simp
    · refine evi (1) fun k hk => ?_
      obtain ⟨k, rfl⟩ : ∃ m, k = m + 1 := ⟨k - 1, by omega⟩
      unfold impl_Fixed.f
      rw [impl_in_f]
      simp only [Option.bind_some]
      rw [if_pos (by simpa using hw), if_pos (by rw [w64 (by omega) (by omega)]; omega), e1, impl_in_f]
      simp only [Option.bind_some, impl_Fixed.j0]
      rw [hcast] at hn
      rw [if_pos (by simp only [Bool.not_eq_true', decide_eq_false_iff_not]; omega), fixS, if_neg (fun h => hn (by rw [← hcast]; simpa using h.2))]
      rfl
  · refine evi (1) fun k hk => ?_
    obtain ⟨k, rfl⟩ : ∃ m, k = m + 1 := ⟨k - 1, by omega⟩
    unfold impl_Fixed.f
    rw [impl_in_f]
    simp only [Option.bind_some, impl_Fixed.j0]
    rw [if_neg (by simpa using hw), if_pos trivial, fixS, if_neg (fun h => hw h.1)]
    rfl

theorem spec_Fixed_l0 (n : Nat) (w : Nat) (hw : w ≤ 7) (hn : n ≤ 9223372036854775807) (d : Nat) : ∀ (i : Nat), d + i = w → Ev (fun k => spec_Fixed.l0 k ((n / 256 ^ i : Nat) : Int) (w : Int) (mkS (fixL i n)) (i : Int)) (if n / 256 ^ w = 0 then mkS (fixL w n) else mkS []) := by
  induction d with
  | zero =>
    intro i hi
    obtain rfl : i = w := by omega
    refine evi (1) fun k hk => ?_
    obtain ⟨k, rfl⟩ : ∃ m, k = m + 1 := ⟨k - 1, by omega⟩
    simp only [spec_Fixed.l0]
    rw [if_neg (by omega)]
    by_cases h : n / 256 ^ i = 0
    · rw [if_neg (by rw [h]; omega), if_pos h]
    · rw [if_pos (by have : 0 < n / 256 ^ i := Nat.pos_of_ne_zero h; omega), if_neg h]
      rfl
  | succ d ih =>
    intro i hi
    obtain ⟨K, hK⟩ := evx (ih (i + 1) (by omega))
    refine evi (K + 1) fun k hk => ?_
    obtain ⟨k, rfl⟩ : ∃ m, k = m + 1 := ⟨k - 1, by omega⟩
    have hq : n / 256 ^ i ≤ n := Nat.div_le_self _ _
    have this := hK k (by omega)
    rw [fixL, Nat.pow_succ, ← Nat.div_div_eq_div_mul] at this
    generalize n / 256 ^ i = q at *
    simp only [spec_Fixed.l0, Option.bind_some]
    rw [if_pos (by omega), tmodp (by omega), tdivp (by omega), ints_one q _ (by omega), strOfNums_ints, if_pos (by rw [mkS_size, mkS_size, fixL_length]; simp; omega), mkS_append, w64 (by omega) (by omega), w64 (by omega) (by omega)]
    rw [show ((q : Int) / 256) = ((q / 256 : Nat) : Int) from by omega, show ((i : Int) + 1) = ((i + 1 : Nat) : Int) from by omega]
    exact this
theorem spec_Fixed_ev (n w : Int) (hn : n ≤ 9223372036854775807) : Ev (fun k => spec_Fixed.f k n w) (fixS n w) := by
  by_cases hw : 1 ≤ w ∧ w ≤ 7
  · by_cases h0 : n < 0
    · refine evi (1) fun k hk => ?_
      obtain ⟨k, rfl⟩ : ∃ m, k = m + 1 := ⟨k - 1, by omega⟩
      unfold spec_Fixed.f
      rw [spec_l1In_f]
      simp only [Option.bind_some, spec_Fixed.j0]
      rw [if_pos (by simpa using hw), if_pos (by simpa using h0), fixS, if_neg (fun h => by omega)]
      rfl
    · obtain ⟨m, rfl⟩ := Int.eq_ofNat_of_zero_le (show 0 ≤ w by omega)
      obtain ⟨q, rfl⟩ := Int.eq_ofNat_of_zero_le (show 0 ≤ n by omega)
      obtain ⟨K, hK⟩ := evx (spec_Fixed_l0 q m (by omega) (by omega) m 0 (by omega))
      refine evi (K + 1) fun k hk => ?_
      obtain ⟨k, rfl⟩ : ∃ m, k = m + 1 := ⟨k - 1, by omega⟩
      have hcast : ((256 : Int) ^ m) = ((256 ^ m : Nat) : Int) := by simp
      have hp0 : 0 < 256 ^ m := Nat.pow_pos (by omega)
      unfold spec_Fixed.f
      rw [spec_l1In_f]
      simp only [Option.bind_some, spec_Fixed.j0]
      rw [if_pos (by simpa using hw), if_neg (by simp), mkS_nil]
      have := hK k (by omega)
      rw [Nat.pow_zero, Nat.div_one] at this
      refine this.trans ?_
      rw [fixS]
      by_cases hlt : q < 256 ^ m
      · rw [if_pos (Nat.div_eq_of_lt hlt), if_pos ⟨hw, by omega, by rw [Int.toNat_natCast, hcast]; omega⟩, Int.toNat_natCast, Int.toNat_natCast]
      · rw [if_neg (by rw [Nat.div_eq_zero_iff]; omega), if_neg (fun h => hlt (by have := h.2.2; rw [Int.toNat_natCast, hcast] at this; omega))]
  · refine evi (1) fun k hk => ?_
    obtain ⟨k, rfl⟩ : ∃ m, k = m + 1 := ⟨k - 1, by omega⟩
    unfold spec_Fixed.f
    rw [spec_l1In_f]
    simp only [Option.bind_some, spec_Fixed.j0]
    rw [if_neg (by simpa using hw), if_pos trivial, fixS, if_neg (fun h => hw h.1)]
    rfl

/-- What a text begins with: a number, and how many bytes it has; at most f bytes; 'first': a zero byte may be all of it. -/
def rvF : Nat → Bool → List UInt8 → Option (Nat × Nat)
  | 0, _, _ => none
  | _ + 1, _, [] => none
  | f + 1, first, x :: t => if x.toNat < 128 then (if x.toNat = 0 ∧ first = false then none else some (x.toNat, 1)) else (rvF f false t).map fun p => (x.toNat % 128 + 128 * p.1, p.2 + 1)
def rv (l : List UInt8) : Option (Nat × Nat) := rvF 7 true l
/-- The number and how many bytes; two zeros where there is none. -/
def rvP (l : List UInt8) : Nat × Nat := (rv l).getD (0, 0)
theorem byte_ext {a b : UInt8} (h : a.toNat = b.toNat) : a = b := UInt8.toNat_inj.1 h
theorem ofNat_toNat_lt (n : Nat) (h : n < 256) : (UInt8.ofNat n).toNat = n := by simp; omega
theorem rvF_sound (f : Nat) : ∀ (first : Bool) (l : List UInt8) (n k : Nat), rvF f first l = some (n, k) → 0 < k ∧ k ≤ f ∧ k ≤ l.length ∧ l.take k = varL n ∧ n < 128 ^ f ∧ (first = false → n ≠ 0) := by
  induction f with
  | zero => intro first l n k h; simp [rvF] at h
  | succ f ih =>
    intro first l n k h
    cases l with
    | nil => simp [rvF] at h
    | cons x t =>
      rw [rvF] at h
      by_cases hx : x.toNat < 128
      · rw [if_pos hx] at h
        by_cases hz : x.toNat = 0 ∧ first = false
        · rw [if_pos hz] at h; cases h
        · rw [if_neg hz] at h
          injection h with h
          obtain ⟨rfl, rfl⟩ := Prod.mk.inj h
          have hp : 128 ≤ 128 ^ (f + 1) := by rw [Nat.pow_succ]; exact Nat.le_mul_of_pos_left _ (Nat.pow_pos (by omega))
          refine ⟨by omega, by omega, by simp, ?_, by omega, fun hf hn => hz ⟨hn, hf⟩⟩
          rw [varL_small hx]
          simp
      · rw [if_neg hx] at h
        obtain ⟨⟨n', k'⟩, hr, he⟩ := Option.map_eq_some_iff.1 h
        obtain ⟨rfl, rfl⟩ := Prod.mk.inj he
        obtain ⟨h1, h2, h3, h4, h5, h6⟩ := ih false t n' k' hr
        have hn' := h6 rfl
        have hb := x.toNat_lt
        simp only at *
        refine ⟨by omega, by omega, by simp only [List.length_cons]; omega, ?_, by rw [Nat.pow_succ]; omega, fun _ => by omega⟩
        rw [varL_big (by omega), List.take_succ_cons, h4]
        congr 1
        · apply byte_ext
          rw [ofNat_toNat_lt _ (by omega)]
          omega
        · congr 1
          omega
theorem rvF_complete (f : Nat) : ∀ (first : Bool) (n : Nat) (t : List UInt8), n < 128 ^ (f + 1) → (first = false → n ≠ 0) → rvF (f + 1) first (varL n ++ t) = some (n, (varL n).length) := by
  induction f with
  | zero =>
    intro first n t h h0
    have hn : n < 128 := by simpa using h
    rw [varL_small hn, List.singleton_append, rvF, ofNat_toNat_lt _ (by omega), if_pos hn, if_neg (fun hh => h0 hh.2 hh.1)]
    rfl
  | succ f ih =>
    intro first n t h h0
    by_cases hn : n < 128
    · rw [varL_small hn, List.singleton_append, rvF, ofNat_toNat_lt _ (by omega), if_pos hn, if_neg (fun hh => h0 hh.2 hh.1)]
      rfl
    · rw [varL_big hn, List.cons_append, rvF, ofNat_toNat_lt _ (by omega), if_neg (by omega)]
      rw [ih false (n / 128) t (by rw [Nat.div_lt_iff_lt_mul (by omega)]; rw [Nat.pow_succ] at h; exact h) (fun _ => by omega)]
      simp only [Option.map_some, List.length_cons]
      congr 2
      omega
theorem rv_sound {l : List UInt8} {n k : Nat} (h : rv l = some (n, k)) : 0 < k ∧ k ≤ 7 ∧ k ≤ l.length ∧ l.take k = varL n ∧ n ≤ 562949953421311 := by
  obtain ⟨h1, h2, h3, h4, h5, _⟩ := rvF_sound 7 true l n k h
  exact ⟨h1, h2, h3, h4, by omega⟩
theorem rv_complete {n : Nat} (t : List UInt8) (h : n ≤ 562949953421311) : rv (varL n ++ t) = some (n, (varL n).length) :=
  rvF_complete 6 true n t (by omega) (fun h => by cases h)
theorem rvP_none {l : List UInt8} (h : rv l = none) : rvP l = (0, 0) := by rw [rvP, h]; rfl
theorem rvP_some {l : List UInt8} {p : Nat × Nat} (h : rv l = some p) : rvP l = p := by rw [rvP, h]; rfl
def rvAdd (n i : Nat) : Option (Nat × Nat) → Int × Int
  | none => (0, 0)
  | some p => (((n + 128 ^ i * p.1 : Nat) : Int), ((i + p.2 : Nat) : Int))
theorem pow_2_7 (i : Nat) : ((2 : Int) ^ (7 * i)) = ((128 ^ i : Nat) : Int) := by
  rw [show (128 : Nat) = 2 ^ 7 from rfl, ← Nat.pow_mul]
  simp
theorem pow128_le {i : Nat} (h : i ≤ 6) : 128 ^ i ≤ 4398046511104 := Nat.pow_le_pow_right (n := 128) (by omega) h
theorem impl_ReadVar_l0 (l : List UInt8) (f : Nat) : ∀ (n i : Nat), f + i = 7 → n < 128 ^ i → Ev (fun k => impl_ReadVar.l0 k (mkS l) (n : Int) (i : Int)) (rvAdd n i (rvF f (decide (i = 0)) (l.drop i))) := by
  induction f with
  | zero =>
    intro n i hi hn
    refine evi (2) fun k hk => ?_
    obtain ⟨k, rfl⟩ : ∃ m, k = m + 2 := ⟨k - 2, by omega⟩
    simp only [impl_ReadVar.l0, impl_ReadVar.j1]
    rw [if_neg (by omega), if_neg (by decide)]
    rfl
  | succ f ih =>
    intro n i hi hn
    have hP := pow128_le (i := i) (by omega)
    by_cases hlt : i < l.length
    · have hx := (l[i]).toNat_lt
      have hd := List.drop_eq_getElem_cons hlt
      by_cases hx128 : (l[i]).toNat < 128
      · refine evi (2) fun k hk => ?_
        obtain ⟨k, rfl⟩ : ∃ m, k = m + 2 := ⟨k - 2, by omega⟩
        simp only [impl_ReadVar.l0, impl_ReadVar.j1]
        rw [if_pos (by omega), if_pos (by rw [mkS_size]; simpa using hlt), if_pos (by omega), if_pos (by rw [mkS_size]; simpa using hlt), if_pos (by rw [w64 (by omega) (by omega)]; omega), w64b, bt_mkS l i hlt, if_neg (by omega)]
        rw [tmodp (by omega), shl_i64 (n := 7 * i) (by rw [w64 (by omega) (by omega)]; simp) (by omega), pow_2_7, w64 (x := (i : Int) + 1) (by omega) (by omega)]
        have e : ((l[i].toNat : Int) % 128) = ((l[i].toNat : Nat) : Int) := by omega
        have hm : l[i].toNat * 128 ^ i ≤ 127 * 128 ^ i := Nat.mul_le_mul_right _ (by omega)
        have e2 : wrap64 ((n : Int) + wrap64 (((l[i].toNat : Int) % 128) * ((128 ^ i : Nat) : Int))) = ((n + 128 ^ i * l[i].toNat : Nat) : Int) := by
          rw [e, ← Int.natCast_mul, Nat.mul_comm (128 ^ i)]
          rw [w64 (x := ((l[i].toNat * 128 ^ i : Nat) : Int)) (by omega) (by omega), w64 (by omega) (by omega)]
          omega
        rw [e2, hd, rvF, if_pos hx128]
        by_cases hz : l[i].toNat = 0
        · rw [if_pos (by omega)]
          by_cases hi0 : i = 0
          · rw [if_neg (by omega), if_neg (by simp [hi0])]
            rfl
          · rw [if_pos (by omega), if_pos (by simp [hi0, hz])]
            rfl
        · rw [if_neg (by omega), if_neg (fun hh => hz hh.1)]
          rfl
      · have hm : (l[i].toNat % 128) * 128 ^ i ≤ 127 * 128 ^ i := Nat.mul_le_mul_right _ (by omega)
        obtain ⟨K, hK⟩ := evx (ih (n + 128 ^ i * (l[i].toNat % 128)) (i + 1) (by omega) (by rw [Nat.pow_succ, Nat.mul_comm (128 ^ i) (l[i].toNat % 128)]; omega))
        refine evi (K + 2) fun k hk => ?_
        obtain ⟨k, rfl⟩ : ∃ m, k = m + 2 := ⟨k - 2, by omega⟩
        simp only [impl_ReadVar.l0, impl_ReadVar.j1]
        rw [if_pos (by omega), if_pos (by rw [mkS_size]; simpa using hlt), if_pos (by omega), if_pos (by rw [mkS_size]; simpa using hlt), if_pos (by rw [w64 (by omega) (by omega)]; omega), w64b, bt_mkS l i hlt, if_pos (by omega)]
        rw [tmodp (by omega), shl_i64 (n := 7 * i) (by rw [w64 (by omega) (by omega)]; simp) (by omega), pow_2_7, w64 (x := (i : Int) + 1) (by omega) (by omega)]
        have e2 : wrap64 ((n : Int) + wrap64 (((l[i].toNat : Int) % 128) * ((128 ^ i : Nat) : Int))) = ((n + 128 ^ i * (l[i].toNat % 128) : Nat) : Int) := by
          rw [show ((l[i].toNat : Int) % 128) = ((l[i].toNat % 128 : Nat) : Int) from by omega, ← Int.natCast_mul, Nat.mul_comm (128 ^ i)]
          rw [w64 (x := ((l[i].toNat % 128 * 128 ^ i : Nat) : Int)) (by omega) (by omega), w64 (by omega) (by omega)]
          omega
        rw [e2, show ((i : Int) + 1) = ((i + 1 : Nat) : Int) from by omega, hK k (by omega), hd, rvF, if_neg hx128]
        have hdec : decide (i + 1 = 0) = false := by simp
        rw [hdec]
        cases rvF f false (l.drop (i + 1)) with
        | none => rfl
        | some p =>
          simp only [Option.map_some, rvAdd]
          congr 2
          · rw [Nat.pow_succ, Nat.mul_add, Nat.mul_assoc, Nat.add_assoc]
          · omega
    · refine evi (2) fun k hk => ?_
      obtain ⟨k, rfl⟩ : ∃ m, k = m + 2 := ⟨k - 2, by omega⟩
      simp only [impl_ReadVar.l0, impl_ReadVar.j1]
      rw [if_pos (by omega), if_neg (by rw [mkS_size]; simpa using hlt), List.drop_of_length_le (by omega)]
      rfl
/-- A number and how many bytes it has, as Go's two results. -/
def rvI (l : List UInt8) : Int × Int := (((rvP l).1 : Int), ((rvP l).2 : Int))
theorem rvAdd_rvI (l : List UInt8) : rvAdd 0 0 (rv l) = rvI l := by
  unfold rvI rvP
  cases rv l with
  | none => rfl
  | some p => simp [rvAdd]
theorem impl_ReadVar_ev (l : List UInt8) : Ev (fun k => impl_ReadVar.f k (mkS l)) (rvI l) := by
  have h := impl_ReadVar_l0 l 7 0 0 rfl (by simp)
  rw [List.drop_zero] at h
  rw [← rvAdd_rvI]
  exact h

/-- A number in so many bytes, and whether it is there. -/
def rfI (l : List UInt8) (w : Int) : Int × Bool := if (1 ≤ w ∧ w ≤ 7) ∧ w ≤ l.length then (((beL (l.take w.toNat) : Nat) : Int), true) else (0, false)
theorem or_join (n b : Nat) (hn : n < 256 ^ 6) (hb : b < 256) : Go.bits .or .i64 (wrap64 ((n : Int) * 256)) (b : Int) = ((n * 256 + b : Nat) : Int) := by
  rw [w64 (by omega) (by omega)]
  rw [bits_join .i64 63 (by decide) (fun m h0 h1 => by rw [IntKind.wrap_i64]; omega) 8 ((n : Int) * 256) (b : Int) (by omega) (by omega) (by omega) (by omega) (by omega) (by omega)]
  omega
theorem impl_ReadFixed_l0 (l : List UInt8) (w : Nat) (hw : w ≤ 7) (hl : w ≤ l.length) (d : Nat) : ∀ (i : Nat), d + i = w → Ev (fun k => impl_ReadFixed.l0 k (mkS l) ((beL (l.take i) : Nat) : Int) (w : Int) (i : Int)) (((beL (l.take w) : Nat) : Int), true) := by
  induction d with
  | zero =>
    intro i hi
    obtain rfl : i = w := by omega
    refine evi (1) fun k hk => ?_
    obtain ⟨k, rfl⟩ : ∃ m, k = m + 1 := ⟨k - 1, by omega⟩
    simp only [impl_ReadFixed.l0]
    rw [if_neg (by omega)]
  | succ d ih =>
    intro i hi
    obtain ⟨K, hK⟩ := evx (ih (i + 1) (by omega))
    refine evi (K + 1) fun k hk => ?_
    obtain ⟨k, rfl⟩ : ∃ m, k = m + 1 := ⟨k - 1, by omega⟩
    have hlt : i < l.length := by omega
    have hv := beL_lt (l.take i)
    have hp : 256 ^ (l.take i).length ≤ 256 ^ 6 := Nat.pow_le_pow_right (by omega) (by rw [List.length_take]; omega)
    simp only [impl_ReadFixed.l0]
    rw [if_pos (by omega), if_pos (by omega), if_pos (by rw [mkS_size]; omega), w64b, bt_mkS l i hlt, or_join _ _ (by omega) (l[i]).toNat_lt, w64 (by omega) (by omega)]
    have := hK k (by omega)
    rw [List.take_succ_eq_append_getElem hlt, beL_snoc] at this
    exact this
theorem impl_ReadFixed_ev (l : List UInt8) (w : Int) : Ev (fun k => impl_ReadFixed.f k (mkS l) w) (rfI l w) := by
  by_cases hw : 1 ≤ w ∧ w ≤ 7
  · by_cases hl : w ≤ l.length
    · obtain ⟨m, rfl⟩ := Int.eq_ofNat_of_zero_le (show 0 ≤ w by omega)
      obtain ⟨K, hK⟩ := evx (impl_ReadFixed_l0 l m (by omega) (by omega) m 0 (by omega))
      refine evi (K + 1) fun k hk => ?_
      obtain ⟨k, rfl⟩ : ∃ m, k = m + 1 := ⟨k - 1, by omega⟩
      unfold impl_ReadFixed.f
      rw [impl_in_f]
      simp only [Option.bind_some, impl_ReadFixed.j0]
      rw [if_pos (by simpa using hw), if_neg (by rw [mkS_size]; simp; omega), rfI, if_pos ⟨hw, hl⟩, Int.toNat_natCast]
      exact hK k (by omega)
    · refine evi (1) fun k hk => ?_
      obtain ⟨k, rfl⟩ : ∃ m, k = m + 1 := ⟨k - 1, by omega⟩
      unfold impl_ReadFixed.f
      rw [impl_in_f]
      simp only [Option.bind_some, impl_ReadFixed.j0]
      rw [if_pos (by simpa using hw), if_pos (by rw [mkS_size]; simp; omega), rfI, if_neg (fun h => hl h.2)]
  · refine evi (1) fun k hk => ?_
    obtain ⟨k, rfl⟩ : ∃ m, k = m + 1 := ⟨k - 1, by omega⟩
    unfold impl_ReadFixed.f
    rw [impl_in_f]
    simp only [Option.bind_some, impl_ReadFixed.j0]
    rw [if_neg (by simpa using hw), if_pos trivial, rfI, if_neg (fun h => hw h.1)]

def varB (n : Int) : List UInt8 := if 0 ≤ n ∧ n ≤ 562949953421311 then varL n.toNat else []
theorem varS_B (n : Int) : varS n = mkS (varB n) := by unfold varS varB; split <;> rfl
theorem varB_length (n : Int) : (varB n).length ≤ 7 := by
  unfold varB
  split
  · exact varL_len7 (by omega)
  · simp
theorem varB_nat {n : Nat} (h : n ≤ 562949953421311) : varB (n : Int) = varL n := by unfold varB; rw [if_pos ⟨by omega, by omega⟩, Int.toNat_natCast]
def varsL (l : List Int) : List UInt8 := l.flatMap varB
theorem varsL_cons (a : Int) (t : List Int) : varsL (a :: t) = varB a ++ varsL t := by simp [varsL]
theorem varsL_length (l : List Int) : (varsL l).length ≤ 7 * l.length := by
  induction l with
  | nil => simp [varsL]
  | cons a t ih =>
    have := varB_length a
    have e : varsL (a :: t) = varB a ++ varsL t := by simp [varsL]
    rw [e, List.length_append, List.length_cons]
    omega
theorem impl_vars_l0 (l : List Int) (hl : l.length ≤ 1099511627776) (d : Nat) : ∀ (i : Nat) (acc : List UInt8), d + i = l.length → acc.length + 7 * d ≤ 100000000000000 → Ev (fun k => impl_vars.l0 k (mkS acc) l (l.length : Int) (i : Int)) (mkS (acc ++ varsL (l.drop i))) := by
  induction d with
  | zero =>
    intro i acc hi ha
    refine evi (1) fun k hk => ?_
    obtain ⟨k, rfl⟩ : ∃ m, k = m + 1 := ⟨k - 1, by omega⟩
    simp only [impl_vars.l0]
    rw [if_neg (by omega), List.drop_of_length_le (by omega)]
    simp [varsL]
  | succ d ih =>
    intro i acc hi ha
    have hlt : i < l.length := by omega
    have hrd : rd l (i : Int) = l[i] := by simp [rd, hlt]
    have hb := varB_length l[i]
    obtain ⟨K1, h1⟩ := evx (impl_Var_ev l[i])
    obtain ⟨K, hK⟩ := evx (ih (i + 1) (acc ++ varB l[i]) (by omega) (by rw [List.length_append]; omega))
    refine evi (K + K1 + 1) fun k hk => ?_
    obtain ⟨k, rfl⟩ : ∃ m, k = m + 1 := ⟨k - 1, by omega⟩
    have hgo := hK k (by omega)
    simp only [impl_vars.l0]
    rw [if_pos (by omega), if_pos (by omega), if_pos (by omega), hrd, h1 k (by omega), varS_B]
    simp only [Option.bind_some]
    rw [if_pos (by rw [mkS_size, mkS_size]; omega), mkS_append, w64 (by omega) (by omega), show ((i : Int) + 1) = ((i + 1 : Nat) : Int) from by omega, hgo, List.drop_eq_getElem_cons hlt, varsL_cons, List.append_assoc]
theorem impl_vars_ev (l : List Int) (hl : l.length ≤ 1048576) : Ev (fun k => impl_vars.f k l) (mkS (varsL l)) := by
  have := impl_vars_l0 l (by omega) l.length 0 [] rfl (by simp only [List.length_nil]; omega)
  exact this

theorem impl_textOf_ev (l : List UInt8) (hl : l.length ≤ 562949953421311) : Ev (fun k => impl_textOf.f k (mkS l)) (mkS (textL l)) := by
  obtain ⟨K, hK⟩ := evx (impl_Var_ev (l.length : Int))
  have h7 := varL_len7 hl
  refine evi (K) fun k hk => ?_
  unfold impl_textOf.f
  rw [mkS_size, hK k hk, varS_nat hl]
  simp only [Option.bind_some]
  rw [if_pos (by rw [mkS_size]; omega), mkS_append]
  rfl

/-- A record is right: its kind, batch, key, value, count and sum. -/
def recOk (kind batch : Int) (key value : List UInt8) (count sum : Int) : Bool :=
  decide (0 ≤ batch ∧ batch ≤ 1000000) && (decide (batch ≠ 0) || decide (kind = 5)) &&
  (if kind = 1 ∨ kind = 4 then keyOkB key && decide (value.length ≤ 24) && decide (count = 0) && decide (sum = 0)
   else if kind = 2 then keyOkB key && decide (value = []) && decide (count = 0) && decide (sum = 0)
   else if kind = 3 then decide (key = []) && decide (value = []) && decide (0 ≤ count ∧ count ≤ 8) && decide (0 ≤ sum ∧ sum ≤ 4294967295)
   else if kind = 5 then decide (key = []) && decide (value = []) && decide (0 ≤ count ∧ count ≤ 20) && decide (0 ≤ sum ∧ sum ≤ 4294967295)
   else false)

theorem impl_RecOk_f (kind batch count sum : Int) (key value : List UInt8) (k : Nat) (hk : 0 < k) : impl_RecOk.f k kind batch (mkS key) (mkS value) count sum = some (recOk kind batch key value count sum) := by
  obtain ⟨k, rfl⟩ : ∃ m, k = m + 1 := ⟨k - 1, by omega⟩
  unfold impl_RecOk.f
  simp only [impl_RecOk.j0, impl_KeyOk_f, impl_in_f, Option.bind_some, mkS_size, mkS_toList, mkS_nil, beq_iff_eq, decide_eq_true_eq, Bool.false_eq_true, if_false]
  unfold recOk
  generalize keyOkB key = kb
  have hv : value = [] ↔ value.length = 0 := by simp
  have hke : key = [] ↔ key.length = 0 := by simp
  clear hk
  by_cases h1 : kind = 1
  · subst h1; cases kb <;> simp <;> (repeat' split) <;> simp_all <;> (try rw [Bool.eq_iff_iff]) <;> (try simp) <;> (try omega) <;> (try (constructor <;> (intro hh; simp_all <;> omega)))
  · by_cases h4 : kind = 4
    · subst h4; cases kb <;> simp <;> (repeat' split) <;> simp_all <;> (try rw [Bool.eq_iff_iff]) <;> (try simp) <;> (try omega) <;> (try (constructor <;> (intro hh; simp_all <;> omega)))
    · by_cases h2 : kind = 2
      · subst h2; cases kb <;> simp <;> (repeat' split) <;> simp_all <;> (try rw [Bool.eq_iff_iff]) <;> (try simp) <;> (try omega) <;> (try (constructor <;> (intro hh; simp_all <;> omega)))
      · by_cases h3 : kind = 3
        · subst h3; simp <;> (repeat' split) <;> simp_all <;> (try rw [Bool.eq_iff_iff]) <;> (try simp) <;> (try omega) <;> (try (constructor <;> (intro hh; simp_all <;> omega)))
        · by_cases h5 : kind = 5
          · subst h5; simp <;> (repeat' split) <;> simp_all <;> (try rw [Bool.eq_iff_iff]) <;> (try simp) <;> (try omega) <;> (try (constructor <;> (intro hh; simp_all <;> omega)))
          · simp [h1, h2, h3, h4, h5]

theorem spec_RecOk_f (kind batch count sum : Int) (key value : List UInt8) (k : Nat) (hk : 1 < k) : spec_RecOk.f k kind batch (mkS key) (mkS value) count sum = some (recOk kind batch key value count sum) := by
  obtain ⟨k, rfl⟩ : ∃ m, k = m + 2 := ⟨k - 2, by omega⟩
  unfold spec_RecOk.f
  simp only [spec_RecOk.j0, spec_RecOk.j1, spec_KeyOk_f, spec_l1In_f, Option.bind_some, mkS_size, mkS_toList, mkS_nil, beq_iff_eq, bne_iff_ne, decide_eq_true_eq, Bool.false_eq_true, if_false, if_true]
  unfold recOk
  generalize keyOkB key = kb
  have hv : value = [] ↔ value.length = 0 := by simp
  have hke : key = [] ↔ key.length = 0 := by simp
  clear hk
  by_cases h1 : kind = 1
  · subst h1; cases kb <;> simp <;> (repeat' split) <;> simp_all <;> (try rw [Bool.eq_iff_iff]) <;> (try simp) <;> (try omega) <;> (try (constructor <;> (intro hh; simp_all <;> omega)))
  · by_cases h4 : kind = 4
    · subst h4; cases kb <;> simp <;> (repeat' split) <;> simp_all <;> (try rw [Bool.eq_iff_iff]) <;> (try simp) <;> (try omega) <;> (try (constructor <;> (intro hh; simp_all <;> omega)))
    · by_cases h2 : kind = 2
      · subst h2; cases kb <;> simp <;> (repeat' split) <;> simp_all <;> (try rw [Bool.eq_iff_iff]) <;> (try simp) <;> (try omega) <;> (try (constructor <;> (intro hh; simp_all <;> omega)))
      · by_cases h3 : kind = 3
        · subst h3; simp <;> (repeat' split) <;> simp_all <;> (try rw [Bool.eq_iff_iff]) <;> (try simp) <;> (try omega) <;> (try (constructor <;> (intro hh; simp_all <;> omega)))
        · by_cases h5 : kind = 5
          · subst h5; simp <;> (repeat' split) <;> simp_all <;> (try rw [Bool.eq_iff_iff]) <;> (try simp) <;> (try omega) <;> (try (constructor <;> (intro hh; simp_all <;> omega)))
          · simp [h1, h2, h3, h4, h5]

def showRec (kind batch : Int) (key value : List UInt8) (count sum : Int) : List UInt8 :=
  if recOk kind batch key value count sum = true then
    (varB kind ++ varB batch) ++ (if kind = 1 ∨ kind = 4 then textL key ++ textL value else if kind = 2 then textL key else varB count ++ fixL 4 sum.toNat)
  else []
theorem recOk_key {kind batch : Int} {key value : List UInt8} {count sum : Int} (h : recOk kind batch key value count sum = true) : key.length ≤ 8 ∧ value.length ≤ 24 ∧ (¬ (kind = 1 ∨ kind = 4) → ¬ kind = 2 → 0 ≤ sum ∧ sum ≤ 4294967295) := by
  unfold recOk keyOkB at h
  simp only [Bool.and_eq_true] at h
  obtain ⟨_, h⟩ := h
  split at h
  · simp only [Bool.and_eq_true, decide_eq_true_eq] at h
    exact ⟨by omega, by omega, fun hh => absurd ‹_› hh⟩
  · split at h
    · simp only [Bool.and_eq_true, decide_eq_true_eq] at h
      refine ⟨by omega, by rw [h.1.1.2]; simp, fun _ hh => absurd ‹_› hh⟩
    · split at h
      · simp only [Bool.and_eq_true, decide_eq_true_eq] at h
        exact ⟨by rw [h.1.1.1]; simp, by rw [h.1.1.2]; simp, fun _ _ => h.2⟩
      · split at h
        · simp only [Bool.and_eq_true, decide_eq_true_eq] at h
          exact ⟨by rw [h.1.1.1]; simp, by rw [h.1.1.2]; simp, fun _ _ => h.2⟩
        · cases h
theorem fixS_sum {s : Int} (h0 : 0 ≤ s) (h1 : s ≤ 4294967295) : fixS s 4 = mkS (fixL 4 s.toNat) := by
  unfold fixS
  have e : (256 : Int) ^ (4 : Int).toNat = 4294967296 := by decide
  rw [if_pos ⟨by omega, by omega, by rw [e]; omega⟩]
  rfl
theorem impl_ShowRec_ev (kind batch count sum : Int) (key value : List UInt8) : Ev (fun k => impl_ShowRec.f k kind batch (mkS key) (mkS value) count sum) (mkS (showRec kind batch key value count sum)) := by
  unfold showRec
  by_cases hr : recOk kind batch key value count sum = true
  · obtain ⟨hk8, hv24, hsum⟩ := recOk_key hr
    obtain ⟨K1, h1⟩ := evx (impl_vars_ev [kind, batch] (by simp))
    obtain ⟨K2, h2⟩ := evx (impl_textOf_ev key (by omega))
    obtain ⟨K3, h3⟩ := evx (impl_textOf_ev value (by omega))
    obtain ⟨K4, h4⟩ := evx (impl_Var_ev count)
    obtain ⟨K5, h5⟩ := evx (impl_Fixed_ev sum 4)
    have l1 := varsL_length [kind, batch]
    have l2 := textL_length key (by omega)
    have l3 := textL_length value (by omega)
    have l4 := varB_length count
    have ev : varsL [kind, batch] = varB kind ++ varB batch := by simp [varsL]
    simp only [List.length_cons, List.length_nil] at l1
    refine evi (K1 + K2 + K3 + K4 + K5 + 2) fun k hk => ?_
    obtain ⟨k, rfl⟩ : ∃ m, k = m + 1 := ⟨k - 1, by omega⟩
    unfold impl_ShowRec.f
    rw [impl_RecOk_f _ _ _ _ _ _ _ (by omega), hr, h1 _ (by omega)]
    simp only [Option.bind_some, if_true, impl_ShowRec.j0, beq_iff_eq]
    rw [h2 _ (by omega), h3 _ (by omega), h4 _ (by omega), h5 _ (by omega), varS_B]
    simp only [Option.bind_some]
    have g1 : (mkS (varsL [kind, batch])).size + (mkS (textL key)).size ≤ 9223372036854775807 := by rw [mkS_size, mkS_size]; omega
    have g2 : (mkS (varsL [kind, batch] ++ textL key)).size + (mkS (textL value)).size ≤ 9223372036854775807 := by rw [mkS_size, mkS_size, List.length_append]; omega
    have g3 : (mkS (varsL [kind, batch])).size + (mkS (varB count)).size ≤ 9223372036854775807 := by rw [mkS_size, mkS_size]; omega
    have g4 : (mkS (varsL [kind, batch] ++ varB count)).size + (mkS (fixL 4 sum.toNat)).size ≤ 9223372036854775807 := by rw [mkS_size, mkS_size, List.length_append, fixL_length]; omega
    rw [← ev]
    by_cases c1 : kind = 1
    · simp only [c1] at *
      simp [g1, g2, mkS_append]
    · by_cases c4 : kind = 4
      · simp only [c4] at *
        simp [g1, g2, mkS_append]
      · by_cases c2 : kind = 2
        · simp only [c2] at *
          simp [g1, g2, mkS_append]
        · obtain ⟨s0, s1⟩ := hsum (by omega) c2
          rw [fixS_sum s0 s1]
          simp [c1, c2, c4, g3, g4, mkS_append]
  · have hf : recOk kind batch key value count sum = false := by simpa using hr
    refine evi (1) fun k hk => ?_
    unfold impl_ShowRec.f
    rw [impl_RecOk_f _ _ _ _ _ _ _ (by omega), hf]
    rfl

theorem spec_ShowRec_ev (kind batch count sum : Int) (key value : List UInt8) : Ev (fun k => spec_ShowRec.f k kind batch (mkS key) (mkS value) count sum) (mkS (showRec kind batch key value count sum)) := by
  unfold showRec
  by_cases hr : recOk kind batch key value count sum = true
  · obtain ⟨hk8, hv24, hsum⟩ := recOk_key hr
    obtain ⟨K1, h1⟩ := evx (spec_Var_ev kind)
    obtain ⟨K6, h6⟩ := evx (spec_Var_ev batch)
    obtain ⟨K2, h2⟩ := evx (spec_Var_ev (key.length : Int))
    obtain ⟨K3, h3⟩ := evx (spec_Var_ev (value.length : Int))
    obtain ⟨K4, h4⟩ := evx (spec_Var_ev count)
    have l1 := varB_length kind
    have l6 := varB_length batch
    have l2 := varL_len7 (n := key.length) (by omega)
    have l3 := varL_len7 (n := value.length) (by omega)
    have l4 := varB_length count
    by_cases c3 : kind = 1 ∨ kind = 4 ∨ kind = 2
    · refine evi (K1 + K2 + K3 + K4 + K6 + 3) fun k hk => ?_
      obtain ⟨k, rfl⟩ : ∃ m, k = m + 1 := ⟨k - 1, by omega⟩
      unfold spec_ShowRec.f
      have q2 := h2 k (by omega)
      have q3 := h3 k (by omega)
      rw [varS_nat (by omega)] at q2 q3
      rw [spec_RecOk_f _ _ _ _ _ _ _ (by omega), hr, h1 _ (by omega), h6 _ (by omega), varS_B, varS_B]
      have g0 : (varB kind).length + (varB batch).length ≤ 9223372036854775807 := by omega
      have g1 : (varB kind ++ varB batch).length + (varL key.length).length ≤ 9223372036854775807 := by rw [List.length_append]; omega
      have g2 : ((varB kind ++ varB batch) ++ varL key.length).length + key.length ≤ 9223372036854775807 := by rw [List.length_append, List.length_append]; omega
      have g3 : (((varB kind ++ varB batch) ++ varL key.length) ++ key).length + (varL value.length).length ≤ 9223372036854775807 := by rw [List.length_append, List.length_append, List.length_append]; omega
      have g4 : ((((varB kind ++ varB batch) ++ varL key.length) ++ key) ++ varL value.length).length + value.length ≤ 9223372036854775807 := by rw [List.length_append, List.length_append, List.length_append, List.length_append]; omega
      simp only [Option.bind_some, if_true, spec_ShowRec.j0, beq_iff_eq, mkS_size, mkS_append, q2, q3, if_pos g0, if_pos g1, if_pos g2, if_pos g3, if_pos g4]
      rcases c3 with c | c | c <;> subst c <;> simp [textL]
    · have c1 : ¬ kind = 1 := fun h => c3 (.inl h)
      have c4 : ¬ kind = 4 := fun h => c3 (.inr (.inl h))
      have c2 : ¬ kind = 2 := fun h => c3 (.inr (.inr h))
      obtain ⟨s0, s1⟩ := hsum (by omega) c2
      obtain ⟨K5, h5⟩ := evx (spec_Fixed_ev sum 4 (by omega))
      refine evi (K1 + K2 + K3 + K4 + K5 + K6 + 3) fun k hk => ?_
      obtain ⟨k, rfl⟩ : ∃ m, k = m + 1 := ⟨k - 1, by omega⟩
      unfold spec_ShowRec.f
      have q4 := h4 k (by omega)
      have q5 := h5 k (by omega)
      rw [varS_B] at q4
      rw [fixS_sum s0 s1] at q5
      rw [spec_RecOk_f _ _ _ _ _ _ _ (by omega), hr, h1 _ (by omega), h6 _ (by omega), varS_B, varS_B]
      have g0 : (varB kind).length + (varB batch).length ≤ 9223372036854775807 := by omega
      have g1 : (varB kind ++ varB batch).length + (varB count).length ≤ 9223372036854775807 := by rw [List.length_append]; omega
      have g2 : ((varB kind ++ varB batch) ++ varB count).length + (fixL 4 sum.toNat).length ≤ 9223372036854775807 := by rw [List.length_append, List.length_append, fixL_length]; omega
      simp only [Option.bind_some, if_true, spec_ShowRec.j0, beq_iff_eq, mkS_size, mkS_append, if_neg c1, if_neg c4, if_neg c2, q4, q5, if_pos g0, if_pos g1, if_pos g2]
      simp [c1, c2, c4]
  · have hf : recOk kind batch key value count sum = false := by simpa using hr
    refine evi (2) fun k hk => ?_
    unfold spec_ShowRec.f
    rw [spec_RecOk_f _ _ _ _ _ _ _ (by omega), hf]
    rfl

/-- A record in plain words: kind, batch, key, value, count, sum. -/
abbrev R6 := Int × Int × List UInt8 × List UInt8 × Int × Int
def okR (r : R6) : Bool := recOk r.1 r.2.1 r.2.2.1 r.2.2.2.1 r.2.2.2.2.1 r.2.2.2.2.2
def showR (r : R6) : List UInt8 := showRec r.1 r.2.1 r.2.2.1 r.2.2.2.1 r.2.2.2.2.1 r.2.2.2.2.2
theorem okR_kind {r : R6} (h : okR r = true) : (r.1 = 1 ∨ r.1 = 4 ∨ r.1 = 2 ∨ r.1 = 3 ∨ r.1 = 5) ∧ (0 ≤ r.2.1 ∧ r.2.1 ≤ 1000000) ∧ r.2.2.1.length ≤ 8 ∧ r.2.2.2.1.length ≤ 24 ∧ (¬ (r.1 = 1 ∨ r.1 = 4) → r.2.2.2.1 = []) ∧ ((r.1 = 1 ∨ r.1 = 4 ∨ r.1 = 2) → r.2.2.2.2.1 = 0 ∧ r.2.2.2.2.2 = 0) ∧ ((r.1 = 3 ∨ r.1 = 5) → r.2.2.1 = [] ∧ (0 ≤ r.2.2.2.2.1 ∧ r.2.2.2.2.1 ≤ 20) ∧ (0 ≤ r.2.2.2.2.2 ∧ r.2.2.2.2.2 ≤ 4294967295)) := by
  obtain ⟨kind, batch, key, value, count, sum⟩ := r
  have hk := recOk_key h
  simp only [okR] at h
  unfold recOk at h
  simp only [Bool.and_eq_true, decide_eq_true_eq] at h
  obtain ⟨⟨hb, _⟩, h⟩ := h
  refine ⟨?_, hb, hk.1, hk.2.1, ?_, ?_, ?_⟩
  · by_cases h1 : kind = 1 ∨ kind = 4
    · rcases h1 with h1 | h1 <;> simp [h1]
    · by_cases h2 : kind = 2
      · simp [h2]
      · by_cases h3 : kind = 3
        · simp [h3]
        · by_cases h5 : kind = 5
          · simp [h5]
          · rw [if_neg h1, if_neg h2, if_neg h3, if_neg h5] at h; cases h
  · intro h1
    simp only at h1
    rw [if_neg h1] at h
    by_cases h2 : kind = 2
    · rw [if_pos h2] at h; simp only [Bool.and_eq_true, decide_eq_true_eq] at h; exact h.1.1.2
    · rw [if_neg h2] at h
      by_cases h3 : kind = 3
      · rw [if_pos h3] at h; simp only [Bool.and_eq_true, decide_eq_true_eq] at h; exact h.1.1.2
      · rw [if_neg h3] at h
        by_cases h5 : kind = 5
        · rw [if_pos h5] at h; simp only [Bool.and_eq_true, decide_eq_true_eq] at h; exact h.1.1.2
        · rw [if_neg h5] at h; cases h
  · intro h1
    simp only at h1
    by_cases h14 : kind = 1 ∨ kind = 4
    · rw [if_pos h14] at h; simp only [Bool.and_eq_true, decide_eq_true_eq] at h; exact ⟨h.1.2, h.2⟩
    · have h2 : kind = 2 := by omega
      rw [if_neg h14, if_pos h2] at h; simp only [Bool.and_eq_true, decide_eq_true_eq] at h; exact ⟨h.1.2, h.2⟩
  · intro h1
    simp only at h1
    rw [if_neg (by omega), if_neg (by omega)] at h
    by_cases h3 : kind = 3
    · rw [if_pos h3] at h; simp only [Bool.and_eq_true, decide_eq_true_eq] at h; exact ⟨h.1.1.1, ⟨h.1.2.1, by have := h.1.2.2; show count ≤ 20; omega⟩, h.2⟩
    · rw [if_neg h3, if_pos (by omega)] at h; simp only [Bool.and_eq_true, decide_eq_true_eq] at h; exact ⟨h.1.1.1, h.1.2, h.2⟩
theorem showR_nil {r : R6} (h : ¬ okR r = true) : showR r = [] := by
  unfold showR showRec
  unfold okR at h
  rw [if_neg h]
theorem showR_len (r : R6) : (showR r).length ≤ 60 := by
  by_cases h : okR r = true
  · obtain ⟨hk, hb, h8, h24, hv, hz, hs⟩ := okR_kind h
    have hok' : recOk r.1 r.2.1 r.2.2.1 r.2.2.2.1 r.2.2.2.2.1 r.2.2.2.2.2 = true := h
    unfold showR showRec
    rw [if_pos hok']
    have l1 := varB_length r.1
    have l2 := varB_length r.2.1
    have l3 := textL_length r.2.2.1 (by omega)
    have l4 := textL_length r.2.2.2.1 (by omega)
    have l5 := varB_length r.2.2.2.2.1
    have l6 := fixL_length 4 r.2.2.2.2.2.toNat
    by_cases h14 : r.1 = 1 ∨ r.1 = 4
    · rw [if_pos h14]; simp only [List.length_append]; omega
    · by_cases h2 : r.1 = 2
      · rw [if_neg h14, if_pos h2]; simp only [List.length_append]; omega
      · rw [if_neg h14, if_neg h2]; simp only [List.length_append]; omega
  · rw [showR_nil h]; simp
/-- A number: what it is, what is left, and whether it failed. -/
def numL (s : List UInt8) (bad : Bool) : Nat × List UInt8 × Bool :=
  match rv s with
  | none => (0, s, true)
  | some p => if bad = true then (0, s, true) else (p.1, s.drop p.2, false)
/-- So many bytes. -/
def bytesL (n : Nat) (s : List UInt8) (bad : Bool) : List UInt8 × List UInt8 × Bool := if bad = true ∨ s.length < n then ([], s, true) else (s.take n, s.drop n, false)
/-- A text with its length ahead. -/
def textR (s : List UInt8) (bad : Bool) : List UInt8 × List UInt8 × Bool := bytesL (numL s bad).1 (numL s bad).2.1 (numL s bad).2.2
theorem numL_sound {s s' : List UInt8} {bad : Bool} {n : Nat} (h : numL s bad = (n, s', false)) : bad = false ∧ s = varL n ++ s' ∧ n ≤ 562949953421311 := by
  unfold numL at h
  cases hr : rv s with
  | none => rw [hr] at h; simp at h
  | some p =>
    obtain ⟨m, k⟩ := p
    rw [hr] at h
    cases bad with
    | true => simp at h
    | false =>
      simp only [Bool.false_eq_true, if_false, Prod.mk.injEq] at h
      obtain ⟨rfl, rfl, _⟩ := h
      obtain ⟨p1, p2, p3, p4, p5⟩ := rv_sound hr
      refine ⟨rfl, ?_, p5⟩
      rw [← p4, List.take_append_drop]
theorem numL_var {n : Nat} (t : List UInt8) (h : n ≤ 562949953421311) : numL (varL n ++ t) false = (n, t, false) := by
  unfold numL
  rw [rv_complete t h]
  simp
theorem bytesL_sound {n : Nat} {s t s' : List UInt8} {bad : Bool} (h : bytesL n s bad = (t, s', false)) : bad = false ∧ s = t ++ s' ∧ t.length = n := by
  unfold bytesL at h
  split at h
  · simp at h
  · rename_i hc
    simp only [Prod.mk.injEq] at h
    obtain ⟨rfl, rfl, _⟩ := h
    cases bad with
    | true => exact absurd (Or.inl rfl) hc
    | false => exact ⟨rfl, (List.take_append_drop _ _).symm, by rw [List.length_take]; have : ¬ s.length < n := fun hh => hc (Or.inr hh); omega⟩
theorem bytesL_app {n : Nat} (t s : List UInt8) (h : t.length = n) : bytesL n (t ++ s) false = (t, s, false) := by
  unfold bytesL
  rw [if_neg (by rw [List.length_append]; simp; omega), List.take_left' h, List.drop_left' h]
theorem textR_sound {s t s' : List UInt8} {bad : Bool} (h : textR s bad = (t, s', false)) : bad = false ∧ s = textL t ++ s' := by
  unfold textR at h
  obtain ⟨h1, h2, h3⟩ := bytesL_sound h
  obtain ⟨g1, g2, g3⟩ := numL_sound (s := s) (bad := bad) (n := (numL s bad).1) (s' := (numL s bad).2.1) (by rw [← h1])
  refine ⟨g1, ?_⟩
  rw [textL, h3, List.append_assoc, ← h2]
  exact g2
theorem textR_text (t s : List UInt8) (h : t.length ≤ 562949953421311) : textR (textL t ++ s) false = (t, s, false) := by
  unfold textR textL
  rw [List.append_assoc, numL_var _ h]
  exact bytesL_app t s rfl
/-- What a text's bytes tell of a record, what is left, and whether it failed. -/
def parR (l : List UInt8) : R6 × List UInt8 × Bool :=
  let a := numL l false
  let b := numL a.2.1 a.2.2
  if a.1 = 1 ∨ a.1 = 4 then
    let k := textR b.2.1 b.2.2
    let v := textR k.2.1 k.2.2
    (((a.1 : Int), (b.1 : Int), k.1, v.1, 0, 0), v.2)
  else if a.1 = 2 then
    let k := textR b.2.1 b.2.2
    (((a.1 : Int), (b.1 : Int), k.1, [], 0, 0), k.2)
  else
    let c := numL b.2.1 b.2.2
    let x := bytesL 4 c.2.1 c.2.2
    (((a.1 : Int), (b.1 : Int), [], [], (c.1 : Int), (rfI x.1 4).1), x.2)
def zeroR : R6 := (0, 0, [], [], 0, 0)
def readR (l : List UInt8) : R6 × Bool := if (parR l).2.2 = false ∧ (parR l).2.1 = [] ∧ okR (parR l).1 = true then ((parR l).1, true) else (zeroR, false)
theorem rfI_fixL {s : Int} (h0 : 0 ≤ s) (h1 : s ≤ 4294967295) : (rfI (fixL 4 s.toNat) 4).1 = s := by
  unfold rfI
  rw [if_pos ⟨by omega, by rw [fixL_length]; omega⟩]
  have e : (4 : Int).toNat = 4 := rfl
  simp only [e]
  rw [List.take_of_length_le (by rw [fixL_length]; omega), beL_fixL]
  omega
theorem fixL_rfI {t : List UInt8} (h : t.length = 4) : fixL 4 (rfI t 4).1.toNat = t := by
  unfold rfI
  rw [if_pos ⟨by omega, by omega⟩]
  have e : (4 : Int).toNat = 4 := rfl
  simp only [e]
  rw [List.take_of_length_le (by omega), Int.toNat_natCast]
  exact fixL_be t 4 h
theorem parR_show {r : R6} (h : okR r = true) : parR (showR r) = (r, [], false) := by
  obtain ⟨hk, hb, h8, h24, hv, hz, hs⟩ := okR_kind h
  obtain ⟨kind, batch, key, value, count, sum⟩ := r
  simp only at hk hb h8 h24 hv hz hs
  have hok : recOk kind batch key value count sum = true := h
  unfold showR showRec
  simp only
  rw [if_pos hok]
  obtain ⟨kn, rfl⟩ := Int.eq_ofNat_of_zero_le (show 0 ≤ kind by omega)
  obtain ⟨bn, rfl⟩ := Int.eq_ofNat_of_zero_le (show 0 ≤ batch by omega)
  rw [varB_nat (by omega), varB_nat (by omega)]
  by_cases h14 : (kn : Int) = 1 ∨ (kn : Int) = 4
  · rw [if_pos h14]
    obtain ⟨hc, hs'⟩ := hz (by omega)
    unfold parR
    simp only [List.append_assoc]
    rw [numL_var _ (by omega)]
    simp only
    rw [numL_var _ (by omega)]
    simp only
    rw [if_pos (by omega), textR_text _ _ (by omega)]
    simp only
    have := textR_text value [] (by omega)
    rw [List.append_nil] at this
    rw [this, hc, hs']
  · rw [if_neg h14]
    by_cases h2 : (kn : Int) = 2
    · rw [if_pos h2]
      obtain ⟨hc, hs'⟩ := hz (by omega)
      unfold parR
      simp only [List.append_assoc]
      rw [numL_var _ (by omega)]
      simp only
      rw [numL_var _ (by omega)]
      simp only
      rw [if_neg (by omega), if_pos (by omega)]
      have := textR_text key [] (by omega)
      rw [List.append_nil] at this
      rw [this, hc, hs', hv h14]
    · rw [if_neg h2]
      obtain ⟨hke, hc, hs'⟩ := hs (by omega)
      obtain ⟨cn, rfl⟩ := Int.eq_ofNat_of_zero_le (show 0 ≤ count by omega)
      rw [varB_nat (by omega)]
      unfold parR
      simp only [List.append_assoc]
      rw [numL_var _ (by omega)]
      simp only
      rw [numL_var _ (by omega)]
      simp only
      rw [if_neg (by omega), if_neg (by omega), numL_var _ (by omega)]
      simp only
      have := bytesL_app (n := 4) (fixL 4 sum.toNat) [] (fixL_length 4 _)
      rw [List.append_nil] at this
      rw [this]
      simp only
      rw [rfI_fixL hs'.1 hs'.2, hke, hv h14]
theorem parR_sound {l : List UInt8} {r : R6} (h : parR l = (r, [], false)) (hok : okR r = true) : showR r = l := by
  obtain ⟨hk, hb, h8, h24, hv, hz, hs⟩ := okR_kind hok
  have hok' : recOk r.1 r.2.1 r.2.2.1 r.2.2.2.1 r.2.2.2.2.1 r.2.2.2.2.2 = true := hok
  unfold showR showRec
  rw [if_pos hok']
  unfold parR at h
  generalize ha : numL l false = a at h
  obtain ⟨n1, s1, b1⟩ := a
  simp only at h
  generalize hbb : numL s1 b1 = b at h
  obtain ⟨n2, s2, b2⟩ := b
  simp only at h
  by_cases h14 : n1 = 1 ∨ n1 = 4
  · rw [if_pos h14] at h
    generalize hkk : textR s2 b2 = k at h
    obtain ⟨t3, s3, b3⟩ := k
    simp only at h
    generalize hvv : textR s3 b3 = v at h
    obtain ⟨t4, s4, b4⟩ := v
    simp only [Prod.mk.injEq] at h
    obtain ⟨rfl, rfl, rfl⟩ := h
    obtain ⟨rfl, e4⟩ := textR_sound hvv
    obtain ⟨rfl, e3⟩ := textR_sound hkk
    obtain ⟨rfl, e2, l2⟩ := numL_sound hbb
    obtain ⟨_, e1, l1⟩ := numL_sound ha
    simp only
    rw [if_pos (by omega), varB_nat l1, varB_nat l2, e1, e2, e3, e4]
    simp
  · rw [if_neg h14] at h
    by_cases h2 : n1 = 2
    · rw [if_pos h2] at h
      generalize hkk : textR s2 b2 = k at h
      obtain ⟨t3, s3, b3⟩ := k
      simp only [Prod.mk.injEq] at h
      obtain ⟨rfl, rfl, rfl⟩ := h
      obtain ⟨rfl, e3⟩ := textR_sound hkk
      obtain ⟨rfl, e2, l2⟩ := numL_sound hbb
      obtain ⟨_, e1, l1⟩ := numL_sound ha
      simp only
      rw [if_neg (by omega), if_pos (by omega), varB_nat l1, varB_nat l2, e1, e2, e3]
      simp
    · rw [if_neg h2] at h
      generalize hcc : numL s2 b2 = c at h
      obtain ⟨n3, s3, b3⟩ := c
      simp only at h
      generalize hxx : bytesL 4 s3 b3 = x at h
      obtain ⟨t4, s4, b4⟩ := x
      simp only [Prod.mk.injEq] at h
      obtain ⟨rfl, rfl, rfl⟩ := h
      obtain ⟨rfl, e4, l4⟩ := bytesL_sound hxx
      obtain ⟨rfl, e3, l3⟩ := numL_sound hcc
      obtain ⟨rfl, e2, l2⟩ := numL_sound hbb
      obtain ⟨_, e1, l1⟩ := numL_sound ha
      simp only
      rw [if_neg (by omega), if_neg (by omega), varB_nat l1, varB_nat l2, varB_nat l3, e1, e2, e3, e4, fixL_rfI l4]
      simp
theorem readR_some {r : R6} (h : okR r = true) : readR (showR r) = (r, true) := by
  unfold readR
  rw [parR_show h, if_pos ⟨rfl, rfl, h⟩]
theorem readR_cases (l : List UInt8) : (∃ r, okR r = true ∧ showR r = l ∧ readR l = (r, true)) ∨ ((∀ r, okR r = true → showR r ≠ l) ∧ readR l = (zeroR, false)) := by
  by_cases h : (parR l).2.2 = false ∧ (parR l).2.1 = [] ∧ okR (parR l).1 = true
  · refine Or.inl ⟨(parR l).1, h.2.2, parR_sound ?_ h.2.2, ?_⟩
    · rw [← h.1, ← h.2.1]
    · unfold readR; rw [if_pos h]
  · refine Or.inr ⟨fun r hr hs => h ?_, ?_⟩
    · rw [← hs, parR_show hr]; exact ⟨rfl, rfl, hr⟩
    · unfold readR; rw [if_neg h]
theorem showR_ne {r : R6} (h : okR r = true) : showR r ≠ [] := by
  intro e
  have h1 := readR_some h
  rw [e] at h1
  have h2 : readR [] = (zeroR, false) := by
    unfold readR
    rw [if_neg]
    intro hh
    have : (parR []).2.2 = true := by decide
    rw [this] at hh
    exact absurd hh.1 (by simp)
  rw [h2] at h1
  cases h1

theorem mkS_drop (l : List UInt8) (i : Nat) : (mkS l).extract i (mkS l).size = mkS (l.drop i) := by rw [mkS_extract, mkS_size, List.take_of_length_le (by rw [List.length_drop]; omega)]
theorem mkS_take (l : List UInt8) (i : Nat) : (mkS l).extract 0 i = mkS (l.take i) := by rw [mkS_extract, List.drop_zero, Nat.sub_zero]
theorem impl_scanner_num_ev (s : List UInt8) (b : Bool) : Ev (fun k => impl_scanner_num.f k (mkS s) b) (((numL s b).1 : Int), mkS (numL s b).2.1, (numL s b).2.2) := by
  obtain ⟨K, hK⟩ := evx (impl_ReadVar_ev s)
  refine evi (K) fun k hk => ?_
  unfold impl_scanner_num.f
  rw [hK k hk]
  simp only [Option.bind_some]
  unfold numL rvI
  cases hr : rv s with
  | none => rw [rvP_none hr]; cases b <;> simp
  | some p =>
    obtain ⟨n, j⟩ := p
    obtain ⟨p1, p2, p3, p4, p5⟩ := rv_sound hr
    rw [rvP_some hr]
    simp only
    cases b with
    | true => rw [if_pos rfl, if_pos rfl]; rfl
    | false => rw [if_neg (by simp), if_neg (by omega), if_pos (by omega), if_pos (by rw [mkS_size]; omega), if_neg (by simp), Int.toNat_natCast, mkS_drop]
theorem impl_scanner_bytes_f (n : Nat) (s : List UInt8) (b : Bool) : impl_scanner_bytes.f (mkS s) b (n : Int) = some (mkS (bytesL n s b).1, mkS (bytesL n s b).2.1, (bytesL n s b).2.2) := by
  unfold impl_scanner_bytes.f bytesL
  cases b with
  | true => rw [if_pos rfl, if_pos (Or.inl rfl)]; rfl
  | false =>
    by_cases h : s.length < n
    · rw [if_neg (by simp), if_pos (by rw [mkS_size]; omega), if_pos (Or.inr h)]; rfl
    · rw [if_neg (by simp), if_neg (by rw [mkS_size]; omega), if_pos (by omega), if_pos (by rw [mkS_size]; omega), if_neg (by simp; omega), Int.toNat_natCast, mkS_take, mkS_drop]
theorem impl_scanner_text_ev (s : List UInt8) (b : Bool) : Ev (fun k => impl_scanner_text.f k (mkS s) b) (mkS (textR s b).1, mkS (textR s b).2.1, (textR s b).2.2) := by
  obtain ⟨K, hK⟩ := evx (impl_scanner_num_ev s b)
  refine evi (K) fun k hk => ?_
  unfold impl_scanner_text.f
  rw [hK k hk]
  simp only [Option.bind_some]
  rw [impl_scanner_bytes_f]
  rfl

def outR (r : R6 × Bool) : Int × Int × ByteArray × ByteArray × Int × Int × Bool := (r.1.1, r.1.2.1, mkS r.1.2.2.1, mkS r.1.2.2.2.1, r.1.2.2.2.2.1, r.1.2.2.2.2.2, r.2)
theorem readR_of {l : List UInt8} {r : R6} {rest : List UInt8} {bad : Bool} (h : parR l = (r, rest, bad)) : readR l = if bad = true then (zeroR, false) else if rest = [] then (if okR r = true then (r, true) else (zeroR, false)) else (zeroR, false) := by
  unfold readR
  rw [h]
  simp only
  cases bad with
  | true => rw [if_neg (by simp), if_pos rfl]
  | false =>
    rw [if_neg (show ¬ (false = true) by simp)]
    by_cases hr : rest = []
    · rw [if_pos hr]
      by_cases ho : okR r = true
      · rw [if_pos ⟨rfl, hr, ho⟩, if_pos ho]
      · rw [if_neg (fun hh => ho hh.2.2), if_neg ho]
    · rw [if_neg (fun hh => hr hh.2.1), if_neg hr]
theorem impl_ReadRec_ev (l : List UInt8) : Ev (fun k => impl_ReadRec.f k (mkS l)) (outR (readR l)) := by
  obtain ⟨K1, h1⟩ := evx (impl_scanner_num_ev l false)
  generalize ha : numL l false = a at h1
  obtain ⟨n1, s1, b1⟩ := a
  obtain ⟨K2, h2⟩ := evx (impl_scanner_num_ev s1 b1)
  generalize hb : numL s1 b1 = b at h2
  obtain ⟨n2, s2, b2⟩ := b
  have fin : ∀ (r : R6) (rest : List UInt8) (bad : Bool) (k : Nat), parR l = (r, rest, bad) →
      impl_ReadRec.j1 (k + 2) (mkS rest) bad r.1 r.2.1 (mkS r.2.2.1) (mkS r.2.2.2.1) r.2.2.2.2.1 r.2.2.2.2.2 = some (outR (readR l)) := by
    intro r rest bad k h
    rw [readR_of h]
    simp only [impl_ReadRec.j1, impl_ReadRec.j2]
    rw [impl_RecOk_f _ _ _ _ _ _ _ (show 0 < k + 1 by omega), mkS_toList]
    simp only [Option.bind_some]
    have e : recOk r.1 r.2.1 r.2.2.1 r.2.2.2.1 r.2.2.2.2.1 r.2.2.2.2.2 = okR r := rfl
    rw [e]
    cases bad with
    | true => rfl
    | false =>
      by_cases hr : rest = []
      · simp only [hr, Bool.false_eq_true, if_false, if_true]
        cases okR r <;> rfl
      · simp only [hr, Bool.false_eq_true, if_false]
        rfl
  by_cases h14 : (n1 : Int) = 1 ∨ (n1 : Int) = 4
  · obtain ⟨K3, h3⟩ := evx (impl_scanner_text_ev s2 b2)
    generalize hc : textR s2 b2 = c at h3
    obtain ⟨t3, s3, b3⟩ := c
    obtain ⟨K4, h4⟩ := evx (impl_scanner_text_ev s3 b3)
    generalize hd : textR s3 b3 = d at h4
    obtain ⟨t4, s4, b4⟩ := d
    have hp : parR l = (((n1 : Int), (n2 : Int), t3, t4, 0, 0), s4, b4) := by
      unfold parR; rw [ha]; simp only; rw [hb]; simp only; rw [if_pos (by omega), hc]; simp only; rw [hd]
    refine evi (K1 + K2 + K3 + K4 + 4) fun k hk => ?_
    obtain ⟨k, rfl⟩ : ∃ m, k = m + 3 := ⟨k - 3, by omega⟩
    have f := fin _ _ _ k hp
    unfold impl_ReadRec.f
    rw [h1 _ (by omega)]
    simp only [Option.bind_some]
    rw [h2 _ (by omega)]
    simp only [Option.bind_some, impl_ReadRec.j0]
    rw [h3 _ (by omega)]
    simp only [Option.bind_some]
    rw [h4 _ (by omega)]
    simp only [Option.bind_some]
    rcases h14 with h | h
    · rw [if_pos h, if_pos (by simp [h])]; exact f
    · rw [if_neg (by omega), if_pos (by simp [h])]; exact f
  · by_cases h22 : (n1 : Int) = 2
    · obtain ⟨K3, h3⟩ := evx (impl_scanner_text_ev s2 b2)
      generalize hc : textR s2 b2 = c at h3
      obtain ⟨t3, s3, b3⟩ := c
      have hp : parR l = (((n1 : Int), (n2 : Int), t3, [], 0, 0), s3, b3) := by
        unfold parR; rw [ha]; simp only; rw [hb]; simp only; rw [if_neg (by omega), if_pos (by omega), hc]
      refine evi (K1 + K2 + K3 + 4) fun k hk => ?_
      obtain ⟨k, rfl⟩ : ∃ m, k = m + 3 := ⟨k - 3, by omega⟩
      have f := fin _ _ _ k hp
      unfold impl_ReadRec.f
      rw [h1 _ (by omega)]
      simp only [Option.bind_some]
      rw [h2 _ (by omega)]
      simp only [Option.bind_some, impl_ReadRec.j0]
      rw [h3 _ (by omega)]
      simp only [Option.bind_some]
      rw [if_neg (by omega), if_neg (by simp; omega), if_pos h22]
      exact f
    · obtain ⟨K3, h3⟩ := evx (impl_scanner_num_ev s2 b2)
      generalize hc : numL s2 b2 = c at h3
      obtain ⟨n3, s3, b3⟩ := c
      have h4 := impl_scanner_bytes_f 4 s3 b3
      generalize hd : bytesL 4 s3 b3 = d at h4
      obtain ⟨t4, s4, b4⟩ := d
      obtain ⟨K5, h5⟩ := evx (impl_ReadFixed_ev t4 4)
      have hp : parR l = (((n1 : Int), (n2 : Int), [], [], (n3 : Int), (rfI t4 4).1), s4, b4) := by
        unfold parR; rw [ha]; simp only; rw [hb]; simp only; rw [if_neg (by omega), if_neg (by omega), hc]; simp only; rw [hd]
      refine evi (K1 + K2 + K3 + K5 + 4) fun k hk => ?_
      obtain ⟨k, rfl⟩ : ∃ m, k = m + 3 := ⟨k - 3, by omega⟩
      have f := fin _ _ _ k hp
      unfold impl_ReadRec.f
      rw [h1 _ (by omega)]
      simp only [Option.bind_some]
      rw [h2 _ (by omega)]
      simp only [Option.bind_some, impl_ReadRec.j0]
      rw [h3 _ (by omega)]
      simp only [Option.bind_some]
      rw [show ((4 : Int)) = ((4 : Nat) : Int) from rfl, h4]
      simp only [Option.bind_some]
      rw [show (((4 : Nat) : Int)) = (4 : Int) from rfl, h5 _ (by omega)]
      simp only [Option.bind_some]
      rw [if_neg (by omega), if_neg (by simp; omega), if_neg h22]
      exact f

theorem and255 (x : Int) : 0 ≤ Go.bits .and .i64 x 255 ∧ Go.bits .and .i64 x 255 ≤ 255 := by
  have hb : (BitVec.ofInt 64 x &&& BitVec.ofInt 64 255).toNat ≤ 255 := by
    rw [BitVec.toNat_and]; exact Nat.le_trans Nat.and_le_right (by decide)
  have e : Go.bits .and .i64 x 255 = IntKind.i64.wrap (((BitVec.ofInt 64 x &&& BitVec.ofInt 64 255).toNat : Nat) : Int) := rfl
  rw [e, IntKind.wrap_i64]
  omega
def okP (c : List Int) (p : Int) : Prop := 0 ≤ p ∧ p ≤ (c.length : Int)
theorem byte_ex (c : List Int) (hc : c.length ≤ 1048576) (p s : Int) (hp : okP c p) : ∃ v p' s', spec_l1Byte.f c p s = some (v, p', s') ∧ (0 ≤ v ∧ v ≤ 255) ∧ okP c p' := by
  unfold okP at *
  unfold spec_l1Byte.f
  by_cases h : p < (c.length : Int)
  · rw [if_pos h, if_pos hp.1]
    refine ⟨_, _, _, rfl, and255 _, ?_⟩
    rw [w64 (by omega) (by omega)]
    omega
  · rw [if_neg h]
    exact ⟨_, _, _, rfl, and255 _, hp⟩
theorem below_ex (c : List Int) (hc : c.length ≤ 1048576) (p s : Int) (hp : okP c p) (a : Int) : ∃ v p' s', spec_l1Below.f c p s a = some (v, p', s') ∧ 0 ≤ v ∧ (0 < a → v < a) ∧ (a ≤ 0 → v = 0) ∧ okP c p' := by
  unfold spec_l1Below.f
  by_cases h0 : a ≤ 0
  · rw [if_pos h0]
    exact ⟨_, _, _, rfl, by omega, by omega, fun _ => rfl, hp⟩
  · rw [if_neg h0]
    by_cases h1 : a ≤ 256
    · rw [if_pos h1]
      obtain ⟨v, p1, s1, e1, hv, hp1⟩ := byte_ex c hc p s hp
      rw [e1]
      simp only [Option.bind_some]
      rw [if_neg (by omega)]
      refine ⟨_, _, _, rfl, ?_, fun _ => ?_, by omega, hp1⟩
      · exact Int.tmod_nonneg _ hv.1
      · exact Int.tmod_lt_of_pos _ (by omega)
    · rw [if_neg h1]
      obtain ⟨v1, p1, s1, e1, hv1, hp1⟩ := byte_ex c hc p s hp
      obtain ⟨v2, p2, s2, e2, hv2, hp2⟩ := byte_ex c hc p1 s1 hp1
      obtain ⟨v3, p3, s3, e3, hv3, hp3⟩ := byte_ex c hc p2 s2 hp2
      obtain ⟨v4, p4, s4, e4, hv4, hp4⟩ := byte_ex c hc p3 s3 hp3
      rw [e1]
      simp only [Option.bind_some]
      rw [e2]
      simp only [Option.bind_some]
      rw [e3]
      simp only [Option.bind_some]
      rw [e4]
      simp only [Option.bind_some]
      rw [if_neg (by omega)]
      refine ⟨_, _, _, rfl, ?_, fun _ => ?_, by omega, hp4⟩
      · apply Int.tmod_nonneg
        rw [w64 (x := v1 * 16777216) (by omega) (by omega), w64 (x := v2 * 65536) (by omega) (by omega), w64 (x := v1 * 16777216 + v2 * 65536) (by omega) (by omega), w64 (x := v3 * 256) (by omega) (by omega), w64 (x := v1 * 16777216 + v2 * 65536 + v3 * 256) (by omega) (by omega), w64 (by omega) (by omega)]
        omega
      · exact Int.tmod_lt_of_pos _ (by omega)
theorem text_l0 (c : List Int) (hc : c.length ≤ 1048576) (x : Int) (d : Nat) : ∀ (acc : List Int) (p s : Int), okP c p → acc.length + d ≤ 1000000 → ∃ r p' s', Ev (fun k => spec_l1Text.l0 k acc x (d : Int) c p s) (r, p', s') ∧ r.size ≤ acc.length + d ∧ okP c p' := by
  induction d with
  | zero =>
    intro acc p s hp ha
    refine ⟨strOfNums acc, p, s, evi 1 (fun k hk => ?_), by rw [strOfNums_size]; omega, hp⟩
    obtain ⟨k, rfl⟩ : ∃ m, k = m + 1 := ⟨k - 1, by omega⟩
    rw [spec_l1Text.l0, if_neg (by omega)]
  | succ d ih =>
    intro acc p s hp ha
    obtain ⟨v, p1, s1, e1, hv, hp1⟩ := byte_ex c hc p s hp
    have key : ∀ v' : Int, ∃ r p' s', Ev (fun k => spec_l1Text.j1 k acc x ((d + 1 : Nat) : Int) v' c p1 s1) (r, p', s') ∧ r.size ≤ acc.length + (d + 1) ∧ okP c p' := by
      intro v'
      have hd : wrap64 (((d + 1 : Nat) : Int) - 1) = (d : Int) := by rw [w64 (by omega) (by omega)]; omega
      by_cases hx : x = 2
      · obtain ⟨r, p', s', hE, hr, hp'⟩ := ih (acc ++ [(wrap64 (97 + (Int.tmod v' 4))) % 256]) p1 s1 hp1 (by rw [List.length_append, List.length_singleton]; omega)
        obtain ⟨K, hK⟩ := evx hE
        refine ⟨r, p', s', evi (K + 1) (fun k hk => ?_), by rw [List.length_append, List.length_singleton] at hr; omega, hp'⟩
        obtain ⟨k, rfl⟩ : ∃ m, k = m + 1 := ⟨k - 1, by omega⟩
        rw [spec_l1Text.j1, if_pos hx, if_pos (by omega), hd]
        exact hK k (by omega)
      · obtain ⟨r, p', s', hE, hr, hp'⟩ := ih (acc ++ [v' % 256]) p1 s1 hp1 (by rw [List.length_append, List.length_singleton]; omega)
        obtain ⟨K, hK⟩ := evx hE
        refine ⟨r, p', s', evi (K + 1) (fun k hk => ?_), by rw [List.length_append, List.length_singleton] at hr; omega, hp'⟩
        obtain ⟨k, rfl⟩ : ∃ m, k = m + 1 := ⟨k - 1, by omega⟩
        rw [spec_l1Text.j1, if_neg hx, if_pos (by omega), hd]
        exact hK k (by omega)
    by_cases h1 : x = 1
    · obtain ⟨r, p', s', hE, hr, hp'⟩ := key (Int.tmod v 2)
      obtain ⟨K, hK⟩ := evx hE
      refine ⟨r, p', s', evi (K + 1) (fun k hk => ?_), hr, hp'⟩
      obtain ⟨k, rfl⟩ : ∃ m, k = m + 1 := ⟨k - 1, by omega⟩
      rw [spec_l1Text.l0, if_pos (by omega), e1]
      simp only [Option.bind_some]
      rw [if_pos h1]
      exact hK k (by omega)
    · obtain ⟨r, p', s', hE, hr, hp'⟩ := key v
      obtain ⟨K, hK⟩ := evx hE
      refine ⟨r, p', s', evi (K + 1) (fun k hk => ?_), hr, hp'⟩
      obtain ⟨k, rfl⟩ : ∃ m, k = m + 1 := ⟨k - 1, by omega⟩
      rw [spec_l1Text.l0, if_pos (by omega), e1]
      simp only [Option.bind_some]
      rw [if_neg h1]
      exact hK k (by omega)
theorem text_f {c : List Int} {p s a v1 p1 s1 v2 p2 s2 : Int} (h1 : spec_l1Below.f c p s 4 = some (v1, p1, s1)) (h2 : spec_l1Below.f c p1 s1 (wrap64 (a + 1)) = some (v2, p2, s2)) (k : Nat) : spec_l1Text.f k c p s a = spec_l1Text.l0 k ([] : List Int) v1 v2 c p2 s2 := by
  unfold spec_l1Text.f
  rw [h1]
  simp only [Option.bind_some]
  rw [h2]
  simp only [Option.bind_some]
theorem text_ex (c : List Int) (hc : c.length ≤ 1048576) (p s : Int) (hp : okP c p) (a : Nat) (ha : a ≤ 1000) : ∃ r p' s', Ev (fun k => spec_l1Text.f k c p s (a : Int)) (r, p', s') ∧ r.size ≤ a ∧ okP c p' := by
  obtain ⟨v1, p1, s1, e1, hv1, _, _, hp1⟩ := below_ex c hc p s hp 4
  obtain ⟨v2, p2, s2, e2, hv2, hv2', _, hp2⟩ := below_ex c hc p1 s1 hp1 (wrap64 ((a : Int) + 1))
  have hw : wrap64 ((a : Int) + 1) = (a : Int) + 1 := w64 (by omega) (by omega)
  rw [hw] at hv2'
  have := hv2' (by omega)
  obtain ⟨n, rfl⟩ := Int.eq_ofNat_of_zero_le hv2
  obtain ⟨r, p', s', hE, hr, hp'⟩ := text_l0 c hc v1 n [] p2 s2 hp2 (by simp only [List.length_nil]; omega)
  obtain ⟨K, hK⟩ := evx hE
  refine ⟨r, p', s', evi K (fun k hk => ?_), by simp only [List.length_nil] at hr; omega, hp'⟩
  have e := text_f e1 e2 k
  rw [e]
  exact hK k hk
theorem pickInt_ex (c : List Int) (hc : c.length ≤ 1048576) (p s : Int) (hp : okP c p) (l : List Int) (hl : 0 < l.length) : ∃ v p' s', spec_l1PickInt.f c p s l = some (v, p', s') ∧ okP c p' := by
  obtain ⟨v1, p1, s1, e1, hv1, hv1', _, hp1⟩ := below_ex c hc p s hp (l.length : Int)
  have := hv1' (by omega)
  unfold spec_l1PickInt.f
  rw [e1]
  simp only [Option.bind_some]
  rw [if_pos hv1, if_pos this]
  exact ⟨_, _, _, rfl, hp1⟩
theorem pick_ex (c : List Int) (hc : c.length ≤ 1048576) (p s : Int) (hp : okP c p) (l : List ByteArray) (hl : 0 < l.length) : ∃ v p' s', spec_l1Pick.f c p s l = some (v, p', s') ∧ okP c p' := by
  obtain ⟨v1, p1, s1, e1, hv1, hv1', _, hp1⟩ := below_ex c hc p s hp (l.length : Int)
  have := hv1' (by omega)
  unfold spec_l1Pick.f
  rw [e1]
  simp only [Option.bind_some]
  rw [if_pos hv1, if_pos this]
  exact ⟨_, _, _, rfl, hp1⟩
theorem new_ex (c : List Int) (hc : c.length ≤ 1048576) : ∃ s, Ev (fun k => spec_l1New.f k c) (c, 0, s) := by
  have key : ∀ (d i : Nat) (h : Int), d + i = c.length → ∃ s, Ev (fun k => spec_l1New.l0 k c h (i : Int)) (c, 0, s) := by
    intro d
    induction d with
    | zero =>
      intro i h hi
      refine ⟨h, evi 1 (fun k hk => ?_)⟩
      obtain ⟨k, rfl⟩ : ∃ m, k = m + 1 := ⟨k - 1, by omega⟩
      rw [spec_l1New.l0, if_neg (by omega)]
    | succ d ih =>
      intro i h hi
      by_cases h4 : (i : Int) < 4000
      · obtain ⟨s, hs⟩ := ih (i + 1) (Go.bits .and .i64 (wrap64 ((wrap64 ((wrap64 (h * 131)) + (wrap64 (rd c (i : Int))))) + 7)) 1073741823) (by omega)
        obtain ⟨K, hK⟩ := evx hs
        refine ⟨s, evi (K + 1) (fun k hk => ?_)⟩
        obtain ⟨k, rfl⟩ : ∃ m, k = m + 1 := ⟨k - 1, by omega⟩
        have hgo := hK k (by omega)
        have e2 : wrap64 ((i : Int) + 1) = ((i + 1 : Nat) : Int) := by rw [w64 (by omega) (by omega)]; omega
        rw [spec_l1New.l0, if_pos (by omega), if_pos h4, if_pos (by omega), e2]
        exact hgo
      · refine ⟨h, evi 1 (fun k hk => ?_)⟩
        obtain ⟨k, rfl⟩ : ∃ m, k = m + 1 := ⟨k - 1, by omega⟩
        rw [spec_l1New.l0, if_pos (by omega), if_neg h4]
  obtain ⟨s, hs⟩ := key c.length 0 (wrap64 (10101 + (c.length : Int))) rfl
  exact ⟨s, hs⟩
theorem key_ex (c : List Int) (hc : c.length ≤ 1048576) (p s : Int) (hp : okP c p) : ∃ v p' s', spec_l5Key.f c p s = some (v, p', s') ∧ okP c p' := by
  obtain ⟨v1, p1, s1, e1, hp1⟩ := pick_ex c hc p s hp [(⟨#[97]⟩ : ByteArray), (⟨#[98]⟩ : ByteArray), (⟨#[99]⟩ : ByteArray), (⟨#[107, 101, 121]⟩ : ByteArray), (⟨#[108, 111, 110, 103, 110, 97, 109, 101]⟩ : ByteArray)] (by simp)
  unfold spec_l5Key.f
  rw [e1]
  exact ⟨_, _, _, rfl, hp1⟩
theorem rec_j0_ex (c : List Int) (hc : c.length ≤ 1048576) (p s : Int) (hp : okP c p) (x : Int) (b : Bool) (i0 i1 i4 i5 : Int) (key : ByteArray) : ∃ a0 a1 a2 a3 a4 a5 p' s', Ev (fun k => spec_l5Rec.j0 k x b c p s i0 i1 key (⟨#[]⟩ : ByteArray) i4 i5) (a0, a1, a2, a3, a4, a5, p', s') ∧ a3.size ≤ 20 ∧ okP c p' := by
  cases b with
  | true =>
    obtain ⟨v1, p1, s1, e1, hp1⟩ := key_ex c hc p s hp
    obtain ⟨r, p2, s2, hE, hr, hp2⟩ := text_ex c hc p1 s1 hp1 20 (by omega)
    obtain ⟨K, hK⟩ := evx hE
    refine ⟨i0, i1, v1, r, i4, i5, p2, s2, evi (K + 1) (fun k hk => ?_), hr, hp2⟩
    obtain ⟨k, rfl⟩ : ∃ m, k = m + 1 := ⟨k - 1, by omega⟩
    have hgo : spec_l1Text.f k c p1 s1 20 = some (r, p2, s2) := hK k (by omega)
    rw [spec_l5Rec.j0, if_pos rfl, e1]
    simp only [Option.bind_some]
    rw [hgo]
    rfl
  | false =>
    by_cases h2 : x = 2
    · obtain ⟨v1, p1, s1, e1, hp1⟩ := key_ex c hc p s hp
      refine ⟨i0, i1, v1, (⟨#[]⟩ : ByteArray), i4, i5, p1, s1, evi 1 (fun k hk => ?_), by simp [ByteArray.size], hp1⟩
      obtain ⟨k, rfl⟩ : ∃ m, k = m + 1 := ⟨k - 1, by omega⟩
      rw [spec_l5Rec.j0, if_neg (by simp), if_pos h2, e1]
      rfl
    · obtain ⟨v1, p1, s1, e1, _, _, _, hp1⟩ := below_ex c hc p s hp 4
      obtain ⟨v2, p2, s2, e2, _, _, _, hp2⟩ := below_ex c hc p1 s1 hp1 99999
      obtain ⟨v3, p3, s3, e3, hp3⟩ := pickInt_ex c hc p2 s2 hp2 [0, 7, 4294967295, v2] (by simp)
      refine ⟨i0, i1, key, (⟨#[]⟩ : ByteArray), v1, v3, p3, s3, evi 1 (fun k hk => ?_), by simp [ByteArray.size], hp3⟩
      obtain ⟨k, rfl⟩ : ∃ m, k = m + 1 := ⟨k - 1, by omega⟩
      rw [spec_l5Rec.j0, if_neg (by simp), if_neg h2, e1]
      simp only [Option.bind_some]
      rw [e2]
      simp only [Option.bind_some]
      rw [e3]
      rfl
theorem rec_ex (c : List Int) (hc : c.length ≤ 1048576) (p s : Int) (hp : okP c p) : ∃ a0 a1 a2 a3 a4 a5 p' s', Ev (fun k => spec_l5Rec.f k c p s) (a0, a1, a2, a3, a4, a5, p', s') ∧ a3.size ≤ 20 ∧ okP c p' := by
  obtain ⟨v1, p1, s1, e1, _, _, _, hp1⟩ := below_ex c hc p s hp 5
  obtain ⟨v2, p2, s2, e2, _, _, _, hp2⟩ := below_ex c hc p1 s1 hp1 300
  by_cases h : wrap64 (1 + v1) = 1
  · obtain ⟨a0, a1, a2, a3, a4, a5, p', s', hE, hr, hp'⟩ := rec_j0_ex c hc p2 s2 hp2 (wrap64 (1 + v1)) (wrap64 (1 + v1) == 1) (wrap64 (1 + v1)) (wrap64 (1 + v2)) 0 0 (⟨#[]⟩ : ByteArray)
    obtain ⟨K, hK⟩ := evx hE
    refine ⟨a0, a1, a2, a3, a4, a5, p', s', evi K (fun k hk => ?_), hr, hp'⟩
    unfold spec_l5Rec.f
    rw [e1]
    simp only [Option.bind_some]
    rw [e2]
    simp only [Option.bind_some]
    rw [if_pos h]
    exact hK k hk
  · obtain ⟨a0, a1, a2, a3, a4, a5, p', s', hE, hr, hp'⟩ := rec_j0_ex c hc p2 s2 hp2 (wrap64 (1 + v1)) (wrap64 (1 + v1) == 4) (wrap64 (1 + v1)) (wrap64 (1 + v2)) 0 0 (⟨#[]⟩ : ByteArray)
    obtain ⟨K, hK⟩ := evx hE
    refine ⟨a0, a1, a2, a3, a4, a5, p', s', evi K (fun k hk => ?_), hr, hp'⟩
    unfold spec_l5Rec.f
    rw [e1]
    simp only [Option.bind_some]
    rw [e2]
    simp only [Option.bind_some]
    rw [if_neg h]
    exact hK k hk
theorem any_l0 (c : List Int) (hc : c.length ≤ 1048576) (i0 i1 i4 i5 : Int) (key : ByteArray) (d : Nat) : ∀ (val : ByteArray) (p s : Int), okP c p → 26 ≤ val.size + d → val.size ≤ 26 → ∃ a3 p' s', Ev (fun k => spec_l5Any.l0 k c p s i0 i1 key val i4 i5) (i0, i1, key, a3, i4, i5, p', s') := by
  induction d with
  | zero =>
    intro val p s hp h1 h2
    obtain ⟨v1, p1, s1, e1, hv, hv', _, hp1⟩ := below_ex c hc p s hp 2
    have := hv' (by omega)
    refine ⟨val, p1, s1, evi 1 (fun k hk => ?_)⟩
    obtain ⟨k, rfl⟩ : ∃ m, k = m + 1 := ⟨k - 1, by omega⟩
    rw [spec_l5Any.l0, e1]
    simp only [Option.bind_some]
    rw [w64 (by omega) (by omega), if_neg (by omega)]
  | succ d ih =>
    intro val p s hp h1 h2
    obtain ⟨v1, p1, s1, e1, hv, hv', _, hp1⟩ := below_ex c hc p s hp 2
    have := hv' (by omega)
    by_cases hlt : (val.size : Int) < 24 + v1
    · have hsz : (val ++ (⟨#[118]⟩ : ByteArray)).size = val.size + 1 := by rw [ByteArray.size_append]; rfl
      obtain ⟨a3, p', s', hE⟩ := ih (val ++ (⟨#[118]⟩ : ByteArray)) p1 s1 hp1 (by omega) (by omega)
      obtain ⟨K, hK⟩ := evx hE
      refine ⟨a3, p', s', evi (K + 1) (fun k hk => ?_)⟩
      obtain ⟨k, rfl⟩ : ∃ m, k = m + 1 := ⟨k - 1, by omega⟩
      rw [spec_l5Any.l0, e1]
      simp only [Option.bind_some]
      rw [w64 (by omega) (by omega), if_pos hlt, if_pos (by omega)]
      exact hK k (by omega)
    · refine ⟨val, p1, s1, evi 1 (fun k hk => ?_)⟩
      obtain ⟨k, rfl⟩ : ∃ m, k = m + 1 := ⟨k - 1, by omega⟩
      rw [spec_l5Any.l0, e1]
      simp only [Option.bind_some]
      rw [w64 (by omega) (by omega), if_neg hlt]
theorem any_ex (c : List Int) (hc : c.length ≤ 1048576) (p s : Int) (hp : okP c p) : ∃ a0 a1 a2 a3 a4 a5 p' s', Ev (fun k => spec_l5Any.f k c p s) (a0, a1, a2, a3, a4, a5, p', s') := by
  obtain ⟨a0, a1, a2, a3, a4, a5, p1, s1, hE, hr, hp1⟩ := rec_ex c hc p s hp
  obtain ⟨K, hK⟩ := evx hE
  obtain ⟨v2, p2, s2, e2, _, _, _, hp2⟩ := below_ex c hc p1 s1 hp1 14
  have pre : ∀ k, K ≤ k → spec_l5Any.f k c p s = (some (v2, p2, s2)).bind fun bt241 => (if bt241.1 = 0 then ((spec_l1PickInt.f c bt241.2.1 bt241.2.2 (([0, 6, 3, 1] : List Int))).bind fun bt247 => (some (bt247.1, a1, a2, a3, a4, a5, bt247.2.1, bt247.2.2))) else (if bt241.1 = 1 then ((spec_l1PickInt.f c bt241.2.1 bt241.2.2 (([0, (-1), 1000000, 1000001] : List Int))).bind fun bt253 => (some (a0, bt253.1, a2, a3, a4, a5, bt253.2.1, bt253.2.2))) else (if bt241.1 = 2 then ((spec_l1Pick.f c bt241.2.1 bt241.2.2 (([(⟨#[]⟩ : ByteArray), (⟨#[110, 105, 110, 101, 98, 121, 116, 101, 115]⟩ : ByteArray), (⟨#[120]⟩ : ByteArray)] : List ByteArray))).bind fun bt259 => (some (a0, a1, bt259.1, a3, a4, a5, bt259.2.1, bt259.2.2))) else (if bt241.1 = 3 then (spec_l5Any.l0 k c bt241.2.1 bt241.2.2 a0 a1 a2 a3 a4 a5) else (if bt241.1 = 4 then ((spec_l1PickInt.f c bt241.2.1 bt241.2.2 (([(-1), 8, 9, 20, 21] : List Int))).bind fun bt268 => (some (a0, a1, a2, a3, bt268.1, a5, bt268.2.1, bt268.2.2))) else (if bt241.1 = 5 then ((spec_l1PickInt.f c bt241.2.1 bt241.2.2 (([(-1), 4294967296] : List Int))).bind fun bt274 => (some (a0, a1, a2, a3, a4, bt274.1, bt274.2.1, bt274.2.2))) else (some (a0, a1, a2, a3, a4, a5, bt241.2.1, bt241.2.2)))))))) := by
    intro k hk
    unfold spec_l5Any.f
    rw [hK k hk]
    simp only [Option.bind_some]
    rw [e2]
    simp only [Option.bind_some]
  simp only [Option.bind_some] at pre
  by_cases c0 : v2 = 0
  · obtain ⟨v, p', s', e, _⟩ := pickInt_ex c hc p2 s2 hp2 [0, 6, 3, 1] (by simp)
    exact ⟨v, a1, a2, a3, a4, a5, p', s', evi K (fun k hk => by rw [pre k hk, if_pos c0, e]; rfl)⟩
  by_cases c1 : v2 = 1
  · obtain ⟨v, p', s', e, _⟩ := pickInt_ex c hc p2 s2 hp2 [0, (-1), 1000000, 1000001] (by simp)
    exact ⟨a0, v, a2, a3, a4, a5, p', s', evi K (fun k hk => by rw [pre k hk, if_neg c0, if_pos c1, e]; rfl)⟩
  by_cases c2 : v2 = 2
  · obtain ⟨v, p', s', e, _⟩ := pick_ex c hc p2 s2 hp2 [(⟨#[]⟩ : ByteArray), (⟨#[110, 105, 110, 101, 98, 121, 116, 101, 115]⟩ : ByteArray), (⟨#[120]⟩ : ByteArray)] (by simp)
    exact ⟨a0, a1, v, a3, a4, a5, p', s', evi K (fun k hk => by rw [pre k hk, if_neg c0, if_neg c1, if_pos c2, e]; rfl)⟩
  by_cases c3 : v2 = 3
  · obtain ⟨z, p', s', hE2⟩ := any_l0 c hc a0 a1 a4 a5 a2 26 a3 p2 s2 hp2 (by omega) (by omega)
    obtain ⟨K2, hK2⟩ := evx hE2
    exact ⟨a0, a1, a2, z, a4, a5, p', s', evi (K + K2) (fun k hk => by rw [pre k (by omega), if_neg c0, if_neg c1, if_neg c2, if_pos c3]; exact hK2 k (by omega))⟩
  by_cases c4 : v2 = 4
  · obtain ⟨v, p', s', e, _⟩ := pickInt_ex c hc p2 s2 hp2 [(-1), 8, 9, 20, 21] (by simp)
    exact ⟨a0, a1, a2, a3, v, a5, p', s', evi K (fun k hk => by rw [pre k hk, if_neg c0, if_neg c1, if_neg c2, if_neg c3, if_pos c4, e]; rfl)⟩
  by_cases c5 : v2 = 5
  · obtain ⟨v, p', s', e, _⟩ := pickInt_ex c hc p2 s2 hp2 [(-1), 4294967296] (by simp)
    exact ⟨a0, a1, a2, a3, a4, v, p', s', evi K (fun k hk => by rw [pre k hk, if_neg c0, if_neg c1, if_neg c2, if_neg c3, if_neg c4, if_pos c5, e]; rfl)⟩
  · exact ⟨a0, a1, a2, a3, a4, a5, p2, s2, evi K (fun k hk => by rw [pre k hk, if_neg c0, if_neg c1, if_neg c2, if_neg c3, if_neg c4, if_neg c5])⟩
theorem drawShow_ex (c : List Int) (hc : c.length ≤ 1048576) : ∃ a0 a1 a2 a3 a4 a5, Ev (fun k => spec_DrawShowRec.f k c) (a0, a1, a2, a3, a4, a5) := by
  obtain ⟨s, hs⟩ := new_ex c hc
  obtain ⟨K1, h1⟩ := evx hs
  obtain ⟨a0, a1, a2, a3, a4, a5, p', s', hE⟩ := any_ex c hc 0 s ⟨by omega, by omega⟩
  obtain ⟨K2, h2⟩ := evx hE
  refine ⟨a0, a1, a2, a3, a4, a5, evi (K1 + K2) (fun k hk => ?_)⟩
  unfold spec_DrawShowRec.f
  rw [h1 k (by omega)]
  simp only [Option.bind_some]
  rw [h2 k (by omega)]
  rfl
theorem spoil_ex (c : List Int) (hc : c.length ≤ 1048576) (p s : Int) (hp : okP c p) (t : ByteArray) (ht : t.size ≤ 1000) : ∃ r p' s', Ev (fun k => spec_l1Spoil.f k c p s t) (r, p', s') := by
  by_cases h0 : (t.size : Int) = 0
  · obtain ⟨r, p1, s1, hE, _, _⟩ := text_ex c hc p s hp 3 (by omega)
    obtain ⟨K, hK⟩ := evx hE
    refine ⟨r, p1, s1, evi K (fun k hk => ?_)⟩
    have hgo : spec_l1Text.f k c p s 3 = some (r, p1, s1) := hK k hk
    unfold spec_l1Spoil.f
    rw [if_pos h0, hgo]
    rfl
  · obtain ⟨v1, p1, s1, e1, hv1, hv1', _, hp1⟩ := below_ex c hc p s hp (t.size : Int)
    have hlt := hv1' (by omega)
    obtain ⟨v2, p2, s2, e2, hv2, _, _, hp2⟩ := below_ex c hc p1 s1 hp1 4
    obtain ⟨v3, p3, s3, e3, hv3, hp3⟩ := byte_ex c hc p2 s2 hp2
    obtain ⟨v4, p4, s4, e4, hv4, _, _, hp4⟩ := below_ex c hc p2 s2 hp2 255
    obtain ⟨i, rfl⟩ := Int.eq_ofNat_of_zero_le hv1
    have hw : wrap64 ((i : Int) + 1) = ((i + 1 : Nat) : Int) := by rw [w64 (by omega) (by omega)]; omega
    have l1 : (t.extract 0 i).size ≤ 1000 := by rw [ByteArray.size_extract]; omega
    have l2 : (t.extract (i + 1) t.size).size ≤ 1000 := by rw [ByteArray.size_extract]; omega
    have l3 : (t.extract i t.size).size ≤ 1000 := by rw [ByteArray.size_extract]; omega
    have nums : ∀ x : Int, (strOfNums [x]).size = 1 := by intro x; rw [strOfNums_size]; rfl
    by_cases d0 : v2 = 0
    · refine ⟨t.extract 0 i ++ t.extract (i + 1) t.size, p2, s2, evi 0 (fun k hk => ?_)⟩
      unfold spec_l1Spoil.f
      rw [if_neg h0, e1]
      simp only [Option.bind_some]
      rw [e2]
      simp only [Option.bind_some]
      rw [if_pos d0, hw, if_pos (by omega), if_pos (by omega), if_pos (by omega), if_pos (by omega), Int.toNat_natCast, Int.toNat_natCast, if_pos (by omega)]
    by_cases d1 : v2 = 1
    · refine ⟨(t.extract 0 i ++ strOfNums [v3 % 256]) ++ t.extract i t.size, p3, s3, evi 0 (fun k hk => ?_)⟩
      unfold spec_l1Spoil.f
      rw [if_neg h0, e1]
      simp only [Option.bind_some]
      rw [e2]
      simp only [Option.bind_some]
      rw [if_neg d0, if_pos d1, if_pos (by omega), if_pos (by omega), e3]
      simp only [Option.bind_some, Int.toNat_natCast]
      rw [if_pos (by rw [nums]; omega), if_pos (by rw [ByteArray.size_append, nums]; omega)]
    by_cases d2 : v2 = 2
    · refine ⟨t.extract 0 i, p2, s2, evi 0 (fun k hk => ?_)⟩
      unfold spec_l1Spoil.f
      rw [if_neg h0, e1]
      simp only [Option.bind_some]
      rw [e2]
      simp only [Option.bind_some]
      rw [if_neg d0, if_neg d1, if_pos d2, if_pos (by omega), if_pos (by omega), Int.toNat_natCast]
    · refine ⟨(t.extract 0 i ++ strOfNums [(Go.bits .xor .i64 (wrap64 (bt t (i : Int))) (wrap64 (1 + v4))) % 256]) ++ t.extract (i + 1) t.size, p4, s4, evi 0 (fun k hk => ?_)⟩
      unfold spec_l1Spoil.f
      rw [if_neg h0, e1]
      simp only [Option.bind_some]
      rw [e2]
      simp only [Option.bind_some]
      rw [if_neg d0, if_neg d1, if_neg d2, if_pos (by omega), if_pos (by omega), if_pos (by omega), e4]
      simp only [Option.bind_some]
      rw [hw]
      simp only [Int.toNat_natCast]
      rw [if_pos (by rw [nums]; omega), if_pos (by omega), if_pos (by omega), if_pos (by rw [ByteArray.size_append, nums]; omega)]
theorem drawRead_ex (c : List Int) (hc : c.length ≤ 1048576) : ∃ t, Ev (fun k => spec_DrawReadRec.f k c) t := by
  obtain ⟨s, hs⟩ := new_ex c hc
  obtain ⟨K1, h1⟩ := evx hs
  obtain ⟨a0, a1, a2, a3, a4, a5, p1, s1, hE, _, hp1⟩ := rec_ex c hc 0 s ⟨by omega, by omega⟩
  obtain ⟨K2, h2⟩ := evx hE
  obtain ⟨l2, rfl⟩ := exS a2
  obtain ⟨l3, rfl⟩ := exS a3
  obtain ⟨K3, h3⟩ := evx (spec_ShowRec_ev a0 a1 a4 a5 l2 l3)
  have hlen := showR_len (a0, a1, l2, l3, a4, a5)
  have hsh : showR (a0, a1, l2, l3, a4, a5) = showRec a0 a1 l2 l3 a4 a5 := rfl
  rw [hsh] at hlen
  generalize showRec a0 a1 l2 l3 a4 a5 = t at *
  have hts : (mkS t).size ≤ 60 := by rw [mkS_size]; exact hlen
  generalize mkS t = u at *
  obtain ⟨v, p2, s2, e2, _, _, _, hp2⟩ := below_ex c hc p1 s1 hp1 5
  by_cases d0 : v = 0
  · obtain ⟨r, p3, s3, hE3⟩ := spoil_ex c hc p2 s2 hp2 u (by omega)
    obtain ⟨K4, h4⟩ := evx hE3
    refine ⟨r, evi (K1 + K2 + K3 + K4) (fun k hk => ?_)⟩
    unfold spec_DrawReadRec.f
    rw [h1 k (by omega)]
    simp only [Option.bind_some]
    rw [h2 k (by omega)]
    simp only [Option.bind_some]
    rw [h3 k (by omega)]
    simp only [Option.bind_some]
    rw [e2]
    simp only [Option.bind_some]
    rw [if_pos d0, h4 k (by omega)]
    rfl
  by_cases d1 : v = 1
  · obtain ⟨v4, p4, s4, e4, hv4, hv4', _, _⟩ := below_ex c hc p2 s2 hp2 (wrap64 ((u.size : Int) + 1))
    have hw : wrap64 ((u.size : Int) + 1) = (u.size : Int) + 1 := w64 (by omega) (by omega)
    rw [hw] at hv4'
    have := hv4' (by omega)
    refine ⟨u.extract 0 v4.toNat, evi (K1 + K2 + K3) (fun k hk => ?_)⟩
    unfold spec_DrawReadRec.f
    rw [h1 k (by omega)]
    simp only [Option.bind_some]
    rw [h2 k (by omega)]
    simp only [Option.bind_some]
    rw [h3 k (by omega)]
    simp only [Option.bind_some]
    rw [e2]
    simp only [Option.bind_some]
    rw [if_neg d0, if_pos d1, e4]
    simp only [Option.bind_some]
    rw [if_pos hv4, if_pos (by omega)]
  by_cases d2 : v = 2
  · obtain ⟨r, p3, s3, hE3, hr, _⟩ := text_ex c hc p2 s2 hp2 3 (by omega)
    obtain ⟨K4, h4⟩ := evx hE3
    refine ⟨u ++ r, evi (K1 + K2 + K3 + K4) (fun k hk => ?_)⟩
    have hgo : spec_l1Text.f k c p2 s2 3 = some (r, p3, s3) := h4 k (by omega)
    unfold spec_DrawReadRec.f
    rw [h1 k (by omega)]
    simp only [Option.bind_some]
    rw [h2 k (by omega)]
    simp only [Option.bind_some]
    rw [h3 k (by omega)]
    simp only [Option.bind_some]
    rw [e2]
    simp only [Option.bind_some]
    rw [if_neg d0, if_neg d1, if_pos d2, hgo]
    simp only [Option.bind_some]
    rw [if_pos (by omega)]
  · refine ⟨u, evi (K1 + K2 + K3) (fun k hk => ?_)⟩
    unfold spec_DrawReadRec.f
    rw [h1 k (by omega)]
    simp only [Option.bind_some]
    rw [h2 k (by omega)]
    simp only [Option.bind_some]
    rw [h3 k (by omega)]
    simp only [Option.bind_some]
    rw [e2]
    simp only [Option.bind_some]
    rw [if_neg d0, if_neg d1, if_neg d2]



/-! ### the law -/
theorem FnRecords : laws_FnRecords.Pure := by
  intro c h1 h2 h3
  by_cases hb : (c.length : Int) > 1048576
  · refine ⟨0, ?_⟩
    unfold laws_FnRecords.f laws_big.f
    simp only [Option.bind_some]
    rw [if_pos (by simpa using hb)]
  · have hc : c.length ≤ 1048576 := by omega
    obtain ⟨a0, a1, a2, a3, a4, a5, hE⟩ := drawShow_ex c hc
    obtain ⟨K1, k1⟩ := evx hE
    obtain ⟨t, hT⟩ := drawRead_ex c hc
    obtain ⟨K2, k2⟩ := evx hT
    obtain ⟨l2, rfl⟩ := exS a2
    obtain ⟨l3, rfl⟩ := exS a3
    obtain ⟨lt, rfl⟩ := exS t
    obtain ⟨K3, k3⟩ := evx (impl_ShowRec_ev a0 a1 a4 a5 l2 l3)
    obtain ⟨K4, k4⟩ := evx (impl_ReadRec_ev (showRec a0 a1 l2 l3 a4 a5))
    obtain ⟨K5, k5⟩ := evx (impl_ReadRec_ev lt)
    obtain ⟨K6, k6⟩ := evx (impl_ShowRec_ev (readR lt).1.1 (readR lt).1.2.1 (readR lt).1.2.2.2.2.1 (readR lt).1.2.2.2.2.2 (readR lt).1.2.2.1 (readR lt).1.2.2.2.1)
    have hokr : recOk a0 a1 l2 l3 a4 a5 = okR (a0, a1, l2, l3, a4, a5) := rfl
    have hshr : showRec a0 a1 l2 l3 a4 a5 = showR (a0, a1, l2, l3, a4, a5) := rfl
    generalize hK : K1 + K2 + K3 + K4 + K5 + K6 + 2 = K
    refine ⟨K, ?_⟩
    -- the second half: what is read of any text
    have tail : (if (outR (readR lt)).2.2.2.2.2.2 = true then ((impl_ShowRec.f K (outR (readR lt)).1 (outR (readR lt)).2.1 (outR (readR lt)).2.2.1 (outR (readR lt)).2.2.2.1 (outR (readR lt)).2.2.2.2.1 (outR (readR lt)).2.2.2.2.2.1).bind fun t423 => (if t423.toList = (mkS lt).toList then ((spec_RecOk.f K (outR (readR lt)).1 (outR (readR lt)).2.1 (outR (readR lt)).2.2.1 (outR (readR lt)).2.2.2.1 (outR (readR lt)).2.2.2.2.1 (outR (readR lt)).2.2.2.2.2.1).bind fun t424 => (some t424)) else (some false))) else (some true)) = some true := by
      rcases readR_cases lt with ⟨r, ho, hs, he⟩ | ⟨_, he⟩
      · have k6' := k6 K (by omega)
        rw [he] at k6' ⊢
        simp only [outR, if_true] at k6' ⊢
        rw [k6', spec_RecOk_f _ _ _ _ _ _ K (by omega)]
        simp only [Option.bind_some, mkS_toList]
        have e1 : showRec r.1 r.2.1 r.2.2.1 r.2.2.2.1 r.2.2.2.2.1 r.2.2.2.2.2 = lt := hs
        have e2 : recOk r.1 r.2.1 r.2.2.1 r.2.2.2.1 r.2.2.2.2.1 r.2.2.2.2.2 = true := ho
        rw [if_pos e1, e2]
      · rw [he]
        simp [outR]
    unfold laws_FnRecords.f laws_big.f
    simp only [Option.bind_some]
    rw [if_neg (by simpa using hb), k1 K (by omega)]
    simp only [Option.bind_some]
    rw [k3 K (by omega)]
    simp only [Option.bind_some]
    rw [k4 K (by omega)]
    simp only [Option.bind_some]
    rw [k2 K (by omega)]
    simp only [Option.bind_some]
    rw [k5 K (by omega)]
    simp only [Option.bind_some]
    rw [spec_RecOk_f _ _ _ _ _ _ K (by omega), impl_RecOk_f _ _ _ _ _ _ K (by omega)]
    simp only [Option.bind_some, mkS_toList]
    rw [mkS_toList] at tail
    rw [hokr, hshr]
    by_cases ho : okR (a0, a1, l2, l3, a4, a5) = true
    · have hne := showR_ne ho
      rw [ho, if_pos (by simp [hne]), if_pos (by simp), if_neg hne, readR_some ho]
      rw [if_pos (show (outR ((a0, a1, l2, l3, a4, a5), true)).2.2.2.2.2.2 = true from rfl), if_pos (by simp [outR, mkS_toList])]
      exact tail
    · have hnil := showR_nil ho
      have hf : okR (a0, a1, l2, l3, a4, a5) = false := by simpa using ho
      rw [hf, hnil, if_pos (by simp), if_pos (by simp), if_pos rfl]
      exact tail

end Go.Proofs.Ytebeafcdabkkfaa.Pure
