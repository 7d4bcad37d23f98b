/- The pure statement of the law FnExactShowLive: for all arguments within the printed bounds the printed function of the law answers true. Conditions: only the bounds that the printed statement itself names. -/
import Derived.Test.YtodmaebgogjpdabPFnExactShowLivex5
namespace Go.Proofs.Ytodmaebgogjpdab.Pure
open Go.RowKit Go.Proofs.Ytodmaebgogjpdab.PFnExactShowLive Go.Proofs.YtodmaebgogjpdabW.PrintWords Go.Proofs.YtodmaebgogjpdabW.PrintLast
set_option linter.unusedVariables false
set_option linter.unusedSimpArgs false

/-! ### Base: strings as lists of bytes, arithmetic of Go's ints -/
/-- The string of a list of bytes. -/
def mkS (l : List UInt8) : ByteArray := ⟨l.toArray⟩
theorem exS (s : ByteArray) : ∃ l, s = mkS l := ⟨s.data.toList, by cases s; simp [mkS]⟩
theorem mkS_size (l : List UInt8) : (mkS l).size = l.length := by simp [mkS, ByteArray.size]
theorem mkS_inj {a b : List UInt8} : mkS a = mkS b ↔ a = b := by
  constructor
  · intro h; have := congrArg (fun s : ByteArray => s.data.toList) h; simpa [mkS] using this
  · intro h; rw [h]
theorem toList_data (s : ByteArray) : s.toList = s.data.toList := by
  have key : ∀ (n i : Nat) (r : List UInt8), s.size - i = n → ByteArray.toList.loop s i r = r.reverse ++ s.data.toList.drop i := by
    intro n
    induction n with
    | zero =>
      intro i r h
      unfold ByteArray.toList.loop
      rw [if_neg (by omega), List.drop_of_length_le (by simp only [Array.length_toList]; have : s.size = s.data.size := rfl; omega), List.append_nil]
    | succ n ih =>
      intro i r h
      unfold ByteArray.toList.loop
      have hi : i < s.data.toList.length := by simp only [Array.length_toList]; have : s.size = s.data.size := rfl; omega
      rw [if_pos (by omega), ih (i + 1) _ (by omega), List.reverse_cons, List.append_assoc, List.drop_eq_getElem_cons hi]
      have : s.get! i = s.data.toList[i] := by
        show s.data[i]! = _
        rw [Array.getElem_toList]
        exact getElem!_pos s.data i (by simpa using hi)
      rw [this]
      rfl
  have := key _ 0 [] rfl
  simpa [ByteArray.toList] using this
theorem mkS_toList (l : List UInt8) : (mkS l).toList = l := by rw [toList_data]; simp [mkS]
theorem mkS_append (a b : List UInt8) : mkS a ++ mkS b = mkS (a ++ b) := by
  apply ByteArray.ext
  simp [mkS, ByteArray.data_append]
theorem mkS_extract (l : List UInt8) (i j : Nat) : (mkS l).extract i j = mkS ((l.drop i).take (j - i)) := by
  apply ByteArray.ext
  rw [ByteArray.data_extract]
  simp only [mkS]
  apply Array.ext'
  rw [Array.toList_extract]
  try simp [List.extract_eq_drop_take]
theorem mkS_nil : (⟨#[]⟩ : ByteArray) = mkS [] := rfl
theorem bt_mkS (l : List UInt8) (i : Nat) (h : i < l.length) : bt (mkS l) (i : Int) = ((l[i]).toNat : Int) := by
  unfold bt
  have h' : ((i : Int)).toNat < (mkS l).size := by rw [mkS_size]; simpa using h
  rw [dif_pos h']
  simp only [Int.toNat_natCast]
  rfl
/-- A slice of bytes as the print tells it. -/
def ints (l : List UInt8) : List Int := l.map fun b => (b.toNat : Int)
theorem ints_length (l : List UInt8) : (ints l).length = l.length := by simp [ints]
theorem ints_append (a b : List UInt8) : ints a ++ ints b = ints (a ++ b) := by simp [ints]
theorem ints_nil : ([] : List Int) = ints [] := rfl
theorem ub_byte (b : UInt8) : UInt8.ofNat ((b.toNat : Int)).toNat = b := by simp
theorem strOfNums_ints (l : List UInt8) : strOfNums (ints l) = mkS l := by
  unfold strOfNums ints mkS
  congr 2
  rw [List.map_map]
  conv => rhs; rw [← List.map_id l]
  apply List.map_congr_left
  intro b _
  simp
theorem ofNat_cast (n : Nat) : ((UInt8.ofNat n).toNat : Int) = (n : Int) % 256 := by simp
theorem ints_one (n : Nat) (x : Int) (h : x % 256 = ((n % 256 : Nat) : Int)) : [x % 256] = ints [UInt8.ofNat n] := by
  simp only [ints, List.map_cons, List.map_nil]
  rw [h, ofNat_cast]
  simp
theorem w64 {x : Int} (h0 : -9223372036854775808 ≤ x) (h1 : x ≤ 9223372036854775807) : wrap64 x = x := by unfold wrap64; omega
theorem w64b (s : ByteArray) (i : Int) : wrap64 (bt s i) = bt s i := by have := bt_range s i; exact w64 (by omega) (by omega)
theorem wfI {x : Int} (h : (Lit.int .i64 x).wf = true) : -9223372036854775808 ≤ x ∧ x ≤ 9223372036854775807 := by
  have e1 : IntKind.i64.min = -9223372036854775808 := by decide
  have e2 : IntKind.i64.max = 9223372036854775807 := by decide
  have h1 : IntKind.i64.min ≤ x ∧ x ≤ IntKind.i64.max := by simpa [Lit.wf] using h
  rw [e1, e2] at h1
  exact h1
theorem tdivp {x y : Int} (h : 0 ≤ x) : Int.tdiv x y = x / y := Int.tdiv_eq_ediv_of_nonneg h
theorem tmodp {x y : Int} (h : 0 ≤ x) : Int.tmod x y = x % y := Int.tmod_eq_emod_of_nonneg h
theorem shl_i64 {x y : Int} {n : Nat} (hy : y = (n : Int)) (hn : n ≤ 64) : shl .i64 x y = wrap64 (x * 2 ^ n) := by
  unfold shl
  have e : min y.toNat IntKind.i64.bits = n := by subst hy; simp [IntKind.bits]; omega
  rw [e, IntKind.wrap_i64, wrap64]
theorem shr_i64 {x y : Int} {n : Nat} (hy : y = (n : Int)) (hn : n ≤ 64) : shr .i64 x y = x / 2 ^ n := by
  unfold shr
  have e : min y.toNat IntKind.i64.bits = n := by subst hy; simp [IntKind.bits]; omega
  rw [e]
theorem getElem_drop_cons {α : Type} {l : List α} {i : Nat} (h : i < l.length) : l.drop i = l[i] :: l.drop (i + 1) := List.drop_eq_getElem_cons h
theorem ev_some {α : Type} {g : Nat → Option α} {r q : α} (h : Ev g r) (hk : r = q) : Ev g q := hk ▸ h
theorem evx {α : Type} {g : Nat → Option α} {r : α} (h : Ev g r) : ∃ K, ∀ k, K ≤ k → g k = some r := h
theorem evi {α : Type} {g : Nat → Option α} {r : α} (K : Nat) (h : ∀ k, K ≤ k → g k = some r) : Ev g r := ⟨K, h⟩

/-! ### Var: a number in as few bytes as may be -/
def varL (n : Nat) : List UInt8 := if n < 128 then [UInt8.ofNat n] else UInt8.ofNat (n % 128 + 128) :: varL (n / 128)
termination_by n
decreasing_by omega
theorem varL_small {n : Nat} (h : n < 128) : varL n = [UInt8.ofNat n] := by rw [varL, if_pos h]
theorem varL_big {n : Nat} (h : ¬ n < 128) : varL n = UInt8.ofNat (n % 128 + 128) :: varL (n / 128) := by rw [varL, if_neg h]
theorem varL_pos (n : Nat) : 0 < (varL n).length := by
  by_cases h : n < 128
  · rw [varL_small h]; simp
  · rw [varL_big h]; simp
theorem varL_ne (n : Nat) : varL n ≠ [] := by intro h; have := varL_pos n; rw [h] at this; simp at this
theorem varL_len (j : Nat) : ∀ n : Nat, n < 128 ^ (j + 1) → (varL n).length ≤ j + 1 := by
  induction j with
  | zero => intro n h; rw [varL_small (by omega)]; simp
  | succ j ih =>
    intro n h
    by_cases hn : n < 128
    · rw [varL_small hn]; simp
    · rw [varL_big hn, List.length_cons]
      have : n / 128 < 128 ^ (j + 1) := by rw [Nat.div_lt_iff_lt_mul (by omega)]; rw [Nat.pow_succ] at h; exact h
      have := ih _ this
      omega
theorem varL_len7 {n : Nat} (h : n ≤ 562949953421311) : (varL n).length ≤ 7 := varL_len 6 n (by omega)
/-- A number's text. -/
def varS (n : Int) : ByteArray := if 0 ≤ n ∧ n ≤ 562949953421311 then mkS (varL n.toNat) else mkS []
theorem varS_nat {n : Nat} (h : n ≤ 562949953421311) : varS (n : Int) = mkS (varL n) := by
  unfold varS
  rw [if_pos ⟨by omega, by omega⟩, Int.toNat_natCast]
/-- A text with its length ahead. -/
def textL (l : List UInt8) : List UInt8 := varL l.length ++ l
theorem textL_length (l : List UInt8) (h : l.length ≤ 562949953421311) : (textL l).length ≤ l.length + 7 := by have := varL_len7 h; rw [textL, List.length_append]; omega

/-! ### impl's in -/
theorem impl_in_f (a b c : Int) : impl_in.f a b c = some (decide (b ≤ a ∧ a ≤ c)) := by
  unfold impl_in.f
  by_cases h : a ≥ b
  · rw [if_pos h]; congr 1; simp [h]
  · rw [if_neg h]; congr 1; simp; omega

/-! ### spec's l1In -/
theorem spec_l1In_f (a b c : Int) : spec_l1In.f a b c = some (decide (b ≤ a ∧ a ≤ c)) := by
  unfold spec_l1In.f
  by_cases h : a ≥ b
  · rw [if_pos h]; congr 1; simp [h]
  · rw [if_neg h]; congr 1; simp; omega

/-! ### impl's Var -/
theorem impl_Var_l0 (m : Nat) : ∀ (n : Nat) (acc : List UInt8), n ≤ 562949953421311 → n ≤ m → acc.length + n ≤ 600000000000000 → acc.length + (varL n).length ≤ 100000000000000 → Ev (fun k => impl_Var.l0 k (n : Int) (ints acc)) (mkS (acc ++ varL n)) := by
  induction m using Nat.strongRecOn with
  | ind m ih =>
  intro n acc hn hm _ hl
  have hlp := varL_pos n
  by_cases h : n < 128
  · refine evi (1) fun k hk => ?_
    obtain ⟨k, rfl⟩ : ∃ m, k = m + 1 := ⟨k - 1, by omega⟩
    simp only [impl_Var.l0]
    rw [if_neg (by omega), if_pos (by rw [ints_length]; omega), ints_one n _ (by omega), ints_append, strOfNums_ints, varL_small h]
  · have hd := varL_big h
    obtain ⟨K, hK⟩ := evx (ih (n / 128) (by omega) (n / 128) (acc ++ [UInt8.ofNat (n % 128 + 128)]) (by omega) (Nat.le_refl _) (by rw [List.length_append, List.length_singleton]; omega) (by rw [hd, List.length_cons] at hl; rw [List.length_append, List.length_singleton]; omega))
    refine evi (K + 1) fun k hk => ?_
    obtain ⟨k, rfl⟩ : ∃ m, k = m + 1 := ⟨k - 1, by omega⟩
    simp only [impl_Var.l0]
    rw [if_pos (by omega), if_pos (by rw [ints_length]; omega), tdivp (by omega), tmodp (by omega), w64 (by omega) (by omega), w64 (by omega) (by omega), ints_one (n % 128 + 128) _ (by omega), ints_append]
    have := hK k (by omega)
    simp only [Int.natCast_ediv] at this
    rw [hd, show (128 : Int) = ((128 : Nat) : Int) from rfl, this, List.append_assoc]
    rfl
theorem impl_Var_ev (n : Int) : Ev (fun k => impl_Var.f k n) (varS n) := by
  by_cases h : 0 ≤ n ∧ n ≤ 562949953421311
  · obtain ⟨m, rfl⟩ := Int.eq_ofNat_of_zero_le h.1
    have h7 := varL_len7 (n := m) (by omega)
    obtain ⟨K, hK⟩ := evx (impl_Var_l0 m m [] (by omega) (Nat.le_refl _) (by simp; omega) (by simp; omega))
    refine evi (K) fun k hk => ?_
    unfold impl_Var.f
    rw [impl_in_f]
    simp only [Option.bind_some]
    rw [if_pos (by simpa using h), ints_nil, hK k hk, varS, if_pos h]
    rfl
  · refine evi (0) fun k hk => ?_
    unfold impl_Var.f
    rw [impl_in_f]
    simp only [Option.bind_some]
    rw [if_neg (by simpa using h), varS, if_neg h]
    rfl

/-! ### spec's Var -/
theorem spec_Var_l0 (m : Nat) : ∀ (n : Nat) (acc : List UInt8), n ≤ 562949953421311 → n ≤ m → acc.length + (varL n).length ≤ 100000000000000 → Ev (fun k => spec_Var.l0 k (n : Int) (ints acc)) (mkS (acc ++ varL n)) := by
  induction m using Nat.strongRecOn with
  | ind m ih =>
  intro n acc hn hm hl
  have hlp := varL_pos n
  by_cases h : n < 128
  · refine evi (1) fun k hk => ?_
    obtain ⟨k, rfl⟩ : ∃ m, k = m + 1 := ⟨k - 1, by omega⟩
    simp only [spec_Var.l0]
    rw [if_neg (by omega), if_pos (by rw [ints_length]; omega), ints_one n _ (by omega), ints_append, strOfNums_ints, varL_small h]
  · have hd := varL_big h
    obtain ⟨K, hK⟩ := evx (ih (n / 128) (by omega) (n / 128) (acc ++ [UInt8.ofNat (n % 128 + 128)]) (by omega) (Nat.le_refl _) (by rw [hd, List.length_cons] at hl; rw [List.length_append, List.length_singleton]; omega))
    refine evi (K + 1) fun k hk => ?_
    obtain ⟨k, rfl⟩ : ∃ m, k = m + 1 := ⟨k - 1, by omega⟩
    simp only [spec_Var.l0]
    rw [if_pos (by omega), if_pos (by rw [ints_length]; omega), tdivp (by omega), tmodp (by omega), w64 (by omega) (by omega), w64 (by omega) (by omega), ints_one (n % 128 + 128) _ (by omega), ints_append]
    have := hK k (by omega)
    simp only [Int.natCast_ediv] at this
    rw [hd, show (128 : Int) = ((128 : Nat) : Int) from rfl, this, List.append_assoc]
    rfl
theorem spec_Var_ev (n : Int) : Ev (fun k => spec_Var.f k n) (varS n) := by
  by_cases h : 0 ≤ n ∧ n ≤ 562949953421311
  · obtain ⟨m, rfl⟩ := Int.eq_ofNat_of_zero_le h.1
    have h7 := varL_len7 (n := m) (by omega)
    obtain ⟨K, hK⟩ := evx (spec_Var_l0 m m [] (by omega) (Nat.le_refl _) (by simp; omega))
    refine evi (K) fun k hk => ?_
    unfold spec_Var.f
    rw [spec_l1In_f]
    simp only [Option.bind_some]
    rw [if_pos (by simpa using h), ints_nil, hK k hk, varS, if_pos h]
    rfl
  · refine evi (0) fun k hk => ?_
    unfold spec_Var.f
    rw [spec_l1In_f]
    simp only [Option.bind_some]
    rw [if_neg (by simpa using h), varS, if_neg h]
    rfl

/-! ### fixL: a number in so many bytes -/
def fixL : Nat → Nat → List UInt8
  | 0, _ => []
  | w + 1, n => UInt8.ofNat (n / 256 ^ w) :: fixL w n
theorem fixL_length (w n : Nat) : (fixL w n).length = w := by induction w with
  | zero => rfl
  | succ w ih => rw [fixL, List.length_cons, ih]
def fixS (n w : Int) : ByteArray := if (1 ≤ w ∧ w ≤ 7) ∧ 0 ≤ n ∧ n < 256 ^ w.toNat then mkS (fixL w.toNat n.toNat) else mkS []
def beL (l : List UInt8) : Nat := l.foldl (fun a b => a * 256 + b.toNat) 0
theorem beL_snoc (l : List UInt8) (x : UInt8) : beL (l ++ [x]) = beL l * 256 + x.toNat := by simp [beL, List.foldl_append]
theorem beL_nil : beL [] = 0 := rfl
theorem beL_fold (l : List UInt8) : ∀ a : Nat, l.foldl (fun a b => a * 256 + b.toNat) a = a * 256 ^ l.length + beL l := by
  induction l with
  | nil => intro a; simp [beL]
  | cons x t ih =>
    intro a
    have e : beL (x :: t) = (0 * 256 + x.toNat) * 256 ^ t.length + beL t := ih _
    rw [List.foldl_cons, ih, e, List.length_cons, Nat.pow_succ, Nat.add_mul, Nat.zero_mul, Nat.zero_add, Nat.mul_assoc, Nat.mul_comm 256, Nat.add_assoc]
theorem beL_cons (x : UInt8) (t : List UInt8) : beL (x :: t) = x.toNat * 256 ^ t.length + beL t := by
  rw [beL, List.foldl_cons, beL_fold, Nat.zero_mul, Nat.zero_add]
theorem beL_lt (l : List UInt8) : beL l < 256 ^ l.length := by
  induction l with
  | nil => simp [beL]
  | cons x t ih =>
    rw [beL_cons, List.length_cons, Nat.pow_succ]
    have := x.toNat_lt
    have : x.toNat * 256 ^ t.length ≤ 255 * 256 ^ t.length := Nat.mul_le_mul_right _ (by omega)
    omega
theorem beL_fixL (w : Nat) : ∀ n, beL (fixL w n) = n % 256 ^ w := by
  induction w with
  | zero => intro n; simp [fixL, beL, Nat.mod_one]
  | succ w ih =>
    intro n
    rw [fixL, beL_cons, fixL_length, ih, Nat.pow_succ]
    have h1 : (UInt8.ofNat (n / 256 ^ w)).toNat = n / 256 ^ w % 256 := by simp
    rw [h1, Nat.mod_mul, Nat.mul_comm (n / 256 ^ w % 256), Nat.add_comm]
theorem fixL_beL (l : List UInt8) : ∀ w, l.length = w → ∀ c, fixL w (c * 256 ^ w + beL l) = l := by
  induction l with
  | nil => intro w h c; subst h; rfl
  | cons x t ih =>
    intro w h c
    subst h
    rw [List.length_cons, fixL]
    have hb := beL_lt t
    have e : c * 256 ^ (t.length + 1) + beL (x :: t) = (c * 256 + x.toNat) * 256 ^ t.length + beL t := by
      rw [beL_cons, Nat.pow_succ, Nat.add_mul, ← Nat.add_assoc, Nat.mul_assoc, Nat.mul_comm 256]
    rw [e, ih _ rfl]
    congr 1
    have e2 : ((c * 256 + x.toNat) * 256 ^ t.length + beL t) / 256 ^ t.length = c * 256 + x.toNat := by
      rw [Nat.mul_comm, Nat.mul_add_div (Nat.pow_pos (by omega)), Nat.div_eq_of_lt hb, Nat.add_zero]
    rw [e2]
    apply UInt8.toNat_inj.1
    have := x.toNat_lt
    rw [UInt8.toNat_ofNat']
    omega
theorem fixL_be (l : List UInt8) (w : Nat) (h : l.length = w) : fixL w (beL l) = l := by
  have := fixL_beL l w h 0
  rwa [Nat.zero_mul, Nat.zero_add] at this
theorem pow256_le {i : Nat} (h : i ≤ 7) : 256 ^ i ≤ 72057594037927936 := Nat.pow_le_pow_right (n := 256) (by omega) h
theorem pow_2_8 (i : Nat) : ((2 : Int) ^ (8 * i)) = ((256 ^ i : Nat) : Int) := by
  rw [show (256 : Nat) = 2 ^ 8 from rfl, ← Nat.pow_mul]
  simp

/-! ### impl's Fixed -/
theorem impl_Fixed_l0 (n : Nat) (m : Nat) : ∀ (acc : List UInt8), m ≤ 7 → acc.length + m ≤ 100 → Ev (fun k => impl_Fixed.l0 k (n : Int) (ints acc) ((m : Int) - 1)) (mkS (acc ++ fixL m n)) := by
  induction m with
  | zero =>
    intro acc _ hl
    refine evi (1) fun k hk => ?_
    obtain ⟨k, rfl⟩ : ∃ m, k = m + 1 := ⟨k - 1, by omega⟩
    simp only [impl_Fixed.l0]
    rw [if_neg (by omega), strOfNums_ints, fixL, List.append_nil]
  | succ m ih =>
    intro acc hm hl
    obtain ⟨K, hK⟩ := evx (ih (acc ++ [UInt8.ofNat (n / 256 ^ m)]) (by omega) (by rw [List.length_append, List.length_singleton]; omega))
    refine evi (K + 1) fun k hk => ?_
    obtain ⟨k, rfl⟩ : ∃ m, k = m + 1 := ⟨k - 1, by omega⟩
    simp only [impl_Fixed.l0]
    rw [show (((m + 1 : Nat) : Int) - 1) = (m : Int) from by omega]
    rw [if_pos (by omega), w64 (x := 8 * (m : Int)) (by omega) (by omega), if_pos (by omega), if_pos (by rw [ints_length]; omega), shr_i64 (n := 8 * m) (by simp) (by omega), pow_2_8, w64 (by omega) (by omega), ints_one (n / 256 ^ m) _ (by rw [← Int.natCast_ediv]; omega), ints_append, hK k (by omega), fixL, List.append_assoc]
    rfl
theorem impl_Fixed_ev (n w : Int) : Ev (fun k => impl_Fixed.f k n w) (fixS n w) := by
  by_cases hw : 1 ≤ w ∧ w ≤ 7
  · obtain ⟨m, rfl⟩ := Int.eq_ofNat_of_zero_le (show 0 ≤ w by omega)
    have hp := pow256_le (i := m) (by omega)
    have hp0 : 0 < 256 ^ m := Nat.pow_pos (by omega)
    have e1 : wrap64 (shl .i64 1 (wrap64 (8 * (m : Int))) - 1) = ((256 ^ m : Nat) : Int) - 1 := by
      rw [w64 (x := 8 * (m : Int)) (by omega) (by omega), shl_i64 (n := 8 * m) (by simp) (by omega), pow_2_8, Int.one_mul, w64 (x := ((256 ^ m : Nat) : Int)) (by omega) (by omega), w64 (by omega) (by omega)]
    have hcast : ((256 : Int) ^ m) = ((256 ^ m : Nat) : Int) := by simp
    by_cases hn : 0 ≤ n ∧ n < 256 ^ m
    · have hn2 := hn.2
      rw [hcast] at hn2
      obtain ⟨q, rfl⟩ := Int.eq_ofNat_of_zero_le hn.1
      obtain ⟨K, hK⟩ := evx (impl_Fixed_l0 q m [] (by omega) (by simp; omega))
      refine evi (K + 1) fun k hk => ?_
      obtain ⟨k, rfl⟩ : ∃ m, k = m + 1 := ⟨k - 1, by omega⟩
      unfold impl_Fixed.f
      rw [impl_in_f]
      simp only [Option.bind_some]
      rw [if_pos (by simpa using hw), if_pos (by rw [w64 (by omega) (by omega)]; omega), e1, impl_in_f]
      simp only [Option.bind_some, impl_Fixed.j0]
      rw [if_neg (by simp; omega), w64 (by omega) (by omega), ints_nil, hK k (by omega), fixS, if_pos ⟨hw, by simpa using hn⟩]
      simp
    · refine evi (1) fun k hk => ?_
      obtain ⟨k, rfl⟩ : ∃ m, k = m + 1 := ⟨k - 1, by omega⟩
      unfold impl_Fixed.f
      rw [impl_in_f]
      simp only [Option.bind_some]
      rw [if_pos (by simpa using hw), if_pos (by rw [w64 (by omega) (by omega)]; omega), e1, impl_in_f]
      simp only [Option.bind_some, impl_Fixed.j0]
      rw [hcast] at hn
      rw [if_pos (by simp only [Bool.not_eq_true', decide_eq_false_iff_not]; omega), fixS, if_neg (fun h => hn (by rw [← hcast]; simpa using h.2))]
      rfl
  · refine evi (1) fun k hk => ?_
    obtain ⟨k, rfl⟩ : ∃ m, k = m + 1 := ⟨k - 1, by omega⟩
    unfold impl_Fixed.f
    rw [impl_in_f]
    simp only [Option.bind_some, impl_Fixed.j0]
    rw [if_neg (by simpa using hw), if_pos trivial, fixS, if_neg (fun h => hw h.1)]
    rfl

/-! ### spec's Fixed -/
theorem spec_Fixed_l0 (n : Nat) (w : Nat) (hw : w ≤ 7) (hn : n ≤ 9223372036854775807) (d : Nat) : ∀ (i : Nat), d + i = w → Ev (fun k => spec_Fixed.l0 k ((n / 256 ^ i : Nat) : Int) (w : Int) (mkS (fixL i n)) (i : Int)) (if n / 256 ^ w = 0 then mkS (fixL w n) else mkS []) := by
  induction d with
  | zero =>
    intro i hi
    obtain rfl : i = w := by omega
    refine evi (1) fun k hk => ?_
    obtain ⟨k, rfl⟩ : ∃ m, k = m + 1 := ⟨k - 1, by omega⟩
    simp only [spec_Fixed.l0]
    rw [if_neg (by omega)]
    by_cases h : n / 256 ^ i = 0
    · rw [if_neg (by rw [h]; omega), if_pos h]
    · rw [if_pos (by have : 0 < n / 256 ^ i := Nat.pos_of_ne_zero h; omega), if_neg h]
      rfl
  | succ d ih =>
    intro i hi
    obtain ⟨K, hK⟩ := evx (ih (i + 1) (by omega))
    refine evi (K + 1) fun k hk => ?_
    obtain ⟨k, rfl⟩ : ∃ m, k = m + 1 := ⟨k - 1, by omega⟩
    have hq : n / 256 ^ i ≤ n := Nat.div_le_self _ _
    have this := hK k (by omega)
    rw [fixL, Nat.pow_succ, ← Nat.div_div_eq_div_mul] at this
    generalize n / 256 ^ i = q at *
    simp only [spec_Fixed.l0, Option.bind_some]
    rw [if_pos (by omega), tmodp (by omega), tdivp (by omega), ints_one q _ (by omega), strOfNums_ints, if_pos (by rw [mkS_size, mkS_size, fixL_length]; simp; omega), mkS_append, w64 (by omega) (by omega), w64 (by omega) (by omega)]
    rw [show ((q : Int) / 256) = ((q / 256 : Nat) : Int) from by omega, show ((i : Int) + 1) = ((i + 1 : Nat) : Int) from by omega]
    exact this
theorem spec_Fixed_ev (n w : Int) (hn : n ≤ 9223372036854775807) : Ev (fun k => spec_Fixed.f k n w) (fixS n w) := by
  by_cases hw : 1 ≤ w ∧ w ≤ 7
  · by_cases h0 : n < 0
    · refine evi (1) fun k hk => ?_
      obtain ⟨k, rfl⟩ : ∃ m, k = m + 1 := ⟨k - 1, by omega⟩
      unfold spec_Fixed.f
      rw [spec_l1In_f]
      simp only [Option.bind_some, spec_Fixed.j0]
      rw [if_pos (by simpa using hw), if_pos (by simpa using h0), fixS, if_neg (fun h => by omega)]
      rfl
    · obtain ⟨m, rfl⟩ := Int.eq_ofNat_of_zero_le (show 0 ≤ w by omega)
      obtain ⟨q, rfl⟩ := Int.eq_ofNat_of_zero_le (show 0 ≤ n by omega)
      obtain ⟨K, hK⟩ := evx (spec_Fixed_l0 q m (by omega) (by omega) m 0 (by omega))
      refine evi (K + 1) fun k hk => ?_
      obtain ⟨k, rfl⟩ : ∃ m, k = m + 1 := ⟨k - 1, by omega⟩
      have hcast : ((256 : Int) ^ m) = ((256 ^ m : Nat) : Int) := by simp
      have hp0 : 0 < 256 ^ m := Nat.pow_pos (by omega)
      unfold spec_Fixed.f
      rw [spec_l1In_f]
      simp only [Option.bind_some, spec_Fixed.j0]
      rw [if_pos (by simpa using hw), if_neg (by simp), mkS_nil]
      have := hK k (by omega)
      rw [Nat.pow_zero, Nat.div_one] at this
      refine this.trans ?_
      rw [fixS]
      by_cases hlt : q < 256 ^ m
      · rw [if_pos (Nat.div_eq_of_lt hlt), if_pos ⟨hw, by omega, by rw [Int.toNat_natCast, hcast]; omega⟩, Int.toNat_natCast, Int.toNat_natCast]
      · rw [if_neg (by rw [Nat.div_eq_zero_iff]; omega), if_neg (fun h => hlt (by have := h.2.2; rw [Int.toNat_natCast, hcast] at this; omega))]
  · refine evi (1) fun k hk => ?_
    obtain ⟨k, rfl⟩ : ∃ m, k = m + 1 := ⟨k - 1, by omega⟩
    unfold spec_Fixed.f
    rw [spec_l1In_f]
    simp only [Option.bind_some, spec_Fixed.j0]
    rw [if_neg (by simpa using hw), if_pos trivial, fixS, if_neg (fun h => hw h.1)]
    rfl

/-! ### the sum of bytes -/
def crcT (c : Nat) : Nat := if c % 2 = 1 then (c / 2) ^^^ 2197175160 else c / 2
def crcN : Nat → Nat → Nat
  | 0, c => c
  | n + 1, c => crcN n (crcT c)
def crcL (c : Nat) (l : List UInt8) : Nat := l.foldl (fun c b => crcN 8 (c ^^^ b.toNat)) c
def crcS (l : List UInt8) : Nat := 4294967295 - crcL 4294967295 l
theorem xor_lt32 {a b : Nat} (ha : a < 4294967296) (hb : b < 4294967296) : a ^^^ b < 4294967296 := Nat.xor_lt_two_pow (n := 32) ha hb
theorem crcT_lt {c : Nat} (h : c < 4294967296) : crcT c < 4294967296 := by
  unfold crcT
  split
  · exact xor_lt32 (by omega) (by omega)
  · omega
theorem crcN_lt (n : Nat) : ∀ c, c < 4294967296 → crcN n c < 4294967296 := by
  induction n with
  | zero => intro c h; exact h
  | succ n ih => intro c h; exact ih _ (crcT_lt h)
theorem crcL_lt (l : List UInt8) : ∀ c, c < 4294967296 → crcL c l < 4294967296 := by
  induction l with
  | nil => intro c h; exact h
  | cons b t ih => intro c h; exact ih _ (crcN_lt 8 _ (xor_lt32 h (by have := b.toNat_lt; omega)))
theorem crcL_snoc (c : Nat) (l : List UInt8) (b : UInt8) : crcL c (l ++ [b]) = crcN 8 (crcL c l ^^^ b.toNat) := by simp [crcL, List.foldl_append]
theorem crcS_lt (l : List UInt8) : crcS l < 4294967296 := by unfold crcS; omega
theorem bits_xor_nat (k : IntKind) (j : Nat) (hj : j ≤ k.bits) (hk : ∀ n : Int, 0 ≤ n → n < 2 ^ j → k.wrap n = n) (a b : Nat) (ha : a < 2 ^ j) (hb : b < 2 ^ j) : Go.bits .xor k a b = ((a ^^^ b : Nat) : Int) := by
  have hp : 2 ^ j ≤ 2 ^ k.bits := Nat.pow_le_pow_right (by decide) hj
  have ha' : a % 2 ^ k.bits = a := Nat.mod_eq_of_lt (Nat.lt_of_lt_of_le ha hp)
  have hb' : b % 2 ^ k.bits = b := Nat.mod_eq_of_lt (Nat.lt_of_lt_of_le hb hp)
  have cast : ∀ n : Nat, n < 2 ^ j → ((n : Nat) : Int) < 2 ^ j := fun n h => by exact_mod_cast h
  simp only [Go.bits, BitVec.ofInt_natCast, BitVec.toNat_xor, BitVec.toNat_ofNat, ha', hb']
  exact hk _ (Int.natCast_nonneg _) (cast _ (Nat.xor_lt_two_pow ha hb))
theorem xor_u32 {a b : Nat} (ha : a < 4294967296) (hb : b < 4294967296) : Go.bits .xor .u32 (a : Int) (b : Int) = ((a ^^^ b : Nat) : Int) :=
  bits_xor_nat .u32 32 (by decide) (fun n h0 h1 => by rw [IntKind.wrap_u32]; omega) a b ha hb
theorem xor_i64 {a b : Nat} (ha : a < 4294967296) (hb : b < 4294967296) : Go.bits .xor .i64 (a : Int) (b : Int) = ((a ^^^ b : Nat) : Int) :=
  bits_xor_nat .i64 32 (by decide) (fun n h0 h1 => by rw [IntKind.wrap_i64]; omega) a b ha hb
theorem and_u32_1 {a : Nat} (ha : a < 4294967296) : Go.bits .and .u32 (a : Int) 1 = ((a % 2 : Nat) : Int) := by
  have := (bits_nat .u32 32 (by decide) (fun n h0 h1 => by rw [IntKind.wrap_u32]; omega) a 1 ha (by decide)).1
  rw [Nat.and_one_is_mod] at this
  exact this
theorem not_u32 {a : Nat} (ha : a < 4294967296) : Go.bits .xor .u32 (IntKind.u32.max) (a : Int) = ((4294967295 - a : Nat) : Int) := by
  have e : IntKind.u32.max = ((4294967295 : Nat) : Int) := by decide
  rw [e, xor_u32 (by omega) ha]
  congr 1
  have h := BitVec.toNat_not (x := BitVec.ofNat 32 a)
  rw [← BitVec.allOnes_xor, BitVec.toNat_xor, BitVec.toNat_allOnes, BitVec.toNat_ofNat, Nat.mod_eq_of_lt ha] at h
  exact h

/-! ### impl's Crc -/
theorem impl_Crc_l1 (l : List UInt8) (i : Nat) (r : Int) (hi : i < 9000000000000000000) (d : Nat) : ∀ (j c : Nat), d + j = 8 → c < 4294967296 → Ev (fun k => impl_Crc.l0 k (mkS l) ((crcN d c : Nat) : Int) ((i + 1 : Nat) : Int)) r → Ev (fun k => impl_Crc.l1 k (mkS l) (c : Int) (i : Int) (j : Int)) r := by
  induction d with
  | zero =>
    intro j c hj hc h
    obtain ⟨K, hK⟩ := evx (h)
    refine evi (K + 1) fun k hk => ?_
    obtain ⟨k, rfl⟩ : ∃ m, k = m + 1 := ⟨k - 1, by omega⟩
    simp only [impl_Crc.l1]
    rw [if_neg (by omega), w64 (by omega) (by omega)]
    exact hK k (by omega)
  | succ d ih =>
    intro j c hj hc h
    obtain ⟨K, hK⟩ := evx (ih (j + 1) (crcT c) (by omega) (crcT_lt hc) h)
    refine evi (K + 1) fun k hk => ?_
    obtain ⟨k, rfl⟩ : ∃ m, k = m + 1 := ⟨k - 1, by omega⟩
    simp only [impl_Crc.l1]
    have hgo := hK k (by omega)
    rw [if_pos (by omega), and_u32_1 hc, w64 (by omega) (by omega), show ((j : Int) + 1) = ((j + 1 : Nat) : Int) from by omega]
    unfold crcT at hgo
    by_cases ho : c % 2 = 1
    · rw [if_pos ho] at hgo
      rw [if_pos (by omega), show ((c : Int) / 2) = ((c / 2 : Nat) : Int) from by omega, show (2197175160 : Int) = ((2197175160 : Nat) : Int) from rfl, xor_u32 (by omega) (by omega)]
      exact hgo
    · rw [if_neg ho] at hgo
      rw [if_neg (by omega), show ((c : Int) / 2) = ((c / 2 : Nat) : Int) from by omega]
      exact hgo
theorem impl_Crc_l0 (l : List UInt8) (hl : l.length < 9000000000000000000) (d : Nat) : ∀ (i c : Nat), d + i = l.length → c < 4294967296 → Ev (fun k => impl_Crc.l0 k (mkS l) (c : Int) (i : Int)) ((4294967295 - crcL c (l.drop i) : Nat) : Int) := by
  induction d with
  | zero =>
    intro i c hi hc
    refine evi (1) fun k hk => ?_
    obtain ⟨k, rfl⟩ : ∃ m, k = m + 1 := ⟨k - 1, by omega⟩
    simp only [impl_Crc.l0]
    rw [if_neg (by rw [mkS_size]; omega), not_u32 hc, w64 (by omega) (by omega), List.drop_of_length_le (by omega)]
    rfl
  | succ d ih =>
    intro i c hi hc
    have hlt : i < l.length := by omega
    have hx := (l[i]).toNat_lt
    have hc' : c ^^^ (l[i]).toNat < 4294967296 := xor_lt32 hc (by omega)
    obtain ⟨K, hK⟩ := evx (impl_Crc_l1 l i _ (by omega) 8 0 (c ^^^ (l[i]).toNat) rfl hc' (ih (i + 1) (crcN 8 (c ^^^ (l[i]).toNat)) (by omega) (crcN_lt 8 _ hc')))
    refine evi (K + 1) fun k hk => ?_
    obtain ⟨k, rfl⟩ : ∃ m, k = m + 1 := ⟨k - 1, by omega⟩
    simp only [impl_Crc.l0]
    rw [if_pos (by rw [mkS_size]; omega), if_pos (by omega), bt_mkS l i hlt, Int.emod_eq_of_lt (by omega) (by omega), xor_u32 hc (by omega), List.drop_eq_getElem_cons hlt]
    exact hK k (by omega)
theorem impl_Crc_ev (l : List UInt8) (hl : l.length < 9000000000000000000) : Ev (fun k => impl_Crc.f k (mkS l)) (crcS l : Int) := by
  have h := impl_Crc_l0 l hl l.length 0 4294967295 rfl (by omega)
  exact h

/-! ### spec's Crc -/
theorem spec_Crc_l1 (l : List UInt8) (i : Nat) (r : Int) (hi : i < 9000000000000000000) (d : Nat) : ∀ (j c : Nat), d + j = 8 → c < 4294967296 → Ev (fun k => spec_Crc.l0 k (mkS l) ((crcN d c : Nat) : Int) ((i + 1 : Nat) : Int)) r → Ev (fun k => spec_Crc.l1 k (mkS l) (c : Int) (i : Int) (j : Int)) r := by
  induction d with
  | zero =>
    intro j c hj hc h
    obtain ⟨K, hK⟩ := evx (h)
    refine evi (K + 1) fun k hk => ?_
    obtain ⟨k, rfl⟩ : ∃ m, k = m + 1 := ⟨k - 1, by omega⟩
    simp only [spec_Crc.l1]
    rw [if_neg (by omega), w64 (by omega) (by omega)]
    exact hK k (by omega)
  | succ d ih =>
    intro j c hj hc h
    obtain ⟨K, hK⟩ := evx (ih (j + 1) (crcT c) (by omega) (crcT_lt hc) h)
    refine evi (K + 1) fun k hk => ?_
    obtain ⟨k, rfl⟩ : ∃ m, k = m + 1 := ⟨k - 1, by omega⟩
    simp only [spec_Crc.l1]
    have hgo := hK k (by omega)
    rw [if_pos (by omega), tmodp (by omega), tdivp (by omega), w64 (x := (j : Int) + 1) (by omega) (by omega), w64 (x := (c : Int) / 2) (by omega) (by omega), show ((j : Int) + 1) = ((j + 1 : Nat) : Int) from by omega]
    unfold crcT at hgo
    by_cases ho : c % 2 = 1
    · rw [if_pos ho] at hgo
      rw [if_pos (by omega), show ((c : Int) / 2) = ((c / 2 : Nat) : Int) from by omega, show (2197175160 : Int) = ((2197175160 : Nat) : Int) from rfl, xor_i64 (by omega) (by omega)]
      exact hgo
    · rw [if_neg ho] at hgo
      rw [if_neg (by omega), show ((c : Int) / 2) = ((c / 2 : Nat) : Int) from by omega]
      exact hgo
theorem spec_Crc_l0 (l : List UInt8) (hl : l.length < 9000000000000000000) (d : Nat) : ∀ (i c : Nat), d + i = l.length → c < 4294967296 → Ev (fun k => spec_Crc.l0 k (mkS l) (c : Int) (i : Int)) ((4294967295 - crcL c (l.drop i) : Nat) : Int) := by
  induction d with
  | zero =>
    intro i c hi hc
    refine evi (1) fun k hk => ?_
    obtain ⟨k, rfl⟩ : ∃ m, k = m + 1 := ⟨k - 1, by omega⟩
    simp only [spec_Crc.l0]
    rw [if_neg (by rw [mkS_size]; omega), w64 (by omega) (by omega), List.drop_of_length_le (by omega)]
    congr 1
    show _ = ((4294967295 - c : Nat) : Int)
    omega
  | succ d ih =>
    intro i c hi hc
    have hlt : i < l.length := by omega
    have hx := (l[i]).toNat_lt
    have hc' : c ^^^ (l[i]).toNat < 4294967296 := xor_lt32 hc (by omega)
    obtain ⟨K, hK⟩ := evx (spec_Crc_l1 l i _ (by omega) 8 0 (c ^^^ (l[i]).toNat) rfl hc' (ih (i + 1) (crcN 8 (c ^^^ (l[i]).toNat)) (by omega) (crcN_lt 8 _ hc')))
    refine evi (K + 1) fun k hk => ?_
    obtain ⟨k, rfl⟩ : ∃ m, k = m + 1 := ⟨k - 1, by omega⟩
    simp only [spec_Crc.l0]
    rw [if_pos (by rw [mkS_size]; omega), if_pos (by omega), w64b, bt_mkS l i hlt, xor_i64 hc (by omega), List.drop_eq_getElem_cons hlt]
    exact hK k (by omega)
theorem spec_Crc_ev (l : List UInt8) (hl : l.length < 9000000000000000000) : Ev (fun k => spec_Crc.f k (mkS l)) (crcS l : Int) := by
  have h := spec_Crc_l0 l hl l.length 0 4294967295 rfl (by omega)
  exact h

/-! ### rv: reading a number -/
/-- What a text begins with: a number, and how many bytes it has; at most f bytes; 'first': a zero byte may be all of it. -/
def rvF : Nat → Bool → List UInt8 → Option (Nat × Nat)
  | 0, _, _ => none
  | _ + 1, _, [] => none
  | f + 1, first, x :: t => if x.toNat < 128 then (if x.toNat = 0 ∧ first = false then none else some (x.toNat, 1)) else (rvF f false t).map fun p => (x.toNat % 128 + 128 * p.1, p.2 + 1)
def rv (l : List UInt8) : Option (Nat × Nat) := rvF 7 true l
/-- The number and how many bytes; two zeros where there is none. -/
def rvP (l : List UInt8) : Nat × Nat := (rv l).getD (0, 0)
theorem byte_ext {a b : UInt8} (h : a.toNat = b.toNat) : a = b := UInt8.toNat_inj.1 h
theorem ofNat_toNat_lt (n : Nat) (h : n < 256) : (UInt8.ofNat n).toNat = n := by simp; omega
theorem rvF_sound (f : Nat) : ∀ (first : Bool) (l : List UInt8) (n k : Nat), rvF f first l = some (n, k) → 0 < k ∧ k ≤ f ∧ k ≤ l.length ∧ l.take k = varL n ∧ n < 128 ^ f ∧ (first = false → n ≠ 0) := by
  induction f with
  | zero => intro first l n k h; simp [rvF] at h
  | succ f ih =>
    intro first l n k h
    cases l with
    | nil => simp [rvF] at h
    | cons x t =>
      rw [rvF] at h
      by_cases hx : x.toNat < 128
      · rw [if_pos hx] at h
        by_cases hz : x.toNat = 0 ∧ first = false
        · rw [if_pos hz] at h; cases h
        · rw [if_neg hz] at h
          injection h with h
          obtain ⟨rfl, rfl⟩ := Prod.mk.inj h
          have hp : 128 ≤ 128 ^ (f + 1) := by rw [Nat.pow_succ]; exact Nat.le_mul_of_pos_left _ (Nat.pow_pos (by omega))
          refine ⟨by omega, by omega, by simp, ?_, by omega, fun hf hn => hz ⟨hn, hf⟩⟩
          rw [varL_small hx]
          simp
      · rw [if_neg hx] at h
        obtain ⟨⟨n', k'⟩, hr, he⟩ := Option.map_eq_some_iff.1 h
        obtain ⟨rfl, rfl⟩ := Prod.mk.inj he
        obtain ⟨h1, h2, h3, h4, h5, h6⟩ := ih false t n' k' hr
        have hn' := h6 rfl
        have hb := x.toNat_lt
        simp only at *
        refine ⟨by omega, by omega, by simp only [List.length_cons]; omega, ?_, by rw [Nat.pow_succ]; omega, fun _ => by omega⟩
        rw [varL_big (by omega), List.take_succ_cons, h4]
        congr 1
        · apply byte_ext
          rw [ofNat_toNat_lt _ (by omega)]
          omega
        · congr 1
          omega
theorem rvF_complete (f : Nat) : ∀ (first : Bool) (n : Nat) (t : List UInt8), n < 128 ^ (f + 1) → (first = false → n ≠ 0) → rvF (f + 1) first (varL n ++ t) = some (n, (varL n).length) := by
  induction f with
  | zero =>
    intro first n t h h0
    have hn : n < 128 := by simpa using h
    rw [varL_small hn, List.singleton_append, rvF, ofNat_toNat_lt _ (by omega), if_pos hn, if_neg (fun hh => h0 hh.2 hh.1)]
    rfl
  | succ f ih =>
    intro first n t h h0
    by_cases hn : n < 128
    · rw [varL_small hn, List.singleton_append, rvF, ofNat_toNat_lt _ (by omega), if_pos hn, if_neg (fun hh => h0 hh.2 hh.1)]
      rfl
    · rw [varL_big hn, List.cons_append, rvF, ofNat_toNat_lt _ (by omega), if_neg (by omega)]
      rw [ih false (n / 128) t (by rw [Nat.div_lt_iff_lt_mul (by omega)]; rw [Nat.pow_succ] at h; exact h) (fun _ => by omega)]
      simp only [Option.map_some, List.length_cons]
      congr 2
      omega
theorem rv_sound {l : List UInt8} {n k : Nat} (h : rv l = some (n, k)) : 0 < k ∧ k ≤ 7 ∧ k ≤ l.length ∧ l.take k = varL n ∧ n ≤ 562949953421311 := by
  obtain ⟨h1, h2, h3, h4, h5, _⟩ := rvF_sound 7 true l n k h
  exact ⟨h1, h2, h3, h4, by omega⟩
theorem rv_complete {n : Nat} (t : List UInt8) (h : n ≤ 562949953421311) : rv (varL n ++ t) = some (n, (varL n).length) :=
  rvF_complete 6 true n t (by omega) (fun h => by cases h)
theorem rv_of_take {l : List UInt8} {n k : Nat} (hk : k ≤ l.length) (h : l.take k = varL n) (hn : n ≤ 562949953421311) : rv l = some (n, k) := by
  have e := rv_complete (l.drop k) hn
  rw [← h, List.take_append_drop, List.length_take] at e
  rw [e]
  congr 2
  omega
theorem rvP_none {l : List UInt8} (h : rv l = none) : rvP l = (0, 0) := by rw [rvP, h]; rfl
theorem rvP_some {l : List UInt8} {p : Nat × Nat} (h : rv l = some p) : rvP l = p := by rw [rvP, h]; rfl
/-- The number that a text's bytes tell. -/
def valL : List UInt8 → Nat
  | [] => 0
  | x :: t => x.toNat % 128 + 128 * valL t
theorem valL_lt (l : List UInt8) : valL l < 128 ^ l.length := by
  induction l with
  | nil => simp [valL]
  | cons x t ih => rw [valL, List.length_cons, Nat.pow_succ]; omega
theorem valL_varL (m : Nat) : ∀ n, n ≤ m → valL (varL n) = n := by
  induction m using Nat.strongRecOn with
  | ind m ih =>
  intro n hm
  by_cases h : n < 128
  · rw [varL_small h, valL, valL, ofNat_toNat_lt _ (by omega)]; omega
  · rw [varL_big h, valL, ih (n / 128) (by omega) _ (Nat.le_refl _), ofNat_toNat_lt _ (by omega)]; omega

/-! ### frames -/
def frameL (l : List UInt8) : List UInt8 := if l.length ≤ 200 then fixL 4 (crcS (textL l)) ++ textL l else []
/-- What a frame holds, and how many bytes it has; nothing and 0 where there is none. -/
def unframeL (l : List UInt8) : List UInt8 × Nat :=
  match rv (l.drop 4) with
  | none => ([], 0)
  | some (n, k) => if n ≤ 200 ∧ 4 + k + n ≤ l.length ∧ frameL ((l.drop (4 + k)).take n) = l.take (4 + k + n) then ((l.drop (4 + k)).take n, 4 + k + n) else ([], 0)
theorem frameL_small (l : List UInt8) : (frameL l).length ≤ 220 := by
  unfold frameL
  split
  · have := textL_length l (by omega)
    rw [List.length_append, fixL_length]
    omega
  · simp
theorem fixS_crc (l : List UInt8) : fixS (crcS l : Int) 4 = mkS (fixL 4 (crcS l)) := by
  have := crcS_lt l
  unfold fixS
  rw [if_pos ⟨by omega, by omega, by have e : (256 : Int) ^ (4 : Int).toNat = 4294967296 := by decide
                                     rw [e]; omega⟩, Int.toNat_natCast]
  rfl
theorem frameL_length {l : List UInt8} (h : l.length ≤ 200) : (frameL l).length = 4 + (varL l.length).length + l.length := by
  unfold frameL textL
  rw [if_pos h, List.length_append, fixL_length, List.length_append]
  omega
theorem unframe_frame {l : List UInt8} (t : List UInt8) (h : l.length ≤ 200) : unframeL (frameL l ++ t) = (l, (frameL l).length) := by
  have hv := varL_len7 (n := l.length) (by omega)
  have hfl := frameL_length h
  have e : frameL l = fixL 4 (crcS (textL l)) ++ (varL l.length ++ l) := by unfold frameL textL; rw [if_pos h]
  have hd4 : (frameL l ++ t).drop 4 = varL l.length ++ (l ++ t) := by
    rw [e, List.append_assoc, List.append_assoc]
    exact List.drop_left' (fixL_length 4 _)
  have hdk : (frameL l ++ t).drop (4 + (varL l.length).length) = l ++ t := by
    rw [← List.drop_drop, hd4]
    exact List.drop_left
  unfold unframeL
  rw [hd4, rv_complete _ (by omega)]
  simp only
  rw [hdk, List.take_left, ← hfl, List.take_left, if_pos ⟨h, by rw [List.length_append]; omega, rfl⟩]
theorem unframe_sound {l t : List UInt8} {n : Nat} (h : unframeL l = (t, n)) (hn : n ≠ 0) : t.length ≤ 200 ∧ n = (frameL t).length ∧ n ≤ l.length ∧ l.take n = frameL t := by
  unfold unframeL at h
  cases hr : rv (l.drop 4) with
  | none => rw [hr] at h; simp only [Prod.mk.injEq] at h; omega
  | some p =>
    obtain ⟨m, k⟩ := p
    rw [hr] at h
    simp only at h
    split at h
    · rename_i hc
      obtain ⟨rfl, rfl⟩ := Prod.mk.inj h
      obtain ⟨h1, h2, h3⟩ := hc
      have hl : ((l.drop (4 + k)).take m).length = m := by rw [List.length_take, List.length_drop]; omega
      refine ⟨by omega, ?_, h2, h3.symm⟩
      rw [h3, List.length_take]
      omega
    · simp only [Prod.mk.injEq] at h; omega
def unframeI (l : List UInt8) : ByteArray × Int := (mkS (unframeL l).1, ((unframeL l).2 : Int))

/-! ### impl's Frame -/
theorem impl_textOf_ev (l : List UInt8) (hl : l.length ≤ 562949953421311) : Ev (fun k => impl_textOf.f k (mkS l)) (mkS (textL l)) := by
  obtain ⟨K, hK⟩ := evx (impl_Var_ev (l.length : Int))
  have h7 := varL_len7 hl
  refine evi (K) fun k hk => ?_
  unfold impl_textOf.f
  rw [mkS_size, hK k hk, varS_nat hl]
  simp only [Option.bind_some]
  rw [if_pos (by rw [mkS_size]; omega), mkS_append]
  rfl
theorem impl_Frame_ev (l : List UInt8) : Ev (fun k => impl_Frame.f k (mkS l)) (mkS (frameL l)) := by
  by_cases h : l.length ≤ 200
  · have ht := textL_length l (by omega)
    obtain ⟨K1, h1⟩ := evx (impl_textOf_ev l (by omega))
    obtain ⟨K2, h2⟩ := evx (impl_Crc_ev (textL l) (by omega))
    obtain ⟨K3, h3⟩ := evx (impl_Fixed_ev (crcS (textL l) : Int) 4)
    refine evi (K1 + K2 + K3) fun k hk => ?_
    unfold impl_Frame.f
    rw [if_neg (by rw [mkS_size]; omega), h1 k (by omega)]
    simp only [Option.bind_some]
    rw [h2 k (by omega)]
    simp only [Option.bind_some]
    rw [h3 k (by omega), fixS_crc]
    simp only [Option.bind_some]
    rw [if_pos (by rw [mkS_size, mkS_size, fixL_length]; omega), mkS_append, frameL, if_pos h]
  · refine evi (0) fun k hk => ?_
    unfold impl_Frame.f
    rw [if_pos (by rw [mkS_size]; omega), frameL, if_neg h]
    rfl

/-! ### spec's Frame -/
theorem spec_Frame_ev (l : List UInt8) : Ev (fun k => spec_Frame.f k (mkS l)) (mkS (frameL l)) := by
  by_cases h : l.length ≤ 200
  · have ht := textL_length l (by omega)
    obtain ⟨K1, h1⟩ := evx (spec_Var_ev (l.length : Int))
    obtain ⟨K2, h2⟩ := evx (spec_Crc_ev (textL l) (by omega))
    obtain ⟨K3, h3⟩ := evx (spec_Fixed_ev (crcS (textL l) : Int) 4 (by have := crcS_lt (textL l); omega))
    have h7 := varL_len7 (n := l.length) (by omega)
    refine evi (K1 + K2 + K3) fun k hk => ?_
    unfold spec_Frame.f
    rw [if_neg (by rw [mkS_size]; omega), mkS_size, h1 k (by omega), varS_nat (by omega)]
    simp only [Option.bind_some]
    rw [if_pos (by rw [mkS_size]; omega), mkS_append, show varL l.length ++ l = textL l from rfl, h2 k (by omega)]
    simp only [Option.bind_some]
    rw [h3 k (by omega), fixS_crc]
    simp only [Option.bind_some]
    rw [if_pos (by rw [mkS_size, mkS_size, fixL_length]; omega), mkS_append, frameL, if_pos h]
  · refine evi (0) fun k hk => ?_
    unfold spec_Frame.f
    rw [if_pos (by rw [mkS_size]; omega), frameL, if_neg h]
    rfl

/-! ### impl's vars -/
def varB (n : Int) : List UInt8 := if 0 ≤ n ∧ n ≤ 562949953421311 then varL n.toNat else []
theorem varS_B (n : Int) : varS n = mkS (varB n) := by unfold varS varB; split <;> rfl
theorem varB_length (n : Int) : (varB n).length ≤ 7 := by
  unfold varB
  split
  · exact varL_len7 (by omega)
  · simp
theorem varB_nat {n : Nat} (h : n ≤ 562949953421311) : varB (n : Int) = varL n := by unfold varB; rw [if_pos ⟨by omega, by omega⟩, Int.toNat_natCast]
def varsL (l : List Int) : List UInt8 := l.flatMap varB
theorem varsL_cons (a : Int) (t : List Int) : varsL (a :: t) = varB a ++ varsL t := by simp [varsL]
theorem varsL_length (l : List Int) : (varsL l).length ≤ 7 * l.length := by
  induction l with
  | nil => simp [varsL]
  | cons a t ih =>
    have := varB_length a
    have e : varsL (a :: t) = varB a ++ varsL t := by simp [varsL]
    rw [e, List.length_append, List.length_cons]
    omega
theorem impl_vars_l0 (l : List Int) (hl : l.length ≤ 1099511627776) (d : Nat) : ∀ (i : Nat) (acc : List UInt8), d + i = l.length → acc.length + 7 * d ≤ 100000000000000 → Ev (fun k => impl_vars.l0 k (mkS acc) l (l.length : Int) (i : Int)) (mkS (acc ++ varsL (l.drop i))) := by
  induction d with
  | zero =>
    intro i acc hi ha
    refine evi (1) fun k hk => ?_
    obtain ⟨k, rfl⟩ : ∃ m, k = m + 1 := ⟨k - 1, by omega⟩
    simp only [impl_vars.l0]
    rw [if_neg (by omega), List.drop_of_length_le (by omega)]
    simp [varsL]
  | succ d ih =>
    intro i acc hi ha
    have hlt : i < l.length := by omega
    have hrd : rd l (i : Int) = l[i] := by simp [rd, hlt]
    have hb := varB_length l[i]
    obtain ⟨K1, h1⟩ := evx (impl_Var_ev l[i])
    obtain ⟨K, hK⟩ := evx (ih (i + 1) (acc ++ varB l[i]) (by omega) (by rw [List.length_append]; omega))
    refine evi (K + K1 + 1) fun k hk => ?_
    obtain ⟨k, rfl⟩ : ∃ m, k = m + 1 := ⟨k - 1, by omega⟩
    have hgo := hK k (by omega)
    simp only [impl_vars.l0]
    rw [if_pos (by omega), if_pos (by omega), if_pos (by omega), hrd, h1 k (by omega), varS_B]
    simp only [Option.bind_some]
    rw [if_pos (by rw [mkS_size, mkS_size]; omega), mkS_append, w64 (by omega) (by omega), show ((i : Int) + 1) = ((i + 1 : Nat) : Int) from by omega, hgo, List.drop_eq_getElem_cons hlt, varsL_cons, List.append_assoc]
theorem impl_vars_ev (l : List Int) (hl : l.length ≤ 1048576) : Ev (fun k => impl_vars.f k l) (mkS (varsL l)) := by
  have := impl_vars_l0 l (by omega) l.length 0 [] rfl (by simp only [List.length_nil]; omega)
  exact this

/-! ### filling a row -/
theorem fill_step {α : Type} (m : List α) (z : α) (i n : Nat) (x : α) (hn : m.length = n) (h : i < n) (hx : m[i]? = some x) : (m.take i ++ List.replicate (n - i) z).set i x = m.take (i + 1) ++ List.replicate (n - (i + 1)) z := by
  subst hn
  have hl : (m.take i).length = i := by rw [List.length_take]; omega
  have e : m.length - i = (m.length - (i + 1)) + 1 := by omega
  have ex : m[i] = x := by rw [List.getElem?_eq_getElem h] at hx; exact Option.some.inj hx
  rw [e, List.replicate_succ, List.set_append_right _ _ (by omega), hl, Nat.sub_self, List.set_cons_zero, List.take_succ_eq_append_getElem h, List.append_assoc, ex]
  rfl

/-! ### sz, to, eq of whole numbers -/
theorem laws_szIntS_f (l : List Int) (hl : l.length ≤ maxLen) (a : Int) (h0 : 0 ≤ a) (h1 : a ≤ 1048576) : ∃ s, laws_szIntS.f l a = some s ∧ s ≤ a ∧ (s < 0 ∨ 0 ≤ s ∧ l.length ≤ 1048576) := by
  have hmax : maxLen = 9223372036854775807 := rfl
  unfold laws_szIntS.f wrap64
  repeat' split
  all_goals exact ⟨_, rfl, by omega, by omega⟩
theorem laws_toIntS_l0 (l : List Int) (hl : l.length ≤ 4611686018427387904) (d : Nat) : ∀ (i : Nat), d + i = l.length → Ev (fun k => laws_toIntS.l0 k l (l.take i ++ List.replicate (l.length - i) 0) (i : Int)) l := by
  induction d with
  | zero =>
    intro i hi
    refine evi (1) fun k hk => ?_
    obtain ⟨k, rfl⟩ : ∃ m, k = m + 1 := ⟨k - 1, by omega⟩
    simp only [laws_toIntS.l0]
    rw [if_neg (by omega), List.take_of_length_le (by omega), show l.length - i = 0 from by omega, List.replicate_zero, List.append_nil]
  | succ d ih =>
    intro i hi
    have hlt : i < l.length := by omega
    have hrd : rd l (i : Int) = l[i] := by simp [rd, hlt]
    obtain ⟨K, hK⟩ := evx (ih (i + 1) (by omega))
    refine evi (K + 1) fun k hk => ?_
    obtain ⟨k, rfl⟩ : ∃ m, k = m + 1 := ⟨k - 1, by omega⟩
    simp only [laws_toIntS.l0]
    rw [if_pos (by omega), if_pos (by omega), if_pos (by rw [List.length_append, List.length_take, List.length_replicate]; omega), hrd, Int.toNat_natCast, w64 (by omega) (by omega), fill_step l 0 i l.length l[i] rfl hlt (List.getElem?_eq_getElem hlt)]
    exact hK k (by omega)
theorem laws_toIntS_ev (l : List Int) (hl : l.length ≤ 1048576) : Ev (fun k => laws_toIntS.f k l) l := by
  obtain ⟨K, hK⟩ := evx (laws_toIntS_l0 l (by omega) l.length 0 rfl)
  refine evi (K) fun k hk => ?_
  unfold laws_toIntS.f
  rw [if_pos (by omega), if_pos (by omega), Int.toNat_natCast]
  have := hK k hk
  rw [List.take_zero, List.nil_append, Nat.sub_zero] at this
  exact this
theorem laws_eqIntS_l0 (l : List Int) (hl : l.length ≤ 4611686018427387904) (d : Nat) : ∀ (i : Nat), d + i = l.length → Ev (fun k => laws_eqIntS.l0 k l l (i : Int)) true := by
  induction d with
  | zero =>
    intro i hi
    refine evi (1) fun k hk => ?_
    obtain ⟨k, rfl⟩ : ∃ m, k = m + 1 := ⟨k - 1, by omega⟩
    simp only [laws_eqIntS.l0]
    rw [if_neg (by omega)]
  | succ d ih =>
    intro i hi
    obtain ⟨K, hK⟩ := evx (ih (i + 1) (by omega))
    refine evi (K + 1) fun k hk => ?_
    obtain ⟨k, rfl⟩ : ∃ m, k = m + 1 := ⟨k - 1, by omega⟩
    simp only [laws_eqIntS.l0]
    rw [if_pos (by omega), if_pos (by omega), if_pos (by omega), if_pos trivial, w64 (by omega) (by omega)]
    exact hK k (by omega)
theorem laws_eqIntS_ev (l : List Int) (hl : l.length ≤ 4611686018427387904) : Ev (fun k => laws_eqIntS.f k l l) true := by
  obtain ⟨K, hK⟩ := evx (laws_eqIntS_l0 l hl l.length 0 rfl)
  refine evi (K) fun k hk => ?_
  unfold laws_eqIntS.f
  rw [if_pos rfl]
  exact hK k hk

/-! ### lists of segments: the words -/
def lvBad (m : Int) (l : List Int) (i : Nat) : Bool := (!decide (1 ≤ rd l (i : Int) ∧ rd l (i : Int) ≤ m)) || (decide (0 < (i : Int)) && decide (rd l (i : Int) ≤ rd l ((i : Int) - 1)))
def lvL (m : Int) (l : List Int) : Nat → Nat → Bool
 | 0, _ => true
 | d + 1, i => if lvBad m l i = true then false else lvL m l d (i + 1)
def lvOk (n : Int) (l : List Int) : Bool := decide (1 ≤ n ∧ n ≤ 100000) && (decide (1 ≤ (l.length : Int) ∧ (l.length : Int) ≤ 60) && lvL (wrap64 (n - 1)) l l.length 0)

/-! ### spec's LiveOk -/
theorem spec_LiveOk_l0 (n : Int) (l : List Int) (hl : l.length ≤ 4611686018427387904) (d : Nat) : ∀ (i : Nat), d + i = l.length → Ev (fun k => spec_LiveOk.l0 k (i : Int) n l) (lvL (wrap64 (n - 1)) l d i) := by
  induction d with
  | zero =>
    intro i hi
    refine evi (1) fun k hk => ?_
    obtain ⟨k, rfl⟩ : ∃ m, k = m + 1 := ⟨k - 1, by omega⟩
    simp only [spec_LiveOk.l0]
    rw [if_neg (by omega)]
    rfl
  | succ d ih =>
    intro i hi
    obtain ⟨K, hK⟩ := evx (ih (i + 1) (by omega))
    refine evi (K + 2) fun k hk => ?_
    obtain ⟨k, rfl⟩ : ∃ m, k = m + 2 := ⟨k - 2, by omega⟩
    have e1 : (i : Int) < (l.length : Int) := by omega
    have e2 : (0 : Int) ≤ i := by omega
    have e3 : wrap64 ((i : Int) + 1) = ((i + 1 : Nat) : Int) := w64 (by omega) (by omega)
    have e4 : (i : Int) > 0 → wrap64 ((i : Int) - 1) = (i : Int) - 1 := fun h => w64 (by omega) (by omega)
    have e5 : (i : Int) > 0 → 0 ≤ (i : Int) - 1 := fun h => by omega
    have e6 : (i : Int) - 1 < (l.length : Int) := by omega
    have hK' := hK k (by omega)
    simp only [spec_LiveOk.l0]
    rw [if_pos e1, if_pos e2, spec_l1In_f, Option.bind_some]
    simp only [lvL]
    by_cases hb : 1 ≤ rd l (i : Int) ∧ rd l (i : Int) ≤ wrap64 (n - 1)
    · rw [decide_eq_true hb, if_pos rfl]
      by_cases h0 : (i : Int) > 0
      · rw [if_pos h0, e4 h0, if_pos (e5 h0), if_pos e6]
        simp only [spec_LiveOk.j2]
        by_cases hc : rd l (i : Int) ≤ rd l ((i : Int) - 1)
        · rw [decide_eq_true hc, if_pos rfl, if_pos (show lvBad (wrap64 (n - 1)) l i = true by unfold lvBad; rw [decide_eq_true hb, decide_eq_true hc, decide_eq_true h0]; rfl)]
        · rw [decide_eq_false hc, if_neg (by decide), if_neg (show ¬ lvBad (wrap64 (n - 1)) l i = true by unfold lvBad; rw [decide_eq_true hb, decide_eq_false hc, decide_eq_true h0]; decide), e3]
          exact hK'
      · rw [if_neg h0]
        simp only [spec_LiveOk.j2]
        rw [if_neg (by decide), if_neg (show ¬ lvBad (wrap64 (n - 1)) l i = true by unfold lvBad; rw [decide_eq_true hb, decide_eq_false h0, Bool.false_and]; decide), e3]
        exact hK'
    · rw [decide_eq_false hb, if_neg (by decide)]
      simp only [spec_LiveOk.j2]
      rw [if_pos trivial, if_pos (show lvBad (wrap64 (n - 1)) l i = true by unfold lvBad; rw [decide_eq_false hb]; rfl)]
theorem spec_LiveOk_ev (n : Int) (l : List Int) (hl : l.length ≤ 4611686018427387904) : Ev (fun k => spec_LiveOk.f k n l) (lvOk n l) := by
  obtain ⟨K, hK⟩ := evx (spec_LiveOk_l0 n l hl l.length 0 rfl)
  refine evi (K + 1) fun k hk => ?_
  obtain ⟨k, rfl⟩ : ∃ m, k = m + 1 := ⟨k - 1, by omega⟩
  have hK' := hK k (by omega)
  unfold spec_LiveOk.f lvOk
  rw [spec_l1In_f, spec_l1In_f, Option.bind_some]
  simp only [spec_LiveOk.j0, Option.bind_some]
  by_cases h1 : 1 ≤ n ∧ n ≤ 100000
  · by_cases h2 : 1 ≤ (l.length : Int) ∧ (l.length : Int) ≤ 60
    · rw [decide_eq_true h1, decide_eq_true h2]
      exact hK'
    · rw [decide_eq_true h1, decide_eq_false h2]; rfl
  · rw [decide_eq_false h1]; rfl

/-! ### impl's LiveOk -/
theorem impl_LiveOk_l0 (n : Int) (l : List Int) (hl : l.length ≤ 4611686018427387904) (d : Nat) : ∀ (i : Nat), d + i = l.length → Ev (fun k => impl_LiveOk.l0 k l (l.length : Int) (i : Int) n l) (lvL (wrap64 (n - 1)) l d i && (decide (1 ≤ n ∧ n ≤ 100000) && decide (1 ≤ (l.length : Int) ∧ (l.length : Int) ≤ 60))) := by
  induction d with
  | zero =>
    intro i hi
    refine evi (1) fun k hk => ?_
    obtain ⟨k, rfl⟩ : ∃ m, k = m + 1 := ⟨k - 1, by omega⟩
    simp only [impl_LiveOk.l0]
    rw [if_neg (by omega), impl_in_f, impl_in_f, Option.bind_some, Option.bind_some]
    simp only [lvL, Bool.true_and]
    by_cases h1 : 1 ≤ n ∧ n ≤ 100000
    · rw [decide_eq_true h1]; rfl
    · rw [decide_eq_false h1]; rfl
  | succ d ih =>
    intro i hi
    obtain ⟨K, hK⟩ := evx (ih (i + 1) (by omega))
    refine evi (K + 2) fun k hk => ?_
    obtain ⟨k, rfl⟩ : ∃ m, k = m + 2 := ⟨k - 2, by omega⟩
    have e1 : (i : Int) < (l.length : Int) := by omega
    have e2 : (0 : Int) ≤ i := by omega
    have e3 : wrap64 ((i : Int) + 1) = ((i + 1 : Nat) : Int) := w64 (by omega) (by omega)
    have e4 : (i : Int) > 0 → wrap64 ((i : Int) - 1) = (i : Int) - 1 := fun h => w64 (by omega) (by omega)
    have e5 : (i : Int) > 0 → 0 ≤ (i : Int) - 1 := fun h => by omega
    have e6 : (i : Int) - 1 < (l.length : Int) := by omega
    have hK' := hK k (by omega)
    simp only [impl_LiveOk.l0]
    rw [if_pos e1, if_pos e2, if_pos e1, impl_in_f, Option.bind_some]
    simp only [lvL]
    by_cases hb : 1 ≤ rd l (i : Int) ∧ rd l (i : Int) ≤ wrap64 (n - 1)
    · rw [decide_eq_true hb, if_pos rfl]
      by_cases h0 : (i : Int) > 0
      · rw [if_pos h0, e4 h0, if_pos (e5 h0), if_pos e6]
        simp only [impl_LiveOk.j1]
        by_cases hc : rd l (i : Int) ≤ rd l ((i : Int) - 1)
        · rw [if_pos (show decide (rd l ((i : Int) - 1) ≥ rd l (i : Int)) = true from decide_eq_true hc), if_pos (show lvBad (wrap64 (n - 1)) l i = true by unfold lvBad; rw [decide_eq_true hb, decide_eq_true hc, decide_eq_true h0]; rfl)]
          rfl
        · rw [if_neg (show ¬ decide (rd l ((i : Int) - 1) ≥ rd l (i : Int)) = true from fun h => hc (of_decide_eq_true h)), if_neg (show ¬ lvBad (wrap64 (n - 1)) l i = true by unfold lvBad; rw [decide_eq_true hb, decide_eq_false hc, decide_eq_true h0]; decide), e3]
          exact hK'
      · rw [if_neg h0]
        simp only [impl_LiveOk.j1]
        rw [if_neg (by decide), if_neg (show ¬ lvBad (wrap64 (n - 1)) l i = true by unfold lvBad; rw [decide_eq_true hb, decide_eq_false h0, Bool.false_and]; decide), e3]
        exact hK'
    · rw [decide_eq_false hb, if_neg (by decide)]
      simp only [impl_LiveOk.j1]
      rw [if_pos trivial, if_pos (show lvBad (wrap64 (n - 1)) l i = true by unfold lvBad; rw [decide_eq_false hb]; rfl)]
      rfl
theorem impl_LiveOk_ev (n : Int) (l : List Int) (hl : l.length ≤ 4611686018427387904) : Ev (fun k => impl_LiveOk.f k n l) (lvOk n l) := by
  obtain ⟨K, hK⟩ := evx (impl_LiveOk_l0 n l hl l.length 0 rfl)
  refine evi (K) fun k hk => ?_
  have hK' := hK k hk
  unfold impl_LiveOk.f
  rw [show lvOk n l = (lvL (wrap64 (n - 1)) l l.length 0 && (decide (1 ≤ n ∧ n ≤ 100000) && decide (1 ≤ (l.length : Int) ∧ (l.length : Int) ≤ 60))) by unfold lvOk; rw [← Bool.and_assoc, Bool.and_comm]]
  exact hK'

/-! ### the size of a list of segments -/
theorem laws_szLive_f (n : Int) (l : List Int) (hl : l.length ≤ maxLen) : ∃ s, laws_szLive.f n l 1048576 = some s ∧ (s < 0 ∨ l.length ≤ 1048576) := by
  obtain ⟨s, hs, h1, h2⟩ := laws_szIntS_f l hl 1048576 (by omega) (by omega)
  unfold laws_szLive.f
  rw [hs, Option.bind_some]
  by_cases h : s < 0
  · rw [if_pos h]; exact ⟨_, rfl, Or.inl (by omega)⟩
  · rw [if_neg h]; exact ⟨_, rfl, Or.inr (by omega)⟩

/-! ### impl's ShowLive -/
def showLive (n : Int) (l : List Int) : List UInt8 := if lvOk n l = true then frameL ((varB n ++ varB (l.length : Int)) ++ varsL l) else []
theorem lvOk_len {n : Int} {l : List Int} (h : lvOk n l = true) : l.length ≤ 60 := by
  unfold lvOk at h
  rw [Bool.and_eq_true, Bool.and_eq_true] at h
  have := of_decide_eq_true h.2.1
  omega
theorem impl_ShowLive_ev (n : Int) (l : List Int) (hl : l.length ≤ 1048576) : Ev (fun k => impl_ShowLive.f k n l) (mkS (showLive n l)) := by
  obtain ⟨K0, h0⟩ := evx (impl_LiveOk_ev n l (by omega))
  unfold showLive
  by_cases hr : lvOk n l = true
  · have h60 := lvOk_len hr
    obtain ⟨K1, h1⟩ := evx (impl_vars_ev [n, (l.length : Int)] (by simp))
    obtain ⟨K2, h2⟩ := evx (impl_vars_ev l hl)
    have ev : varsL [n, (l.length : Int)] = varB n ++ varB (l.length : Int) := by simp [varsL]
    rw [ev] at h1
    obtain ⟨K3, h3⟩ := evx (impl_Frame_ev ((varB n ++ varB (l.length : Int)) ++ varsL l))
    have l1 := varB_length n
    have l2 := varB_length (l.length : Int)
    have l3 := varsL_length l
    refine evi (K0 + K1 + K2 + K3) fun k hk => ?_
    unfold impl_ShowLive.f
    rw [h0 k (by omega), hr, Option.bind_some, if_pos rfl, if_pos rfl, h1 k (by omega), Option.bind_some, h2 k (by omega), Option.bind_some, if_pos (by rw [mkS_size, mkS_size, List.length_append]; omega), mkS_append, h3 k (by omega)]
    rfl
  · refine evi (K0) fun k hk => ?_
    unfold impl_ShowLive.f
    rw [h0 k (by omega), Option.bind_some, if_neg hr, if_neg hr]
    rfl

/-! ### spec's ShowLive -/
theorem spec_ShowLive_l0 (n : Int) (l : List Int) (hl : l.length ≤ 1048576) (d : Nat) : ∀ (i : Nat) (acc : List UInt8), d + i = l.length → acc.length + 7 * d ≤ 100000000000000 → Ev (fun k => spec_ShowLive.l0 k (mkS acc) (i : Int) n l) (mkS (frameL (acc ++ varsL (l.drop i)))) := by
  induction d with
  | zero =>
    intro i acc hi ha
    obtain ⟨K, hK⟩ := evx (spec_Frame_ev acc)
    refine evi (K + 1) fun k hk => ?_
    obtain ⟨k, rfl⟩ : ∃ m, k = m + 1 := ⟨k - 1, by omega⟩
    simp only [spec_ShowLive.l0]
    rw [if_neg (by omega), List.drop_of_length_le (by omega), hK k (by omega)]
    simp [varsL]
  | succ d ih =>
    intro i acc hi ha
    have hlt : i < l.length := by omega
    have hrd : rd l (i : Int) = l[i] := by simp [rd, hlt]
    have hb := varB_length l[i]
    obtain ⟨K1, h1⟩ := evx (spec_Var_ev l[i])
    obtain ⟨K, hK⟩ := evx (ih (i + 1) (acc ++ varB l[i]) (by omega) (by rw [List.length_append]; omega))
    refine evi (K + K1 + 1) fun k hk => ?_
    obtain ⟨k, rfl⟩ : ∃ m, k = m + 1 := ⟨k - 1, by omega⟩
    have hgo := hK k (by omega)
    simp only [spec_ShowLive.l0]
    rw [if_pos (by omega), if_pos (by omega), hrd, h1 k (by omega), varS_B]
    simp only [Option.bind_some]
    rw [if_pos (by rw [mkS_size, mkS_size]; omega), mkS_append, w64 (by omega) (by omega), show ((i : Int) + 1) = ((i + 1 : Nat) : Int) from by omega, hgo, List.drop_eq_getElem_cons hlt, varsL_cons, List.append_assoc]
theorem spec_ShowLive_ev (n : Int) (l : List Int) (hl : l.length ≤ 1048576) : Ev (fun k => spec_ShowLive.f k n l) (mkS (showLive n l)) := by
  obtain ⟨K0, h0⟩ := evx (spec_LiveOk_ev n l (by omega))
  unfold showLive
  by_cases hr : lvOk n l = true
  · have h60 := lvOk_len hr
    obtain ⟨K1, h1⟩ := evx (spec_Var_ev n)
    obtain ⟨K2, h2⟩ := evx (spec_Var_ev (l.length : Int))
    have l1 := varB_length n
    have l2 := varB_length (l.length : Int)
    obtain ⟨K3, h3⟩ := evx (spec_ShowLive_l0 n l hl l.length 0 (varB n ++ varB (l.length : Int)) rfl (by rw [List.length_append]; omega))
    rw [List.drop_zero] at h3
    refine evi (K0 + K1 + K2 + K3) fun k hk => ?_
    have hgo := h3 k (by omega)
    unfold spec_ShowLive.f
    rw [h0 k (by omega), hr, Option.bind_some, if_pos rfl, if_pos rfl, h1 k (by omega), Option.bind_some, h2 k (by omega), Option.bind_some, varS_B, varS_B, if_pos (by rw [mkS_size, mkS_size]; omega), mkS_append]
    exact hgo
  · refine evi (K0) fun k hk => ?_
    unfold spec_ShowLive.f
    rw [h0 k (by omega), Option.bind_some, if_neg hr, if_neg hr]
    rfl

/-! ### the law -/
theorem FnExactShowLive : laws_FnExactShowLive.Pure := by
  intro n l h1 h2
  obtain ⟨s, hs, h3⟩ := laws_szLive_f n l h2.1
  by_cases h : s < 0
  · refine ⟨0, ?_⟩
    unfold laws_FnExactShowLive.f
    rw [hs, Option.bind_some, if_pos h]
  · have hl : l.length ≤ 1048576 := by omega
    obtain ⟨K1, k1⟩ := evx (laws_toIntS_ev l hl)
    obtain ⟨K2, k2⟩ := evx (spec_ShowLive_ev n l hl)
    obtain ⟨K3, k3⟩ := evx (impl_ShowLive_ev n l hl)
    obtain ⟨K4, k4⟩ := evx (laws_eqIntS_ev l (by omega))
    refine ⟨K1 + K2 + K3 + K4, ?_⟩
    have r1 := k1 (K1 + K2 + K3 + K4) (by omega)
    have r2 := k2 (K1 + K2 + K3 + K4) (by omega)
    have r3 := k3 (K1 + K2 + K3 + K4) (by omega)
    have r4 := k4 (K1 + K2 + K3 + K4) (by omega)
    unfold laws_FnExactShowLive.f laws_toLive.f laws_eqLive.f
    rw [hs, Option.bind_some, if_neg h]
    simp only [r1, r2, r3, r4, Option.bind_some]
    simp

end Go.Proofs.Ytodmaebgogjpdab.Pure
