/- The pure statement of the law FnExactHintFits: for all arguments within the printed bounds the printed function of the law answers true. Conditions: only the bounds that the printed statement itself names. -/
import Derived.Test.YtnjmehiploelnaaPFnExactHintFitsx19
namespace Go.Proofs.Ytnjmehiploelnaa.Pure
open Go.RowKit Go.Proofs.Ytnjmehiploelnaa.PFnExactHintFits Go.Proofs.YtnjmehiploelnaaW.PrintWords Go.Proofs.YtnjmehiploelnaaW.PrintLast
set_option linter.unusedVariables false
set_option linter.unusedSimpArgs false

/-- The string of a list of bytes. -/
def mkS (l : List UInt8) : ByteArray := ⟨l.toArray⟩
theorem exS (s : ByteArray) : ∃ l, s = mkS l := ⟨s.data.toList, by cases s; simp [mkS]⟩
theorem mkS_size (l : List UInt8) : (mkS l).size = l.length := by simp [mkS, ByteArray.size]
theorem toList_data (s : ByteArray) : s.toList = s.data.toList := by
  have key : ∀ (n i : Nat) (r : List UInt8), s.size - i = n → ByteArray.toList.loop s i r = r.reverse ++ s.data.toList.drop i := by
    intro n
    induction n with
    | zero =>
      intro i r h
      unfold ByteArray.toList.loop
      rw [if_neg (by omega), List.drop_of_length_le (by simp only [Array.length_toList]; have : s.size = s.data.size := rfl; omega), List.append_nil]
    | succ n ih =>
      intro i r h
      unfold ByteArray.toList.loop
      have hi : i < s.data.toList.length := by simp only [Array.length_toList]; have : s.size = s.data.size := rfl; omega
      rw [if_pos (by omega), ih (i + 1) _ (by omega), List.reverse_cons, List.append_assoc, List.drop_eq_getElem_cons hi]
      have : s.get! i = s.data.toList[i] := by
        show s.data[i]! = _
        rw [Array.getElem_toList]
        exact getElem!_pos s.data i (by simpa using hi)
      rw [this]
      rfl
  have := key _ 0 [] rfl
  simpa [ByteArray.toList] using this
theorem mkS_toList (l : List UInt8) : (mkS l).toList = l := by rw [toList_data]; simp [mkS]
theorem mkS_append (a b : List UInt8) : mkS a ++ mkS b = mkS (a ++ b) := by
  apply ByteArray.ext
  simp [mkS, ByteArray.data_append]
theorem mkS_extract (l : List UInt8) (i j : Nat) : (mkS l).extract i j = mkS ((l.drop i).take (j - i)) := by
  apply ByteArray.ext
  rw [ByteArray.data_extract]
  simp only [mkS]
  apply Array.ext'
  rw [Array.toList_extract]
  try simp [List.extract_eq_drop_take]
theorem mkS_nil : (⟨#[]⟩ : ByteArray) = mkS [] := rfl
theorem bt_mkS (l : List UInt8) (i : Nat) (h : i < l.length) : bt (mkS l) (i : Int) = ((l[i]).toNat : Int) := by
  unfold bt
  have h' : ((i : Int)).toNat < (mkS l).size := by rw [mkS_size]; simpa using h
  rw [dif_pos h']
  simp only [Int.toNat_natCast]
  rfl
/-- A slice of bytes as the print tells it. -/
def ints (l : List UInt8) : List Int := l.map fun b => (b.toNat : Int)
theorem ints_length (l : List UInt8) : (ints l).length = l.length := by simp [ints]
theorem ints_append (a b : List UInt8) : ints a ++ ints b = ints (a ++ b) := by simp [ints]
theorem ints_nil : ([] : List Int) = ints [] := rfl
theorem strOfNums_ints (l : List UInt8) : strOfNums (ints l) = mkS l := by
  unfold strOfNums ints mkS
  congr 2
  rw [List.map_map]
  conv => rhs; rw [← List.map_id l]
  apply List.map_congr_left
  intro b _
  simp
theorem ofNat_cast (n : Nat) : ((UInt8.ofNat n).toNat : Int) = (n : Int) % 256 := by simp
theorem ints_one (n : Nat) (x : Int) (h : x % 256 = ((n % 256 : Nat) : Int)) : [x % 256] = ints [UInt8.ofNat n] := by
  simp only [ints, List.map_cons, List.map_nil]
  rw [h, ofNat_cast]
  simp
theorem w64 {x : Int} (h0 : -9223372036854775808 ≤ x) (h1 : x ≤ 9223372036854775807) : wrap64 x = x := by unfold wrap64; omega
theorem bt_rng (s : ByteArray) (i : Int) : 0 ≤ bt s i ∧ bt s i ≤ 255 := by
  unfold bt
  by_cases h : i.toNat < s.size
  · rw [dif_pos h]
    have := (s[i.toNat]'h).toNat_lt
    omega
  · rw [dif_neg h]
    omega
theorem w64b (s : ByteArray) (i : Int) : wrap64 (bt s i) = bt s i := by have := bt_rng s i; exact w64 (by omega) (by omega)
theorem tdivp {x y : Int} (h : 0 ≤ x) : Int.tdiv x y = x / y := Int.tdiv_eq_ediv_of_nonneg h
theorem tmodp {x y : Int} (h : 0 ≤ x) : Int.tmod x y = x % y := Int.tmod_eq_emod_of_nonneg h
theorem shl_i64 {x y : Int} {n : Nat} (hy : y = (n : Int)) (hn : n ≤ 64) : shl .i64 x y = wrap64 (x * 2 ^ n) := by
  unfold shl
  have e : min y.toNat IntKind.i64.bits = n := by subst hy; simp [IntKind.bits]; omega
  rw [e, IntKind.wrap_i64, wrap64]
theorem shr_i64 {x y : Int} {n : Nat} (hy : y = (n : Int)) (hn : n ≤ 64) : shr .i64 x y = x / 2 ^ n := by
  unfold shr
  have e : min y.toNat IntKind.i64.bits = n := by subst hy; simp [IntKind.bits]; omega
  rw [e]
theorem evx {α : Type} {g : Nat → Option α} {r : α} (h : Ev g r) : ∃ K, ∀ k, K ≤ k → g k = some r := h
theorem evi {α : Type} {g : Nat → Option α} {r : α} (K : Nat) (h : ∀ k, K ≤ k → g k = some r) : Ev g r := ⟨K, h⟩

theorem fill_step {α : Type} (m : List α) (z : α) (i n : Nat) (x : α) (hn : m.length = n) (h : i < n) (hx : m[i]? = some x) : (m.take i ++ List.replicate (n - i) z).set i x = m.take (i + 1) ++ List.replicate (n - (i + 1)) z := by
  subst hn
  have hl : (m.take i).length = i := by rw [List.length_take]; omega
  have e : m.length - i = (m.length - (i + 1)) + 1 := by omega
  have ex : m[i] = x := by rw [List.getElem?_eq_getElem h] at hx; exact Option.some.inj hx
  rw [e, List.replicate_succ, List.set_append_right _ _ (by omega), hl, Nat.sub_self, List.set_cons_zero, List.take_succ_eq_append_getElem h, List.append_assoc, ex]
  rfl

theorem impl_in_f (a b c : Int) : impl_in.f a b c = some (decide (b ≤ a ∧ a ≤ c)) := by
  unfold impl_in.f
  by_cases h : a ≥ b
  · rw [if_pos h]; congr 1; simp [h]
  · rw [if_neg h]; congr 1; simp; omega

theorem spec_l1In_f (a b c : Int) : spec_l1In.f a b c = some (decide (b ≤ a ∧ a ≤ c)) := by
  unfold spec_l1In.f
  by_cases h : a ≥ b
  · rw [if_pos h]; congr 1; simp [h]
  · rw [if_neg h]; congr 1; simp; omega

def keyOkB (l : List UInt8) : Bool := decide (1 ≤ l.length ∧ l.length ≤ 8)
theorem impl_KeyOk_f (l : List UInt8) : impl_KeyOk.f (mkS l) = some (keyOkB l) := by
  unfold impl_KeyOk.f keyOkB
  rw [impl_in_f, mkS_size]
  simp only [Option.bind_some]
  congr 1
  apply decide_eq_decide.2
  omega

theorem spec_KeyOk_f (l : List UInt8) : spec_KeyOk.f (mkS l) = some (keyOkB l) := by
  unfold spec_KeyOk.f keyOkB
  rw [spec_l1In_f, mkS_size]
  simp only [Option.bind_some]
  congr 1
  apply decide_eq_decide.2
  omega

def varL (n : Nat) : List UInt8 := if n < 128 then [UInt8.ofNat n] else UInt8.ofNat (n % 128 + 128) :: varL (n / 128)
termination_by n
decreasing_by omega
theorem varL_small {n : Nat} (h : n < 128) : varL n = [UInt8.ofNat n] := by rw [varL, if_pos h]
theorem varL_big {n : Nat} (h : ¬ n < 128) : varL n = UInt8.ofNat (n % 128 + 128) :: varL (n / 128) := by rw [varL, if_neg h]
theorem varL_pos (n : Nat) : 0 < (varL n).length := by
  by_cases h : n < 128
  · rw [varL_small h]; simp
  · rw [varL_big h]; simp
theorem varL_len (j : Nat) : ∀ n : Nat, n < 128 ^ (j + 1) → (varL n).length ≤ j + 1 := by
  induction j with
  | zero => intro n h; rw [varL_small (by omega)]; simp
  | succ j ih =>
    intro n h
    by_cases hn : n < 128
    · rw [varL_small hn]; simp
    · rw [varL_big hn, List.length_cons]
      have : n / 128 < 128 ^ (j + 1) := by rw [Nat.div_lt_iff_lt_mul (by omega)]; rw [Nat.pow_succ] at h; exact h
      have := ih _ this
      omega
theorem varL_len7 {n : Nat} (h : n ≤ 562949953421311) : (varL n).length ≤ 7 := varL_len 6 n (by omega)
/-- A number's text. -/
def varS (n : Int) : ByteArray := if 0 ≤ n ∧ n ≤ 562949953421311 then mkS (varL n.toNat) else mkS []
theorem varS_nat {n : Nat} (h : n ≤ 562949953421311) : varS (n : Int) = mkS (varL n) := by
  unfold varS
  rw [if_pos ⟨by omega, by omega⟩, Int.toNat_natCast]
/-- A text with its length ahead. -/
def textL (l : List UInt8) : List UInt8 := varL l.length ++ l
theorem textL_length (l : List UInt8) (h : l.length ≤ 562949953421311) : (textL l).length ≤ l.length + 7 := by have := varL_len7 h; rw [textL, List.length_append]; omega

theorem impl_Var_l0 (m : Nat) : ∀ (n : Nat) (acc : List UInt8), n ≤ 562949953421311 → n ≤ m → acc.length + n ≤ 600000000000000 → acc.length + (varL n).length ≤ 100000000000000 → Ev (fun k => impl_Var.l0 k (n : Int) (ints acc)) (mkS (acc ++ varL n)) := by
  induction m using Nat.strongRecOn with
  | ind m ih =>
  intro n acc hn hm _ hl
  have hlp := varL_pos n
  by_cases h : n < 128
  · refine evi (1) fun k hk => ?_
    obtain ⟨k, rfl⟩ : ∃ m, k = m + 1 := ⟨k - 1, by omega⟩
    simp only [impl_Var.l0]
    rw [if_neg (by omega), if_pos (by rw [ints_length]; omega), ints_one n _ (by omega), ints_append, strOfNums_ints, varL_small h]
  · have hd := varL_big h
    obtain ⟨K, hK⟩ := evx (ih (n / 128) (by omega) (n / 128) (acc ++ [UInt8.ofNat (n % 128 + 128)]) (by omega) (Nat.le_refl _) (by rw [List.length_append, List.length_singleton]; omega) (by rw [hd, List.length_cons] at hl; rw [List.length_append, List.length_singleton]; omega))
    refine evi (K + 1) fun k hk => ?_
    obtain ⟨k, rfl⟩ : ∃ m, k = m + 1 := ⟨k - 1, by omega⟩
    simp only [impl_Var.l0]
    rw [if_pos (by omega), if_pos (by rw [ints_length]; omega), tdivp (by omega), tmodp (by omega), w64 (by omega) (by omega), w64 (by omega) (by omega), ints_one (n % 128 + 128) _ (by omega), ints_append]
    have := hK k (by omega)
    simp only [Int.natCast_ediv] at this
    rw [hd, show (128 : Int) = ((128 : Nat) : Int) from rfl, this, List.append_assoc]
    rfl
theorem impl_Var_ev (n : Int) : Ev (fun k => impl_Var.f k n) (varS n) := by
  by_cases h : 0 ≤ n ∧ n ≤ 562949953421311
  · obtain ⟨m, rfl⟩ := Int.eq_ofNat_of_zero_le h.1
    have h7 := varL_len7 (n := m) (by omega)
    obtain ⟨K, hK⟩ := evx (impl_Var_l0 m m [] (by omega) (Nat.le_refl _) (by simp; omega) (by simp; omega))
    refine evi (K) fun k hk => ?_
    unfold impl_Var.f
    rw [impl_in_f]
    simp only [Option.bind_some]
    rw [if_pos (by simpa using h), ints_nil, hK k hk, varS, if_pos h]
    rfl
  · refine evi (0) fun k hk => ?_
    unfold impl_Var.f
    rw [impl_in_f]
    simp only [Option.bind_some]
    rw [if_neg (by simpa using h), varS, if_neg h]
    rfl

theorem spec_Var_l0 (m : Nat) : ∀ (n : Nat) (acc : List UInt8), n ≤ 562949953421311 → n ≤ m → acc.length + (varL n).length ≤ 100000000000000 → Ev (fun k => spec_Var.l0 k (n : Int) (ints acc)) (mkS (acc ++ varL n)) := by
  induction m using Nat.strongRecOn with
  | ind m ih =>
  intro n acc hn hm hl
  have hlp := varL_pos n
  by_cases h : n < 128
  · refine evi (1) fun k hk => ?_
    obtain ⟨k, rfl⟩ : ∃ m, k = m + 1 := ⟨k - 1, by omega⟩
    simp only [spec_Var.l0]
    rw [if_neg (by omega), if_pos (by rw [ints_length]; omega), ints_one n _ (by omega), ints_append, strOfNums_ints, varL_small h]
  · have hd := varL_big h
    obtain ⟨K, hK⟩ := evx (ih (n / 128) (by omega) (n / 128) (acc ++ [UInt8.ofNat (n % 128 + 128)]) (by omega) (Nat.le_refl _) (by rw [hd, List.length_cons] at hl; rw [List.length_append, List.length_singleton]; omega))
    refine evi (K + 1) fun k hk => ?_
    obtain ⟨k, rfl⟩ : ∃ m, k = m + 1 := ⟨k - 1, by omega⟩
    simp only [spec_Var.l0]
    rw [if_pos (by omega), if_pos (by rw [ints_length]; omega), tdivp (by omega), tmodp (by omega), w64 (by omega) (by omega), w64 (by omega) (by omega), ints_one (n % 128 + 128) _ (by omega), ints_append]
    have := hK k (by omega)
    simp only [Int.natCast_ediv] at this
    rw [hd, show (128 : Int) = ((128 : Nat) : Int) from rfl, this, List.append_assoc]
    rfl
theorem spec_Var_ev (n : Int) : Ev (fun k => spec_Var.f k n) (varS n) := by
  by_cases h : 0 ≤ n ∧ n ≤ 562949953421311
  · obtain ⟨m, rfl⟩ := Int.eq_ofNat_of_zero_le h.1
    have h7 := varL_len7 (n := m) (by omega)
    obtain ⟨K, hK⟩ := evx (spec_Var_l0 m m [] (by omega) (Nat.le_refl _) (by simp; omega))
    refine evi (K) fun k hk => ?_
    unfold spec_Var.f
    rw [spec_l1In_f]
    simp only [Option.bind_some]
    rw [if_pos (by simpa using h), ints_nil, hK k hk, varS, if_pos h]
    rfl
  · refine evi (0) fun k hk => ?_
    unfold spec_Var.f
    rw [spec_l1In_f]
    simp only [Option.bind_some]
    rw [if_neg (by simpa using h), varS, if_neg h]
    rfl

def fixL : Nat → Nat → List UInt8
  | 0, _ => []
  | w + 1, n => UInt8.ofNat (n / 256 ^ w) :: fixL w n
theorem fixL_length (w n : Nat) : (fixL w n).length = w := by induction w with
  | zero => rfl
  | succ w ih => rw [fixL, List.length_cons, ih]
def fixS (n w : Int) : ByteArray := if (1 ≤ w ∧ w ≤ 7) ∧ 0 ≤ n ∧ n < 256 ^ w.toNat then mkS (fixL w.toNat n.toNat) else mkS []
def beL (l : List UInt8) : Nat := l.foldl (fun a b => a * 256 + b.toNat) 0
theorem beL_snoc (l : List UInt8) (x : UInt8) : beL (l ++ [x]) = beL l * 256 + x.toNat := by simp [beL, List.foldl_append]
theorem beL_fold (l : List UInt8) : ∀ a : Nat, l.foldl (fun a b => a * 256 + b.toNat) a = a * 256 ^ l.length + beL l := by
  induction l with
  | nil => intro a; simp [beL]
  | cons x t ih =>
    intro a
    have e : beL (x :: t) = (0 * 256 + x.toNat) * 256 ^ t.length + beL t := ih _
    rw [List.foldl_cons, ih, e, List.length_cons, Nat.pow_succ, Nat.add_mul, Nat.zero_mul, Nat.zero_add, Nat.mul_assoc, Nat.mul_comm 256, Nat.add_assoc]
theorem beL_cons (x : UInt8) (t : List UInt8) : beL (x :: t) = x.toNat * 256 ^ t.length + beL t := by
  rw [beL, List.foldl_cons, beL_fold, Nat.zero_mul, Nat.zero_add]
theorem beL_lt (l : List UInt8) : beL l < 256 ^ l.length := by
  induction l with
  | nil => simp [beL]
  | cons x t ih =>
    rw [beL_cons, List.length_cons, Nat.pow_succ]
    have := x.toNat_lt
    have : x.toNat * 256 ^ t.length ≤ 255 * 256 ^ t.length := Nat.mul_le_mul_right _ (by omega)
    omega
theorem beL_fixL (w : Nat) : ∀ n, beL (fixL w n) = n % 256 ^ w := by
  induction w with
  | zero => intro n; simp [fixL, beL, Nat.mod_one]
  | succ w ih =>
    intro n
    rw [fixL, beL_cons, fixL_length, ih, Nat.pow_succ]
    have h1 : (UInt8.ofNat (n / 256 ^ w)).toNat = n / 256 ^ w % 256 := by simp
    rw [h1, Nat.mod_mul, Nat.mul_comm (n / 256 ^ w % 256), Nat.add_comm]
theorem fixL_beL (l : List UInt8) : ∀ w, l.length = w → ∀ c, fixL w (c * 256 ^ w + beL l) = l := by
  induction l with
  | nil => intro w h c; subst h; rfl
  | cons x t ih =>
    intro w h c
    subst h
    rw [List.length_cons, fixL]
    have hb := beL_lt t
    have e : c * 256 ^ (t.length + 1) + beL (x :: t) = (c * 256 + x.toNat) * 256 ^ t.length + beL t := by
      rw [beL_cons, Nat.pow_succ, Nat.add_mul, ← Nat.add_assoc, Nat.mul_assoc, Nat.mul_comm 256]
    rw [e, ih _ rfl]
    congr 1
    have e2 : ((c * 256 + x.toNat) * 256 ^ t.length + beL t) / 256 ^ t.length = c * 256 + x.toNat := by
      rw [Nat.mul_comm, Nat.mul_add_div (Nat.pow_pos (by omega)), Nat.div_eq_of_lt hb, Nat.add_zero]
    rw [e2]
    apply UInt8.toNat_inj.1
    have := x.toNat_lt
    rw [UInt8.toNat_ofNat']
    omega
theorem fixL_be (l : List UInt8) (w : Nat) (h : l.length = w) : fixL w (beL l) = l := by
  have := fixL_beL l w h 0
  rwa [Nat.zero_mul, Nat.zero_add] at this
theorem pow256_le {i : Nat} (h : i ≤ 7) : 256 ^ i ≤ 72057594037927936 := Nat.pow_le_pow_right (n := 256) (by omega) h
theorem pow_2_8 (i : Nat) : ((2 : Int) ^ (8 * i)) = ((256 ^ i : Nat) : Int) := by
  rw [show (256 : Nat) = 2 ^ 8 from rfl, ← Nat.pow_mul]
  simp

theorem impl_Fixed_l0 (n : Nat) (m : Nat) : ∀ (acc : List UInt8), m ≤ 7 → acc.length + m ≤ 100 → Ev (fun k => impl_Fixed.l0 k (n : Int) (ints acc) ((m : Int) - 1)) (mkS (acc ++ fixL m n)) := by
  induction m with
  | zero =>
    intro acc _ hl
    refine evi (1) fun k hk => ?_
    obtain ⟨k, rfl⟩ : ∃ m, k = m + 1 := ⟨k - 1, by omega⟩
    simp only [impl_Fixed.l0]
    rw [if_neg (by omega), strOfNums_ints, fixL, List.append_nil]
  | succ m ih =>
    intro acc hm hl
    obtain ⟨K, hK⟩ := evx (ih (acc ++ [UInt8.ofNat (n / 256 ^ m)]) (by omega) (by rw [List.length_append, List.length_singleton]; omega))
    refine evi (K + 1) fun k hk => ?_
    obtain ⟨k, rfl⟩ : ∃ m, k = m + 1 := ⟨k - 1, by omega⟩
    simp only [impl_Fixed.l0]
    rw [show (((m + 1 : Nat) : Int) - 1) = (m : Int) from by omega]
    rw [if_pos (by omega), w64 (x := 8 * (m : Int)) (by omega) (by omega), if_pos (by omega), if_pos (by rw [ints_length]; omega), shr_i64 (n := 8 * m) (by simp) (by omega), pow_2_8, w64 (by omega) (by omega), ints_one (n / 256 ^ m) _ (by rw [← Int.natCast_ediv]; omega), ints_append, hK k (by omega), fixL, List.append_assoc]
    rfl
theorem impl_Fixed_ev (n w : Int) : Ev (fun k => impl_Fixed.f k n w) (fixS n w) := by
  by_cases hw : 1 ≤ w ∧ w ≤ 7
  · obtain ⟨m, rfl⟩ := Int.eq_ofNat_of_zero_le (show 0 ≤ w by omega)
    have hp := pow256_le (i := m) (by omega)
    have hp0 : 0 < 256 ^ m := Nat.pow_pos (by omega)
    have e1 : wrap64 (shl .i64 1 (wrap64 (8 * (m : Int))) - 1) = ((256 ^ m : Nat) : Int) - 1 := by
      rw [w64 (x := 8 * (m : Int)) (by omega) (by omega), shl_i64 (n := 8 * m) (by simp) (by omega), pow_2_8, Int.one_mul, w64 (x := ((256 ^ m : Nat) : Int)) (by omega) (by omega), w64 (by omega) (by omega)]
    have hcast : ((256 : Int) ^ m) = ((256 ^ m : Nat) : Int) := by simp
    by_cases hn : 0 ≤ n ∧ n < 256 ^ m
    · have hn2 := hn.2
      rw [hcast] at hn2
      obtain ⟨q, rfl⟩ := Int.eq_ofNat_of_zero_le hn.1
      obtain ⟨K, hK⟩ := evx (impl_Fixed_l0 q m [] (by omega) (by simp; omega))
      refine evi (K + 1) fun k hk => ?_
      obtain ⟨k, rfl⟩ : ∃ m, k = m + 1 := ⟨k - 1, by omega⟩
      unfold impl_Fixed.f
      rw [impl_in_f]
      simp only [Option.bind_some]
      rw [if_pos (by simpa using hw), if_pos (by rw [w64 (by omega) (by omega)]; omega), e1, impl_in_f]
      simp only [Option.bind_some, impl_Fixed.j0]
      rw [if_neg (by simp; omega), w64 (by omega) (by omega), ints_nil, hK k (by omega), fixS, if_pos ⟨hw, by simpa using hn⟩]
      simp
    · refine evi (1) fun k hk => ?_
      obtain ⟨k, rfl⟩ : ∃ m, k = m + 1 := ⟨k - 1, by omega⟩
      unfold impl_Fixed.f
      rw [impl_in_f]
      simp only [Option.bind_some]
      rw [if_pos (by simpa using hw), if_pos (by rw [w64 (by omega) (by omega)]; omega), e1, impl_in_f]
      simp only [Option.bind_some, impl_Fixed.j0]
      rw [hcast] at hn
      rw [if_pos (by simp only [Bool.not_eq_true', decide_eq_false_iff_not]; omega), fixS, if_neg (fun h => hn (by rw [← hcast]; simpa using h.2))]
      rfl
  · refine evi (1) fun k hk => ?_
    obtain ⟨k, rfl⟩ : ∃ m, k = m + 1 := ⟨k - 1, by omega⟩
    unfold impl_Fixed.f
    rw [impl_in_f]
    simp only [Option.bind_some, impl_Fixed.j0]
    rw [if_neg (by simpa using hw), if_pos trivial, fixS, if_neg (fun h => hw h.1)]
    rfl

theorem spec_Fixed_l0 (n : Nat) (w : Nat) (hw : w ≤ 7) (hn : n ≤ 9223372036854775807) (d : Nat) : ∀ (i : Nat), d + i = w → Ev (fun k => spec_Fixed.l0 k ((n / 256 ^ i : Nat) : Int) (w : Int) (mkS (fixL i n)) (i : Int)) (if n / 256 ^ w = 0 then mkS (fixL w n) else mkS []) := by
  induction d with
  | zero =>
    intro i hi
    obtain rfl : i = w := by omega
    refine evi (1) fun k hk => ?_
    obtain ⟨k, rfl⟩ : ∃ m, k = m + 1 := ⟨k - 1, by omega⟩
    simp only [spec_Fixed.l0]
    rw [if_neg (by omega)]
    by_cases h : n / 256 ^ i = 0
    · rw [if_neg (by rw [h]; omega), if_pos h]
    · rw [if_pos (by have : 0 < n / 256 ^ i := Nat.pos_of_ne_zero h; omega), if_neg h]
      rfl
  | succ d ih =>
    intro i hi
    obtain ⟨K, hK⟩ := evx (ih (i + 1) (by omega))
    refine evi (K + 1) fun k hk => ?_
    obtain ⟨k, rfl⟩ : ∃ m, k = m + 1 := ⟨k - 1, by omega⟩
    have hq : n / 256 ^ i ≤ n := Nat.div_le_self _ _
    have this := hK k (by omega)
    rw [fixL, Nat.pow_succ, ← Nat.div_div_eq_div_mul] at this
    generalize n / 256 ^ i = q at *
    simp only [spec_Fixed.l0, Option.bind_some]
    rw [if_pos (by omega), tmodp (by omega), tdivp (by omega), ints_one q _ (by omega), strOfNums_ints, if_pos (by rw [mkS_size, mkS_size, fixL_length]; simp; omega), mkS_append, w64 (by omega) (by omega), w64 (by omega) (by omega)]
    rw [show ((q : Int) / 256) = ((q / 256 : Nat) : Int) from by omega, show ((i : Int) + 1) = ((i + 1 : Nat) : Int) from by omega]
    exact this
theorem spec_Fixed_ev (n w : Int) (hn : n ≤ 9223372036854775807) : Ev (fun k => spec_Fixed.f k n w) (fixS n w) := by
  by_cases hw : 1 ≤ w ∧ w ≤ 7
  · by_cases h0 : n < 0
    · refine evi (1) fun k hk => ?_
      obtain ⟨k, rfl⟩ : ∃ m, k = m + 1 := ⟨k - 1, by omega⟩
      unfold spec_Fixed.f
      rw [spec_l1In_f]
      simp only [Option.bind_some, spec_Fixed.j0]
      rw [if_pos (by simpa using hw), if_pos (by simpa using h0), fixS, if_neg (fun h => by omega)]
      rfl
    · obtain ⟨m, rfl⟩ := Int.eq_ofNat_of_zero_le (show 0 ≤ w by omega)
      obtain ⟨q, rfl⟩ := Int.eq_ofNat_of_zero_le (show 0 ≤ n by omega)
      obtain ⟨K, hK⟩ := evx (spec_Fixed_l0 q m (by omega) (by omega) m 0 (by omega))
      refine evi (K + 1) fun k hk => ?_
      obtain ⟨k, rfl⟩ : ∃ m, k = m + 1 := ⟨k - 1, by omega⟩
      have hcast : ((256 : Int) ^ m) = ((256 ^ m : Nat) : Int) := by simp
      have hp0 : 0 < 256 ^ m := Nat.pow_pos (by omega)
      unfold spec_Fixed.f
      rw [spec_l1In_f]
      simp only [Option.bind_some, spec_Fixed.j0]
      rw [if_pos (by simpa using hw), if_neg (by simp), mkS_nil]
      have := hK k (by omega)
      rw [Nat.pow_zero, Nat.div_one] at this
      refine this.trans ?_
      rw [fixS]
      by_cases hlt : q < 256 ^ m
      · rw [if_pos (Nat.div_eq_of_lt hlt), if_pos ⟨hw, by omega, by rw [Int.toNat_natCast, hcast]; omega⟩, Int.toNat_natCast, Int.toNat_natCast]
      · rw [if_neg (by rw [Nat.div_eq_zero_iff]; omega), if_neg (fun h => hlt (by have := h.2.2; rw [Int.toNat_natCast, hcast] at this; omega))]
  · refine evi (1) fun k hk => ?_
    obtain ⟨k, rfl⟩ : ∃ m, k = m + 1 := ⟨k - 1, by omega⟩
    unfold spec_Fixed.f
    rw [spec_l1In_f]
    simp only [Option.bind_some, spec_Fixed.j0]
    rw [if_neg (by simpa using hw), if_pos trivial, fixS, if_neg (fun h => hw h.1)]
    rfl

def crcT (c : Nat) : Nat := if c % 2 = 1 then (c / 2) ^^^ 2197175160 else c / 2
def crcN : Nat → Nat → Nat
  | 0, c => c
  | n + 1, c => crcN n (crcT c)
def crcL (c : Nat) (l : List UInt8) : Nat := l.foldl (fun c b => crcN 8 (c ^^^ b.toNat)) c
def crcS (l : List UInt8) : Nat := 4294967295 - crcL 4294967295 l
theorem xor_lt32 {a b : Nat} (ha : a < 4294967296) (hb : b < 4294967296) : a ^^^ b < 4294967296 := Nat.xor_lt_two_pow (n := 32) ha hb
theorem crcT_lt {c : Nat} (h : c < 4294967296) : crcT c < 4294967296 := by
  unfold crcT
  split
  · exact xor_lt32 (by omega) (by omega)
  · omega
theorem crcN_lt (n : Nat) : ∀ c, c < 4294967296 → crcN n c < 4294967296 := by
  induction n with
  | zero => intro c h; exact h
  | succ n ih => intro c h; exact ih _ (crcT_lt h)
theorem crcS_lt (l : List UInt8) : crcS l < 4294967296 := by unfold crcS; omega
theorem bits_xor_nat (k : IntKind) (j : Nat) (hj : j ≤ k.bits) (hk : ∀ n : Int, 0 ≤ n → n < 2 ^ j → k.wrap n = n) (a b : Nat) (ha : a < 2 ^ j) (hb : b < 2 ^ j) : Go.bits .xor k a b = ((a ^^^ b : Nat) : Int) := by
  have hp : 2 ^ j ≤ 2 ^ k.bits := Nat.pow_le_pow_right (by decide) hj
  have ha' : a % 2 ^ k.bits = a := Nat.mod_eq_of_lt (Nat.lt_of_lt_of_le ha hp)
  have hb' : b % 2 ^ k.bits = b := Nat.mod_eq_of_lt (Nat.lt_of_lt_of_le hb hp)
  have cast : ∀ n : Nat, n < 2 ^ j → ((n : Nat) : Int) < 2 ^ j := fun n h => by exact_mod_cast h
  simp only [Go.bits, BitVec.ofInt_natCast, BitVec.toNat_xor, BitVec.toNat_ofNat, ha', hb']
  exact hk _ (Int.natCast_nonneg _) (cast _ (Nat.xor_lt_two_pow ha hb))
theorem xor_u32 {a b : Nat} (ha : a < 4294967296) (hb : b < 4294967296) : Go.bits .xor .u32 (a : Int) (b : Int) = ((a ^^^ b : Nat) : Int) :=
  bits_xor_nat .u32 32 (by decide) (fun n h0 h1 => by rw [IntKind.wrap_u32]; omega) a b ha hb
theorem xor_i64 {a b : Nat} (ha : a < 4294967296) (hb : b < 4294967296) : Go.bits .xor .i64 (a : Int) (b : Int) = ((a ^^^ b : Nat) : Int) :=
  bits_xor_nat .i64 32 (by decide) (fun n h0 h1 => by rw [IntKind.wrap_i64]; omega) a b ha hb
theorem and_u32_1 {a : Nat} (ha : a < 4294967296) : Go.bits .and .u32 (a : Int) 1 = ((a % 2 : Nat) : Int) := by
  have := (bits_nat .u32 32 (by decide) (fun n h0 h1 => by rw [IntKind.wrap_u32]; omega) a 1 ha (by decide)).1
  rw [Nat.and_one_is_mod] at this
  exact this
theorem not_u32 {a : Nat} (ha : a < 4294967296) : Go.bits .xor .u32 (IntKind.u32.max) (a : Int) = ((4294967295 - a : Nat) : Int) := by
  have e : IntKind.u32.max = ((4294967295 : Nat) : Int) := by decide
  rw [e, xor_u32 (by omega) ha]
  congr 1
  have h := BitVec.toNat_not (x := BitVec.ofNat 32 a)
  rw [← BitVec.allOnes_xor, BitVec.toNat_xor, BitVec.toNat_allOnes, BitVec.toNat_ofNat, Nat.mod_eq_of_lt ha] at h
  exact h

theorem impl_Crc_l1 (l : List UInt8) (i : Nat) (r : Int) (hi : i < 9000000000000000000) (d : Nat) : ∀ (j c : Nat), d + j = 8 → c < 4294967296 → Ev (fun k => impl_Crc.l0 k (mkS l) ((crcN d c : Nat) : Int) ((i + 1 : Nat) : Int)) r → Ev (fun k => impl_Crc.l1 k (mkS l) (c : Int) (i : Int) (j : Int)) r := by
  induction d with
  | zero =>
    intro j c hj hc h
    obtain ⟨K, hK⟩ := evx (h)
    refine evi (K + 1) fun k hk => ?_
    obtain ⟨k, rfl⟩ : ∃ m, k = m + 1 := ⟨k - 1, by omega⟩
    simp only [impl_Crc.l1]
    rw [if_neg (by omega), w64 (by omega) (by omega)]
    exact hK k (by omega)
  | succ d ih =>
    intro j c hj hc h
    obtain ⟨K, hK⟩ := evx (ih (j + 1) (crcT c) (by omega) (crcT_lt hc) h)
    refine evi (K + 1) fun k hk => ?_
    obtain ⟨k, rfl⟩ : ∃ m, k = m + 1 := ⟨k - 1, by omega⟩
    simp only [impl_Crc.l1]
    have hgo := hK k (by omega)
    rw [if_pos (by omega), and_u32_1 hc, w64 (by omega) (by omega), show ((j : Int) + 1) = ((j + 1 : Nat) : Int) from by omega]
    unfold crcT at hgo
    by_cases ho : c % 2 = 1
    · rw [if_pos ho] at hgo
      rw [if_pos (by omega), show ((c : Int) / 2) = ((c / 2 : Nat) : Int) from by omega, show (2197175160 : Int) = ((2197175160 : Nat) : Int) from rfl, xor_u32 (by omega) (by omega)]
      exact hgo
    · rw [if_neg ho] at hgo
      rw [if_neg (by omega), show ((c : Int) / 2) = ((c / 2 : Nat) : Int) from by omega]
      exact hgo
theorem impl_Crc_l0 (l : List UInt8) (hl : l.length < 9000000000000000000) (d : Nat) : ∀ (i c : Nat), d + i = l.length → c < 4294967296 → Ev (fun k => impl_Crc.l0 k (mkS l) (c : Int) (i : Int)) ((4294967295 - crcL c (l.drop i) : Nat) : Int) := by
  induction d with
  | zero =>
    intro i c hi hc
    refine evi (1) fun k hk => ?_
    obtain ⟨k, rfl⟩ : ∃ m, k = m + 1 := ⟨k - 1, by omega⟩
    simp only [impl_Crc.l0]
    rw [if_neg (by rw [mkS_size]; omega), not_u32 hc, w64 (by omega) (by omega), List.drop_of_length_le (by omega)]
    rfl
  | succ d ih =>
    intro i c hi hc
    have hlt : i < l.length := by omega
    have hx := (l[i]).toNat_lt
    have hc' : c ^^^ (l[i]).toNat < 4294967296 := xor_lt32 hc (by omega)
    obtain ⟨K, hK⟩ := evx (impl_Crc_l1 l i _ (by omega) 8 0 (c ^^^ (l[i]).toNat) rfl hc' (ih (i + 1) (crcN 8 (c ^^^ (l[i]).toNat)) (by omega) (crcN_lt 8 _ hc')))
    refine evi (K + 1) fun k hk => ?_
    obtain ⟨k, rfl⟩ : ∃ m, k = m + 1 := ⟨k - 1, by omega⟩
    simp only [impl_Crc.l0]
    rw [if_pos (by rw [mkS_size]; omega), if_pos (by omega), bt_mkS l i hlt, Int.emod_eq_of_lt (by omega) (by omega), xor_u32 hc (by omega), List.drop_eq_getElem_cons hlt]
    exact hK k (by omega)
theorem impl_Crc_ev (l : List UInt8) (hl : l.length < 9000000000000000000) : Ev (fun k => impl_Crc.f k (mkS l)) (crcS l : Int) := by
  have h := impl_Crc_l0 l hl l.length 0 4294967295 rfl (by omega)
  exact h

theorem spec_Crc_l1 (l : List UInt8) (i : Nat) (r : Int) (hi : i < 9000000000000000000) (d : Nat) : ∀ (j c : Nat), d + j = 8 → c < 4294967296 → Ev (fun k => spec_Crc.l0 k (mkS l) ((crcN d c : Nat) : Int) ((i + 1 : Nat) : Int)) r → Ev (fun k => spec_Crc.l1 k (mkS l) (c : Int) (i : Int) (j : Int)) r := by
  induction d with
  | zero =>
    intro j c hj hc h
    obtain ⟨K, hK⟩ := evx (h)
    refine evi (K + 1) fun k hk => ?_
    obtain ⟨k, rfl⟩ : ∃ m, k = m + 1 := ⟨k - 1, by omega⟩
    simp only [spec_Crc.l1]
    rw [if_neg (by omega), w64 (by omega) (by omega)]
    exact hK k (by omega)
  | succ d ih =>
    intro j c hj hc h
    obtain ⟨K, hK⟩ := evx (ih (j + 1) (crcT c) (by omega) (crcT_lt hc) h)
    refine evi (K + 1) fun k hk => ?_
    obtain ⟨k, rfl⟩ : ∃ m, k = m + 1 := ⟨k - 1, by omega⟩
    simp only [spec_Crc.l1]
    have hgo := hK k (by omega)
    rw [if_pos (by omega), tmodp (by omega), tdivp (by omega), w64 (x := (j : Int) + 1) (by omega) (by omega), w64 (x := (c : Int) / 2) (by omega) (by omega), show ((j : Int) + 1) = ((j + 1 : Nat) : Int) from by omega]
    unfold crcT at hgo
    by_cases ho : c % 2 = 1
    · rw [if_pos ho] at hgo
      rw [if_pos (by omega), show ((c : Int) / 2) = ((c / 2 : Nat) : Int) from by omega, show (2197175160 : Int) = ((2197175160 : Nat) : Int) from rfl, xor_i64 (by omega) (by omega)]
      exact hgo
    · rw [if_neg ho] at hgo
      rw [if_neg (by omega), show ((c : Int) / 2) = ((c / 2 : Nat) : Int) from by omega]
      exact hgo
theorem spec_Crc_l0 (l : List UInt8) (hl : l.length < 9000000000000000000) (d : Nat) : ∀ (i c : Nat), d + i = l.length → c < 4294967296 → Ev (fun k => spec_Crc.l0 k (mkS l) (c : Int) (i : Int)) ((4294967295 - crcL c (l.drop i) : Nat) : Int) := by
  induction d with
  | zero =>
    intro i c hi hc
    refine evi (1) fun k hk => ?_
    obtain ⟨k, rfl⟩ : ∃ m, k = m + 1 := ⟨k - 1, by omega⟩
    simp only [spec_Crc.l0]
    rw [if_neg (by rw [mkS_size]; omega), w64 (by omega) (by omega), List.drop_of_length_le (by omega)]
    congr 1
    show _ = ((4294967295 - c : Nat) : Int)
    omega
  | succ d ih =>
    intro i c hi hc
    have hlt : i < l.length := by omega
    have hx := (l[i]).toNat_lt
    have hc' : c ^^^ (l[i]).toNat < 4294967296 := xor_lt32 hc (by omega)
    obtain ⟨K, hK⟩ := evx (spec_Crc_l1 l i _ (by omega) 8 0 (c ^^^ (l[i]).toNat) rfl hc' (ih (i + 1) (crcN 8 (c ^^^ (l[i]).toNat)) (by omega) (crcN_lt 8 _ hc')))
    refine evi (K + 1) fun k hk => ?_
    obtain ⟨k, rfl⟩ : ∃ m, k = m + 1 := ⟨k - 1, by omega⟩
    simp only [spec_Crc.l0]
    rw [if_pos (by rw [mkS_size]; omega), if_pos (by omega), w64b, bt_mkS l i hlt, xor_i64 hc (by omega), List.drop_eq_getElem_cons hlt]
    exact hK k (by omega)
theorem spec_Crc_ev (l : List UInt8) (hl : l.length < 9000000000000000000) : Ev (fun k => spec_Crc.f k (mkS l)) (crcS l : Int) := by
  have h := spec_Crc_l0 l hl l.length 0 4294967295 rfl (by omega)
  exact h

/-- What a text begins with: a number, and how many bytes it has; at most f bytes; 'first': a zero byte may be all of it. -/
def rvF : Nat → Bool → List UInt8 → Option (Nat × Nat)
  | 0, _, _ => none
  | _ + 1, _, [] => none
  | f + 1, first, x :: t => if x.toNat < 128 then (if x.toNat = 0 ∧ first = false then none else some (x.toNat, 1)) else (rvF f false t).map fun p => (x.toNat % 128 + 128 * p.1, p.2 + 1)
def rv (l : List UInt8) : Option (Nat × Nat) := rvF 7 true l
/-- The number and how many bytes; two zeros where there is none. -/
def rvP (l : List UInt8) : Nat × Nat := (rv l).getD (0, 0)
theorem byte_ext {a b : UInt8} (h : a.toNat = b.toNat) : a = b := UInt8.toNat_inj.1 h
theorem ofNat_toNat_lt (n : Nat) (h : n < 256) : (UInt8.ofNat n).toNat = n := by simp; omega
theorem rvF_sound (f : Nat) : ∀ (first : Bool) (l : List UInt8) (n k : Nat), rvF f first l = some (n, k) → 0 < k ∧ k ≤ f ∧ k ≤ l.length ∧ l.take k = varL n ∧ n < 128 ^ f ∧ (first = false → n ≠ 0) := by
  induction f with
  | zero => intro first l n k h; simp [rvF] at h
  | succ f ih =>
    intro first l n k h
    cases l with
    | nil => simp [rvF] at h
    | cons x t =>
      rw [rvF] at h
      by_cases hx : x.toNat < 128
      · rw [if_pos hx] at h
        by_cases hz : x.toNat = 0 ∧ first = false
        · rw [if_pos hz] at h; cases h
        · rw [if_neg hz] at h
          injection h with h
          obtain ⟨rfl, rfl⟩ := Prod.mk.inj h
          have hp : 128 ≤ 128 ^ (f + 1) := by rw [Nat.pow_succ]; exact Nat.le_mul_of_pos_left _ (Nat.pow_pos (by omega))
          refine ⟨by omega, by omega, by simp, ?_, by omega, fun hf hn => hz ⟨hn, hf⟩⟩
          rw [varL_small hx]
          simp
      · rw [if_neg hx] at h
        obtain ⟨⟨n', k'⟩, hr, he⟩ := Option.map_eq_some_iff.1 h
        obtain ⟨rfl, rfl⟩ := Prod.mk.inj he
        obtain ⟨h1, h2, h3, h4, h5, h6⟩ := ih false t n' k' hr
        have hn' := h6 rfl
        have hb := x.toNat_lt
        simp only at *
        refine ⟨by omega, by omega, by simp only [List.length_cons]; omega, ?_, by rw [Nat.pow_succ]; omega, fun _ => by omega⟩
        rw [varL_big (by omega), List.take_succ_cons, h4]
        congr 1
        · apply byte_ext
          rw [ofNat_toNat_lt _ (by omega)]
          omega
        · congr 1
          omega
theorem rvF_complete (f : Nat) : ∀ (first : Bool) (n : Nat) (t : List UInt8), n < 128 ^ (f + 1) → (first = false → n ≠ 0) → rvF (f + 1) first (varL n ++ t) = some (n, (varL n).length) := by
  induction f with
  | zero =>
    intro first n t h h0
    have hn : n < 128 := by simpa using h
    rw [varL_small hn, List.singleton_append, rvF, ofNat_toNat_lt _ (by omega), if_pos hn, if_neg (fun hh => h0 hh.2 hh.1)]
    rfl
  | succ f ih =>
    intro first n t h h0
    by_cases hn : n < 128
    · rw [varL_small hn, List.singleton_append, rvF, ofNat_toNat_lt _ (by omega), if_pos hn, if_neg (fun hh => h0 hh.2 hh.1)]
      rfl
    · rw [varL_big hn, List.cons_append, rvF, ofNat_toNat_lt _ (by omega), if_neg (by omega)]
      rw [ih false (n / 128) t (by rw [Nat.div_lt_iff_lt_mul (by omega)]; rw [Nat.pow_succ] at h; exact h) (fun _ => by omega)]
      simp only [Option.map_some, List.length_cons]
      congr 2
      omega
theorem rv_sound {l : List UInt8} {n k : Nat} (h : rv l = some (n, k)) : 0 < k ∧ k ≤ 7 ∧ k ≤ l.length ∧ l.take k = varL n ∧ n ≤ 562949953421311 := by
  obtain ⟨h1, h2, h3, h4, h5, _⟩ := rvF_sound 7 true l n k h
  exact ⟨h1, h2, h3, h4, by omega⟩
theorem rv_complete {n : Nat} (t : List UInt8) (h : n ≤ 562949953421311) : rv (varL n ++ t) = some (n, (varL n).length) :=
  rvF_complete 6 true n t (by omega) (fun h => by cases h)
theorem rv_of_take {l : List UInt8} {n k : Nat} (hk : k ≤ l.length) (h : l.take k = varL n) (hn : n ≤ 562949953421311) : rv l = some (n, k) := by
  have e := rv_complete (l.drop k) hn
  rw [← h, List.take_append_drop, List.length_take] at e
  rw [e]
  congr 2
  omega
theorem rvP_none {l : List UInt8} (h : rv l = none) : rvP l = (0, 0) := by rw [rvP, h]; rfl
theorem rvP_some {l : List UInt8} {p : Nat × Nat} (h : rv l = some p) : rvP l = p := by rw [rvP, h]; rfl
/-- The number that a text's bytes tell. -/
def valL : List UInt8 → Nat
  | [] => 0
  | x :: t => x.toNat % 128 + 128 * valL t
theorem valL_lt (l : List UInt8) : valL l < 128 ^ l.length := by
  induction l with
  | nil => simp [valL]
  | cons x t ih => rw [valL, List.length_cons, Nat.pow_succ]; omega
theorem valL_varL (m : Nat) : ∀ n, n ≤ m → valL (varL n) = n := by
  induction m using Nat.strongRecOn with
  | ind m ih =>
  intro n hm
  by_cases h : n < 128
  · rw [varL_small h, valL, valL, ofNat_toNat_lt _ (by omega)]; omega
  · rw [varL_big h, valL, ih (n / 128) (by omega) _ (Nat.le_refl _), ofNat_toNat_lt _ (by omega)]; omega

def rvAdd (n i : Nat) : Option (Nat × Nat) → Int × Int
  | none => (0, 0)
  | some p => (((n + 128 ^ i * p.1 : Nat) : Int), ((i + p.2 : Nat) : Int))
theorem pow_2_7 (i : Nat) : ((2 : Int) ^ (7 * i)) = ((128 ^ i : Nat) : Int) := by
  rw [show (128 : Nat) = 2 ^ 7 from rfl, ← Nat.pow_mul]
  simp
theorem pow128_le {i : Nat} (h : i ≤ 6) : 128 ^ i ≤ 4398046511104 := Nat.pow_le_pow_right (n := 128) (by omega) h
theorem impl_ReadVar_l0 (l : List UInt8) (f : Nat) : ∀ (n i : Nat), f + i = 7 → n < 128 ^ i → Ev (fun k => impl_ReadVar.l0 k (mkS l) (n : Int) (i : Int)) (rvAdd n i (rvF f (decide (i = 0)) (l.drop i))) := by
  induction f with
  | zero =>
    intro n i hi hn
    refine evi (2) fun k hk => ?_
    obtain ⟨k, rfl⟩ : ∃ m, k = m + 2 := ⟨k - 2, by omega⟩
    simp only [impl_ReadVar.l0, impl_ReadVar.j1]
    rw [if_neg (by omega), if_neg (by decide)]
    rfl
  | succ f ih =>
    intro n i hi hn
    have hP := pow128_le (i := i) (by omega)
    by_cases hlt : i < l.length
    · have hx := (l[i]).toNat_lt
      have hd := List.drop_eq_getElem_cons hlt
      by_cases hx128 : (l[i]).toNat < 128
      · refine evi (2) fun k hk => ?_
        obtain ⟨k, rfl⟩ : ∃ m, k = m + 2 := ⟨k - 2, by omega⟩
        simp only [impl_ReadVar.l0, impl_ReadVar.j1]
        rw [if_pos (by omega), if_pos (by rw [mkS_size]; simpa using hlt), if_pos (by omega), if_pos (by rw [mkS_size]; simpa using hlt), if_pos (by rw [w64 (by omega) (by omega)]; omega), w64b, bt_mkS l i hlt, if_neg (by omega)]
        rw [tmodp (by omega), shl_i64 (n := 7 * i) (by rw [w64 (by omega) (by omega)]; simp) (by omega), pow_2_7, w64 (x := (i : Int) + 1) (by omega) (by omega)]
        have e : ((l[i].toNat : Int) % 128) = ((l[i].toNat : Nat) : Int) := by omega
        have hm : l[i].toNat * 128 ^ i ≤ 127 * 128 ^ i := Nat.mul_le_mul_right _ (by omega)
        have e2 : wrap64 ((n : Int) + wrap64 (((l[i].toNat : Int) % 128) * ((128 ^ i : Nat) : Int))) = ((n + 128 ^ i * l[i].toNat : Nat) : Int) := by
          rw [e, ← Int.natCast_mul, Nat.mul_comm (128 ^ i)]
          rw [w64 (x := ((l[i].toNat * 128 ^ i : Nat) : Int)) (by omega) (by omega), w64 (by omega) (by omega)]
          omega
        rw [e2, hd, rvF, if_pos hx128]
        by_cases hz : l[i].toNat = 0
        · rw [if_pos (by omega)]
          by_cases hi0 : i = 0
          · rw [if_neg (by omega), if_neg (by simp [hi0])]
            rfl
          · rw [if_pos (by omega), if_pos (by simp [hi0, hz])]
            rfl
        · rw [if_neg (by omega), if_neg (fun hh => hz hh.1)]
          rfl
      · have hm : (l[i].toNat % 128) * 128 ^ i ≤ 127 * 128 ^ i := Nat.mul_le_mul_right _ (by omega)
        obtain ⟨K, hK⟩ := evx (ih (n + 128 ^ i * (l[i].toNat % 128)) (i + 1) (by omega) (by rw [Nat.pow_succ, Nat.mul_comm (128 ^ i) (l[i].toNat % 128)]; omega))
        refine evi (K + 2) fun k hk => ?_
        obtain ⟨k, rfl⟩ : ∃ m, k = m + 2 := ⟨k - 2, by omega⟩
        simp only [impl_ReadVar.l0, impl_ReadVar.j1]
        rw [if_pos (by omega), if_pos (by rw [mkS_size]; simpa using hlt), if_pos (by omega), if_pos (by rw [mkS_size]; simpa using hlt), if_pos (by rw [w64 (by omega) (by omega)]; omega), w64b, bt_mkS l i hlt, if_pos (by omega)]
        rw [tmodp (by omega), shl_i64 (n := 7 * i) (by rw [w64 (by omega) (by omega)]; simp) (by omega), pow_2_7, w64 (x := (i : Int) + 1) (by omega) (by omega)]
        have e2 : wrap64 ((n : Int) + wrap64 (((l[i].toNat : Int) % 128) * ((128 ^ i : Nat) : Int))) = ((n + 128 ^ i * (l[i].toNat % 128) : Nat) : Int) := by
          rw [show ((l[i].toNat : Int) % 128) = ((l[i].toNat % 128 : Nat) : Int) from by omega, ← Int.natCast_mul, Nat.mul_comm (128 ^ i)]
          rw [w64 (x := ((l[i].toNat % 128 * 128 ^ i : Nat) : Int)) (by omega) (by omega), w64 (by omega) (by omega)]
          omega
        rw [e2, show ((i : Int) + 1) = ((i + 1 : Nat) : Int) from by omega, hK k (by omega), hd, rvF, if_neg hx128]
        have hdec : decide (i + 1 = 0) = false := by simp
        rw [hdec]
        cases rvF f false (l.drop (i + 1)) with
        | none => rfl
        | some p =>
          simp only [Option.map_some, rvAdd]
          congr 2
          · rw [Nat.pow_succ, Nat.mul_add, Nat.mul_assoc, Nat.add_assoc]
          · omega
    · refine evi (2) fun k hk => ?_
      obtain ⟨k, rfl⟩ : ∃ m, k = m + 2 := ⟨k - 2, by omega⟩
      simp only [impl_ReadVar.l0, impl_ReadVar.j1]
      rw [if_pos (by omega), if_neg (by rw [mkS_size]; simpa using hlt), List.drop_of_length_le (by omega)]
      rfl
/-- A number and how many bytes it has, as Go's two results. -/
def rvI (l : List UInt8) : Int × Int := (((rvP l).1 : Int), ((rvP l).2 : Int))
theorem rvAdd_rvI (l : List UInt8) : rvAdd 0 0 (rv l) = rvI l := by
  unfold rvI rvP
  cases rv l with
  | none => rfl
  | some p => simp [rvAdd]
theorem impl_ReadVar_ev (l : List UInt8) : Ev (fun k => impl_ReadVar.f k (mkS l)) (rvI l) := by
  have h := impl_ReadVar_l0 l 7 0 0 rfl (by simp)
  rw [List.drop_zero] at h
  rw [← rvAdd_rvI]
  exact h

theorem spec_ReadVar_l1 (l : List UInt8) (j : Nat) (hj : j ≤ l.length) (hj7 : j ≤ 7) (r : Int × Int) (hr : Ev (fun k => spec_ReadVar.l1 k (mkS l) (j : Int) ((valL (l.take j) : Nat) : Int) (-1)) r) :
    ∀ m, m ≤ j → Ev (fun k => spec_ReadVar.l1 k (mkS l) (j : Int) ((valL ((l.take j).drop m) : Nat) : Int) ((m : Int) - 1)) r := by
  intro m
  induction m with
  | zero => intro _; simpa using hr
  | succ m ih =>
    intro hm
    obtain ⟨K, hK⟩ := evx (ih (by omega))
    refine evi (K + 1) fun k hk => ?_
    obtain ⟨k, rfl⟩ : ∃ m, k = m + 1 := ⟨k - 1, by omega⟩
    have hlt : m < l.length := by omega
    have hd : (l.take j).drop m = l[m] :: (l.take j).drop (m + 1) := by
      rw [List.drop_eq_getElem_cons (by rw [List.length_take]; omega)]
      congr 1
      simp
    have hv := valL_lt ((l.take j).drop (m + 1))
    have hp : 128 ^ ((l.take j).drop (m + 1)).length ≤ 128 ^ 6 := Nat.pow_le_pow_right (by omega) (by rw [List.length_drop, List.length_take]; omega)
    have hx := (l[m]).toNat_lt
    simp only [spec_ReadVar.l1]
    rw [show (((m + 1 : Nat) : Int) - 1) = (m : Int) from by omega]
    rw [if_pos (by omega), if_pos (by omega), if_pos (by rw [mkS_size]; omega), w64b, bt_mkS l m hlt, tmodp (by omega), w64 (x := (m : Int) - 1) (by omega) (by omega)]
    rw [w64 (x := ((valL ((l.take j).drop (m + 1)) : Nat) : Int) * 128) (by omega) (by omega), w64 (by omega) (by omega)]
    have := hK k (by omega)
    rw [hd, valL] at this
    rw [← this]
    congr 1
    omega
theorem spec_ReadVar_l0 (l : List UInt8) (hl : l.length ≤ 9000000000000000000) (f : Nat) : ∀ (j : Nat), f + j = 8 → 1 ≤ j → (∀ i, 1 ≤ i → i < j → i ≤ l.length → varL (valL (l.take i)) ≠ l.take i) → Ev (fun k => spec_ReadVar.l0 k (mkS l) (j : Int)) (rvI l) := by
  have stop : ∀ j, (∀ i, 1 ≤ i → i < j → i ≤ l.length → varL (valL (l.take i)) ≠ l.take i) → (j = 8 ∨ l.length < j) → rvI l = (0, 0) := by
    intro j hno hj
    unfold rvI
    cases hr : rv l with
    | none => rw [rvP_none hr]; rfl
    | some p =>
      obtain ⟨n, k⟩ := p
      obtain ⟨h1, h2, h3, h4, h5⟩ := rv_sound hr
      refine absurd ?_ (hno k h1 (by omega) h3)
      rw [h4, valL_varL n n (Nat.le_refl _)]
  induction f with
  | zero =>
    intro j hf h1 hno
    rw [stop j hno (.inl (by omega))]
    refine evi (2) fun k hk => ?_
    obtain ⟨k, rfl⟩ : ∃ m, k = m + 2 := ⟨k - 2, by omega⟩
    simp only [spec_ReadVar.l0, spec_ReadVar.j1]
    rw [if_neg (by omega), if_neg (by decide)]
  | succ f ih =>
    intro j hf h1 hno
    by_cases hj : j ≤ l.length
    · have hv := valL_lt (l.take j)
      rw [List.length_take, Nat.min_eq_left hj] at hv
      have hp : 128 ^ j ≤ 128 ^ 7 := Nat.pow_le_pow_right (by omega) (by omega)
      have hend : Ev (fun k => spec_ReadVar.l1 k (mkS l) (j : Int) ((valL (l.take j) : Nat) : Int) (-1)) (rvI l) := by
        obtain ⟨K1, hK1⟩ := evx (spec_Var_ev ((valL (l.take j) : Nat) : Int))
        by_cases heq : varL (valL (l.take j)) = l.take j
        · refine evi (K1 + 1) fun k hk => ?_
          obtain ⟨k, rfl⟩ : ∃ m, k = m + 1 := ⟨k - 1, by omega⟩
          simp only [spec_ReadVar.l1]
          rw [if_neg (by omega), hK1 k (by omega)]
          simp only [Option.bind_some]
          rw [if_pos (by omega), if_pos (by rw [mkS_size]; omega), varS_nat (by omega), mkS_extract, Int.toNat_natCast, List.drop_zero, Nat.sub_zero, mkS_toList, mkS_toList, if_pos heq]
          rw [rvI, rvP_some (rv_of_take hj heq.symm (by omega))]
        · obtain ⟨K2, hK2⟩ := evx <| ih (j + 1) (by omega) (by omega) (fun i h1 h2 h3 => by
            by_cases hij : i = j
            · subst hij; exact heq
            · exact hno i h1 (by omega) h3)
          refine evi (K1 + K2 + 1) fun k hk => ?_
          obtain ⟨k, rfl⟩ : ∃ m, k = m + 1 := ⟨k - 1, by omega⟩
          simp only [spec_ReadVar.l1]
          rw [if_neg (by omega), hK1 k (by omega)]
          simp only [Option.bind_some]
          rw [if_pos (by omega), if_pos (by rw [mkS_size]; omega), varS_nat (by omega), mkS_extract, Int.toNat_natCast, List.drop_zero, Nat.sub_zero, mkS_toList, mkS_toList, if_neg heq, w64 (by omega) (by omega)]
          have := hK2 k (by omega)
          rw [show ((j + 1 : Nat) : Int) = (j : Int) + 1 from by omega] at this
          exact this
      obtain ⟨K, hK⟩ := evx (spec_ReadVar_l1 l j hj (by omega) _ hend j (Nat.le_refl _))
      refine evi (K + 2) fun k hk => ?_
      obtain ⟨k, rfl⟩ : ∃ m, k = m + 2 := ⟨k - 2, by omega⟩
      simp only [spec_ReadVar.l0, spec_ReadVar.j1]
      rw [if_pos (by omega), if_pos (by rw [mkS_size]; simpa using hj), w64 (by omega) (by omega)]
      have := hK k (by omega)
      rw [List.drop_of_length_le (by rw [List.length_take]; omega)] at this
      exact this
    · rw [stop j hno (.inr (by omega))]
      refine evi (2) fun k hk => ?_
      obtain ⟨k, rfl⟩ : ∃ m, k = m + 2 := ⟨k - 2, by omega⟩
      simp only [spec_ReadVar.l0, spec_ReadVar.j1]
      rw [if_pos (by omega), if_neg (by rw [mkS_size]; simpa using hj)]
theorem spec_ReadVar_ev (l : List UInt8) (hl : l.length ≤ 9000000000000000000) : Ev (fun k => spec_ReadVar.f k (mkS l)) (rvI l) :=
  spec_ReadVar_l0 l hl 7 1 rfl (Nat.le_refl _) (fun i h1 h2 _ => by omega)

/-- A number in so many bytes, and whether it is there. -/
def rfI (l : List UInt8) (w : Int) : Int × Bool := if (1 ≤ w ∧ w ≤ 7) ∧ w ≤ l.length then (((beL (l.take w.toNat) : Nat) : Int), true) else (0, false)
theorem or_join (n b : Nat) (hn : n < 256 ^ 6) (hb : b < 256) : Go.bits .or .i64 (wrap64 ((n : Int) * 256)) (b : Int) = ((n * 256 + b : Nat) : Int) := by
  rw [w64 (by omega) (by omega)]
  rw [bits_join .i64 63 (by decide) (fun m h0 h1 => by rw [IntKind.wrap_i64]; omega) 8 ((n : Int) * 256) (b : Int) (by omega) (by omega) (by omega) (by omega) (by omega) (by omega)]
  omega
theorem impl_ReadFixed_l0 (l : List UInt8) (w : Nat) (hw : w ≤ 7) (hl : w ≤ l.length) (d : Nat) : ∀ (i : Nat), d + i = w → Ev (fun k => impl_ReadFixed.l0 k (mkS l) ((beL (l.take i) : Nat) : Int) (w : Int) (i : Int)) (((beL (l.take w) : Nat) : Int), true) := by
  induction d with
  | zero =>
    intro i hi
    obtain rfl : i = w := by omega
    refine evi (1) fun k hk => ?_
    obtain ⟨k, rfl⟩ : ∃ m, k = m + 1 := ⟨k - 1, by omega⟩
    simp only [impl_ReadFixed.l0]
    rw [if_neg (by omega)]
  | succ d ih =>
    intro i hi
    obtain ⟨K, hK⟩ := evx (ih (i + 1) (by omega))
    refine evi (K + 1) fun k hk => ?_
    obtain ⟨k, rfl⟩ : ∃ m, k = m + 1 := ⟨k - 1, by omega⟩
    have hlt : i < l.length := by omega
    have hv := beL_lt (l.take i)
    have hp : 256 ^ (l.take i).length ≤ 256 ^ 6 := Nat.pow_le_pow_right (by omega) (by rw [List.length_take]; omega)
    simp only [impl_ReadFixed.l0]
    rw [if_pos (by omega), if_pos (by omega), if_pos (by rw [mkS_size]; omega), w64b, bt_mkS l i hlt, or_join _ _ (by omega) (l[i]).toNat_lt, w64 (by omega) (by omega)]
    have := hK k (by omega)
    rw [List.take_succ_eq_append_getElem hlt, beL_snoc] at this
    exact this
theorem impl_ReadFixed_ev (l : List UInt8) (w : Int) : Ev (fun k => impl_ReadFixed.f k (mkS l) w) (rfI l w) := by
  by_cases hw : 1 ≤ w ∧ w ≤ 7
  · by_cases hl : w ≤ l.length
    · obtain ⟨m, rfl⟩ := Int.eq_ofNat_of_zero_le (show 0 ≤ w by omega)
      obtain ⟨K, hK⟩ := evx (impl_ReadFixed_l0 l m (by omega) (by omega) m 0 (by omega))
      refine evi (K + 1) fun k hk => ?_
      obtain ⟨k, rfl⟩ : ∃ m, k = m + 1 := ⟨k - 1, by omega⟩
      unfold impl_ReadFixed.f
      rw [impl_in_f]
      simp only [Option.bind_some, impl_ReadFixed.j0]
      rw [if_pos (by simpa using hw), if_neg (by rw [mkS_size]; simp; omega), rfI, if_pos ⟨hw, hl⟩, Int.toNat_natCast]
      exact hK k (by omega)
    · refine evi (1) fun k hk => ?_
      obtain ⟨k, rfl⟩ : ∃ m, k = m + 1 := ⟨k - 1, by omega⟩
      unfold impl_ReadFixed.f
      rw [impl_in_f]
      simp only [Option.bind_some, impl_ReadFixed.j0]
      rw [if_pos (by simpa using hw), if_pos (by rw [mkS_size]; simp; omega), rfI, if_neg (fun h => hl h.2)]
  · refine evi (1) fun k hk => ?_
    obtain ⟨k, rfl⟩ : ∃ m, k = m + 1 := ⟨k - 1, by omega⟩
    unfold impl_ReadFixed.f
    rw [impl_in_f]
    simp only [Option.bind_some, impl_ReadFixed.j0]
    rw [if_neg (by simpa using hw), if_pos trivial, rfI, if_neg (fun h => hw h.1)]

theorem spec_ReadFixed_l0 (l : List UInt8) (w : Nat) (hw : w ≤ 7) (hl : w ≤ l.length) (d : Nat) : ∀ (i : Nat), d + i = w → Ev (fun k => spec_ReadFixed.l0 k (mkS l) (w : Int) ((beL (l.take i) : Nat) : Int) (i : Int)) (((beL (l.take w) : Nat) : Int), true) := by
  induction d with
  | zero =>
    intro i hi
    obtain rfl : i = w := by omega
    refine evi (1) fun k hk => ?_
    obtain ⟨k, rfl⟩ : ∃ m, k = m + 1 := ⟨k - 1, by omega⟩
    simp only [spec_ReadFixed.l0]
    rw [if_neg (by omega)]
  | succ d ih =>
    intro i hi
    obtain ⟨K, hK⟩ := evx (ih (i + 1) (by omega))
    refine evi (K + 1) fun k hk => ?_
    obtain ⟨k, rfl⟩ : ∃ m, k = m + 1 := ⟨k - 1, by omega⟩
    have hlt : i < l.length := by omega
    have hv := beL_lt (l.take i)
    have hb := (l[i]).toNat_lt
    have hp : 256 ^ (l.take i).length ≤ 256 ^ 6 := Nat.pow_le_pow_right (by omega) (by rw [List.length_take]; omega)
    simp only [spec_ReadFixed.l0]
    rw [if_pos (by omega), if_pos (by omega), if_pos (by rw [mkS_size]; omega), w64b, bt_mkS l i hlt, w64 (x := ((beL (l.take i) : Nat) : Int) * 256) (by omega) (by omega), w64 (by omega) (by omega), w64 (by omega) (by omega)]
    have := hK k (by omega)
    rw [List.take_succ_eq_append_getElem hlt, beL_snoc] at this
    rw [← this]
    congr 1
theorem spec_ReadFixed_ev (l : List UInt8) (w : Int) : Ev (fun k => spec_ReadFixed.f k (mkS l) w) (rfI l w) := by
  by_cases hw : 1 ≤ w ∧ w ≤ 7
  · by_cases hl : w ≤ l.length
    · obtain ⟨m, rfl⟩ := Int.eq_ofNat_of_zero_le (show 0 ≤ w by omega)
      obtain ⟨K, hK⟩ := evx (spec_ReadFixed_l0 l m (by omega) (by omega) m 0 (by omega))
      refine evi (K + 1) fun k hk => ?_
      obtain ⟨k, rfl⟩ : ∃ m, k = m + 1 := ⟨k - 1, by omega⟩
      unfold spec_ReadFixed.f
      rw [spec_l1In_f]
      simp only [Option.bind_some, spec_ReadFixed.j0]
      rw [if_pos (by simpa using hw), if_neg (by rw [mkS_size]; simp; omega), rfI, if_pos ⟨hw, hl⟩, Int.toNat_natCast]
      exact hK k (by omega)
    · refine evi (1) fun k hk => ?_
      obtain ⟨k, rfl⟩ : ∃ m, k = m + 1 := ⟨k - 1, by omega⟩
      unfold spec_ReadFixed.f
      rw [spec_l1In_f]
      simp only [Option.bind_some, spec_ReadFixed.j0]
      rw [if_pos (by simpa using hw), if_pos (by rw [mkS_size]; simp; omega), rfI, if_neg (fun h => hl h.2)]
  · refine evi (1) fun k hk => ?_
    obtain ⟨k, rfl⟩ : ∃ m, k = m + 1 := ⟨k - 1, by omega⟩
    unfold spec_ReadFixed.f
    rw [spec_l1In_f]
    simp only [Option.bind_some, spec_ReadFixed.j0]
    rw [if_neg (by simpa using hw), if_pos trivial, rfI, if_neg (fun h => hw h.1)]

def varB (n : Int) : List UInt8 := if 0 ≤ n ∧ n ≤ 562949953421311 then varL n.toNat else []
theorem varS_B (n : Int) : varS n = mkS (varB n) := by unfold varS varB; split <;> rfl
theorem varB_length (n : Int) : (varB n).length ≤ 7 := by
  unfold varB
  split
  · exact varL_len7 (by omega)
  · simp
theorem varB_nat {n : Nat} (h : n ≤ 562949953421311) : varB (n : Int) = varL n := by unfold varB; rw [if_pos ⟨by omega, by omega⟩, Int.toNat_natCast]
def varsL (l : List Int) : List UInt8 := l.flatMap varB
theorem varsL_cons (a : Int) (t : List Int) : varsL (a :: t) = varB a ++ varsL t := by simp [varsL]
theorem varsL_length (l : List Int) : (varsL l).length ≤ 7 * l.length := by
  induction l with
  | nil => simp [varsL]
  | cons a t ih =>
    have := varB_length a
    have e : varsL (a :: t) = varB a ++ varsL t := by simp [varsL]
    rw [e, List.length_append, List.length_cons]
    omega
theorem impl_vars_l0 (l : List Int) (hl : l.length ≤ 1099511627776) (d : Nat) : ∀ (i : Nat) (acc : List UInt8), d + i = l.length → acc.length + 7 * d ≤ 100000000000000 → Ev (fun k => impl_vars.l0 k (mkS acc) l (l.length : Int) (i : Int)) (mkS (acc ++ varsL (l.drop i))) := by
  induction d with
  | zero =>
    intro i acc hi ha
    refine evi (1) fun k hk => ?_
    obtain ⟨k, rfl⟩ : ∃ m, k = m + 1 := ⟨k - 1, by omega⟩
    simp only [impl_vars.l0]
    rw [if_neg (by omega), List.drop_of_length_le (by omega)]
    simp [varsL]
  | succ d ih =>
    intro i acc hi ha
    have hlt : i < l.length := by omega
    have hrd : rd l (i : Int) = l[i] := by simp [rd, hlt]
    have hb := varB_length l[i]
    obtain ⟨K1, h1⟩ := evx (impl_Var_ev l[i])
    obtain ⟨K, hK⟩ := evx (ih (i + 1) (acc ++ varB l[i]) (by omega) (by rw [List.length_append]; omega))
    refine evi (K + K1 + 1) fun k hk => ?_
    obtain ⟨k, rfl⟩ : ∃ m, k = m + 1 := ⟨k - 1, by omega⟩
    have hgo := hK k (by omega)
    simp only [impl_vars.l0]
    rw [if_pos (by omega), if_pos (by omega), if_pos (by omega), hrd, h1 k (by omega), varS_B]
    simp only [Option.bind_some]
    rw [if_pos (by rw [mkS_size, mkS_size]; omega), mkS_append, w64 (by omega) (by omega), show ((i : Int) + 1) = ((i + 1 : Nat) : Int) from by omega, hgo, List.drop_eq_getElem_cons hlt, varsL_cons, List.append_assoc]
theorem impl_vars_ev (l : List Int) (hl : l.length ≤ 1048576) : Ev (fun k => impl_vars.f k l) (mkS (varsL l)) := by
  have := impl_vars_l0 l (by omega) l.length 0 [] rfl (by simp only [List.length_nil]; omega)
  exact this

theorem impl_textOf_ev (l : List UInt8) (hl : l.length ≤ 562949953421311) : Ev (fun k => impl_textOf.f k (mkS l)) (mkS (textL l)) := by
  obtain ⟨K, hK⟩ := evx (impl_Var_ev (l.length : Int))
  have h7 := varL_len7 hl
  refine evi (K) fun k hk => ?_
  unfold impl_textOf.f
  rw [mkS_size, hK k hk, varS_nat hl]
  simp only [Option.bind_some]
  rw [if_pos (by rw [mkS_size]; omega), mkS_append]
  rfl

/-- A record is right: its kind, batch, key, value, count and sum. -/
def recOk (kind batch : Int) (key value : List UInt8) (count sum : Int) : Bool :=
  decide (0 ≤ batch ∧ batch ≤ 1000000) && (decide (batch ≠ 0) || decide (kind = 5)) &&
  (if kind = 1 ∨ kind = 4 then keyOkB key && decide (value.length ≤ 24) && decide (count = 0) && decide (sum = 0)
   else if kind = 2 then keyOkB key && decide (value = []) && decide (count = 0) && decide (sum = 0)
   else if kind = 3 then decide (key = []) && decide (value = []) && decide (0 ≤ count ∧ count ≤ 8) && decide (0 ≤ sum ∧ sum ≤ 4294967295)
   else if kind = 5 then decide (key = []) && decide (value = []) && decide (0 ≤ count ∧ count ≤ 20) && decide (0 ≤ sum ∧ sum ≤ 4294967295)
   else false)

theorem impl_RecOk_f (kind batch count sum : Int) (key value : List UInt8) (k : Nat) (hk : 0 < k) : impl_RecOk.f k kind batch (mkS key) (mkS value) count sum = some (recOk kind batch key value count sum) := by
  obtain ⟨k, rfl⟩ : ∃ m, k = m + 1 := ⟨k - 1, by omega⟩
  unfold impl_RecOk.f
  simp only [impl_RecOk.j0, impl_KeyOk_f, impl_in_f, Option.bind_some, mkS_size, mkS_toList, mkS_nil, beq_iff_eq, decide_eq_true_eq, Bool.false_eq_true, if_false]
  unfold recOk
  generalize keyOkB key = kb
  have hv : value = [] ↔ value.length = 0 := by simp
  have hke : key = [] ↔ key.length = 0 := by simp
  clear hk
  by_cases h1 : kind = 1
  · subst h1; cases kb <;> simp <;> (repeat' split) <;> simp_all <;> (try rw [Bool.eq_iff_iff]) <;> (try simp) <;> (try omega) <;> (try (constructor <;> (intro hh; simp_all <;> omega)))
  · by_cases h4 : kind = 4
    · subst h4; cases kb <;> simp <;> (repeat' split) <;> simp_all <;> (try rw [Bool.eq_iff_iff]) <;> (try simp) <;> (try omega) <;> (try (constructor <;> (intro hh; simp_all <;> omega)))
    · by_cases h2 : kind = 2
      · subst h2; cases kb <;> simp <;> (repeat' split) <;> simp_all <;> (try rw [Bool.eq_iff_iff]) <;> (try simp) <;> (try omega) <;> (try (constructor <;> (intro hh; simp_all <;> omega)))
      · by_cases h3 : kind = 3
        · subst h3; simp <;> (repeat' split) <;> simp_all <;> (try rw [Bool.eq_iff_iff]) <;> (try simp) <;> (try omega) <;> (try (constructor <;> (intro hh; simp_all <;> omega)))
        · by_cases h5 : kind = 5
          · subst h5; simp <;> (repeat' split) <;> simp_all <;> (try rw [Bool.eq_iff_iff]) <;> (try simp) <;> (try omega) <;> (try (constructor <;> (intro hh; simp_all <;> omega)))
          · simp [h1, h2, h3, h4, h5]

theorem spec_RecOk_f (kind batch count sum : Int) (key value : List UInt8) (k : Nat) (hk : 1 < k) : spec_RecOk.f k kind batch (mkS key) (mkS value) count sum = some (recOk kind batch key value count sum) := by
  obtain ⟨k, rfl⟩ : ∃ m, k = m + 2 := ⟨k - 2, by omega⟩
  unfold spec_RecOk.f
  simp only [spec_RecOk.j0, spec_RecOk.j1, spec_KeyOk_f, spec_l1In_f, Option.bind_some, mkS_size, mkS_toList, mkS_nil, beq_iff_eq, bne_iff_ne, decide_eq_true_eq, Bool.false_eq_true, if_false, if_true]
  unfold recOk
  generalize keyOkB key = kb
  have hv : value = [] ↔ value.length = 0 := by simp
  have hke : key = [] ↔ key.length = 0 := by simp
  clear hk
  by_cases h1 : kind = 1
  · subst h1; cases kb <;> simp <;> (repeat' split) <;> simp_all <;> (try rw [Bool.eq_iff_iff]) <;> (try simp) <;> (try omega) <;> (try (constructor <;> (intro hh; simp_all <;> omega)))
  · by_cases h4 : kind = 4
    · subst h4; cases kb <;> simp <;> (repeat' split) <;> simp_all <;> (try rw [Bool.eq_iff_iff]) <;> (try simp) <;> (try omega) <;> (try (constructor <;> (intro hh; simp_all <;> omega)))
    · by_cases h2 : kind = 2
      · subst h2; cases kb <;> simp <;> (repeat' split) <;> simp_all <;> (try rw [Bool.eq_iff_iff]) <;> (try simp) <;> (try omega) <;> (try (constructor <;> (intro hh; simp_all <;> omega)))
      · by_cases h3 : kind = 3
        · subst h3; simp <;> (repeat' split) <;> simp_all <;> (try rw [Bool.eq_iff_iff]) <;> (try simp) <;> (try omega) <;> (try (constructor <;> (intro hh; simp_all <;> omega)))
        · by_cases h5 : kind = 5
          · subst h5; simp <;> (repeat' split) <;> simp_all <;> (try rw [Bool.eq_iff_iff]) <;> (try simp) <;> (try omega) <;> (try (constructor <;> (intro hh; simp_all <;> omega)))
          · simp [h1, h2, h3, h4, h5]

def showRec (kind batch : Int) (key value : List UInt8) (count sum : Int) : List UInt8 :=
  if recOk kind batch key value count sum = true then
    (varB kind ++ varB batch) ++ (if kind = 1 ∨ kind = 4 then textL key ++ textL value else if kind = 2 then textL key else varB count ++ fixL 4 sum.toNat)
  else []
theorem recOk_key {kind batch : Int} {key value : List UInt8} {count sum : Int} (h : recOk kind batch key value count sum = true) : key.length ≤ 8 ∧ value.length ≤ 24 ∧ (¬ (kind = 1 ∨ kind = 4) → ¬ kind = 2 → 0 ≤ sum ∧ sum ≤ 4294967295) := by
  unfold recOk keyOkB at h
  simp only [Bool.and_eq_true] at h
  obtain ⟨_, h⟩ := h
  split at h
  · simp only [Bool.and_eq_true, decide_eq_true_eq] at h
    exact ⟨by omega, by omega, fun hh => absurd ‹_› hh⟩
  · split at h
    · simp only [Bool.and_eq_true, decide_eq_true_eq] at h
      refine ⟨by omega, by rw [h.1.1.2]; simp, fun _ hh => absurd ‹_› hh⟩
    · split at h
      · simp only [Bool.and_eq_true, decide_eq_true_eq] at h
        exact ⟨by rw [h.1.1.1]; simp, by rw [h.1.1.2]; simp, fun _ _ => h.2⟩
      · split at h
        · simp only [Bool.and_eq_true, decide_eq_true_eq] at h
          exact ⟨by rw [h.1.1.1]; simp, by rw [h.1.1.2]; simp, fun _ _ => h.2⟩
        · cases h
theorem fixS_sum {s : Int} (h0 : 0 ≤ s) (h1 : s ≤ 4294967295) : fixS s 4 = mkS (fixL 4 s.toNat) := by
  unfold fixS
  have e : (256 : Int) ^ (4 : Int).toNat = 4294967296 := by decide
  rw [if_pos ⟨by omega, by omega, by rw [e]; omega⟩]
  rfl
theorem impl_ShowRec_ev (kind batch count sum : Int) (key value : List UInt8) : Ev (fun k => impl_ShowRec.f k kind batch (mkS key) (mkS value) count sum) (mkS (showRec kind batch key value count sum)) := by
  unfold showRec
  by_cases hr : recOk kind batch key value count sum = true
  · obtain ⟨hk8, hv24, hsum⟩ := recOk_key hr
    obtain ⟨K1, h1⟩ := evx (impl_vars_ev [kind, batch] (by simp))
    obtain ⟨K2, h2⟩ := evx (impl_textOf_ev key (by omega))
    obtain ⟨K3, h3⟩ := evx (impl_textOf_ev value (by omega))
    obtain ⟨K4, h4⟩ := evx (impl_Var_ev count)
    obtain ⟨K5, h5⟩ := evx (impl_Fixed_ev sum 4)
    have l1 := varsL_length [kind, batch]
    have l2 := textL_length key (by omega)
    have l3 := textL_length value (by omega)
    have l4 := varB_length count
    have ev : varsL [kind, batch] = varB kind ++ varB batch := by simp [varsL]
    simp only [List.length_cons, List.length_nil] at l1
    refine evi (K1 + K2 + K3 + K4 + K5 + 2) fun k hk => ?_
    obtain ⟨k, rfl⟩ : ∃ m, k = m + 1 := ⟨k - 1, by omega⟩
    unfold impl_ShowRec.f
    rw [impl_RecOk_f _ _ _ _ _ _ _ (by omega), hr, h1 _ (by omega)]
    simp only [Option.bind_some, if_true, impl_ShowRec.j0, beq_iff_eq]
    rw [h2 _ (by omega), h3 _ (by omega), h4 _ (by omega), h5 _ (by omega), varS_B]
    simp only [Option.bind_some]
    have g1 : (mkS (varsL [kind, batch])).size + (mkS (textL key)).size ≤ 9223372036854775807 := by rw [mkS_size, mkS_size]; omega
    have g2 : (mkS (varsL [kind, batch] ++ textL key)).size + (mkS (textL value)).size ≤ 9223372036854775807 := by rw [mkS_size, mkS_size, List.length_append]; omega
    have g3 : (mkS (varsL [kind, batch])).size + (mkS (varB count)).size ≤ 9223372036854775807 := by rw [mkS_size, mkS_size]; omega
    have g4 : (mkS (varsL [kind, batch] ++ varB count)).size + (mkS (fixL 4 sum.toNat)).size ≤ 9223372036854775807 := by rw [mkS_size, mkS_size, List.length_append, fixL_length]; omega
    rw [← ev]
    by_cases c1 : kind = 1
    · simp only [c1] at *
      simp [g1, g2, mkS_append]
    · by_cases c4 : kind = 4
      · simp only [c4] at *
        simp [g1, g2, mkS_append]
      · by_cases c2 : kind = 2
        · simp only [c2] at *
          simp [g1, g2, mkS_append]
        · obtain ⟨s0, s1⟩ := hsum (by omega) c2
          rw [fixS_sum s0 s1]
          simp [c1, c2, c4, g3, g4, mkS_append]
  · have hf : recOk kind batch key value count sum = false := by simpa using hr
    refine evi (1) fun k hk => ?_
    unfold impl_ShowRec.f
    rw [impl_RecOk_f _ _ _ _ _ _ _ (by omega), hf]
    rfl

theorem spec_ShowRec_ev (kind batch count sum : Int) (key value : List UInt8) : Ev (fun k => spec_ShowRec.f k kind batch (mkS key) (mkS value) count sum) (mkS (showRec kind batch key value count sum)) := by
  unfold showRec
  by_cases hr : recOk kind batch key value count sum = true
  · obtain ⟨hk8, hv24, hsum⟩ := recOk_key hr
    obtain ⟨K1, h1⟩ := evx (spec_Var_ev kind)
    obtain ⟨K6, h6⟩ := evx (spec_Var_ev batch)
    obtain ⟨K2, h2⟩ := evx (spec_Var_ev (key.length : Int))
    obtain ⟨K3, h3⟩ := evx (spec_Var_ev (value.length : Int))
    obtain ⟨K4, h4⟩ := evx (spec_Var_ev count)
    have l1 := varB_length kind
    have l6 := varB_length batch
    have l2 := varL_len7 (n := key.length) (by omega)
    have l3 := varL_len7 (n := value.length) (by omega)
    have l4 := varB_length count
    by_cases c3 : kind = 1 ∨ kind = 4 ∨ kind = 2
    · refine evi (K1 + K2 + K3 + K4 + K6 + 3) fun k hk => ?_
      obtain ⟨k, rfl⟩ : ∃ m, k = m + 1 := ⟨k - 1, by omega⟩
      unfold spec_ShowRec.f
      have q2 := h2 k (by omega)
      have q3 := h3 k (by omega)
      rw [varS_nat (by omega)] at q2 q3
      rw [spec_RecOk_f _ _ _ _ _ _ _ (by omega), hr, h1 _ (by omega), h6 _ (by omega), varS_B, varS_B]
      have g0 : (varB kind).length + (varB batch).length ≤ 9223372036854775807 := by omega
      have g1 : (varB kind ++ varB batch).length + (varL key.length).length ≤ 9223372036854775807 := by rw [List.length_append]; omega
      have g2 : ((varB kind ++ varB batch) ++ varL key.length).length + key.length ≤ 9223372036854775807 := by rw [List.length_append, List.length_append]; omega
      have g3 : (((varB kind ++ varB batch) ++ varL key.length) ++ key).length + (varL value.length).length ≤ 9223372036854775807 := by rw [List.length_append, List.length_append, List.length_append]; omega
      have g4 : ((((varB kind ++ varB batch) ++ varL key.length) ++ key) ++ varL value.length).length + value.length ≤ 9223372036854775807 := by rw [List.length_append, List.length_append, List.length_append, List.length_append]; omega
      simp only [Option.bind_some, if_true, spec_ShowRec.j0, beq_iff_eq, mkS_size, mkS_append, q2, q3, if_pos g0, if_pos g1, if_pos g2, if_pos g3, if_pos g4]
      rcases c3 with c | c | c <;> subst c <;> simp [textL]
    · have c1 : ¬ kind = 1 := fun h => c3 (.inl h)
      have c4 : ¬ kind = 4 := fun h => c3 (.inr (.inl h))
      have c2 : ¬ kind = 2 := fun h => c3 (.inr (.inr h))
      obtain ⟨s0, s1⟩ := hsum (by omega) c2
      obtain ⟨K5, h5⟩ := evx (spec_Fixed_ev sum 4 (by omega))
      refine evi (K1 + K2 + K3 + K4 + K5 + K6 + 3) fun k hk => ?_
      obtain ⟨k, rfl⟩ : ∃ m, k = m + 1 := ⟨k - 1, by omega⟩
      unfold spec_ShowRec.f
      have q4 := h4 k (by omega)
      have q5 := h5 k (by omega)
      rw [varS_B] at q4
      rw [fixS_sum s0 s1] at q5
      rw [spec_RecOk_f _ _ _ _ _ _ _ (by omega), hr, h1 _ (by omega), h6 _ (by omega), varS_B, varS_B]
      have g0 : (varB kind).length + (varB batch).length ≤ 9223372036854775807 := by omega
      have g1 : (varB kind ++ varB batch).length + (varB count).length ≤ 9223372036854775807 := by rw [List.length_append]; omega
      have g2 : ((varB kind ++ varB batch) ++ varB count).length + (fixL 4 sum.toNat).length ≤ 9223372036854775807 := by rw [List.length_append, List.length_append, fixL_length]; omega
      simp only [Option.bind_some, if_true, spec_ShowRec.j0, beq_iff_eq, mkS_size, mkS_append, if_neg c1, if_neg c4, if_neg c2, q4, q5, if_pos g0, if_pos g1, if_pos g2]
      simp [c1, c2, c4]
  · have hf : recOk kind batch key value count sum = false := by simpa using hr
    refine evi (2) fun k hk => ?_
    unfold spec_ShowRec.f
    rw [spec_RecOk_f _ _ _ _ _ _ _ (by omega), hf]
    rfl

/-- A record in plain words: kind, batch, key, value, count, sum. -/
abbrev R6 := Int × Int × List UInt8 × List UInt8 × Int × Int
def okR (r : R6) : Bool := recOk r.1 r.2.1 r.2.2.1 r.2.2.2.1 r.2.2.2.2.1 r.2.2.2.2.2
def showR (r : R6) : List UInt8 := showRec r.1 r.2.1 r.2.2.1 r.2.2.2.1 r.2.2.2.2.1 r.2.2.2.2.2
theorem okR_kind {r : R6} (h : okR r = true) : (r.1 = 1 ∨ r.1 = 4 ∨ r.1 = 2 ∨ r.1 = 3 ∨ r.1 = 5) ∧ (0 ≤ r.2.1 ∧ r.2.1 ≤ 1000000) ∧ r.2.2.1.length ≤ 8 ∧ r.2.2.2.1.length ≤ 24 ∧ (¬ (r.1 = 1 ∨ r.1 = 4) → r.2.2.2.1 = []) ∧ ((r.1 = 1 ∨ r.1 = 4 ∨ r.1 = 2) → r.2.2.2.2.1 = 0 ∧ r.2.2.2.2.2 = 0) ∧ ((r.1 = 3 ∨ r.1 = 5) → r.2.2.1 = [] ∧ (0 ≤ r.2.2.2.2.1 ∧ r.2.2.2.2.1 ≤ 20) ∧ (0 ≤ r.2.2.2.2.2 ∧ r.2.2.2.2.2 ≤ 4294967295)) := by
  obtain ⟨kind, batch, key, value, count, sum⟩ := r
  have hk := recOk_key h
  simp only [okR] at h
  unfold recOk at h
  simp only [Bool.and_eq_true, decide_eq_true_eq] at h
  obtain ⟨⟨hb, _⟩, h⟩ := h
  refine ⟨?_, hb, hk.1, hk.2.1, ?_, ?_, ?_⟩
  · by_cases h1 : kind = 1 ∨ kind = 4
    · rcases h1 with h1 | h1 <;> simp [h1]
    · by_cases h2 : kind = 2
      · simp [h2]
      · by_cases h3 : kind = 3
        · simp [h3]
        · by_cases h5 : kind = 5
          · simp [h5]
          · rw [if_neg h1, if_neg h2, if_neg h3, if_neg h5] at h; cases h
  · intro h1
    simp only at h1
    rw [if_neg h1] at h
    by_cases h2 : kind = 2
    · rw [if_pos h2] at h; simp only [Bool.and_eq_true, decide_eq_true_eq] at h; exact h.1.1.2
    · rw [if_neg h2] at h
      by_cases h3 : kind = 3
      · rw [if_pos h3] at h; simp only [Bool.and_eq_true, decide_eq_true_eq] at h; exact h.1.1.2
      · rw [if_neg h3] at h
        by_cases h5 : kind = 5
        · rw [if_pos h5] at h; simp only [Bool.and_eq_true, decide_eq_true_eq] at h; exact h.1.1.2
        · rw [if_neg h5] at h; cases h
  · intro h1
    simp only at h1
    by_cases h14 : kind = 1 ∨ kind = 4
    · rw [if_pos h14] at h; simp only [Bool.and_eq_true, decide_eq_true_eq] at h; exact ⟨h.1.2, h.2⟩
    · have h2 : kind = 2 := by omega
      rw [if_neg h14, if_pos h2] at h; simp only [Bool.and_eq_true, decide_eq_true_eq] at h; exact ⟨h.1.2, h.2⟩
  · intro h1
    simp only at h1
    rw [if_neg (by omega), if_neg (by omega)] at h
    by_cases h3 : kind = 3
    · rw [if_pos h3] at h; simp only [Bool.and_eq_true, decide_eq_true_eq] at h; exact ⟨h.1.1.1, ⟨h.1.2.1, by have := h.1.2.2; show count ≤ 20; omega⟩, h.2⟩
    · rw [if_neg h3, if_pos (by omega)] at h; simp only [Bool.and_eq_true, decide_eq_true_eq] at h; exact ⟨h.1.1.1, h.1.2, h.2⟩
theorem showR_nil {r : R6} (h : ¬ okR r = true) : showR r = [] := by
  unfold showR showRec
  unfold okR at h
  rw [if_neg h]
theorem showR_len (r : R6) : (showR r).length ≤ 60 := by
  by_cases h : okR r = true
  · obtain ⟨hk, hb, h8, h24, hv, hz, hs⟩ := okR_kind h
    have hok' : recOk r.1 r.2.1 r.2.2.1 r.2.2.2.1 r.2.2.2.2.1 r.2.2.2.2.2 = true := h
    unfold showR showRec
    rw [if_pos hok']
    have l1 := varB_length r.1
    have l2 := varB_length r.2.1
    have l3 := textL_length r.2.2.1 (by omega)
    have l4 := textL_length r.2.2.2.1 (by omega)
    have l5 := varB_length r.2.2.2.2.1
    have l6 := fixL_length 4 r.2.2.2.2.2.toNat
    by_cases h14 : r.1 = 1 ∨ r.1 = 4
    · rw [if_pos h14]; simp only [List.length_append]; omega
    · by_cases h2 : r.1 = 2
      · rw [if_neg h14, if_pos h2]; simp only [List.length_append]; omega
      · rw [if_neg h14, if_neg h2]; simp only [List.length_append]; omega
  · rw [showR_nil h]; simp
def recOf (e : S33) : R6 := (e.f0, e.f1, e.f2.toList, e.f3.toList, e.f4, e.f5)
def sumT (l : List S33) : List UInt8 := l.flatMap fun e => showR (recOf e)
theorem sumT_cons (e : S33) (l : List S33) : sumT (e :: l) = showR (recOf e) ++ sumT l := by simp [sumT]
theorem mkS_self (s : ByteArray) : mkS s.toList = s := by obtain ⟨l, rfl⟩ := exS s; rw [mkS_toList]

/-- A number: what it is, what is left, and whether it failed. -/
def numL (s : List UInt8) (bad : Bool) : Nat × List UInt8 × Bool :=
  match rv s with
  | none => (0, s, true)
  | some p => if bad = true then (0, s, true) else (p.1, s.drop p.2, false)
/-- So many bytes. -/
def bytesL (n : Nat) (s : List UInt8) (bad : Bool) : List UInt8 × List UInt8 × Bool := if bad = true ∨ s.length < n then ([], s, true) else (s.take n, s.drop n, false)
/-- A text with its length ahead. -/
def textR (s : List UInt8) (bad : Bool) : List UInt8 × List UInt8 × Bool := bytesL (numL s bad).1 (numL s bad).2.1 (numL s bad).2.2
theorem numL_sound {s s' : List UInt8} {bad : Bool} {n : Nat} (h : numL s bad = (n, s', false)) : bad = false ∧ s = varL n ++ s' ∧ n ≤ 562949953421311 := by
  unfold numL at h
  cases hr : rv s with
  | none => rw [hr] at h; simp at h
  | some p =>
    obtain ⟨m, k⟩ := p
    rw [hr] at h
    cases bad with
    | true => simp at h
    | false =>
      simp only [Bool.false_eq_true, if_false, Prod.mk.injEq] at h
      obtain ⟨rfl, rfl, _⟩ := h
      obtain ⟨p1, p2, p3, p4, p5⟩ := rv_sound hr
      refine ⟨rfl, ?_, p5⟩
      rw [← p4, List.take_append_drop]
theorem numL_var {n : Nat} (t : List UInt8) (h : n ≤ 562949953421311) : numL (varL n ++ t) false = (n, t, false) := by
  unfold numL
  rw [rv_complete t h]
  simp
theorem bytesL_sound {n : Nat} {s t s' : List UInt8} {bad : Bool} (h : bytesL n s bad = (t, s', false)) : bad = false ∧ s = t ++ s' ∧ t.length = n := by
  unfold bytesL at h
  split at h
  · simp at h
  · rename_i hc
    simp only [Prod.mk.injEq] at h
    obtain ⟨rfl, rfl, _⟩ := h
    cases bad with
    | true => exact absurd (Or.inl rfl) hc
    | false => exact ⟨rfl, (List.take_append_drop _ _).symm, by rw [List.length_take]; have : ¬ s.length < n := fun hh => hc (Or.inr hh); omega⟩
theorem bytesL_app {n : Nat} (t s : List UInt8) (h : t.length = n) : bytesL n (t ++ s) false = (t, s, false) := by
  unfold bytesL
  rw [if_neg (by rw [List.length_append]; simp; omega), List.take_left' h, List.drop_left' h]
theorem textR_sound {s t s' : List UInt8} {bad : Bool} (h : textR s bad = (t, s', false)) : bad = false ∧ s = textL t ++ s' := by
  unfold textR at h
  obtain ⟨h1, h2, h3⟩ := bytesL_sound h
  obtain ⟨g1, g2, g3⟩ := numL_sound (s := s) (bad := bad) (n := (numL s bad).1) (s' := (numL s bad).2.1) (by rw [← h1])
  refine ⟨g1, ?_⟩
  rw [textL, h3, List.append_assoc, ← h2]
  exact g2
theorem textR_text (t s : List UInt8) (h : t.length ≤ 562949953421311) : textR (textL t ++ s) false = (t, s, false) := by
  unfold textR textL
  rw [List.append_assoc, numL_var _ h]
  exact bytesL_app t s rfl
/-- What a text's bytes tell of a record, what is left, and whether it failed. -/
def parR (l : List UInt8) : R6 × List UInt8 × Bool :=
  let a := numL l false
  let b := numL a.2.1 a.2.2
  if a.1 = 1 ∨ a.1 = 4 then
    let k := textR b.2.1 b.2.2
    let v := textR k.2.1 k.2.2
    (((a.1 : Int), (b.1 : Int), k.1, v.1, 0, 0), v.2)
  else if a.1 = 2 then
    let k := textR b.2.1 b.2.2
    (((a.1 : Int), (b.1 : Int), k.1, [], 0, 0), k.2)
  else
    let c := numL b.2.1 b.2.2
    let x := bytesL 4 c.2.1 c.2.2
    (((a.1 : Int), (b.1 : Int), [], [], (c.1 : Int), (rfI x.1 4).1), x.2)
def zeroR : R6 := (0, 0, [], [], 0, 0)
def readR (l : List UInt8) : R6 × Bool := if (parR l).2.2 = false ∧ (parR l).2.1 = [] ∧ okR (parR l).1 = true then ((parR l).1, true) else (zeroR, false)
theorem rfI_fixL {s : Int} (h0 : 0 ≤ s) (h1 : s ≤ 4294967295) : (rfI (fixL 4 s.toNat) 4).1 = s := by
  unfold rfI
  rw [if_pos ⟨by omega, by rw [fixL_length]; omega⟩]
  have e : (4 : Int).toNat = 4 := rfl
  simp only [e]
  rw [List.take_of_length_le (by rw [fixL_length]; omega), beL_fixL]
  omega
theorem fixL_rfI {t : List UInt8} (h : t.length = 4) : fixL 4 (rfI t 4).1.toNat = t := by
  unfold rfI
  rw [if_pos ⟨by omega, by omega⟩]
  have e : (4 : Int).toNat = 4 := rfl
  simp only [e]
  rw [List.take_of_length_le (by omega), Int.toNat_natCast]
  exact fixL_be t 4 h
theorem parR_show {r : R6} (h : okR r = true) : parR (showR r) = (r, [], false) := by
  obtain ⟨hk, hb, h8, h24, hv, hz, hs⟩ := okR_kind h
  obtain ⟨kind, batch, key, value, count, sum⟩ := r
  simp only at hk hb h8 h24 hv hz hs
  have hok : recOk kind batch key value count sum = true := h
  unfold showR showRec
  simp only
  rw [if_pos hok]
  obtain ⟨kn, rfl⟩ := Int.eq_ofNat_of_zero_le (show 0 ≤ kind by omega)
  obtain ⟨bn, rfl⟩ := Int.eq_ofNat_of_zero_le (show 0 ≤ batch by omega)
  rw [varB_nat (by omega), varB_nat (by omega)]
  by_cases h14 : (kn : Int) = 1 ∨ (kn : Int) = 4
  · rw [if_pos h14]
    obtain ⟨hc, hs'⟩ := hz (by omega)
    unfold parR
    simp only [List.append_assoc]
    rw [numL_var _ (by omega)]
    simp only
    rw [numL_var _ (by omega)]
    simp only
    rw [if_pos (by omega), textR_text _ _ (by omega)]
    simp only
    have := textR_text value [] (by omega)
    rw [List.append_nil] at this
    rw [this, hc, hs']
  · rw [if_neg h14]
    by_cases h2 : (kn : Int) = 2
    · rw [if_pos h2]
      obtain ⟨hc, hs'⟩ := hz (by omega)
      unfold parR
      simp only [List.append_assoc]
      rw [numL_var _ (by omega)]
      simp only
      rw [numL_var _ (by omega)]
      simp only
      rw [if_neg (by omega), if_pos (by omega)]
      have := textR_text key [] (by omega)
      rw [List.append_nil] at this
      rw [this, hc, hs', hv h14]
    · rw [if_neg h2]
      obtain ⟨hke, hc, hs'⟩ := hs (by omega)
      obtain ⟨cn, rfl⟩ := Int.eq_ofNat_of_zero_le (show 0 ≤ count by omega)
      rw [varB_nat (by omega)]
      unfold parR
      simp only [List.append_assoc]
      rw [numL_var _ (by omega)]
      simp only
      rw [numL_var _ (by omega)]
      simp only
      rw [if_neg (by omega), if_neg (by omega), numL_var _ (by omega)]
      simp only
      have := bytesL_app (n := 4) (fixL 4 sum.toNat) [] (fixL_length 4 _)
      rw [List.append_nil] at this
      rw [this]
      simp only
      rw [rfI_fixL hs'.1 hs'.2, hke, hv h14]
theorem parR_sound {l : List UInt8} {r : R6} (h : parR l = (r, [], false)) (hok : okR r = true) : showR r = l := by
  obtain ⟨hk, hb, h8, h24, hv, hz, hs⟩ := okR_kind hok
  have hok' : recOk r.1 r.2.1 r.2.2.1 r.2.2.2.1 r.2.2.2.2.1 r.2.2.2.2.2 = true := hok
  unfold showR showRec
  rw [if_pos hok']
  unfold parR at h
  generalize ha : numL l false = a at h
  obtain ⟨n1, s1, b1⟩ := a
  simp only at h
  generalize hbb : numL s1 b1 = b at h
  obtain ⟨n2, s2, b2⟩ := b
  simp only at h
  by_cases h14 : n1 = 1 ∨ n1 = 4
  · rw [if_pos h14] at h
    generalize hkk : textR s2 b2 = k at h
    obtain ⟨t3, s3, b3⟩ := k
    simp only at h
    generalize hvv : textR s3 b3 = v at h
    obtain ⟨t4, s4, b4⟩ := v
    simp only [Prod.mk.injEq] at h
    obtain ⟨rfl, rfl, rfl⟩ := h
    obtain ⟨rfl, e4⟩ := textR_sound hvv
    obtain ⟨rfl, e3⟩ := textR_sound hkk
    obtain ⟨rfl, e2, l2⟩ := numL_sound hbb
    obtain ⟨_, e1, l1⟩ := numL_sound ha
    simp only
    rw [if_pos (by omega), varB_nat l1, varB_nat l2, e1, e2, e3, e4]
    simp
  · rw [if_neg h14] at h
    by_cases h2 : n1 = 2
    · rw [if_pos h2] at h
      generalize hkk : textR s2 b2 = k at h
      obtain ⟨t3, s3, b3⟩ := k
      simp only [Prod.mk.injEq] at h
      obtain ⟨rfl, rfl, rfl⟩ := h
      obtain ⟨rfl, e3⟩ := textR_sound hkk
      obtain ⟨rfl, e2, l2⟩ := numL_sound hbb
      obtain ⟨_, e1, l1⟩ := numL_sound ha
      simp only
      rw [if_neg (by omega), if_pos (by omega), varB_nat l1, varB_nat l2, e1, e2, e3]
      simp
    · rw [if_neg h2] at h
      generalize hcc : numL s2 b2 = c at h
      obtain ⟨n3, s3, b3⟩ := c
      simp only at h
      generalize hxx : bytesL 4 s3 b3 = x at h
      obtain ⟨t4, s4, b4⟩ := x
      simp only [Prod.mk.injEq] at h
      obtain ⟨rfl, rfl, rfl⟩ := h
      obtain ⟨rfl, e4, l4⟩ := bytesL_sound hxx
      obtain ⟨rfl, e3, l3⟩ := numL_sound hcc
      obtain ⟨rfl, e2, l2⟩ := numL_sound hbb
      obtain ⟨_, e1, l1⟩ := numL_sound ha
      simp only
      rw [if_neg (by omega), if_neg (by omega), varB_nat l1, varB_nat l2, varB_nat l3, e1, e2, e3, e4, fixL_rfI l4]
      simp
theorem readR_some {r : R6} (h : okR r = true) : readR (showR r) = (r, true) := by
  unfold readR
  rw [parR_show h, if_pos ⟨rfl, rfl, h⟩]
theorem readR_cases (l : List UInt8) : (∃ r, okR r = true ∧ showR r = l ∧ readR l = (r, true)) ∨ ((∀ r, okR r = true → showR r ≠ l) ∧ readR l = (zeroR, false)) := by
  by_cases h : (parR l).2.2 = false ∧ (parR l).2.1 = [] ∧ okR (parR l).1 = true
  · refine Or.inl ⟨(parR l).1, h.2.2, parR_sound ?_ h.2.2, ?_⟩
    · rw [← h.1, ← h.2.1]
    · unfold readR; rw [if_pos h]
  · refine Or.inr ⟨fun r hr hs => h ?_, ?_⟩
    · rw [← hs, parR_show hr]; exact ⟨rfl, rfl, hr⟩
    · unfold readR; rw [if_neg h]
theorem showR_ne {r : R6} (h : okR r = true) : showR r ≠ [] := by
  intro e
  have h1 := readR_some h
  rw [e] at h1
  have h2 : readR [] = (zeroR, false) := by
    unfold readR
    rw [if_neg]
    intro hh
    have : (parR []).2.2 = true := by decide
    rw [this] at hh
    exact absurd hh.1 (by simp)
  rw [h2] at h1
  cases h1

theorem mkS_drop (l : List UInt8) (i : Nat) : (mkS l).extract i (mkS l).size = mkS (l.drop i) := by rw [mkS_extract, mkS_size, List.take_of_length_le (by rw [List.length_drop]; omega)]
theorem mkS_take (l : List UInt8) (i : Nat) : (mkS l).extract 0 i = mkS (l.take i) := by rw [mkS_extract, List.drop_zero, Nat.sub_zero]
theorem impl_scanner_num_ev (s : List UInt8) (b : Bool) : Ev (fun k => impl_scanner_num.f k (mkS s) b) (((numL s b).1 : Int), mkS (numL s b).2.1, (numL s b).2.2) := by
  obtain ⟨K, hK⟩ := evx (impl_ReadVar_ev s)
  refine evi (K) fun k hk => ?_
  unfold impl_scanner_num.f
  rw [hK k hk]
  simp only [Option.bind_some]
  unfold numL rvI
  cases hr : rv s with
  | none => rw [rvP_none hr]; cases b <;> simp
  | some p =>
    obtain ⟨n, j⟩ := p
    obtain ⟨p1, p2, p3, p4, p5⟩ := rv_sound hr
    rw [rvP_some hr]
    simp only
    cases b with
    | true => rw [if_pos rfl, if_pos rfl]; rfl
    | false => rw [if_neg (by simp), if_neg (by omega), if_pos (by omega), if_pos (by rw [mkS_size]; omega), if_neg (by simp), Int.toNat_natCast, mkS_drop]
theorem impl_scanner_bytes_f (n : Nat) (s : List UInt8) (b : Bool) : impl_scanner_bytes.f (mkS s) b (n : Int) = some (mkS (bytesL n s b).1, mkS (bytesL n s b).2.1, (bytesL n s b).2.2) := by
  unfold impl_scanner_bytes.f bytesL
  cases b with
  | true => rw [if_pos rfl, if_pos (Or.inl rfl)]; rfl
  | false =>
    by_cases h : s.length < n
    · rw [if_neg (by simp), if_pos (by rw [mkS_size]; omega), if_pos (Or.inr h)]; rfl
    · rw [if_neg (by simp), if_neg (by rw [mkS_size]; omega), if_pos (by omega), if_pos (by rw [mkS_size]; omega), if_neg (by simp; omega), Int.toNat_natCast, mkS_take, mkS_drop]
theorem impl_scanner_text_ev (s : List UInt8) (b : Bool) : Ev (fun k => impl_scanner_text.f k (mkS s) b) (mkS (textR s b).1, mkS (textR s b).2.1, (textR s b).2.2) := by
  obtain ⟨K, hK⟩ := evx (impl_scanner_num_ev s b)
  refine evi (K) fun k hk => ?_
  unfold impl_scanner_text.f
  rw [hK k hk]
  simp only [Option.bind_some]
  rw [impl_scanner_bytes_f]
  rfl

def outR (r : R6 × Bool) : Int × Int × ByteArray × ByteArray × Int × Int × Bool := (r.1.1, r.1.2.1, mkS r.1.2.2.1, mkS r.1.2.2.2.1, r.1.2.2.2.2.1, r.1.2.2.2.2.2, r.2)
theorem readR_of {l : List UInt8} {r : R6} {rest : List UInt8} {bad : Bool} (h : parR l = (r, rest, bad)) : readR l = if bad = true then (zeroR, false) else if rest = [] then (if okR r = true then (r, true) else (zeroR, false)) else (zeroR, false) := by
  unfold readR
  rw [h]
  simp only
  cases bad with
  | true => rw [if_neg (by simp), if_pos rfl]
  | false =>
    rw [if_neg (show ¬ (false = true) by simp)]
    by_cases hr : rest = []
    · rw [if_pos hr]
      by_cases ho : okR r = true
      · rw [if_pos ⟨rfl, hr, ho⟩, if_pos ho]
      · rw [if_neg (fun hh => ho hh.2.2), if_neg ho]
    · rw [if_neg (fun hh => hr hh.2.1), if_neg hr]
theorem impl_ReadRec_ev (l : List UInt8) : Ev (fun k => impl_ReadRec.f k (mkS l)) (outR (readR l)) := by
  obtain ⟨K1, h1⟩ := evx (impl_scanner_num_ev l false)
  generalize ha : numL l false = a at h1
  obtain ⟨n1, s1, b1⟩ := a
  obtain ⟨K2, h2⟩ := evx (impl_scanner_num_ev s1 b1)
  generalize hb : numL s1 b1 = b at h2
  obtain ⟨n2, s2, b2⟩ := b
  have fin : ∀ (r : R6) (rest : List UInt8) (bad : Bool) (k : Nat), parR l = (r, rest, bad) →
      impl_ReadRec.j1 (k + 2) (mkS rest) bad r.1 r.2.1 (mkS r.2.2.1) (mkS r.2.2.2.1) r.2.2.2.2.1 r.2.2.2.2.2 = some (outR (readR l)) := by
    intro r rest bad k h
    rw [readR_of h]
    simp only [impl_ReadRec.j1, impl_ReadRec.j2]
    rw [impl_RecOk_f _ _ _ _ _ _ _ (show 0 < k + 1 by omega), mkS_toList]
    simp only [Option.bind_some]
    have e : recOk r.1 r.2.1 r.2.2.1 r.2.2.2.1 r.2.2.2.2.1 r.2.2.2.2.2 = okR r := rfl
    rw [e]
    cases bad with
    | true => rfl
    | false =>
      by_cases hr : rest = []
      · simp only [hr, Bool.false_eq_true, if_false, if_true]
        cases okR r <;> rfl
      · simp only [hr, Bool.false_eq_true, if_false]
        rfl
  by_cases h14 : (n1 : Int) = 1 ∨ (n1 : Int) = 4
  · obtain ⟨K3, h3⟩ := evx (impl_scanner_text_ev s2 b2)
    generalize hc : textR s2 b2 = c at h3
    obtain ⟨t3, s3, b3⟩ := c
    obtain ⟨K4, h4⟩ := evx (impl_scanner_text_ev s3 b3)
    generalize hd : textR s3 b3 = d at h4
    obtain ⟨t4, s4, b4⟩ := d
    have hp : parR l = (((n1 : Int), (n2 : Int), t3, t4, 0, 0), s4, b4) := by
      unfold parR; rw [ha]; simp only; rw [hb]; simp only; rw [if_pos (by omega), hc]; simp only; rw [hd]
    refine evi (K1 + K2 + K3 + K4 + 4) fun k hk => ?_
    obtain ⟨k, rfl⟩ : ∃ m, k = m + 3 := ⟨k - 3, by omega⟩
    have f := fin _ _ _ k hp
    unfold impl_ReadRec.f
    rw [h1 _ (by omega)]
    simp only [Option.bind_some]
    rw [h2 _ (by omega)]
    simp only [Option.bind_some, impl_ReadRec.j0]
    rw [h3 _ (by omega)]
    simp only [Option.bind_some]
    rw [h4 _ (by omega)]
    simp only [Option.bind_some]
    rcases h14 with h | h
    · rw [if_pos h, if_pos (by simp [h])]; exact f
    · rw [if_neg (by omega), if_pos (by simp [h])]; exact f
  · by_cases h22 : (n1 : Int) = 2
    · obtain ⟨K3, h3⟩ := evx (impl_scanner_text_ev s2 b2)
      generalize hc : textR s2 b2 = c at h3
      obtain ⟨t3, s3, b3⟩ := c
      have hp : parR l = (((n1 : Int), (n2 : Int), t3, [], 0, 0), s3, b3) := by
        unfold parR; rw [ha]; simp only; rw [hb]; simp only; rw [if_neg (by omega), if_pos (by omega), hc]
      refine evi (K1 + K2 + K3 + 4) fun k hk => ?_
      obtain ⟨k, rfl⟩ : ∃ m, k = m + 3 := ⟨k - 3, by omega⟩
      have f := fin _ _ _ k hp
      unfold impl_ReadRec.f
      rw [h1 _ (by omega)]
      simp only [Option.bind_some]
      rw [h2 _ (by omega)]
      simp only [Option.bind_some, impl_ReadRec.j0]
      rw [h3 _ (by omega)]
      simp only [Option.bind_some]
      rw [if_neg (by omega), if_neg (by simp; omega), if_pos h22]
      exact f
    · obtain ⟨K3, h3⟩ := evx (impl_scanner_num_ev s2 b2)
      generalize hc : numL s2 b2 = c at h3
      obtain ⟨n3, s3, b3⟩ := c
      have h4 := impl_scanner_bytes_f 4 s3 b3
      generalize hd : bytesL 4 s3 b3 = d at h4
      obtain ⟨t4, s4, b4⟩ := d
      obtain ⟨K5, h5⟩ := evx (impl_ReadFixed_ev t4 4)
      have hp : parR l = (((n1 : Int), (n2 : Int), [], [], (n3 : Int), (rfI t4 4).1), s4, b4) := by
        unfold parR; rw [ha]; simp only; rw [hb]; simp only; rw [if_neg (by omega), if_neg (by omega), hc]; simp only; rw [hd]
      refine evi (K1 + K2 + K3 + K5 + 4) fun k hk => ?_
      obtain ⟨k, rfl⟩ : ∃ m, k = m + 3 := ⟨k - 3, by omega⟩
      have f := fin _ _ _ k hp
      unfold impl_ReadRec.f
      rw [h1 _ (by omega)]
      simp only [Option.bind_some]
      rw [h2 _ (by omega)]
      simp only [Option.bind_some, impl_ReadRec.j0]
      rw [h3 _ (by omega)]
      simp only [Option.bind_some]
      rw [show ((4 : Int)) = ((4 : Nat) : Int) from rfl, h4]
      simp only [Option.bind_some]
      rw [show (((4 : Nat) : Int)) = (4 : Int) from rfl, h5 _ (by omega)]
      simp only [Option.bind_some]
      rw [if_neg (by omega), if_neg (by simp; omega), if_neg h22]
      exact f

def t5 (s : List UInt8) : List UInt8 × List UInt8 × Bool :=
  match rv s with
  | none => ([], [], false)
  | some p => if p.1 + p.2 ≤ s.length then ((s.drop p.2).take p.1, s.drop (p.2 + p.1), true) else ([], [], false)
theorem t5_text (t s : List UInt8) (h : t.length ≤ 562949953421311) : t5 (textL t ++ s) = (t, s, true) := by
  unfold t5 textL
  rw [List.append_assoc, rv_complete _ h]
  simp only
  rw [if_pos (by simp only [List.length_append]; omega), List.drop_left, List.take_left, ← List.drop_drop, List.drop_left, List.drop_left]
theorem t5_len (s : List UInt8) : (t5 s).1.length ≤ s.length ∧ (t5 s).2.1.length ≤ s.length := by
  unfold t5
  split
  · simp
  · split
    · simp only [List.length_take, List.length_drop]; omega
    · simp
theorem spec_l5Text_ev (s : List UInt8) (hs : s.length ≤ 562949953421311) : Ev (fun k => spec_l5Text.f k (mkS s)) (mkS (t5 s).1, mkS (t5 s).2.1, (t5 s).2.2) := by
  obtain ⟨K, hK⟩ := evx (spec_ReadVar_ev s (by omega))
  refine evi (K) fun k hk => ?_
  unfold spec_l5Text.f
  rw [hK k hk]
  simp only [Option.bind_some]
  unfold t5 rvI
  cases hr : rv s with
  | none => rw [rvP_none hr]; rfl
  | some p =>
    obtain ⟨n, j⟩ := p
    obtain ⟨p1, p2, p3, p4, p5⟩ := rv_sound hr
    rw [rvP_some hr]
    simp only
    rw [if_neg (by omega), w64 (x := ((mkS s).size : Int) - (j : Int)) (by rw [mkS_size]; omega) (by rw [mkS_size]; omega), w64 (x := (j : Int) + (n : Int)) (by omega) (by omega)]
    by_cases h : n + j ≤ s.length
    · rw [if_neg (by rw [mkS_size]; omega), if_pos (by omega), if_pos (by omega), if_pos (by rw [mkS_size]; omega), if_pos (by omega), if_pos h, show ((j : Int) + (n : Int)) = ((j + n : Nat) : Int) from by omega, Int.toNat_natCast, Int.toNat_natCast, mkS_extract, mkS_drop, show j + n - j = n from by omega]
    · rw [if_pos (by rw [mkS_size]; omega), if_neg h]; rfl
/-- What spec reads of a record's text. -/
def parS (l : List UInt8) : R6 :=
  let a := rvP l
  let b := rvP (l.drop a.2)
  let rest := l.drop (a.2 + b.2)
  if a.1 = 1 ∨ a.1 = 4 then ((a.1 : Int), (b.1 : Int), (t5 rest).1, (t5 (t5 rest).2.1).1, 0, 0)
  else if a.1 = 2 then ((a.1 : Int), (b.1 : Int), (t5 rest).1, [], 0, 0)
  else ((a.1 : Int), (b.1 : Int), [], [], ((rvP rest).1 : Int), (rfI (rest.drop (rvP rest).2) 4).1)
def readS (l : List UInt8) : R6 × Bool := if (rvP l).2 = 0 ∨ (rvP (l.drop (rvP l).2)).2 = 0 then (zeroR, false) else if showR (parS l) = l then (if l = [] then (zeroR, false) else (parS l, true)) else (zeroR, false)
theorem parS_show {r : R6} (h : okR r = true) : parS (showR r) = r ∧ (rvP (showR r)).2 ≠ 0 ∧ (rvP ((showR r).drop (rvP (showR r)).2)).2 ≠ 0 := by
  obtain ⟨hk, hb, h8, h24, hv, hz, hs⟩ := okR_kind h
  obtain ⟨kind, batch, key, value, count, sum⟩ := r
  simp only at hk hb h8 h24 hv hz hs
  have hok : recOk kind batch key value count sum = true := h
  obtain ⟨kn, rfl⟩ := Int.eq_ofNat_of_zero_le (show 0 ≤ kind by omega)
  obtain ⟨bn, rfl⟩ := Int.eq_ofNat_of_zero_le (show 0 ≤ batch by omega)
  have gen : ∀ tail : List UInt8, showR ((kn : Int), (bn : Int), key, value, count, sum) = varL kn ++ (varL bn ++ tail) → rvP (showR ((kn : Int), (bn : Int), key, value, count, sum)) = (kn, (varL kn).length) ∧ rvP ((showR ((kn : Int), (bn : Int), key, value, count, sum)).drop (varL kn).length) = (bn, (varL bn).length) ∧ (showR ((kn : Int), (bn : Int), key, value, count, sum)).drop ((varL kn).length + (varL bn).length) = tail := by
    intro tail e
    rw [e]
    refine ⟨rvP_some (rv_complete _ (by omega)), ?_, ?_⟩
    · rw [List.drop_left]; exact rvP_some (rv_complete _ (by omega))
    · rw [← List.drop_drop, List.drop_left, List.drop_left]
  have p1 := varL_pos kn
  have p2 := varL_pos bn
  have shape : showR ((kn : Int), (bn : Int), key, value, count, sum) = varL kn ++ (varL bn ++ (if (kn : Int) = 1 ∨ (kn : Int) = 4 then textL key ++ textL value else if (kn : Int) = 2 then textL key else varB count ++ fixL 4 sum.toNat)) := by
    unfold showR showRec
    simp only
    rw [if_pos hok, varB_nat (by omega), varB_nat (by omega), List.append_assoc]
  obtain ⟨g1, g2, g3⟩ := gen _ shape
  refine ⟨?_, by rw [g1]; simp only; omega, by rw [g1]; simp only; rw [g2]; simp only; omega⟩
  unfold parS
  simp only
  rw [g1]
  simp only
  rw [g2]
  simp only
  rw [g3]
  by_cases h14 : (kn : Int) = 1 ∨ (kn : Int) = 4
  · obtain ⟨hc, hs'⟩ := hz (by omega)
    rw [if_pos (by omega), if_pos h14, t5_text _ _ (by omega)]
    simp only
    have := t5_text value [] (by omega)
    rw [List.append_nil] at this
    rw [this, hc, hs']
  · by_cases h2 : (kn : Int) = 2
    · obtain ⟨hc, hs'⟩ := hz (by omega)
      have := t5_text key [] (by omega)
      rw [List.append_nil] at this
      rw [if_neg (by omega), if_pos (by omega), if_neg h14, if_pos h2, this, hc, hs', hv h14]
    · obtain ⟨hke, hc, hs'⟩ := hs (by omega)
      obtain ⟨cn, rfl⟩ := Int.eq_ofNat_of_zero_le (show 0 ≤ count by omega)
      rw [if_neg (by omega), if_neg (by omega), if_neg h14, if_neg h2, varB_nat (by omega), rvP_some (rv_complete _ (by omega))]
      simp only
      rw [List.drop_left, rfI_fixL hs'.1 hs'.2, hke, hv h14]
theorem readS_eq (l : List UInt8) : readS l = readR l := by
  unfold readS
  rcases readR_cases l with ⟨r, hr, hs, he⟩ | ⟨hn, he⟩
  · subst hs
    obtain ⟨h1, h2, h3⟩ := parS_show hr
    rw [he, if_neg (fun hh => hh.elim h2 h3), h1, if_pos rfl, if_neg (showR_ne hr)]
  · rw [he]
    by_cases hp : showR (parS l) = l
    · have hl : l = [] := by
        apply Decidable.byContradiction
        intro hl
        by_cases ho : okR (parS l) = true
        · exact hn _ ho hp
        · rw [showR_nil ho] at hp; exact hl hp.symm
      rw [if_pos hp, if_pos hl]
      split <;> rfl
    · rw [if_neg hp]
      split <;> rfl
theorem spec_ShowRec_r (r : R6) : Ev (fun k => spec_ShowRec.f k r.1 r.2.1 (mkS r.2.2.1) (mkS r.2.2.2.1) r.2.2.2.2.1 r.2.2.2.2.2) (mkS (showR r)) := spec_ShowRec_ev r.1 r.2.1 r.2.2.2.2.1 r.2.2.2.2.2 r.2.2.1 r.2.2.2.1
theorem spec_ReadRec_ev (l : List UInt8) (hl : l.length ≤ 562949953421311) : Ev (fun k => spec_ReadRec.f k (mkS l)) (outR (readR l)) := by
  rw [← readS_eq]
  obtain ⟨K1, h1⟩ := evx (spec_ReadVar_ev l (by omega))
  have hd1 : (rvP l).2 ≤ l.length := by
    cases hr : rv l with
    | none => rw [rvP_none hr]; simp
    | some p => obtain ⟨n, j⟩ := p; rw [rvP_some hr]; exact (rv_sound hr).2.2.1
  have hd2 : (rvP (l.drop (rvP l).2)).2 ≤ l.length - (rvP l).2 := by
    cases hr : rv (l.drop (rvP l).2) with
    | none => rw [rvP_none hr]; simp
    | some p => obtain ⟨n, j⟩ := p; rw [rvP_some hr]; have := (rv_sound hr).2.2.1; rw [List.length_drop] at this; exact this
  obtain ⟨K2, h2⟩ := evx (spec_ReadVar_ev (l.drop (rvP l).2) (by rw [List.length_drop]; omega))
  have fin : ∀ (k K : Nat) (r : R6), (∀ k, K ≤ k → spec_ShowRec.f k r.1 r.2.1 (mkS r.2.2.1) (mkS r.2.2.2.1) r.2.2.2.2.1 r.2.2.2.2.2 = some (mkS (showR r))) → K ≤ k →
      spec_ReadRec.j2 (k + 1) (mkS l) r.1 r.2.1 (mkS r.2.2.1) (mkS r.2.2.2.1) r.2.2.2.2.1 r.2.2.2.2.2 = some (outR (if showR r = l then (if l = [] then (zeroR, false) else (r, true)) else (zeroR, false))) := by
    intro k K r h hk
    rw [spec_ReadRec.j2, h k hk]
    simp only [Option.bind_some, mkS_toList]
    repeat' split
    all_goals rfl
  by_cases hz : (rvP l).2 = 0 ∨ (rvP (l.drop (rvP l).2)).2 = 0
  · refine evi (K1 + K2 + 1) fun k hk => ?_
    obtain ⟨k, rfl⟩ : ∃ m, k = m + 1 := ⟨k - 1, by omega⟩
    unfold spec_ReadRec.f readS
    rw [h1 _ (by omega)]
    simp only [Option.bind_some, rvI, Int.toNat_natCast, mkS_drop]
    rw [if_pos (by omega), if_pos (by rw [mkS_size]; omega), h2 _ (by omega)]
    simp only [Option.bind_some, rvI, spec_ReadRec.j0]
    rw [if_pos hz]
    by_cases hz1 : (rvP l).2 = 0
    · rw [if_pos (by omega)]; rfl
    · rw [if_neg (by omega), if_pos (by simp; omega)]; rfl
  · have e0 : readS l = if showR (parS l) = l then (if l = [] then (zeroR, false) else (parS l, true)) else (zeroR, false) := by unfold readS; rw [if_neg hz]
    rw [e0]
    generalize ha : rvP l = a at *
    obtain ⟨n1, k1⟩ := a
    simp only at *
    generalize hb : rvP (l.drop k1) = b at *
    obtain ⟨n2, k2⟩ := b
    simp only at *
    have hpar : parS l = if n1 = 1 ∨ n1 = 4 then ((n1 : Int), (n2 : Int), (t5 (l.drop (k1 + k2))).1, (t5 (t5 (l.drop (k1 + k2))).2.1).1, 0, 0) else if n1 = 2 then ((n1 : Int), (n2 : Int), (t5 (l.drop (k1 + k2))).1, [], 0, 0) else ((n1 : Int), (n2 : Int), [], [], ((rvP (l.drop (k1 + k2))).1 : Int), (rfI ((l.drop (k1 + k2)).drop (rvP (l.drop (k1 + k2))).2) 4).1) := by
      unfold parS
      rw [ha]
      simp only
      rw [hb]
    have hlen : (l.drop (k1 + k2)).length ≤ l.length := by rw [List.length_drop]; omega
    generalize hre : l.drop (k1 + k2) = rest at *
    have pre : ∀ k, K1 + K2 + 1 ≤ k → spec_ReadRec.f k (mkS l) = (match k with | 0 => none | k + 1 => if (n1 : Int) = 1 then spec_ReadRec.j1 k (mkS l) (mkS rest) (n1 : Int) ((n1 : Int) == 1) (n1 : Int) (n2 : Int) (⟨#[]⟩ : ByteArray) (⟨#[]⟩ : ByteArray) 0 0 else spec_ReadRec.j1 k (mkS l) (mkS rest) (n1 : Int) ((n1 : Int) == 4) (n1 : Int) (n2 : Int) (⟨#[]⟩ : ByteArray) (⟨#[]⟩ : ByteArray) 0 0) := by
      intro k hk
      obtain ⟨k, rfl⟩ : ∃ m, k = m + 1 := ⟨k - 1, by omega⟩
      unfold spec_ReadRec.f
      rw [h1 _ (by omega)]
      simp only [Option.bind_some, rvI, ha, Int.toNat_natCast, mkS_drop]
      rw [if_pos (by omega), if_pos (by rw [mkS_size]; omega), h2 _ (by omega)]
      simp only [Option.bind_some, rvI, hb, spec_ReadRec.j0]
      rw [if_neg (by omega), if_neg (by simp; omega), w64 (by omega) (by omega), if_pos (by omega), if_pos (by rw [mkS_size]; omega), show ((k1 : Int) + (k2 : Int)) = ((k1 + k2 : Nat) : Int) from by omega, Int.toNat_natCast, mkS_drop, hre]
    have ml : mkS ([] : List UInt8) = (⟨#[]⟩ : ByteArray) := rfl
    by_cases h14 : n1 = 1 ∨ n1 = 4
    · rw [if_pos h14] at hpar
      obtain ⟨K3, h3⟩ := evx (spec_l5Text_ev rest (by omega))
      obtain ⟨K4, h4⟩ := evx (spec_l5Text_ev (t5 rest).2.1 (by have := (t5_len rest).2; omega))
      obtain ⟨K5, h5⟩ := evx (spec_ShowRec_r (parS l))
      refine evi (K1 + K2 + K3 + K4 + K5 + 5) fun k hk => ?_
      rw [pre k (by omega)]
      obtain ⟨k, rfl⟩ : ∃ m, k = m + 3 := ⟨k - 3, by omega⟩
      have f := fin k K5 (parS l) h5 (by omega)
      simp only [spec_ReadRec.j1]
      rw [h3 _ (by omega)]
      simp only [Option.bind_some]
      rw [h4 _ (by omega)]
      simp only [Option.bind_some]
      rw [hpar] at f ⊢
      rcases h14 with h | h
      · rw [if_pos (by omega), if_pos (by simp [h])]; exact f
      · rw [if_neg (by omega), if_pos (by simp [h])]; exact f
    · rw [if_neg h14] at hpar
      by_cases h22 : n1 = 2
      · rw [if_pos h22] at hpar
        obtain ⟨K3, h3⟩ := evx (spec_l5Text_ev rest (by omega))
        obtain ⟨K5, h5⟩ := evx (spec_ShowRec_r (parS l))
        refine evi (K1 + K2 + K3 + K5 + 5) fun k hk => ?_
        rw [pre k (by omega)]
        obtain ⟨k, rfl⟩ : ∃ m, k = m + 3 := ⟨k - 3, by omega⟩
        have f := fin k K5 (parS l) h5 (by omega)
        simp only [spec_ReadRec.j1]
        rw [h3 _ (by omega)]
        simp only [Option.bind_some]
        rw [hpar] at f ⊢
        rw [if_neg (by omega), if_neg (by simp; omega), if_pos (by omega)]
        exact f
      · rw [if_neg h22] at hpar
        obtain ⟨K3, h3⟩ := evx (spec_ReadVar_ev rest (by omega))
        have hd3 : (rvP rest).2 ≤ rest.length := by
          cases hr : rv rest with
          | none => rw [rvP_none hr]; simp
          | some p => obtain ⟨n, j⟩ := p; rw [rvP_some hr]; exact (rv_sound hr).2.2.1
        obtain ⟨K4, h4⟩ := evx (spec_ReadFixed_ev (rest.drop (rvP rest).2) 4)
        obtain ⟨K5, h5⟩ := evx (spec_ShowRec_r (parS l))
        refine evi (K1 + K2 + K3 + K4 + K5 + 5) fun k hk => ?_
        rw [pre k (by omega)]
        obtain ⟨k, rfl⟩ : ∃ m, k = m + 3 := ⟨k - 3, by omega⟩
        have f := fin k K5 (parS l) h5 (by omega)
        simp only [spec_ReadRec.j1]
        rw [h3 _ (by omega)]
        simp only [Option.bind_some, rvI, Int.toNat_natCast, mkS_drop]
        rw [if_neg (by omega), if_neg (by simp; omega), if_neg (by omega), if_pos (by omega), if_pos (by rw [mkS_size]; omega), h4 _ (by omega)]
        simp only [Option.bind_some]
        rw [hpar] at f ⊢
        exact f

def frameL (l : List UInt8) : List UInt8 := if l.length ≤ 200 then fixL 4 (crcS (textL l)) ++ textL l else []
/-- What a frame holds, and how many bytes it has; nothing and 0 where there is none. -/
def unframeL (l : List UInt8) : List UInt8 × Nat :=
  match rv (l.drop 4) with
  | none => ([], 0)
  | some (n, k) => if n ≤ 200 ∧ 4 + k + n ≤ l.length ∧ frameL ((l.drop (4 + k)).take n) = l.take (4 + k + n) then ((l.drop (4 + k)).take n, 4 + k + n) else ([], 0)
theorem fixS_crc (l : List UInt8) : fixS (crcS l : Int) 4 = mkS (fixL 4 (crcS l)) := by
  have := crcS_lt l
  unfold fixS
  rw [if_pos ⟨by omega, by omega, by have e : (256 : Int) ^ (4 : Int).toNat = 4294967296 := by decide
                                     rw [e]; omega⟩, Int.toNat_natCast]
  rfl
theorem unframe_sound {l t : List UInt8} {n : Nat} (h : unframeL l = (t, n)) (hn : n ≠ 0) : t.length ≤ 200 ∧ n = (frameL t).length ∧ n ≤ l.length ∧ l.take n = frameL t := by
  unfold unframeL at h
  cases hr : rv (l.drop 4) with
  | none => rw [hr] at h; simp only [Prod.mk.injEq] at h; omega
  | some p =>
    obtain ⟨m, k⟩ := p
    rw [hr] at h
    simp only at h
    split at h
    · rename_i hc
      obtain ⟨rfl, rfl⟩ := Prod.mk.inj h
      obtain ⟨h1, h2, h3⟩ := hc
      have hl : ((l.drop (4 + k)).take m).length = m := by rw [List.length_take, List.length_drop]; omega
      refine ⟨by omega, ?_, h2, h3.symm⟩
      rw [h3, List.length_take]
      omega
    · simp only [Prod.mk.injEq] at h; omega
def unframeI (l : List UInt8) : ByteArray × Int := (mkS (unframeL l).1, ((unframeL l).2 : Int))

theorem impl_Frame_ev (l : List UInt8) : Ev (fun k => impl_Frame.f k (mkS l)) (mkS (frameL l)) := by
  by_cases h : l.length ≤ 200
  · have ht := textL_length l (by omega)
    obtain ⟨K1, h1⟩ := evx (impl_textOf_ev l (by omega))
    obtain ⟨K2, h2⟩ := evx (impl_Crc_ev (textL l) (by omega))
    obtain ⟨K3, h3⟩ := evx (impl_Fixed_ev (crcS (textL l) : Int) 4)
    refine evi (K1 + K2 + K3) fun k hk => ?_
    unfold impl_Frame.f
    rw [if_neg (by rw [mkS_size]; omega), h1 k (by omega)]
    simp only [Option.bind_some]
    rw [h2 k (by omega)]
    simp only [Option.bind_some]
    rw [h3 k (by omega), fixS_crc]
    simp only [Option.bind_some]
    rw [if_pos (by rw [mkS_size, mkS_size, fixL_length]; omega), mkS_append, frameL, if_pos h]
  · refine evi (0) fun k hk => ?_
    unfold impl_Frame.f
    rw [if_pos (by rw [mkS_size]; omega), frameL, if_neg h]
    rfl

theorem spec_Frame_ev (l : List UInt8) : Ev (fun k => spec_Frame.f k (mkS l)) (mkS (frameL l)) := by
  by_cases h : l.length ≤ 200
  · have ht := textL_length l (by omega)
    obtain ⟨K1, h1⟩ := evx (spec_Var_ev (l.length : Int))
    obtain ⟨K2, h2⟩ := evx (spec_Crc_ev (textL l) (by omega))
    obtain ⟨K3, h3⟩ := evx (spec_Fixed_ev (crcS (textL l) : Int) 4 (by have := crcS_lt (textL l); omega))
    have h7 := varL_len7 (n := l.length) (by omega)
    refine evi (K1 + K2 + K3) fun k hk => ?_
    unfold spec_Frame.f
    rw [if_neg (by rw [mkS_size]; omega), mkS_size, h1 k (by omega), varS_nat (by omega)]
    simp only [Option.bind_some]
    rw [if_pos (by rw [mkS_size]; omega), mkS_append, show varL l.length ++ l = textL l from rfl, h2 k (by omega)]
    simp only [Option.bind_some]
    rw [h3 k (by omega), fixS_crc]
    simp only [Option.bind_some]
    rw [if_pos (by rw [mkS_size, mkS_size, fixL_length]; omega), mkS_append, frameL, if_pos h]
  · refine evi (0) fun k hk => ?_
    unfold spec_Frame.f
    rw [if_pos (by rw [mkS_size]; omega), frameL, if_neg h]
    rfl

theorem impl_Unframe_ev (l : List UInt8) (hl : l.length ≤ 562949953421311) : Ev (fun k => impl_Unframe.f k (mkS l)) (unframeI l) := by
  by_cases h4 : l.length < 4
  · refine evi (0) fun k hk => ?_
    unfold impl_Unframe.f
    rw [if_pos (by rw [mkS_size]; omega)]
    unfold unframeI unframeL
    have hr : rv (l.drop 4) = none := by rw [List.drop_of_length_le (by omega)]; rfl
    rw [hr]
    rfl
  · obtain ⟨K1, h1⟩ := evx (impl_ReadVar_ev (l.drop 4))
    have hd : (mkS l).extract 4 (mkS l).size = mkS (l.drop 4) := by
      rw [mkS_extract, mkS_size, List.take_of_length_le (by rw [List.length_drop]; omega)]
    have e4 : (4 : Int) ≤ ((mkS l).size : Int) := by rw [mkS_size]; omega
    cases hr : rv (l.drop 4) with
    | none =>
      refine evi (K1 + 1) fun k hk => ?_
      obtain ⟨k, rfl⟩ : ∃ m, k = m + 1 := ⟨k - 1, by omega⟩
      unfold impl_Unframe.f
      rw [if_neg (by rw [mkS_size]; omega), if_pos e4, hd, h1 _ (by omega)]
      simp only [Option.bind_some, impl_Unframe.j0]
      unfold rvI unframeI unframeL
      rw [rvP_none hr, hr]
      rfl
    | some p =>
      obtain ⟨n, j⟩ := p
      obtain ⟨p1, p2, p3, p4, p5⟩ := rv_sound hr
      rw [List.length_drop] at p3
      have e2 : rvI (l.drop 4) = ((n : Int), (j : Int)) := by unfold rvI; rw [rvP_some hr]
      have eu : unframeL l = if n ≤ 200 ∧ 4 + j + n ≤ l.length ∧ frameL ((l.drop (4 + j)).take n) = l.take (4 + j + n) then ((l.drop (4 + j)).take n, 4 + j + n) else ([], 0) := by
        unfold unframeL
        rw [hr]
      by_cases hn : n ≤ 200
      · by_cases hl2 : 4 + j + n ≤ l.length
        · obtain ⟨K2, h2⟩ := evx (impl_Frame_ev ((l.drop (4 + j)).take n))
          refine evi (K1 + K2 + 1) fun k hk => ?_
          obtain ⟨k, rfl⟩ : ∃ m, k = m + 1 := ⟨k - 1, by omega⟩
          unfold impl_Unframe.f
          rw [if_neg (by rw [mkS_size]; omega), if_pos e4, hd, h1 _ (by omega), e2]
          simp only [Option.bind_some, impl_Unframe.j0]
          rw [if_neg (by omega), if_neg (by omega), w64 (x := ((mkS l).size : Int) - 4) (by rw [mkS_size]; omega) (by rw [mkS_size]; omega), w64 (x := ((mkS l).size : Int) - 4 - (j : Int)) (by rw [mkS_size]; omega) (by rw [mkS_size]; omega)]
          rw [if_neg (by rw [mkS_size]; simp; omega), w64 (x := 4 + (j : Int)) (by omega) (by omega), w64 (x := 4 + (j : Int) + (n : Int)) (by omega) (by omega)]
          rw [show (4 + (j : Int)) = ((4 + j : Nat) : Int) from by omega, show (((4 + j : Nat) : Int) + (n : Int)) = ((4 + j + n : Nat) : Int) from by omega]
          rw [if_pos (by omega), if_pos (by omega), if_pos (by rw [mkS_size]; omega)]
          rw [Int.toNat_natCast, Int.toNat_natCast, mkS_extract, mkS_extract, List.drop_zero, Nat.sub_zero, show 4 + j + n - (4 + j) = n from by omega]
          rw [h2 _ (by omega)]
          simp only [Option.bind_some, mkS_toList]
          unfold unframeI
          rw [eu]
          by_cases hf : frameL ((l.drop (4 + j)).take n) = l.take (4 + j + n)
          · rw [if_pos (by omega), if_pos hf]
            rw [if_pos ⟨hn, hl2, hf⟩]
          · rw [if_pos (by omega), if_neg hf]
            rw [if_neg (fun hh => hf hh.2.2)]
            rfl
        · refine evi (K1 + 1) fun k hk => ?_
          obtain ⟨k, rfl⟩ : ∃ m, k = m + 1 := ⟨k - 1, by omega⟩
          unfold impl_Unframe.f
          rw [if_neg (by rw [mkS_size]; omega), if_pos e4, hd, h1 _ (by omega), e2]
          simp only [Option.bind_some, impl_Unframe.j0]
          rw [if_neg (by omega), if_neg (by omega), w64 (x := ((mkS l).size : Int) - 4) (by rw [mkS_size]; omega) (by rw [mkS_size]; omega), w64 (x := ((mkS l).size : Int) - 4 - (j : Int)) (by rw [mkS_size]; omega) (by rw [mkS_size]; omega)]
          rw [if_pos (by rw [mkS_size]; simp; omega)]
          unfold unframeI
          rw [eu, if_neg (fun hh => hl2 hh.2.1)]
          rfl
      · refine evi (K1 + 1) fun k hk => ?_
        obtain ⟨k, rfl⟩ : ∃ m, k = m + 1 := ⟨k - 1, by omega⟩
        unfold impl_Unframe.f
        rw [if_neg (by rw [mkS_size]; omega), if_pos e4, hd, h1 _ (by omega), e2]
        simp only [Option.bind_some, impl_Unframe.j0]
        rw [if_neg (by omega), if_pos (by omega), if_pos trivial]
        unfold unframeI
        rw [eu, if_neg (fun hh => hn hh.1)]
        rfl

theorem spec_Unframe_ev (l : List UInt8) (hl : l.length ≤ 562949953421311) : Ev (fun k => spec_Unframe.f k (mkS l)) (unframeI l) := by
  by_cases h4 : l.length < 5
  · refine evi (0) fun k hk => ?_
    unfold spec_Unframe.f
    rw [if_pos (by rw [mkS_size]; omega)]
    unfold unframeI unframeL
    have hr : rv (l.drop 4) = none := by rw [List.drop_of_length_le (by omega)]; rfl
    rw [hr]
    rfl
  · obtain ⟨K1, h1⟩ := evx (spec_ReadVar_ev (l.drop 4) (by rw [List.length_drop]; omega))
    have hd : (mkS l).extract 4 (mkS l).size = mkS (l.drop 4) := by
      rw [mkS_extract, mkS_size, List.take_of_length_le (by rw [List.length_drop]; omega)]
    have e4 : (4 : Int) ≤ ((mkS l).size : Int) := by rw [mkS_size]; omega
    cases hr : rv (l.drop 4) with
    | none =>
      refine evi (K1 + 1) fun k hk => ?_
      obtain ⟨k, rfl⟩ : ∃ m, k = m + 1 := ⟨k - 1, by omega⟩
      unfold spec_Unframe.f
      rw [if_neg (by rw [mkS_size]; omega), if_pos e4, hd, h1 _ (by omega)]
      simp only [Option.bind_some, spec_Unframe.j0]
      unfold rvI unframeI unframeL
      rw [rvP_none hr, hr]
      rfl
    | some p =>
      obtain ⟨n, j⟩ := p
      obtain ⟨p1, p2, p3, p4, p5⟩ := rv_sound hr
      rw [List.length_drop] at p3
      have e2 : rvI (l.drop 4) = ((n : Int), (j : Int)) := by unfold rvI; rw [rvP_some hr]
      have eu : unframeL l = if n ≤ 200 ∧ 4 + j + n ≤ l.length ∧ frameL ((l.drop (4 + j)).take n) = l.take (4 + j + n) then ((l.drop (4 + j)).take n, 4 + j + n) else ([], 0) := by
        unfold unframeL
        rw [hr]
      by_cases hn : n ≤ 200
      · by_cases hl2 : 4 + j + n ≤ l.length
        · obtain ⟨K2, h2⟩ := evx (spec_Frame_ev ((l.drop (4 + j)).take n))
          refine evi (K1 + K2 + 1) fun k hk => ?_
          obtain ⟨k, rfl⟩ : ∃ m, k = m + 1 := ⟨k - 1, by omega⟩
          unfold spec_Unframe.f
          rw [if_neg (by rw [mkS_size]; omega), if_pos e4, hd, h1 _ (by omega), e2]
          simp only [Option.bind_some, spec_Unframe.j0]
          rw [if_neg (by omega), if_neg (by omega), w64 (x := ((mkS l).size : Int) - 4) (by rw [mkS_size]; omega) (by rw [mkS_size]; omega), w64 (x := ((mkS l).size : Int) - 4 - (j : Int)) (by rw [mkS_size]; omega) (by rw [mkS_size]; omega)]
          rw [if_neg (by rw [mkS_size]; simp; omega), w64 (x := 4 + (j : Int)) (by omega) (by omega), w64 (x := 4 + (j : Int) + (n : Int)) (by omega) (by omega)]
          rw [show (4 + (j : Int)) = ((4 + j : Nat) : Int) from by omega, show (((4 + j : Nat) : Int) + (n : Int)) = ((4 + j + n : Nat) : Int) from by omega]
          rw [if_pos (by omega), if_pos (by omega), if_pos (by rw [mkS_size]; omega)]
          rw [Int.toNat_natCast, Int.toNat_natCast, mkS_extract, mkS_extract, List.drop_zero, Nat.sub_zero, show 4 + j + n - (4 + j) = n from by omega]
          rw [if_pos (by omega), h2 _ (by omega)]
          simp only [Option.bind_some, mkS_toList]
          unfold unframeI
          rw [eu]
          by_cases hf : frameL ((l.drop (4 + j)).take n) = l.take (4 + j + n)
          · rw [if_pos hf.symm]
            rw [if_pos ⟨hn, hl2, hf⟩]
          · rw [if_neg (fun hh => hf hh.symm)]
            rw [if_neg (fun hh => hf hh.2.2)]
            rfl
        · refine evi (K1 + 1) fun k hk => ?_
          obtain ⟨k, rfl⟩ : ∃ m, k = m + 1 := ⟨k - 1, by omega⟩
          unfold spec_Unframe.f
          rw [if_neg (by rw [mkS_size]; omega), if_pos e4, hd, h1 _ (by omega), e2]
          simp only [Option.bind_some, spec_Unframe.j0]
          rw [if_neg (by omega), if_neg (by omega), w64 (x := ((mkS l).size : Int) - 4) (by rw [mkS_size]; omega) (by rw [mkS_size]; omega), w64 (x := ((mkS l).size : Int) - 4 - (j : Int)) (by rw [mkS_size]; omega) (by rw [mkS_size]; omega)]
          rw [if_pos (by rw [mkS_size]; simp; omega)]
          unfold unframeI
          rw [eu, if_neg (fun hh => hl2 hh.2.1)]
          rfl
      · refine evi (K1 + 1) fun k hk => ?_
        obtain ⟨k, rfl⟩ : ∃ m, k = m + 1 := ⟨k - 1, by omega⟩
        unfold spec_Unframe.f
        rw [if_neg (by rw [mkS_size]; omega), if_pos e4, hd, h1 _ (by omega), e2]
        simp only [Option.bind_some, spec_Unframe.j0]
        rw [if_neg (by omega), if_pos (by omega), if_pos trivial]
        unfold unframeI
        rw [eu, if_neg (fun hh => hn hh.1)]
        rfl

theorem unframe_len200 (l : List UInt8) : (unframeL l).1.length ≤ 200 := by
  unfold unframeL
  cases hr : rv (l.drop 4) with
  | none => simp
  | some p =>
    obtain ⟨n, k⟩ := p
    simp only
    split
    · rename_i hc
      simp only [List.length_take]
      omega
    · simp
def spotOf (at_ n : Nat) (r : R6) : S37 := ⟨(at_ : Int), (n : Int), (⟨r.1, r.2.1, mkS r.2.2.1, mkS r.2.2.2.1, r.2.2.2.2.1, r.2.2.2.2.2⟩ : S33)⟩
/-- Records one behind the other, from a place on; at most f of them. -/
def scanF : Nat → List UInt8 → Nat → List S37 × Nat
  | 0, _, p => ([], p)
  | f + 1, l, p => if (unframeL (l.drop p)).2 = 0 then ([], p) else if (readR (unframeL (l.drop p)).1).2 = true then (spotOf p (unframeL (l.drop p)).2 (readR (unframeL (l.drop p)).1).1 :: (scanF f l (p + (unframeL (l.drop p)).2)).1, (scanF f l (p + (unframeL (l.drop p)).2)).2) else ([], p)
def scanL (l : List UInt8) : List S37 × Nat := scanF (l.length + 1) l 0
theorem unframe_le (l : List UInt8) : (unframeL l).2 ≤ l.length := by
  by_cases h : (unframeL l).2 = 0
  · omega
  · exact (unframe_sound (l := l) rfl h).2.2.1
theorem scanF_len (f : Nat) : ∀ (l : List UInt8) (p : Nat), (scanF f l p).1.length ≤ f := by
  induction f with
  | zero => intro l p; simp [scanF]
  | succ f ih =>
    intro l p
    rw [scanF]
    split
    · simp
    · split
      · simp only [List.length_cons]; have := ih l (p + (unframeL (l.drop p)).2); omega
      · simp
theorem scanF_end (f : Nat) (l : List UInt8) (p : Nat) (hp : l.length ≤ p) : scanF (f + 1) l p = ([], p) := by
  rw [scanF, List.drop_of_length_le hp, if_pos (by rfl)]
theorem impl_ScanRecs_l0 (l : List UInt8) (hl : l.length ≤ 1048576) (f : Nat) : ∀ (p : Nat) (acc : List S37), p ≤ l.length → l.length < f + p → acc.length + f ≤ 4000000 →
    Ev (fun k => impl_ScanRecs.l0 k (mkS l) acc (p : Int)) (acc ++ (scanF f l p).1, ((scanF f l p).2 : Int)) := by
  induction f with
  | zero => intro p acc hp hf ha; omega
  | succ f ih =>
    intro p acc hp hf ha
    have hd : (l.drop p).length ≤ 562949953421311 := by rw [List.length_drop]; omega
    obtain ⟨K1, h1⟩ := evx (impl_Unframe_ev (l.drop p) hd)
    obtain ⟨K2, h2⟩ := evx (impl_ReadRec_ev (unframeL (l.drop p)).1)
    have hle := unframe_le (l.drop p)
    rw [List.length_drop] at hle
    by_cases hz : (unframeL (l.drop p)).2 = 0
    · refine evi (K1 + K2 + 1) fun k hk => ?_
      obtain ⟨k, rfl⟩ : ∃ m, k = m + 1 := ⟨k - 1, by omega⟩
      simp only [impl_ScanRecs.l0]
      rw [if_pos (by omega), if_pos (by rw [mkS_size]; omega), Int.toNat_natCast, mkS_drop, h1 k (by omega)]
      simp only [Option.bind_some, unframeI]
      rw [h2 k (by omega)]
      simp only [Option.bind_some]
      rw [if_pos (by omega), scanF, if_pos hz, List.append_nil]
    · cases hr : (readR (unframeL (l.drop p)).1).2 with
      | false =>
        refine evi (K1 + K2 + 1) fun k hk => ?_
        obtain ⟨k, rfl⟩ : ∃ m, k = m + 1 := ⟨k - 1, by omega⟩
        simp only [impl_ScanRecs.l0]
        rw [if_pos (by omega), if_pos (by rw [mkS_size]; omega), Int.toNat_natCast, mkS_drop, h1 k (by omega)]
        simp only [Option.bind_some, unframeI]
        rw [h2 k (by omega)]
        simp only [Option.bind_some, outR, hr]
        rw [if_neg (by omega), if_neg (by simp), scanF, if_neg hz, if_neg (by rw [hr]; simp), List.append_nil]
      | true =>
        obtain ⟨K, hK⟩ := evx (ih (p + (unframeL (l.drop p)).2) (acc ++ [spotOf p (unframeL (l.drop p)).2 (readR (unframeL (l.drop p)).1).1]) (by omega) (by omega) (by rw [List.length_append, List.length_singleton]; omega))
        refine evi (K + K1 + K2 + 1) fun k hk => ?_
        obtain ⟨k, rfl⟩ : ∃ m, k = m + 1 := ⟨k - 1, by omega⟩
        have hgo := hK k (by omega)
        simp only [impl_ScanRecs.l0]
        rw [if_pos (by omega), if_pos (by rw [mkS_size]; omega), Int.toNat_natCast, mkS_drop, h1 k (by omega)]
        simp only [Option.bind_some, unframeI]
        rw [h2 k (by omega)]
        simp only [Option.bind_some, outR, hr]
        rw [if_neg (by omega), if_pos trivial, if_pos (by omega), w64 (by omega) (by omega), show ((p : Int) + ((unframeL (l.drop p)).2 : Int)) = ((p + (unframeL (l.drop p)).2 : Nat) : Int) from by omega, scanF, if_neg hz, if_pos hr]
        rw [List.append_assoc] at hgo
        exact hgo
theorem impl_ScanRecs_ev (l : List UInt8) (hl : l.length ≤ 1048576) : Ev (fun k => impl_ScanRecs.f k (mkS l)) ((scanL l).1, ((scanL l).2 : Int)) :=
  impl_ScanRecs_l0 l hl (l.length + 1) 0 [] (by omega) (by omega) (by simp only [List.length_nil]; omega)

theorem spec_ScanRecs_l0 (l : List UInt8) (hl : l.length ≤ 1048576) (f : Nat) : ∀ (p : Nat) (acc : List S37), p ≤ l.length → l.length < f + p → acc.length + f ≤ 4000000 →
    Ev (fun k => spec_ScanRecs.l0 k (mkS l) acc (p : Int)) (acc ++ (scanF f l p).1, ((scanF f l p).2 : Int)) := by
  induction f with
  | zero => intro p acc hp hf ha; omega
  | succ f ih =>
    intro p acc hp hf ha
    have hd : (l.drop p).length ≤ 562949953421311 := by rw [List.length_drop]; omega
    by_cases hend : p = l.length
    · refine evi (1) fun k hk => ?_
      obtain ⟨k, rfl⟩ : ∃ m, k = m + 1 := ⟨k - 1, by omega⟩
      simp only [spec_ScanRecs.l0]
      rw [if_neg (by rw [mkS_size]; omega), scanF_end f l p (by omega), List.append_nil]
    · obtain ⟨K1, h1⟩ := evx (spec_Unframe_ev (l.drop p) hd)
      obtain ⟨K2, h2⟩ := evx (spec_ReadRec_ev (unframeL (l.drop p)).1 (by have := unframe_len200 (l.drop p); omega))
      have hle := unframe_le (l.drop p)
      rw [List.length_drop] at hle
      by_cases hz : (unframeL (l.drop p)).2 = 0
      · refine evi (K1 + K2 + 1) fun k hk => ?_
        obtain ⟨k, rfl⟩ : ∃ m, k = m + 1 := ⟨k - 1, by omega⟩
        simp only [spec_ScanRecs.l0]
        rw [if_pos (by rw [mkS_size]; omega), if_pos (by omega), if_pos (by rw [mkS_size]; omega), Int.toNat_natCast, mkS_drop, h1 k (by omega)]
        simp only [Option.bind_some, unframeI]
        rw [h2 k (by omega)]
        simp only [Option.bind_some]
        rw [if_pos (by omega), scanF, if_pos hz, List.append_nil]
      · cases hr : (readR (unframeL (l.drop p)).1).2 with
        | false =>
          refine evi (K1 + K2 + 1) fun k hk => ?_
          obtain ⟨k, rfl⟩ : ∃ m, k = m + 1 := ⟨k - 1, by omega⟩
          simp only [spec_ScanRecs.l0]
          rw [if_pos (by rw [mkS_size]; omega), if_pos (by omega), if_pos (by rw [mkS_size]; omega), Int.toNat_natCast, mkS_drop, h1 k (by omega)]
          simp only [Option.bind_some, unframeI]
          rw [h2 k (by omega)]
          simp only [Option.bind_some, outR, hr]
          rw [if_neg (by omega), if_neg (by simp), scanF, if_neg hz, if_neg (by rw [hr]; simp), List.append_nil]
        | true =>
          obtain ⟨K, hK⟩ := evx (ih (p + (unframeL (l.drop p)).2) (acc ++ [spotOf p (unframeL (l.drop p)).2 (readR (unframeL (l.drop p)).1).1]) (by omega) (by omega) (by rw [List.length_append, List.length_singleton]; omega))
          refine evi (K + K1 + K2 + 1) fun k hk => ?_
          obtain ⟨k, rfl⟩ : ∃ m, k = m + 1 := ⟨k - 1, by omega⟩
          have hgo := hK k (by omega)
          simp only [spec_ScanRecs.l0]
          rw [if_pos (by rw [mkS_size]; omega), if_pos (by omega), if_pos (by rw [mkS_size]; omega), Int.toNat_natCast, mkS_drop, h1 k (by omega)]
          simp only [Option.bind_some, unframeI]
          rw [h2 k (by omega)]
          simp only [Option.bind_some, outR, hr]
          rw [if_neg (by omega), if_pos trivial, if_pos (by omega), w64 (by omega) (by omega), show ((p : Int) + ((unframeL (l.drop p)).2 : Int)) = ((p + (unframeL (l.drop p)).2 : Nat) : Int) from by omega, scanF, if_neg hz, if_pos hr]
          rw [List.append_assoc] at hgo
          exact hgo
theorem spec_ScanRecs_ev (l : List UInt8) (hl : l.length ≤ 1048576) : Ev (fun k => spec_ScanRecs.f k (mkS l)) ((scanL l).1, ((scanL l).2 : Int)) :=
  spec_ScanRecs_l0 l hl (l.length + 1) 0 [] (by omega) (by omega) (by simp only [List.length_nil]; omega)

theorem impl_ShowRec_e (e : S33) : Ev (fun k => impl_ShowRec.f k e.f0 e.f1 e.f2 e.f3 e.f4 e.f5) (mkS (showR (recOf e))) := by
  have := impl_ShowRec_ev e.f0 e.f1 e.f4 e.f5 e.f2.toList e.f3.toList
  rw [mkS_self, mkS_self] at this
  exact this
theorem impl_SumOf_l0 (l : List S33) (hl : l.length ≤ 1048576) (d : Nat) : ∀ (i : Nat) (acc : List UInt8), d + i = l.length → acc.length + 60 * d ≤ 100000000000 → Ev (fun k => impl_SumOf.l0 k (mkS acc) l (l.length : Int) (i : Int)) (crcS (acc ++ sumT (l.drop i)) : Int) := by
  induction d with
  | zero =>
    intro i acc hi ha
    obtain ⟨K, hK⟩ := evx (impl_Crc_ev acc (by omega))
    refine evi (K + 1) fun k hk => ?_
    obtain ⟨k, rfl⟩ : ∃ m, k = m + 1 := ⟨k - 1, by omega⟩
    simp only [impl_SumOf.l0]
    rw [if_neg (by omega), List.drop_of_length_le (by omega), hK k (by omega)]
    simp [sumT]
  | succ d ih =>
    intro i acc hi ha
    have hlt : i < l.length := by omega
    have hrd : rd_T33 l (i : Int) = l[i] := by simp [rd_T33, hlt]
    have hb := showR_len (recOf l[i])
    obtain ⟨K1, h1⟩ := evx (impl_ShowRec_e l[i])
    obtain ⟨K, hK⟩ := evx (ih (i + 1) (acc ++ showR (recOf l[i])) (by omega) (by rw [List.length_append]; omega))
    refine evi (K + K1 + 1) fun k hk => ?_
    obtain ⟨k, rfl⟩ : ∃ m, k = m + 1 := ⟨k - 1, by omega⟩
    have hgo := hK k (by omega)
    simp only [impl_SumOf.l0]
    rw [if_pos (by omega), if_pos (by omega), if_pos (by omega), hrd, h1 k (by omega)]
    simp only [Option.bind_some]
    rw [if_pos (by rw [mkS_size, mkS_size]; omega), mkS_append, w64 (by omega) (by omega), show ((i : Int) + 1) = ((i + 1 : Nat) : Int) from by omega, hgo, List.drop_eq_getElem_cons hlt, sumT_cons, List.append_assoc]
theorem impl_SumOf_ev (l : List S33) (hl : l.length ≤ 1048576) : Ev (fun k => impl_SumOf.f k l) (crcS (sumT l) : Int) := by
  have := impl_SumOf_l0 l hl l.length 0 [] rfl (by simp only [List.length_nil]; omega)
  exact this

theorem spec_ShowRec_e (e : S33) : Ev (fun k => spec_ShowRec.f k e.f0 e.f1 e.f2 e.f3 e.f4 e.f5) (mkS (showR (recOf e))) := by
  have := spec_ShowRec_ev e.f0 e.f1 e.f4 e.f5 e.f2.toList e.f3.toList
  rw [mkS_self, mkS_self] at this
  exact this
theorem spec_SumOf_l0 (l : List S33) (hl : l.length ≤ 1048576) (d : Nat) : ∀ (i : Nat) (acc : List UInt8), d + i = l.length → acc.length + 60 * d ≤ 100000000000 → Ev (fun k => spec_SumOf.l0 k l (mkS acc) (i : Int)) (crcS (acc ++ sumT (l.drop i)) : Int) := by
  induction d with
  | zero =>
    intro i acc hi ha
    obtain ⟨K, hK⟩ := evx (spec_Crc_ev acc (by omega))
    refine evi (K + 1) fun k hk => ?_
    obtain ⟨k, rfl⟩ : ∃ m, k = m + 1 := ⟨k - 1, by omega⟩
    simp only [spec_SumOf.l0]
    rw [if_neg (by omega), List.drop_of_length_le (by omega), hK k (by omega)]
    simp [sumT]
  | succ d ih =>
    intro i acc hi ha
    have hlt : i < l.length := by omega
    have hrd : rd_T33 l (i : Int) = l[i] := by simp [rd_T33, hlt]
    have hb := showR_len (recOf l[i])
    obtain ⟨K1, h1⟩ := evx (spec_ShowRec_e l[i])
    obtain ⟨K, hK⟩ := evx (ih (i + 1) (acc ++ showR (recOf l[i])) (by omega) (by rw [List.length_append]; omega))
    refine evi (K + K1 + 1) fun k hk => ?_
    obtain ⟨k, rfl⟩ : ∃ m, k = m + 1 := ⟨k - 1, by omega⟩
    have hgo := hK k (by omega)
    simp only [spec_SumOf.l0]
    rw [if_pos (by omega), if_pos (by omega), hrd, h1 k (by omega)]
    simp only [Option.bind_some]
    rw [if_pos (by rw [mkS_size, mkS_size]; omega), mkS_append, w64 (by omega) (by omega), show ((i : Int) + 1) = ((i + 1 : Nat) : Int) from by omega, hgo, List.drop_eq_getElem_cons hlt, sumT_cons, List.append_assoc]
theorem spec_SumOf_ev (l : List S33) (hl : l.length ≤ 1048576) : Ev (fun k => spec_SumOf.f k l) (crcS (sumT l) : Int) := by
  have := spec_SumOf_l0 l hl l.length 0 [] rfl (by simp only [List.length_nil]; omega)
  exact this

theorem rdP (l : List S96) (i : Nat) : rd_T96 l (i : Int) = l.getD i z96 := by simp only [rd_T96, Int.toNat_natCast]
theorem getD_lt {α : Type} {l : List α} {i : Nat} (z : α) (h : i < l.length) : l.getD i z = l[i] := by simp [h]
def fitsB (count sum : Int) (own : List S96) : Bool := decide (count = (own.length : Int)) && (sum == (crcS (sumT (own.map fun p => p.f3)) : Int))
theorem impl_fits_l0 (own : List S96) (hl : own.length ≤ 1048576) (kind b : Int) (key value : ByteArray) (count sum : Int) (d : Nat) : ∀ (i : Nat), d + i = own.length →
    Ev (fun k => impl_fits.l0 k ((own.take i).map fun p => p.f3) own (own.length : Int) (i : Int) kind b key value count sum) (fitsB count sum own) := by
  induction d with
  | zero =>
    intro i hi
    obtain ⟨K1, h1⟩ := evx (impl_SumOf_ev (own.map fun p => p.f3) (by rw [List.length_map]; omega))
    refine evi (K1 + 1) fun k hk => ?_
    obtain ⟨k, rfl⟩ : ∃ m, k = m + 1 := ⟨k - 1, by omega⟩
    simp only [impl_fits.l0]
    rw [if_neg (by omega), List.take_of_length_le (by omega), h1 k (by omega), List.length_map]
    unfold fitsB
    by_cases hc : count = (own.length : Int)
    · rw [if_pos hc, decide_eq_true hc]; simp
    · rw [if_neg hc, decide_eq_false hc]; simp
  | succ d ih =>
    intro i hi
    have hlt : i < own.length := by omega
    obtain ⟨K, hK⟩ := evx (ih (i + 1) (by omega))
    refine evi (K + 1) fun k hk => ?_
    obtain ⟨k, rfl⟩ : ∃ m, k = m + 1 := ⟨k - 1, by omega⟩
    have hgo := hK k (by omega)
    simp only [impl_fits.l0]
    rw [if_pos (by omega), if_pos (by omega), if_pos (by omega), if_pos (by rw [List.length_map, List.length_take]; omega), rdP, getD_lt _ hlt, w64 (by omega) (by omega), show ((i : Int) + 1) = ((i + 1 : Nat) : Int) from by omega]
    rw [List.take_succ_eq_append_getElem hlt, List.map_append] at hgo
    exact hgo
theorem impl_fits_ev (own : List S96) (hl : own.length ≤ 1048576) (kind b : Int) (key value : ByteArray) (count sum : Int) : Ev (fun k => impl_fits.f k kind b key value count sum own) (fitsB count sum own) :=
  impl_fits_l0 own hl kind b key value count sum own.length 0 rfl
def bigEntry (e : S99) : Prop := e.f0.size ≤ maxLen
def smallEntry (e : S99) : Prop := e.f0.size ≤ 1048576
theorem laws_szEntry_f (e : S99) (h : bigEntry e) (a : Int) (h0 : 0 ≤ a) (h1 : a ≤ 1048576) : ∃ s, laws_szEntry.f e.f0 e.f1 e.f2 e.f3 e.f4 a = some s ∧ s ≤ a ∧ (s < 0 ∨ 0 ≤ s ∧ smallEntry e) := by
  have hmax : maxLen = 9223372036854775807 := rfl
  unfold bigEntry at h
  unfold laws_szEntry.f smallEntry wrap64
  repeat' split
  all_goals refine ⟨_, rfl, by omega, by omega⟩
theorem laws_szEntryS_l0 (l : List S99) (hl : l.length ≤ 4611686018427387904) (hb : ∀ e ∈ l, bigEntry e) (d : Nat) : ∀ (i : Nat) (a : Int), d + i = l.length → 0 ≤ a → a ≤ 1048576 →
    ∃ s, Ev (fun k => laws_szEntryS.l0 k l a (i : Int)) s ∧ s ≤ a ∧ (s < 0 ∨ 0 ≤ s ∧ ∀ e ∈ l.drop i, smallEntry e) := by
  induction d with
  | zero =>
    intro i a hi h0 h1
    refine ⟨a, evi (1) (fun k hk => ?_), by omega, .inr ⟨h0, fun e he => by rw [List.drop_of_length_le (by omega)] at he; cases he⟩⟩
    obtain ⟨k, rfl⟩ : ∃ m, k = m + 1 := ⟨k - 1, by omega⟩
    simp only [laws_szEntryS.l0]
    rw [if_neg (by omega)]
  | succ d ih =>
    intro i a hi h0 h1
    have hlt : i < l.length := by omega
    have hrd : rd_T99 l (i : Int) = l[i] := by simp [rd_T99, hlt]
    obtain ⟨s, hs, hsa, hs0⟩ := laws_szEntry_f l[i] (hb _ (List.getElem_mem hlt)) a h0 h1
    by_cases hn : s < 0
    · refine ⟨-1, evi (1) (fun k hk => ?_), by omega, .inl (by omega)⟩
      obtain ⟨k, rfl⟩ : ∃ m, k = m + 1 := ⟨k - 1, by omega⟩
      simp only [laws_szEntryS.l0]
      rw [if_pos (by omega), if_pos (by omega), hrd, hs]
      simp only [Option.bind_some]
      rw [if_pos hn]
    · obtain ⟨r, hr, hra, hr0⟩ := ih (i + 1) s (by omega) (by omega) (by omega)
      obtain ⟨K, hK⟩ := evx hr
      refine ⟨r, evi (K + 1) (fun k hk => ?_), by omega, ?_⟩
      · obtain ⟨k, rfl⟩ : ∃ m, k = m + 1 := ⟨k - 1, by omega⟩
        simp only [laws_szEntryS.l0]
        rw [if_pos (by omega), if_pos (by omega), hrd, hs]
        simp only [Option.bind_some]
        rw [if_neg hn, w64 (by omega) (by omega)]
        exact hK k (by omega)
      · rcases hr0 with hr0 | ⟨hr0, hr1⟩
        · exact .inl hr0
        · refine .inr ⟨hr0, fun e he => ?_⟩
          rw [List.drop_eq_getElem_cons hlt] at he
          rcases List.mem_cons.1 he with rfl | he
          · rcases hs0 with hs0 | ⟨_, hs0⟩
            · exact absurd hs0 hn
            · exact hs0
          · exact hr1 e he
theorem laws_szEntryS_ev (l : List S99) (hl : l.length ≤ maxLen) (hb : ∀ e ∈ l, bigEntry e) (a : Int) (h0 : 0 ≤ a) (h1 : a ≤ 1048576) :
    ∃ s, Ev (fun k => laws_szEntryS.f k l a) s ∧ s ≤ a ∧ (s < 0 ∨ 0 ≤ s ∧ l.length ≤ 1048576 ∧ ∀ e ∈ l, smallEntry e) := by
  have hmax : maxLen = 9223372036854775807 := rfl
  by_cases hn : wrap64 (a - (l.length : Int)) < 0
  · refine ⟨-1, evi (0) (fun k hk => ?_), by omega, .inl (by omega)⟩
    unfold laws_szEntryS.f
    rw [if_pos hn]
  · have hle : (l.length : Int) ≤ a := by unfold wrap64 at hn; omega
    rw [w64 (by omega) (by omega)] at hn
    obtain ⟨s, hs, hsa, hs0⟩ := laws_szEntryS_l0 l (by omega) hb l.length 0 (a - (l.length : Int)) rfl (by omega) (by omega)
    obtain ⟨K, hK⟩ := evx hs
    refine ⟨s, evi (K) (fun k hk => ?_), by omega, ?_⟩
    · unfold laws_szEntryS.f
      rw [w64 (x := a - (l.length : Int)) (by omega) (by omega), if_neg hn]
      exact hK k hk
    · rcases hs0 with hs0 | ⟨hs0, hs1⟩
      · exact .inl hs0
      · exact .inr ⟨hs0, by omega, by simpa using hs1⟩

def convEntry (e : S99) : S68 := ⟨e.f0, e.f1, e.f2, e.f3, e.f4⟩
theorem laws_toEntryS_l0 (l : List S99) (hl : l.length ≤ 4611686018427387904) (d : Nat) : ∀ (i : Nat), d + i = l.length → Ev (fun k => laws_toEntryS.l0 k l ((l.map convEntry).take i ++ List.replicate (l.length - i) z68) (i : Int)) (l.map convEntry) := by
  induction d with
  | zero =>
    intro i hi
    refine evi (1) fun k hk => ?_
    obtain ⟨k, rfl⟩ : ∃ m, k = m + 1 := ⟨k - 1, by omega⟩
    simp only [laws_toEntryS.l0]
    rw [if_neg (by omega), List.take_of_length_le (by rw [List.length_map]; omega), show l.length - i = 0 from by omega, List.replicate_zero, List.append_nil]
  | succ d ih =>
    intro i hi
    have hlt : i < l.length := by omega
    have hrd : rd_T99 l (i : Int) = l[i] := by simp [rd_T99, hlt]
    obtain ⟨K, hK⟩ := evx (ih (i + 1) (by omega))
    refine evi (K + 1) fun k hk => ?_
    obtain ⟨k, rfl⟩ : ∃ m, k = m + 1 := ⟨k - 1, by omega⟩
    simp only [laws_toEntryS.l0, laws_toEntry.f, Option.bind_some]
    rw [if_pos (by omega), if_pos (by omega), if_pos (by rw [List.length_append, List.length_take, List.length_replicate, List.length_map]; omega), hrd, Int.toNat_natCast, w64 (by omega) (by omega)]
    have e : (⟨l[i].f0, l[i].f1, l[i].f2, l[i].f3, l[i].f4⟩ : S68) = convEntry l[i] := rfl
    rw [e, fill_step (l.map convEntry) z68 i l.length (convEntry l[i]) (List.length_map ..) hlt (by rw [List.getElem?_map, List.getElem?_eq_getElem hlt]; rfl)]
    exact hK k (by omega)
theorem laws_toEntryS_ev (l : List S99) (hl : l.length ≤ 1048576) : Ev (fun k => laws_toEntryS.f k l) (l.map convEntry) := by
  obtain ⟨K, hK⟩ := evx (laws_toEntryS_l0 l (by omega) l.length 0 rfl)
  refine evi (K) fun k hk => ?_
  unfold laws_toEntryS.f
  rw [if_pos (by omega), if_pos (by omega), Int.toNat_natCast]
  have := hK k hk
  rw [List.take_zero, List.nil_append, Nat.sub_zero] at this
  exact this

theorem laws_eqEntry_self (e : S68) : laws_eqEntry.f e.f0 e.f1 e.f2 e.f3 e.f4 e.f0 e.f1 e.f2 e.f3 e.f4 = some true := by
  unfold laws_eqEntry.f
  simp
theorem laws_eqEntryS_l0 (l : List S68) (hl : l.length ≤ 4611686018427387904) (d : Nat) : ∀ (i : Nat), d + i = l.length → Ev (fun k => laws_eqEntryS.l0 k l l (i : Int)) true := by
  induction d with
  | zero =>
    intro i hi
    refine evi (1) fun k hk => ?_
    obtain ⟨k, rfl⟩ : ∃ m, k = m + 1 := ⟨k - 1, by omega⟩
    simp only [laws_eqEntryS.l0]
    rw [if_neg (by omega)]
  | succ d ih =>
    intro i hi
    obtain ⟨K, hK⟩ := evx (ih (i + 1) (by omega))
    refine evi (K + 1) fun k hk => ?_
    obtain ⟨k, rfl⟩ : ∃ m, k = m + 1 := ⟨k - 1, by omega⟩
    simp only [laws_eqEntryS.l0]
    rw [if_pos (by omega), if_pos (by omega), if_pos (by omega), laws_eqEntry_self]
    simp only [Option.bind_some]
    rw [if_pos trivial, w64 (by omega) (by omega)]
    exact hK k (by omega)
theorem laws_eqEntryS_ev (l : List S68) (hl : l.length ≤ 4611686018427387904) : Ev (fun k => laws_eqEntryS.f k l l) true := by
  obtain ⟨K, hK⟩ := evx (laws_eqEntryS_l0 l hl l.length 0 rfl)
  refine evi (K) fun k hk => ?_
  unfold laws_eqEntryS.f
  rw [if_pos rfl]
  exact hK k hk

def entEq (a b : S68) : Bool := (a.f0.toList == b.f0.toList) && ((a.f1 == b.f1) && ((a.f2 == b.f2) && ((a.f3 == b.f3) && (a.f4 == b.f4))))
def entsEq (a b : List S68) (i d : Nat) : Bool := (List.range d).all fun j => entEq (a.getD (i + j) z68) (b.getD (i + j) z68)
theorem entsEq_succ (a b : List S68) (i d : Nat) : entsEq a b i (d + 1) = (entEq (a.getD i z68) (b.getD i z68) && entsEq a b (i + 1) d) := by
  unfold entsEq
  rw [List.range_succ_eq_map, List.all_cons, List.all_map]
  congr 1
  congr 1
  funext j
  simp only [Function.comp]
  rw [show i + 1 + j = i + j.succ from by omega]
theorem entNe (a b : S68) : (!(a.f0.toList == b.f0.toList) || (!(a.f1 == b.f1) || (!(a.f2 == b.f2) || (!(a.f3 == b.f3) || (!(a.f4 == b.f4)))))) = !entEq a b := by
  unfold entEq
  simp [Bool.not_and]
def sameDirB (a b : List S68) : Bool := decide (a.length = b.length) && entsEq a b 0 a.length
theorem spec_SameDir_l0 (a b : List S68) (hab : a.length = b.length) (hl : a.length ≤ 4611686018427387904) (d : Nat) : ∀ (i : Nat), d + i = a.length → Ev (fun k => spec_SameDir.l0 k a b (i : Int)) (entsEq a b i d) := by
  induction d with
  | zero =>
    intro i hi
    refine evi (1) fun k hk => ?_
    obtain ⟨k, rfl⟩ : ∃ m, k = m + 1 := ⟨k - 1, by omega⟩
    simp only [spec_SameDir.l0]
    rw [if_neg (by omega)]
    rfl
  | succ d ih =>
    intro i hi
    obtain ⟨K, hK⟩ := evx (ih (i + 1) (by omega))
    refine evi (K + 1) fun k hk => ?_
    obtain ⟨k, rfl⟩ : ∃ m, k = m + 1 := ⟨k - 1, by omega⟩
    simp only [spec_SameDir.l0]
    have h1 : rd_T68 a (i : Int) = a.getD i z68 := by simp [rd_T68]
    have h2 : rd_T68 b (i : Int) = b.getD i z68 := by simp [rd_T68]
    rw [if_pos (by omega), if_pos (by omega), if_pos (by omega), h1, h2, entNe, entsEq_succ]
    cases entEq (a.getD i z68) (b.getD i z68) with
    | false => rfl
    | true =>
      rw [if_neg (by decide), w64 (by omega) (by omega)]
      exact hK k (by omega)
theorem spec_SameDir_ev (a b : List S68) (hl : a.length ≤ 4611686018427387904) : Ev (fun k => spec_SameDir.f k a b) (sameDirB a b) := by
  unfold sameDirB
  by_cases h : a.length = b.length
  · obtain ⟨K, hK⟩ := evx (spec_SameDir_l0 a b h hl a.length 0 rfl)
    refine evi (K) fun k hk => ?_
    unfold spec_SameDir.f
    rw [if_pos (by omega), decide_eq_true h, Bool.true_and]
    exact hK k hk
  · refine evi (0) fun k hk => ?_
    unfold spec_SameDir.f
    rw [if_neg (by omega), decide_eq_false h, Bool.false_and]
theorem impl_SameDir_l0 (a b : List S68) (hab : a.length = b.length) (hl : a.length ≤ 4611686018427387904) (d : Nat) : ∀ (i : Nat), d + i = a.length → Ev (fun k => impl_SameDir.l0 k a b (a.length : Int) (i : Int)) (entsEq a b i d) := by
  induction d with
  | zero =>
    intro i hi
    refine evi (1) fun k hk => ?_
    obtain ⟨k, rfl⟩ : ∃ m, k = m + 1 := ⟨k - 1, by omega⟩
    simp only [impl_SameDir.l0]
    rw [if_neg (by omega)]
    rfl
  | succ d ih =>
    intro i hi
    obtain ⟨K, hK⟩ := evx (ih (i + 1) (by omega))
    refine evi (K + 1) fun k hk => ?_
    obtain ⟨k, rfl⟩ : ∃ m, k = m + 1 := ⟨k - 1, by omega⟩
    simp only [impl_SameDir.l0]
    have h1 : rd_T68 a (i : Int) = a.getD i z68 := by simp [rd_T68]
    have h2 : rd_T68 b (i : Int) = b.getD i z68 := by simp [rd_T68]
    rw [if_pos (by omega), if_pos (by omega), if_pos (by omega), if_pos (by omega), h1, h2, entNe, entsEq_succ]
    cases entEq (a.getD i z68) (b.getD i z68) with
    | false => rfl
    | true =>
      rw [if_neg (by decide), w64 (by omega) (by omega)]
      exact hK k (by omega)
theorem impl_SameDir_ev (a b : List S68) (hl : a.length ≤ 4611686018427387904) : Ev (fun k => impl_SameDir.f k a b) (sameDirB a b) := by
  unfold sameDirB
  by_cases h : a.length = b.length
  · obtain ⟨K, hK⟩ := evx (impl_SameDir_l0 a b h hl a.length 0 rfl)
    refine evi (K) fun k hk => ?_
    unfold impl_SameDir.f
    rw [if_pos (by omega), decide_eq_true h, Bool.true_and]
    exact hK k hk
  · refine evi (0) fun k hk => ?_
    unfold impl_SameDir.f
    rw [if_neg (by omega), decide_eq_false h, Bool.false_and]

theorem spec_DecN_l0 (m : Nat) : ∀ (u : Nat) (acc : ByteArray), u ≤ m → acc.size + u ≤ 1000000 → ∃ t, Ev (fun k => spec_Dec.l0 k (u : Int) acc false) t ∧ t.size ≤ acc.size + u := by
  induction m with
  | zero =>
    intro u acc hu ha
    refine ⟨acc, evi 1 fun k hk => ?_, by omega⟩
    obtain ⟨k, rfl⟩ : ∃ m, k = m + 1 := ⟨k - 1, by omega⟩
    rw [spec_Dec.l0, if_pos (by omega), if_neg (by simp)]
  | succ m ih =>
    intro u acc hu ha
    by_cases h0 : u = 0
    · refine ⟨acc, evi 1 fun k hk => ?_, by omega⟩
      obtain ⟨k, rfl⟩ : ∃ m, k = m + 1 := ⟨k - 1, by omega⟩
      rw [spec_Dec.l0, if_pos (by omega), if_neg (by simp)]
    · have hs : (strOfNums [(wrap64 (48 + (Int.tmod (u : Int) 10))) % 256]).size = 1 := by rw [strOfNums_size]; rfl
      obtain ⟨t, hE, ht⟩ := ih (u / 10) (strOfNums [(wrap64 (48 + (Int.tmod (u : Int) 10))) % 256] ++ acc) (by omega) (by rw [ByteArray.size_append, hs]; omega)
      rw [ByteArray.size_append, hs] at ht
      obtain ⟨K, hK⟩ := evx hE
      refine ⟨t, evi (K + 1) fun k hk => ?_, by omega⟩
      obtain ⟨k, rfl⟩ : ∃ m, k = m + 1 := ⟨k - 1, by omega⟩
      have hm : Int.tmod (u : Int) 10 = ((u % 10 : Nat) : Int) := by rw [tmodp (by omega)]; omega
      have hd : wrap64 (Int.tdiv (u : Int) 10) = ((u / 10 : Nat) : Int) := by rw [tdivp (by omega), w64 (by omega) (by omega)]; omega
      rw [spec_Dec.l0, if_neg (by omega), if_neg (by rw [hm]; omega)]
      simp only [Option.bind_some]
      rw [if_pos (by rw [hs]; omega), hd]
      exact hK k (by omega)
theorem spec_SegName_in (id : Int) (h : 1 ≤ id ∧ id ≤ 100000) : ∃ t : ByteArray, Ev (fun k => spec_SegName.f k id) t ∧ (t.toList == ([] : List UInt8)) = false := by
  obtain ⟨u, rfl⟩ := Int.eq_ofNat_of_zero_le (show 0 ≤ id by omega)
  obtain ⟨t, hE, ht⟩ := spec_DecN_l0 u u (⟨#[]⟩ : ByteArray) (by omega) (by simp only [ByteArray.size]; simp; omega)
  obtain ⟨K, hK⟩ := evx hE
  have hz : (⟨#[]⟩ : ByteArray).size = 0 := rfl
  have h3 : (⟨#[115, 101, 103]⟩ : ByteArray).size = 3 := rfl
  refine ⟨(⟨#[115, 101, 103]⟩ : ByteArray) ++ t, evi K fun k hk => ?_, ?_⟩
  · unfold spec_SegName.f spec_l1In.f spec_Dec.f
    rw [if_pos (by omega)]
    simp only [Option.bind_some]
    rw [if_pos (by simpa using h.2), if_neg (by omega), decide_eq_false (by omega), hK k hk]
    simp only [Option.bind_some]
    rw [if_pos (by omega)]
  · obtain ⟨l, rfl⟩ := exS t
    rw [show (⟨#[115, 101, 103]⟩ : ByteArray) = mkS [115, 101, 103] from rfl, mkS_append, mkS_toList]
    rfl
theorem spec_SegName_out (id : Int) (h : ¬ (1 ≤ id ∧ id ≤ 100000)) (k : Nat) : spec_SegName.f k id = some (⟨#[]⟩ : ByteArray) := by
  unfold spec_SegName.f spec_l1In.f
  by_cases h1 : id ≥ 1
  · rw [if_pos h1]
    simp only [Option.bind_some]
    rw [if_neg (by simp; omega)]
  · rw [if_neg h1]
    simp

theorem rdSp (l : List S37) (i : Nat) : rd_T37 l (i : Int) = l.getD i z37 := by simp only [rd_T37, Int.toNat_natCast]

def keepAt (mark : Int) (l : List S37) (i : Nat) : Bool := decide ((l.getD i z37).f2.f0 = 4) && (decide ((l.getD i z37).f2.f1 ≤ mark) && (decide (i = 0) || Go.Op.bytesLess (l.getD (i - 1) z37).f2.f2.toList (l.getD i z37).f2.f2.toList))
def keepFrom (mark : Int) (l : List S37) : Nat → Nat → Bool
  | 0, _ => true
  | d + 1, i => keepAt mark l i && keepFrom mark l d (i + 1)
def entOf (id : Int) (s : S37) : S68 := ⟨s.f2.f2, id, s.f0, s.f1, s.f2.f1⟩
abbrev HintR := Int × Int × List S68 × Bool
def zeroH : HintR := (0, 0, ([] : List S68), false)
def fitsR (l : List S37) (n : Nat) : Bool := decide ((l.getD n z37).f2.f4 = (n : Int)) && ((l.getD n z37).f2.f5 == (crcS (sumT ((l.take n).map fun s => s.f2)) : Int))
def hintG (id : Int) (len : Nat) (l : List S37) (e : Nat) : HintR :=
  if (l ≠ [] ∧ e = len) ∧ (1 ≤ id ∧ id ≤ 100000) ∧ (l.getD (l.length - 1) z37).f2.f0 = 5 ∧ fitsR l (l.length - 1) = true ∧ keepFrom (l.getD (l.length - 1) z37).f2.f1 l (l.length - 1) 0 = true
  then ((len : Int), (l.getD (l.length - 1) z37).f2.f1, (l.take (l.length - 1)).map (entOf id), true) else zeroH
theorem hintG_len (id : Int) (len : Nat) (l : List S37) (e : Nat) : (hintG id len l e).2.2.1.length ≤ l.length := by
  unfold hintG
  split
  · simp only [List.length_map, List.length_take]; omega
  · simp [zeroH]
theorem impl_placed_l0 (id : Int) (l : List S37) (hl : l.length ≤ 1048577) (d : Nat) : ∀ (i : Nat), d + i = l.length →
    Ev (fun k => impl_placed.l0 k id ((l.take i).map fun s => (⟨id, s.f0, s.f1, s.f2⟩ : S96)) l (l.length : Int) (i : Int)) (l.map fun s => (⟨id, s.f0, s.f1, s.f2⟩ : S96)) := by
  induction d with
  | zero =>
    intro i hi
    refine evi (1) fun k hk => ?_
    obtain ⟨k, rfl⟩ : ∃ m, k = m + 1 := ⟨k - 1, by omega⟩
    simp only [impl_placed.l0]
    rw [if_neg (by omega), List.take_of_length_le (by omega)]
  | succ d ih =>
    intro i hi
    have hlt : i < l.length := by omega
    obtain ⟨K, hK⟩ := evx (ih (i + 1) (by omega))
    refine evi (K + 1) fun k hk => ?_
    obtain ⟨k, rfl⟩ : ∃ m, k = m + 1 := ⟨k - 1, by omega⟩
    have hgo := hK k (by omega)
    simp only [impl_placed.l0]
    rw [if_pos (by omega), if_pos (by omega), if_pos (by omega), if_pos (by rw [List.length_map, List.length_take]; omega), rdSp, getD_lt _ hlt, w64 (by omega) (by omega), show ((i : Int) + 1) = ((i + 1 : Nat) : Int) from by omega]
    rw [List.take_succ_eq_append_getElem hlt, List.map_append] at hgo
    exact hgo
theorem impl_placed_ev (id : Int) (l : List S37) (hl : l.length ≤ 1048577) : Ev (fun k => impl_placed.f k id l) (l.map fun s => (⟨id, s.f0, s.f1, s.f2⟩ : S96)) := impl_placed_l0 id l hl l.length 0 rfl
theorem getD_take {α : Type} (l : List α) (z : α) {i n : Nat} (h : i < n) : (l.take n).getD i z = l.getD i z := by simp [List.getD, h]
theorem map_take_succ (id : Int) (l : List S37) (n i : Nat) (h : i < n) (hn : n ≤ l.length) : ((l.take n).drop i).map (entOf id) = entOf id (l.getD i z37) :: ((l.take n).drop (i + 1)).map (entOf id) := by
  rw [List.drop_eq_getElem_cons (by rw [List.length_take]; omega), List.map_cons, List.getElem_take, getD_lt _ (by omega)]
theorem impl_HintOf_l0 (id : Int) (l : List S37) (n : Nat) (hn : n + 1 = l.length) (hl : l.length ≤ 1048577) (size mark : Int) (d : Nat) : ∀ (i : Nat) (acc : List S68), d + i = n → acc.length + d ≤ 4000000 →
    Ev (fun k => impl_HintOf.l0 k id l (l.take n) (n : Int) (i : Int) size mark acc) (if keepFrom mark l d i = true then (size, mark, acc ++ ((l.take n).drop i).map (entOf id), true) else zeroH) := by
  induction d with
  | zero =>
    intro i acc hi ha
    refine evi (1) fun k hk => ?_
    obtain ⟨k, rfl⟩ : ∃ m, k = m + 1 := ⟨k - 1, by omega⟩
    simp only [impl_HintOf.l0]
    rw [if_neg (by omega), keepFrom, if_pos rfl, List.drop_of_length_le (by rw [List.length_take]; omega), List.map_nil, List.append_nil]
  | succ d ih =>
    intro i acc hi ha
    obtain ⟨K, hK⟩ := evx (ih (i + 1) (acc ++ [entOf id (l.getD i z37)]) (by omega) (by rw [List.length_append, List.length_singleton]; omega))
    refine evi (K + 2) fun k hk => ?_
    obtain ⟨k, rfl⟩ : ∃ m, k = m + 2 := ⟨k - 2, by omega⟩
    have hgo := hK k (by omega)
    rw [map_take_succ id l n i (by omega) (by omega), keepFrom]
    rw [List.append_assoc, List.singleton_append] at hgo
    have hlt : (l.take n).length = n := by rw [List.length_take]; omega
    rw [show k + 2 = (k + 1) + 1 from rfl, impl_HintOf.l0]
    simp only [impl_HintOf.j2]
    rw [if_pos (by omega), if_pos (by omega), if_pos (by omega), rdSp, getD_take l z37 (show i < n by omega), if_pos (show acc.length < 2932031007402 by omega)]
    rw [w64 (x := (i : Int) + 1) (by omega) (by omega), show ((i : Int) + 1) = ((i + 1 : Nat) : Int) from by omega]
    have hgo' : impl_HintOf.l0 k id l (l.take n) (n : Int) ((i + 1 : Nat) : Int) size mark (acc ++ [(⟨(l.getD i z37).f2.f2, id, (l.getD i z37).f0, (l.getD i z37).f1, (l.getD i z37).f2.f1⟩ : S68)]) = _ := hgo
    rw [hgo']
    unfold keepAt
    have h2 : i ≠ 0 → rd_T37 l (wrap64 ((i : Int) - 1)) = l.getD (i - 1) z37 := fun hi0 => by
      rw [w64 (by omega) (by omega), show ((i : Int) - 1) = ((i - 1 : Nat) : Int) from by omega, rdSp]
    have e1 : i ≠ 0 → 0 ≤ wrap64 ((i : Int) - 1) := fun hi0 => by rw [w64 (by omega) (by omega)]; omega
    have e2 : i ≠ 0 → wrap64 ((i : Int) - 1) < (l.length : Int) := fun hi0 => by rw [w64 (by omega) (by omega)]; omega
    generalize keepFrom mark l d (i + 1) = kf
    generalize l.getD i z37 = e
    generalize l.getD (i - 1) z37 = p at h2
    clear hgo hgo' hK ih
    by_cases c1 : e.f2.f0 = 4
    · by_cases c2 : e.f2.f1 > mark
      · have c2' : ¬ e.f2.f1 ≤ mark := by omega
        simp [c1, c2, c2', zeroH]
      · have c2' : e.f2.f1 ≤ mark := by omega
        by_cases c5 : i = 0
        · subst c5
          simp [c1, c2, c2']
        · have c6 : (i : Int) > 0 := by omega
          rw [if_pos c1, if_neg c2, if_pos c6, h2 c5, if_pos (e1 c5), if_pos (e2 c5)]
          cases Go.Op.bytesLess p.f2.f2.toList e.f2.f2.toList <;> simp [c1, c2', c5, zeroH]
    · simp [c1, zeroH]
theorem spec_HintOf_l0 (id : Int) (l : List S37) (n : Nat) (hn : n + 1 = l.length) (hl : l.length ≤ 1048577) (size mark : Int) (d : Nat) : ∀ (i : Nat) (acc : List S68), d + i = n → acc.length + d ≤ 4000000 →
    Ev (fun k => spec_HintOf.l0 k id l ((l.take i).map fun s => s.f2) (i : Int) size mark acc) (if fitsR l n = true ∧ keepFrom mark l d i = true then (size, mark, acc ++ ((l.take n).drop i).map (entOf id), true) else zeroH) := by
  induction d with
  | zero =>
    intro i acc hi ha
    have hin : i = n := by omega
    subst hin
    obtain ⟨K, hK⟩ := evx (spec_SumOf_ev ((l.take i).map fun s => s.f2) (by rw [List.length_map, List.length_take]; omega))
    refine evi (K + 1) fun k hk => ?_
    obtain ⟨k, rfl⟩ : ∃ m, k = m + 1 := ⟨k - 1, by omega⟩
    have hw : wrap64 ((l.length : Int) - 1) = (i : Int) := by rw [w64 (by omega) (by omega)]; omega
    simp only [spec_HintOf.l0]
    rw [w64 (x := (i : Int) + 1) (by omega) (by omega), if_neg (by omega), hw, if_pos (by omega), if_pos (by omega), rdSp, hK k (by omega)]
    simp only [Option.bind_some]
    rw [List.drop_of_length_le (by rw [List.length_take]; omega), List.map_nil, List.append_nil, keepFrom]
    unfold fitsR
    rw [show (((l.take i).map fun s => s.f2).length : Int) = (i : Int) from by rw [List.length_map, List.length_take]; omega]
    by_cases c1 : (l.getD i z37).f2.f4 = (i : Int)
    · by_cases c2 : (l.getD i z37).f2.f5 = (crcS (sumT ((l.take i).map fun s => s.f2)) : Int)
      · rw [if_pos c1, if_pos c2, if_pos ⟨by rw [decide_eq_true c1, c2]; simp, rfl⟩]
      · rw [if_pos c1, if_neg c2, if_neg (by rintro ⟨h, _⟩; simp only [Bool.and_eq_true, beq_iff_eq] at h; exact c2 h.2)]; rfl
    · rw [if_neg c1, if_neg (by rintro ⟨h, _⟩; simp only [Bool.and_eq_true, decide_eq_true_eq] at h; exact c1 h.1)]; rfl
  | succ d ih =>
    intro i acc hi ha
    obtain ⟨K, hK⟩ := evx (ih (i + 1) (acc ++ [entOf id (l.getD i z37)]) (by omega) (by rw [List.length_append, List.length_singleton]; omega))
    refine evi (K + 2) fun k hk => ?_
    obtain ⟨k, rfl⟩ : ∃ m, k = m + 2 := ⟨k - 2, by omega⟩
    have hgo := hK k (by omega)
    have hlt : i < l.length := by omega
    rw [map_take_succ id l n i (by omega) (by omega), keepFrom]
    rw [List.append_assoc, List.singleton_append, List.take_succ_eq_append_getElem hlt, List.map_append, ← getD_lt z37 hlt] at hgo
    rw [show k + 2 = (k + 1) + 1 from rfl, spec_HintOf.l0]
    simp only [spec_HintOf.j2]
    rw [w64 (x := (i : Int) + 1) (by omega) (by omega), if_pos (by omega), if_pos (by omega), if_pos (by omega), rdSp, if_pos (show acc.length < 2932031007402 by omega), if_pos (show (((l.take i).map fun s => s.f2).length) < 2199023255552 by rw [List.length_map, List.length_take]; omega), if_pos (show (0 : Int) ≤ (i : Int) by omega), if_pos (show (i : Int) < (l.length : Int) by omega)]
    rw [show ((i : Int) + 1) = ((i + 1 : Nat) : Int) from by omega]
    have hgo' : spec_HintOf.l0 k id l (((l.take i).map fun s => s.f2) ++ [(⟨(l.getD i z37).f2.f0, (l.getD i z37).f2.f1, (l.getD i z37).f2.f2, (l.getD i z37).f2.f3, (l.getD i z37).f2.f4, (l.getD i z37).f2.f5⟩ : S33)]) ((i + 1 : Nat) : Int) size mark (acc ++ [(⟨(l.getD i z37).f2.f2, id, (l.getD i z37).f0, (l.getD i z37).f1, (l.getD i z37).f2.f1⟩ : S68)]) = _ := hgo
    rw [hgo']
    unfold keepAt
    have h2 : i ≠ 0 → rd_T37 l (wrap64 ((i : Int) - 1)) = l.getD (i - 1) z37 := fun hi0 => by
      rw [w64 (by omega) (by omega), show ((i : Int) - 1) = ((i - 1 : Nat) : Int) from by omega, rdSp]
    have e1 : i ≠ 0 → 0 ≤ wrap64 ((i : Int) - 1) := fun hi0 => by rw [w64 (by omega) (by omega)]; omega
    have e2 : i ≠ 0 → wrap64 ((i : Int) - 1) < (l.length : Int) := fun hi0 => by rw [w64 (by omega) (by omega)]; omega
    generalize keepFrom mark l d (i + 1) = kf
    generalize l.getD i z37 = e
    generalize l.getD (i - 1) z37 = p at h2
    clear hgo hgo' hK ih
    by_cases c1 : e.f2.f0 = 4
    · by_cases c2 : e.f2.f1 > mark
      · have c2' : ¬ e.f2.f1 ≤ mark := by omega
        simp [c1, c2, c2', zeroH]
      · have c2' : e.f2.f1 ≤ mark := by omega
        by_cases c5 : i = 0
        · subst c5
          simp [c1, c2, c2']
        · have c6 : (i : Int) > 0 := by omega
          rw [if_pos c1, if_neg c2, if_pos c6, h2 c5, if_pos (e1 c5), if_pos (e2 c5)]
          cases Go.Op.bytesLess p.f2.f2.toList e.f2.f2.toList <;> simp [c1, c2', c5, zeroH]
    · simp [c1, zeroH]

theorem fitsB_placed (id : Int) (l : List S37) (n : Nat) (hn : n ≤ l.length) : fitsB (l.getD n z37).f2.f4 (l.getD n z37).f2.f5 ((l.take n).map fun s => (⟨id, s.f0, s.f1, s.f2⟩ : S96)) = fitsR l n := by
  unfold fitsB fitsR
  rw [List.length_map, List.length_take, show (((min n l.length : Nat) : Int)) = (n : Int) from by omega, List.map_map]
  rfl
theorem impl_HintOf_ev (id : Int) (l : List UInt8) (hl : l.length ≤ 1048576) : Ev (fun k => impl_HintOf.f k id (mkS l)) (hintG id l.length (scanL l).1 (scanL l).2) := by
  obtain ⟨K1, h1⟩ := evx (impl_ScanRecs_ev l hl)
  have hlen : (scanL l).1.length ≤ 1048577 := by have := scanF_len (l.length + 1) l 0; unfold scanL; omega
  generalize scanL l = c at *
  obtain ⟨sp, e⟩ := c
  simp only at *
  cases hsp : sp with
  | nil =>
    subst hsp
    refine evi (K1 + 1) fun k hk => ?_
    obtain ⟨k, rfl⟩ : ∃ m, k = m + 1 := ⟨k - 1, by omega⟩
    rw [show hintG id l.length [] e = zeroH from by unfold hintG; exact if_neg (fun h => h.1.1 rfl)]
    unfold impl_HintOf.f
    rw [h1 _ (by omega)]
    simp only [Option.bind_some]
    rw [if_pos (by rw [List.length_nil, w64 (by omega) (by omega)]; omega)]
    simp only [impl_HintOf.j0]
    rw [if_pos trivial]
    rfl
  | cons s0 t0 =>
    have hn : ∃ n, n + 1 = sp.length := ⟨t0.length, by rw [hsp]; rfl⟩
    have hne : sp ≠ [] := by rw [hsp]; simp
    rw [← hsp]
    clear hsp
    obtain ⟨n, hn⟩ := hn
    obtain ⟨K2, h2⟩ := evx (impl_placed_ev id (sp.take n) (by rw [List.length_take]; omega))
    obtain ⟨K3, h3⟩ := evx (impl_fits_ev ((sp.take n).map fun s => (⟨id, s.f0, s.f1, s.f2⟩ : S96)) (by rw [List.length_map, List.length_take]; omega) (sp.getD n z37).f2.f0 (sp.getD n z37).f2.f1 (sp.getD n z37).f2.f2 (sp.getD n z37).f2.f3 (sp.getD n z37).f2.f4 (sp.getD n z37).f2.f5)
    obtain ⟨K4, h4⟩ := evx (impl_HintOf_l0 id sp n hn (by omega) (e : Int) (sp.getD n z37).f2.f1 n 0 [] rfl (by simp only [List.length_nil]; omega))
    rw [fitsB_placed id sp n (by omega)] at h3
    have hw : wrap64 ((sp.length : Int) - 1) = (n : Int) := by rw [w64 (by omega) (by omega)]; omega
    have hn1 : sp.length - 1 = n := by omega
    have htl : (sp.take n).length = n := by rw [List.length_take]; omega
    refine evi (K1 + K2 + K3 + K4 + 1) fun k hk => ?_
    have f1 := h1 k (by omega)
    have f2 := h2 k (by omega)
    have f3 := h3 k (by omega)
    have j0f : ∀ x y : Int, impl_HintOf.j0 k id sp x y true = some zeroH := fun x y => by
      obtain ⟨k, rfl⟩ : ∃ m, k = m + 1 := ⟨k - 1, by omega⟩
      rw [impl_HintOf.j0, if_pos rfl]
      rfl
    have j0t : impl_HintOf.j0 k id sp (e : Int) (n : Int) false = some (if keepFrom (sp.getD n z37).f2.f1 sp n 0 = true then ((e : Int), (sp.getD n z37).f2.f1, (sp.take n).map (entOf id), true) else zeroH) := by
      obtain ⟨k, rfl⟩ : ∃ m, k = m + 1 := ⟨k - 1, by omega⟩
      have f4 := h4 k (by omega)
      rw [List.drop_zero, List.nil_append] at f4
      rw [impl_HintOf.j0, if_neg (by simp), if_pos (by omega), if_pos (by omega), if_pos (by omega), Int.toNat_natCast]
      simp only [Option.bind_some]
      rw [htl, rdSp]
      exact f4
    unfold impl_HintOf.f hintG impl_in.f
    rw [f1]
    simp only [Option.bind_some]
    rw [hw, rdSp, hn1, mkS_size, Int.toNat_natCast, if_neg (by omega)]
    by_cases c1 : e = l.length
    · rw [if_pos (by omega)]
      by_cases c2 : 1 ≤ id
      · rw [if_pos c2]
        simp only [Option.bind_some]
        by_cases c3 : id ≤ 100000
        · rw [if_pos (decide_eq_true c3), if_pos (by omega), if_pos (by omega)]
          by_cases c4 : (sp.getD n z37).f2.f0 = 5
          · rw [if_pos c4, if_pos (by omega), f2]
            simp only [Option.bind_some]
            rw [f3]
            simp only [Option.bind_some]
            cases c5 : fitsR sp n with
            | true =>
              rw [show (!true) = false from rfl, j0t, c1]
              by_cases c6 : keepFrom (sp.getD n z37).f2.f1 sp n 0 = true
              · rw [if_pos c6, if_pos ⟨⟨hne, rfl⟩, ⟨c2, c3⟩, c4, rfl, c6⟩]
              · rw [if_neg c6, if_neg (fun h => c6 h.2.2.2.2)]
            | false =>
              rw [show (!false) = true from rfl, j0f, if_neg (fun h => absurd h.2.2.2.1 (by simp))]
          · rw [if_neg c4, j0f, if_neg (fun h => c4 h.2.2.1)]
        · rw [if_neg (by simpa using c3), j0f, if_neg (fun h => c3 h.2.1.2)]
      · rw [if_neg c2]
        simp only [Option.bind_some]
        rw [if_neg (by simp), j0f, if_neg (fun h => c2 h.2.1.1)]
    · rw [if_neg (by omega), j0f, if_neg (fun h => c1 h.1.2)]
theorem spec_HintOf_ev (id : Int) (l : List UInt8) (hl : l.length ≤ 1048576) : Ev (fun k => spec_HintOf.f k id (mkS l)) (hintG id l.length (scanL l).1 (scanL l).2) := by
  obtain ⟨K1, h1⟩ := evx (spec_ScanRecs_ev l hl)
  have hlen : (scanL l).1.length ≤ 1048577 := by have := scanF_len (l.length + 1) l 0; unfold scanL; omega
  generalize scanL l = c at *
  obtain ⟨sp, e⟩ := c
  simp only at *
  cases hsp : sp with
  | nil =>
    subst hsp
    refine evi (K1 + 1) fun k hk => ?_
    obtain ⟨k, rfl⟩ : ∃ m, k = m + 1 := ⟨k - 1, by omega⟩
    rw [show hintG id l.length [] e = zeroH from by unfold hintG; exact if_neg (fun h => h.1.1 rfl)]
    unfold spec_HintOf.f
    rw [h1 _ (by omega)]
    simp only [Option.bind_some]
    by_cases c1 : (e : Int) = ((mkS l).size : Int)
    · rw [if_pos c1, if_pos (by simp)]
      simp only [spec_HintOf.j0]
      rw [if_pos trivial]
      rfl
    · rw [if_neg c1]
      simp only [spec_HintOf.j0]
      rw [if_pos trivial]
      rfl
  | cons s0 t0 =>
    have hn : ∃ n, n + 1 = sp.length := ⟨t0.length, by rw [hsp]; rfl⟩
    have hne : sp ≠ [] := by rw [hsp]; simp
    rw [← hsp]
    clear hsp
    obtain ⟨n, hn⟩ := hn
    obtain ⟨K4, h4⟩ := evx (spec_HintOf_l0 id sp n hn (by omega) (l.length : Int) (sp.getD n z37).f2.f1 n 0 [] rfl (by simp only [List.length_nil]; omega))
    have hseg : ∃ t : ByteArray, Ev (fun k => spec_SegName.f k id) t ∧ (t.toList == ([] : List UInt8)) = !(decide (1 ≤ id ∧ id ≤ 100000)) := by
      by_cases h : 1 ≤ id ∧ id ≤ 100000
      · obtain ⟨t, hE, ht⟩ := spec_SegName_in id h
        exact ⟨t, hE, by rw [ht, decide_eq_true h]; rfl⟩
      · exact ⟨_, evi 0 (fun k _ => spec_SegName_out id h k), by rw [decide_eq_false h, show (⟨#[]⟩ : ByteArray) = mkS [] from rfl, mkS_toList]; rfl⟩
    obtain ⟨t, hE, ht⟩ := hseg
    obtain ⟨K5, h5⟩ := evx hE
    have hw : wrap64 ((sp.length : Int) - 1) = (n : Int) := by rw [w64 (by omega) (by omega)]; omega
    have hn1 : sp.length - 1 = n := by omega
    refine evi (K1 + K4 + K5 + 1) fun k hk => ?_
    have f1 := h1 k (by omega)
    have f5 := h5 k (by omega)
    have j0f : spec_HintOf.j0 k id (mkS l) sp true = some zeroH := by
      obtain ⟨k, rfl⟩ : ∃ m, k = m + 1 := ⟨k - 1, by omega⟩
      rw [spec_HintOf.j0, if_pos rfl]
      rfl
    have j0t : spec_HintOf.j0 k id (mkS l) sp false = some (if fitsR sp n = true ∧ keepFrom (sp.getD n z37).f2.f1 sp n 0 = true then ((l.length : Int), (sp.getD n z37).f2.f1, (sp.take n).map (entOf id), true) else zeroH) := by
      obtain ⟨k, rfl⟩ : ∃ m, k = m + 1 := ⟨k - 1, by omega⟩
      have f4 := h4 k (by omega)
      rw [List.drop_zero, List.nil_append, List.take_zero, List.map_nil] at f4
      rw [spec_HintOf.j0, if_neg (by simp), hw, if_pos (by omega), if_pos (by omega), rdSp, mkS_size]
      exact f4
    unfold spec_HintOf.f hintG
    rw [f1]
    simp only [Option.bind_some]
    rw [hw, rdSp, hn1, mkS_size]
    by_cases c1 : e = l.length
    · rw [if_pos (by omega), if_neg (by omega), if_pos (by omega), if_pos (by omega)]
      by_cases c4 : (sp.getD n z37).f2.f0 = 5
      · rw [if_pos c4, f5]
        simp only [Option.bind_some]
        rw [ht]
        by_cases c2 : 1 ≤ id ∧ id ≤ 100000
        · rw [decide_eq_true c2, show (!true) = false from rfl, j0t]
          by_cases c6 : fitsR sp n = true ∧ keepFrom (sp.getD n z37).f2.f1 sp n 0 = true
          · rw [if_pos c6, if_pos ⟨⟨hne, c1⟩, c2, c4, c6⟩]
          · rw [if_neg c6, if_neg (fun h => c6 h.2.2.2)]
        · rw [decide_eq_false c2, show (!false) = true from rfl, j0f, if_neg (fun h => c2 h.2.1)]
      · rw [if_neg c4, j0f, if_neg (fun h => c4 h.2.2.1)]
    · rw [if_neg (by omega), j0f, if_neg (fun h => c1 h.1.2)]



/-! ### the law -/
theorem FnExactHintFits : laws_FnExactHintFits.Pure := by
  intro id t size mark a hid ht h1 h2 ha
  by_cases hb : (t.size : Int) > 1048576
  · exact ⟨0, by unfold laws_FnExactHintFits.f; rw [if_pos hb]⟩
  obtain ⟨l, rfl⟩ := exS t
  have hb' := hb
  rw [mkS_size] at hb'
  have big : ∀ e ∈ a, bigEntry e := fun e he => (ha.2 e he).1
  obtain ⟨s, hs, hs1, hs2⟩ := laws_szEntryS_ev a ha.1 big 1048576 (by omega) (by omega)
  obtain ⟨K1, h1⟩ := evx hs
  have szr : ∀ k, K1 ≤ k → laws_szHint.f k size mark a 1048576 = some (if s < 0 then -1 else s) := by
    intro k hk
    unfold laws_szHint.f
    rw [h1 k hk]
    simp only [Option.bind_some]
    split <;> rfl
  by_cases hn : s < 0
  · exact ⟨K1, by unfold laws_FnExactHintFits.f; rw [if_neg hb, szr _ (by omega), if_pos hn]; rfl⟩
  · have la : a.length ≤ 1048576 := by omega
    obtain ⟨K3, h3⟩ := evx (laws_toEntryS_ev a la)
    have lb : (a.map convEntry).length = a.length := List.length_map ..
    generalize a.map convEntry = b at *
    obtain ⟨K5, h5⟩ := evx (spec_HintOf_ev id l (by omega))
    obtain ⟨K6, h6⟩ := evx (impl_HintOf_ev id l (by omega))
    have hlen : (hintG id l.length (scanL l).1 (scanL l).2).2.2.1.length ≤ 1048577 := by
      have := scanF_len (l.length + 1) l 0
      have := hintG_len id l.length (scanL l).1 (scanL l).2
      unfold scanL at *
      omega
    generalize hintG id l.length (scanL l).1 (scanL l).2 = c at *
    obtain ⟨c1, c2, c3, c4⟩ := c
    simp only at *
    obtain ⟨K7, h7⟩ := evx (laws_eqEntryS_ev b (by omega))
    obtain ⟨K8, h8⟩ := evx (spec_SameDir_ev c3 b (by omega))
    obtain ⟨K9, h9⟩ := evx (impl_SameDir_ev c3 b (by omega))
    generalize hK : K1 + K3 + K5 + K6 + K7 + K8 + K9 = K
    refine ⟨K, ?_⟩
    have a3 := h3 K (by omega)
    have a5 := h5 K (by omega)
    have a6 := h6 K (by omega)
    have a7 := h7 K (by omega)
    have a8 := h8 K (by omega)
    have a9 := h9 K (by omega)
    have sf : spec_HintFits.f K id (mkS l) size mark b = some (c4 && (decide (c1 = size) && (decide (c2 = mark) && sameDirB c3 b))) := by
      unfold spec_HintFits.f
      rw [a5]
      simp only [Option.bind_some]
      cases c4 with
      | false => simp
      | true =>
        by_cases d1 : c1 = size
        · by_cases d2 : c2 = mark
          · rw [if_pos rfl, if_pos d1, if_pos d2, a8]; simp [d1, d2]
          · simp [d1, d2]
        · simp [d1]
    have jf : impl_HintFits.f K id (mkS l) size mark b = some (c4 && (decide (c1 = size) && (decide (c2 = mark) && sameDirB c3 b))) := by
      unfold impl_HintFits.f
      rw [a6]
      simp only [Option.bind_some]
      cases c4 with
      | false => simp
      | true =>
        by_cases d1 : c1 = size
        · by_cases d2 : c2 = mark
          · rw [if_pos rfl, if_pos d1, if_pos d2, a9]; simp [d1, d2]
          · simp [d1, d2]
        · simp [d1]
    unfold laws_FnExactHintFits.f
    rw [if_neg hb, szr K (by omega)]
    simp only [Option.bind_some, if_neg hn, laws_toHint.f]
    rw [a3]
    simp only [Option.bind_some]
    rw [sf]
    simp only [Option.bind_some]
    rw [jf]
    simp only [Option.bind_some, bne_self_eq_false, Bool.false_eq_true, if_false, laws_eqHint.f, if_true]
    rw [a7]
    simp only [Option.bind_some, if_true]

end Go.Proofs.Ytnjmehiploelnaa.Pure
