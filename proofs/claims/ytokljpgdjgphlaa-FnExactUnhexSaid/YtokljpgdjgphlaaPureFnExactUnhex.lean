/- The pure statement of the law FnExactUnhex: for all arguments within the printed bounds the printed function of the law answers true. Conditions: only the bounds that the printed statement itself names. -/
import Derived.Test.YtokljpgdjgphlaaPFnExactUnhexx1
namespace Go.Proofs.Ytokljpgdjgphlaa.Pure
open Go.RowKit Go.Proofs.Ytokljpgdjgphlaa.PFnExactUnhex Go.Proofs.YtokljpgdjgphlaaW.PrintWords Go.Proofs.YtokljpgdjgphlaaW.PrintLast
set_option linter.unusedVariables false
set_option linter.unusedSimpArgs false

/-! ### Base: strings as lists of bytes, arithmetic of Go's ints -/
/-- The string of a list of bytes. -/
def mkS (l : List UInt8) : ByteArray := ⟨l.toArray⟩
theorem exS (s : ByteArray) : ∃ l, s = mkS l := ⟨s.data.toList, by cases s; simp [mkS]⟩
theorem mkS_size (l : List UInt8) : (mkS l).size = l.length := by simp [mkS, ByteArray.size]
theorem mkS_inj {a b : List UInt8} : mkS a = mkS b ↔ a = b := by
  constructor
  · intro h; have := congrArg (fun s : ByteArray => s.data.toList) h; simpa [mkS] using this
  · intro h; rw [h]
theorem toList_data (s : ByteArray) : s.toList = s.data.toList := by
  have key : ∀ (n i : Nat) (r : List UInt8), s.size - i = n → ByteArray.toList.loop s i r = r.reverse ++ s.data.toList.drop i := by
    intro n
    induction n with
    | zero =>
      intro i r h
      unfold ByteArray.toList.loop
      rw [if_neg (by omega), List.drop_of_length_le (by simp only [Array.length_toList]; have : s.size = s.data.size := rfl; omega), List.append_nil]
    | succ n ih =>
      intro i r h
      unfold ByteArray.toList.loop
      have hi : i < s.data.toList.length := by simp only [Array.length_toList]; have : s.size = s.data.size := rfl; omega
      rw [if_pos (by omega), ih (i + 1) _ (by omega), List.reverse_cons, List.append_assoc, List.drop_eq_getElem_cons hi]
      have : s.get! i = s.data.toList[i] := by
        show s.data[i]! = _
        rw [Array.getElem_toList]
        exact getElem!_pos s.data i (by simpa using hi)
      rw [this]
      rfl
  have := key _ 0 [] rfl
  simpa [ByteArray.toList] using this
theorem mkS_toList (l : List UInt8) : (mkS l).toList = l := by rw [toList_data]; simp [mkS]
theorem mkS_append (a b : List UInt8) : mkS a ++ mkS b = mkS (a ++ b) := by
  apply ByteArray.ext
  simp [mkS, ByteArray.data_append]
theorem mkS_extract (l : List UInt8) (i j : Nat) : (mkS l).extract i j = mkS ((l.drop i).take (j - i)) := by
  apply ByteArray.ext
  rw [ByteArray.data_extract]
  simp only [mkS]
  apply Array.ext'
  rw [Array.toList_extract]
  try simp [List.extract_eq_drop_take]
theorem mkS_nil : (⟨#[]⟩ : ByteArray) = mkS [] := rfl
theorem bt_mkS (l : List UInt8) (i : Nat) (h : i < l.length) : bt (mkS l) (i : Int) = ((l[i]).toNat : Int) := by
  unfold bt
  have h' : ((i : Int)).toNat < (mkS l).size := by rw [mkS_size]; simpa using h
  rw [dif_pos h']
  simp only [Int.toNat_natCast]
  rfl
/-- A slice of bytes as the print tells it. -/
def ints (l : List UInt8) : List Int := l.map fun b => (b.toNat : Int)
theorem ints_length (l : List UInt8) : (ints l).length = l.length := by simp [ints]
theorem ints_append (a b : List UInt8) : ints a ++ ints b = ints (a ++ b) := by simp [ints]
theorem ints_nil : ([] : List Int) = ints [] := rfl
theorem ub_byte (b : UInt8) : UInt8.ofNat ((b.toNat : Int)).toNat = b := by simp
theorem strOfNums_ints (l : List UInt8) : strOfNums (ints l) = mkS l := by
  unfold strOfNums ints mkS
  congr 2
  rw [List.map_map]
  conv => rhs; rw [← List.map_id l]
  apply List.map_congr_left
  intro b _
  simp
theorem ofNat_cast (n : Nat) : ((UInt8.ofNat n).toNat : Int) = (n : Int) % 256 := by simp
theorem ints_one (n : Nat) (x : Int) (h : x % 256 = ((n % 256 : Nat) : Int)) : [x % 256] = ints [UInt8.ofNat n] := by
  simp only [ints, List.map_cons, List.map_nil]
  rw [h, ofNat_cast]
  simp
theorem w64 {x : Int} (h0 : -9223372036854775808 ≤ x) (h1 : x ≤ 9223372036854775807) : wrap64 x = x := by unfold wrap64; omega
theorem w64b (s : ByteArray) (i : Int) : wrap64 (bt s i) = bt s i := by have := bt_range s i; exact w64 (by omega) (by omega)
theorem wfI {x : Int} (h : (Lit.int .i64 x).wf = true) : -9223372036854775808 ≤ x ∧ x ≤ 9223372036854775807 := by
  have e1 : IntKind.i64.min = -9223372036854775808 := by decide
  have e2 : IntKind.i64.max = 9223372036854775807 := by decide
  have h1 : IntKind.i64.min ≤ x ∧ x ≤ IntKind.i64.max := by simpa [Lit.wf] using h
  rw [e1, e2] at h1
  exact h1
theorem tdivp {x y : Int} (h : 0 ≤ x) : Int.tdiv x y = x / y := Int.tdiv_eq_ediv_of_nonneg h
theorem tmodp {x y : Int} (h : 0 ≤ x) : Int.tmod x y = x % y := Int.tmod_eq_emod_of_nonneg h
theorem shl_i64 {x y : Int} {n : Nat} (hy : y = (n : Int)) (hn : n ≤ 64) : shl .i64 x y = wrap64 (x * 2 ^ n) := by
  unfold shl
  have e : min y.toNat IntKind.i64.bits = n := by subst hy; simp [IntKind.bits]; omega
  rw [e, IntKind.wrap_i64, wrap64]
theorem shr_i64 {x y : Int} {n : Nat} (hy : y = (n : Int)) (hn : n ≤ 64) : shr .i64 x y = x / 2 ^ n := by
  unfold shr
  have e : min y.toNat IntKind.i64.bits = n := by subst hy; simp [IntKind.bits]; omega
  rw [e]
theorem getElem_drop_cons {α : Type} {l : List α} {i : Nat} (h : i < l.length) : l.drop i = l[i] :: l.drop (i + 1) := List.drop_eq_getElem_cons h
theorem ev_some {α : Type} {g : Nat → Option α} {r q : α} (h : Ev g r) (hk : r = q) : Ev g q := hk ▸ h
theorem evx {α : Type} {g : Nat → Option α} {r : α} (h : Ev g r) : ∃ K, ∀ k, K ≤ k → g k = some r := h
theorem evi {α : Type} {g : Nat → Option α} {r : α} (K : Nat) (h : ∀ k, K ≤ k → g k = some r) : Ev g r := ⟨K, h⟩

/-! ### digits of bytes -/
def hexD (n : Nat) : UInt8 := if n < 10 then UInt8.ofNat (48 + n) else UInt8.ofNat (87 + n)
def hexL : List UInt8 → List UInt8
  | [] => []
  | b :: t => hexD (b.toNat / 16) :: hexD (b.toNat % 16) :: hexL t
theorem hexL_length (l : List UInt8) : (hexL l).length = 2 * l.length := by
  induction l with
  | nil => rfl
  | cons b t ih => rw [hexL, List.length_cons, List.length_cons, List.length_cons, ih]; omega
theorem bt_hex {n : Nat} (h : n < 16) : bt (⟨#[48, 49, 50, 51, 52, 53, 54, 55, 56, 57, 97, 98, 99, 100, 101, 102]⟩ : ByteArray) (n : Int) = ((hexD n).toNat : Int) := by
  have : ∀ n : Fin 16, bt (⟨#[48, 49, 50, 51, 52, 53, 54, 55, 56, 57, 97, 98, 99, 100, 101, 102]⟩ : ByteArray) ((n : Nat) : Int) = ((hexD n).toNat : Int) := by decide +kernel
  exact this ⟨n, h⟩
theorem and15 (b : UInt8) : Go.bits .and .u8 (b.toNat : Int) 15 = ((b.toNat % 16 : Nat) : Int) := by
  have : ∀ n : Fin 256, Go.bits .and .u8 ((n : Nat) : Int) 15 = (((n : Nat) % 16 : Nat) : Int) := by decide +kernel
  exact this ⟨b.toNat, b.toNat_lt⟩
/-- What a digit is worth, or -1. -/
def digV (b : Int) : Int := if 48 ≤ b ∧ b ≤ 57 then b - 48 else if 97 ≤ b ∧ b ≤ 102 then b - 87 else -1
theorem digV_lt (b : Int) : -1 ≤ digV b ∧ digV b ≤ 15 := by unfold digV; split <;> (try split) <;> omega
theorem digV_hexD {n : Nat} (h : n < 16) (b : Nat) (hb : b < 256) : ((hexD n).toNat : Int) = (b : Int) ↔ digV b = n := by
  have h1 : (hexD n).toNat = if n < 10 then 48 + n else 87 + n := by
    unfold hexD
    split <;> simp <;> omega
  rw [h1]
  unfold digV
  split <;> split <;> (try split) <;> omega
def unhexL : List UInt8 → Option (List UInt8)
  | [] => some []
  | [_] => none
  | a :: b :: t => if digV a.toNat < 0 ∨ digV b.toNat < 0 then none else (unhexL t).map (UInt8.ofNat (16 * digV a.toNat + digV b.toNat).toNat :: ·)
def unhexS (l : List UInt8) : ByteArray × Bool := match unhexL l with
  | some r => (mkS r, true)
  | none => (mkS [], false)
theorem unhexL_odd (n : Nat) : ∀ l : List UInt8, l.length = 2 * n + 1 → unhexL l = none := by
  induction n with
  | zero => intro l h; obtain ⟨x, rfl⟩ := List.length_eq_one_iff.1 h; rfl
  | succ n ih =>
    intro l h
    match l, h with
    | a :: b :: t, h =>
      rw [unhexL, ih t (by simp only [List.length_cons] at h; omega)]
      split <;> rfl
theorem unhexL_hexL (l : List UInt8) : unhexL (hexL l) = some l := by
  induction l with
  | nil => rfl
  | cons b t ih =>
    have hb := b.toNat_lt
    rw [hexL, unhexL, ih]
    have e1 := (digV_hexD (n := b.toNat / 16) (by omega) (hexD (b.toNat / 16)).toNat (UInt8.toNat_lt _)).1 rfl
    have e2 := (digV_hexD (n := b.toNat % 16) (by omega) (hexD (b.toNat % 16)).toNat (UInt8.toNat_lt _)).1 rfl
    rw [e1, e2, if_neg (by omega), Option.map_some]
    congr 2
    apply UInt8.toNat_inj.1
    simp
    omega

/-! ### impl's Unhex -/
theorem impl_digit_ev (b : Nat) (hb : b < 256) (k : Nat) (hk : 0 < k) : impl_digit.f k (b : Int) = some (digV b) := by
  obtain ⟨k, rfl⟩ : ∃ m, k = m + 1 := ⟨k - 1, by omega⟩
  unfold impl_digit.f digV
  simp only [impl_digit.j0]
  by_cases h1 : 48 ≤ b ∧ b ≤ 57
  · rw [if_pos (by omega), if_pos (by simp; omega), if_pos (by omega)]; congr 1; omega
  · rw [if_neg (show ¬ (48 ≤ (b : Int) ∧ (b : Int) ≤ 57) by omega)]
    have e : (if (b : Int) ≥ 48 then (if decide ((b : Int) ≤ 57) = true then some (((b : Int) - 48) % 256) else if (b : Int) ≥ 97 then (if (b : Int) ≤ 102 then some ((((b : Int) - 97) % 256) + 10) else some (-1)) else some (-1)) else (if false = true then some (((b : Int) - 48) % 256) else if (b : Int) ≥ 97 then (if (b : Int) ≤ 102 then some ((((b : Int) - 97) % 256) + 10) else some (-1)) else some (-1))) = (if (b : Int) ≥ 97 then (if (b : Int) ≤ 102 then some ((((b : Int) - 97) % 256) + 10) else some (-1)) else some (-1)) := by
      by_cases h2 : (b : Int) ≥ 48
      · rw [if_pos h2, if_neg (by simp; omega)]
      · rw [if_neg h2, if_neg (by decide)]
    rw [e]
    by_cases h3 : 97 ≤ (b : Int)
    · rw [if_pos h3]
      by_cases h4 : (b : Int) ≤ 102
      · rw [if_pos h4, if_pos ⟨h3, h4⟩]; congr 1; omega
      · rw [if_neg h4, if_neg (by omega)]
    · rw [if_neg h3, if_neg (by omega)]
theorem impl_Unhex_l0 (l : List UInt8) (hl : l.length ≤ 10000000) (d : Nat) : ∀ (i : Nat) (acc : List UInt8), 2 * d + i = l.length → acc.length + d ≤ 30000000 → Ev (fun k => impl_Unhex.l0 k (mkS l) (ints acc) (i : Int)) (match unhexL (l.drop i) with | some r => (mkS (acc ++ r), true) | none => (mkS [], false)) := by
  induction d with
  | zero =>
    intro i acc hi ha
    refine evi (1) fun k hk => ?_
    obtain ⟨k, rfl⟩ : ∃ m, k = m + 1 := ⟨k - 1, by omega⟩
    simp only [impl_Unhex.l0]
    rw [if_neg (by rw [mkS_size]; omega), strOfNums_ints, List.drop_of_length_le (by omega), unhexL]
    simp
  | succ d ih =>
    intro i acc hi ha
    have hlt : i < l.length := by omega
    have hlt1 : i + 1 < l.length := by omega
    have hx := (l[i]).toNat_lt
    have hx1 := (l[i + 1]).toNat_lt
    have hd0 := digV_lt (l[i]).toNat
    have hd1 := digV_lt (l[i + 1]).toNat
    have hdr : l.drop i = l[i] :: l[i + 1] :: l.drop (i + 2) := by rw [List.drop_eq_getElem_cons hlt, List.drop_eq_getElem_cons hlt1]
    have hc1 : ((i : Int) + 1) = ((i + 1 : Nat) : Int) := by omega
    by_cases hneg : digV (l[i]).toNat < 0 ∨ digV (l[i + 1]).toNat < 0
    · refine evi (2) fun k hk => ?_
      obtain ⟨k, rfl⟩ : ∃ m, k = m + 1 := ⟨k - 1, by omega⟩
      simp only [impl_Unhex.l0]
      rw [if_pos (by rw [mkS_size]; omega), if_pos (by omega), w64 (x := (i : Int) + 1) (by omega) (by omega), hc1, bt_mkS l i hlt, bt_mkS l (i + 1) hlt1, impl_digit_ev _ hx k (by omega), impl_digit_ev _ hx1 k (by omega)]
      simp only [Option.bind_some]
      rw [if_pos (by omega), if_pos (by rw [mkS_size]; omega), hdr, unhexL, if_pos hneg]
      by_cases h0 : digV (l[i]).toNat < 0
      · rw [if_pos h0]; rfl
      · rw [if_neg h0, if_pos (by omega)]; rfl
    · have hn0 : ¬ digV (l[i]).toNat < 0 := fun h => hneg (.inl h)
      have hn1 : ¬ digV (l[i + 1]).toNat < 0 := fun h => hneg (.inr h)
      obtain ⟨K, hK⟩ := evx (ih (i + 2) (acc ++ [UInt8.ofNat (16 * digV (l[i]).toNat + digV (l[i + 1]).toNat).toNat]) (by omega) (by simp; omega))
      refine evi (K + 2) fun k hk => ?_
      obtain ⟨k, rfl⟩ : ∃ m, k = m + 1 := ⟨k - 1, by omega⟩
      rw [impl_Unhex.l0]
      rw [if_pos (by rw [mkS_size]; omega), if_pos (by omega), w64 (x := (i : Int) + 1) (by omega) (by omega), hc1, bt_mkS l i hlt, bt_mkS l (i + 1) hlt1, impl_digit_ev _ hx k (by omega), impl_digit_ev _ hx1 k (by omega)]
      simp only [Option.bind_some]
      rw [if_pos (by omega), if_pos (by rw [mkS_size]; omega), if_neg hn0, if_neg hn1, if_pos (by rw [ints_length]; omega)]
      rw [w64 (x := 16 * digV (l[i]).toNat) (by omega) (by omega), w64 (x := 16 * digV (l[i]).toNat + digV (l[i + 1]).toNat) (by omega) (by omega), w64 (by omega) (by omega), ints_one (16 * digV (l[i]).toNat + digV (l[i + 1]).toNat).toNat _ (by omega), ints_append]
      have := hK k (by omega)
      rw [show ((i : Int) + 2) = ((i + 2 : Nat) : Int) from by omega, this, hdr, unhexL, if_neg hneg]
      cases unhexL (l.drop (i + 2)) with
      | none => rfl
      | some r => simp only [Option.map_some]; rw [List.append_assoc]; rfl
theorem impl_Unhex_ev (l : List UInt8) (hl : l.length ≤ 10000000) : Ev (fun k => impl_Unhex.f k (mkS l)) (unhexS l) := by
  by_cases h : l.length % 2 = 0
  · obtain ⟨K, hK⟩ := impl_Unhex_l0 l hl (l.length / 2) 0 [] (by omega) (by simp; omega)
    refine evi (K) fun k hk => ?_
    unfold impl_Unhex.f
    rw [if_pos (by rw [mkS_size]; omega), ints_nil]
    exact (hK k hk).trans rfl
  · refine evi (0) fun k hk => ?_
    unfold impl_Unhex.f unhexS
    rw [if_neg (by rw [mkS_size]; omega), unhexL_odd (l.length / 2) l (by omega)]
    rfl

/-! ### spec's l1Digit -/
theorem spec_l1Digit_f {n : Nat} (h : n < 16) : spec_l1Digit.f (n : Int) = some ((hexD n).toNat : Int) := by
  unfold spec_l1Digit.f
  rw [if_pos (by omega), if_pos (by omega), bt_hex h]

/-! ### spec's Unhex -/
theorem spec_l1FromHex_l0 (b : Nat) (hb : b < 256) (d : Nat) : ∀ j : Nat, d + j = 16 → (digV b < 0 ∨ (j : Int) ≤ digV b) → ∀ k, d < k → spec_l1FromHex.l0 k (b : Int) (j : Int) = some (digV b) := by
  have hd := digV_lt b
  induction d with
  | zero =>
    intro j hj hd2 k hk
    obtain ⟨k, rfl⟩ : ∃ m, k = m + 1 := ⟨k - 1, by omega⟩
    simp only [spec_l1FromHex.l0]
    rw [if_neg (by omega)]
    congr 1
    omega
  | succ d ih =>
    intro j hj hd2 k hk
    obtain ⟨k, rfl⟩ : ∃ m, k = m + 1 := ⟨k - 1, by omega⟩
    simp only [spec_l1FromHex.l0]
    rw [if_pos (by omega), spec_l1Digit_f (by omega)]
    simp only [Option.bind_some]
    have hx := digV_hexD (n := j) (by omega) b hb
    by_cases he : digV b = (j : Int)
    · rw [if_pos (hx.2 he), he]
    · rw [if_neg (fun h => he (hx.1 h)), w64 (by omega) (by omega)]
      have := ih (j + 1) (by omega) (by omega) k (by omega)
      rw [show ((j : Int) + 1) = ((j + 1 : Nat) : Int) from by omega]
      exact this
theorem spec_l1FromHex_f (b : Nat) (hb : b < 256) (k : Nat) (hk : 16 < k) : spec_l1FromHex.f k (b : Int) = some (digV b) := by
  have hd := digV_lt b
  exact spec_l1FromHex_l0 b hb 16 0 rfl (by omega) k hk
theorem spec_Unhex_l0 (l : List UInt8) (hl : l.length ≤ 10000000) (d : Nat) : ∀ (i : Nat) (acc : List UInt8), 2 * d + i = l.length → acc.length + d ≤ 30000000 → Ev (fun k => spec_Unhex.l0 k (mkS l) (ints acc) (i : Int)) (match unhexL (l.drop i) with | some r => (mkS (acc ++ r), true) | none => (mkS [], false)) := by
  induction d with
  | zero =>
    intro i acc hi ha
    refine evi (1) fun k hk => ?_
    obtain ⟨k, rfl⟩ : ∃ m, k = m + 1 := ⟨k - 1, by omega⟩
    simp only [spec_Unhex.l0]
    rw [if_neg (by rw [mkS_size]; omega), strOfNums_ints, List.drop_of_length_le (by omega), unhexL]
    simp
  | succ d ih =>
    intro i acc hi ha
    have hlt : i < l.length := by omega
    have hlt1 : i + 1 < l.length := by omega
    have hx := (l[i]).toNat_lt
    have hx1 := (l[i + 1]).toNat_lt
    have hd0 := digV_lt (l[i]).toNat
    have hd1 := digV_lt (l[i + 1]).toNat
    have hdr : l.drop i = l[i] :: l[i + 1] :: l.drop (i + 2) := by rw [List.drop_eq_getElem_cons hlt, List.drop_eq_getElem_cons hlt1]
    have hc1 : ((i : Int) + 1) = ((i + 1 : Nat) : Int) := by omega
    by_cases hneg : digV (l[i]).toNat < 0 ∨ digV (l[i + 1]).toNat < 0
    · refine evi (18) fun k hk => ?_
      obtain ⟨k, rfl⟩ : ∃ m, k = m + 1 := ⟨k - 1, by omega⟩
      simp only [spec_Unhex.l0]
      rw [if_pos (by rw [mkS_size]; omega), if_pos (by omega), w64 (x := (i : Int) + 1) (by omega) (by omega), hc1, bt_mkS l i hlt, bt_mkS l (i + 1) hlt1, spec_l1FromHex_f _ hx k (by omega), spec_l1FromHex_f _ hx1 k (by omega)]
      simp only [Option.bind_some]
      rw [if_pos (by omega), if_pos (by rw [mkS_size]; omega), hdr, unhexL, if_pos hneg]
      by_cases h0 : digV (l[i]).toNat < 0
      · rw [if_pos h0]; rfl
      · rw [if_neg h0, if_pos (by omega)]; rfl
    · have hn0 : ¬ digV (l[i]).toNat < 0 := fun h => hneg (.inl h)
      have hn1 : ¬ digV (l[i + 1]).toNat < 0 := fun h => hneg (.inr h)
      obtain ⟨K, hK⟩ := evx (ih (i + 2) (acc ++ [UInt8.ofNat (16 * digV (l[i]).toNat + digV (l[i + 1]).toNat).toNat]) (by omega) (by simp; omega))
      refine evi (K + 18) fun k hk => ?_
      obtain ⟨k, rfl⟩ : ∃ m, k = m + 1 := ⟨k - 1, by omega⟩
      rw [spec_Unhex.l0]
      rw [if_pos (by rw [mkS_size]; omega), if_pos (by omega), w64 (x := (i : Int) + 1) (by omega) (by omega), hc1, bt_mkS l i hlt, bt_mkS l (i + 1) hlt1, spec_l1FromHex_f _ hx k (by omega), spec_l1FromHex_f _ hx1 k (by omega)]
      simp only [Option.bind_some]
      rw [if_pos (by omega), if_pos (by rw [mkS_size]; omega), if_neg hn0, if_neg hn1, if_pos (by rw [ints_length]; omega)]
      rw [w64 (x := 16 * digV (l[i]).toNat) (by omega) (by omega), w64 (x := 16 * digV (l[i]).toNat + digV (l[i + 1]).toNat) (by omega) (by omega), w64 (by omega) (by omega), ints_one (16 * digV (l[i]).toNat + digV (l[i + 1]).toNat).toNat _ (by omega), ints_append]
      have := hK k (by omega)
      rw [show ((i : Int) + 2) = ((i + 2 : Nat) : Int) from by omega, this, hdr, unhexL, if_neg hneg]
      cases unhexL (l.drop (i + 2)) with
      | none => rfl
      | some r => simp only [Option.map_some]; rw [List.append_assoc]; rfl
theorem spec_Unhex_ev (l : List UInt8) (hl : l.length ≤ 10000000) : Ev (fun k => spec_Unhex.f k (mkS l)) (unhexS l) := by
  by_cases h : l.length % 2 = 0
  · obtain ⟨K, hK⟩ := spec_Unhex_l0 l hl (l.length / 2) 0 [] (by omega) (by simp; omega)
    refine evi (K) fun k hk => ?_
    unfold spec_Unhex.f
    rw [if_neg (by rw [mkS_size]; omega), ints_nil]
    exact (hK k hk).trans rfl
  · refine evi (0) fun k hk => ?_
    unfold spec_Unhex.f unhexS
    rw [if_pos (by rw [mkS_size]; omega), unhexL_odd (l.length / 2) l (by omega)]
    rfl

/-! ### the law -/
theorem FnExactUnhex : laws_FnExactUnhex.Pure := by
  intro a h
  by_cases hb : (a.size : Int) > 1048576
  · exact ⟨0, by unfold laws_FnExactUnhex.f; rw [if_pos hb]⟩
  · obtain ⟨l, rfl⟩ := exS a
    rw [mkS_size] at hb
    obtain ⟨K1, h1⟩ := evx (spec_Unhex_ev l (by omega))
    obtain ⟨K2, h2⟩ := evx (impl_Unhex_ev l (by omega))
    refine ⟨K1 + K2, ?_⟩
    unfold laws_FnExactUnhex.f
    rw [if_neg (by rw [mkS_size]; exact hb), h1 _ (by omega), h2 _ (by omega)]
    simp only [Option.bind_some]
    simp

end Go.Proofs.Ytokljpgdjgphlaa.Pure
