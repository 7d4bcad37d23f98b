/- The pure statement of the law FnNumbers: for all arguments within the printed bounds the printed function of the law answers true. Conditions: only the bounds that the printed statement itself names. -/
import Derived.Test.YtnmileaeadhiaaaDoorPFnNumbersx6
namespace Go.Proofs.YtnmileaeadhiaaaDoor.Pure
open Go.RowKit Go.Proofs.YtnmileaeadhiaaaDoor.PFnNumbers Go.Proofs.YtnmileaeadhiaaaDoorW.PrintWords Go.Proofs.YtnmileaeadhiaaaDoorW.PrintLast
set_option linter.unusedVariables false
set_option linter.unusedSimpArgs false

/-- The string of a list of bytes. -/
def mkS (l : List UInt8) : ByteArray := ⟨l.toArray⟩
theorem exS (s : ByteArray) : ∃ l, s = mkS l := ⟨s.data.toList, by cases s; simp [mkS]⟩
theorem mkS_size (l : List UInt8) : (mkS l).size = l.length := by simp [mkS, ByteArray.size]
theorem toList_data (s : ByteArray) : s.toList = s.data.toList := by
  have key : ∀ (n i : Nat) (r : List UInt8), s.size - i = n → ByteArray.toList.loop s i r = r.reverse ++ s.data.toList.drop i := by
    intro n
    induction n with
    | zero =>
      intro i r h
      unfold ByteArray.toList.loop
      rw [if_neg (by omega), List.drop_of_length_le (by simp only [Array.length_toList]; have : s.size = s.data.size := rfl; omega), List.append_nil]
    | succ n ih =>
      intro i r h
      unfold ByteArray.toList.loop
      have hi : i < s.data.toList.length := by simp only [Array.length_toList]; have : s.size = s.data.size := rfl; omega
      rw [if_pos (by omega), ih (i + 1) _ (by omega), List.reverse_cons, List.append_assoc, List.drop_eq_getElem_cons hi]
      have : s.get! i = s.data.toList[i] := by
        show s.data[i]! = _
        rw [Array.getElem_toList]
        exact getElem!_pos s.data i (by simpa using hi)
      rw [this]
      rfl
  have := key _ 0 [] rfl
  simpa [ByteArray.toList] using this
theorem mkS_toList (l : List UInt8) : (mkS l).toList = l := by rw [toList_data]; simp [mkS]
theorem mkS_append (a b : List UInt8) : mkS a ++ mkS b = mkS (a ++ b) := by
  apply ByteArray.ext
  simp [mkS, ByteArray.data_append]
theorem mkS_extract (l : List UInt8) (i j : Nat) : (mkS l).extract i j = mkS ((l.drop i).take (j - i)) := by
  apply ByteArray.ext
  rw [ByteArray.data_extract]
  simp only [mkS]
  apply Array.ext'
  rw [Array.toList_extract]
  try simp [List.extract_eq_drop_take]
theorem bt_mkS (l : List UInt8) (i : Nat) (h : i < l.length) : bt (mkS l) (i : Int) = ((l[i]).toNat : Int) := by
  unfold bt
  have h' : ((i : Int)).toNat < (mkS l).size := by rw [mkS_size]; simpa using h
  rw [dif_pos h']
  simp only [Int.toNat_natCast]
  rfl
/-- A slice of bytes as the print tells it. -/
def ints (l : List UInt8) : List Int := l.map fun b => (b.toNat : Int)
theorem ints_length (l : List UInt8) : (ints l).length = l.length := by simp [ints]
theorem ints_append (a b : List UInt8) : ints a ++ ints b = ints (a ++ b) := by simp [ints]
theorem ints_nil : ([] : List Int) = ints [] := rfl
theorem strOfNums_ints (l : List UInt8) : strOfNums (ints l) = mkS l := by
  unfold strOfNums ints mkS
  congr 2
  rw [List.map_map]
  conv => rhs; rw [← List.map_id l]
  apply List.map_congr_left
  intro b _
  simp
theorem ofNat_cast (n : Nat) : ((UInt8.ofNat n).toNat : Int) = (n : Int) % 256 := by simp
theorem ints_one (n : Nat) (x : Int) (h : x % 256 = ((n % 256 : Nat) : Int)) : [x % 256] = ints [UInt8.ofNat n] := by
  simp only [ints, List.map_cons, List.map_nil]
  rw [h, ofNat_cast]
  simp
theorem w64 {x : Int} (h0 : -9223372036854775808 ≤ x) (h1 : x ≤ 9223372036854775807) : wrap64 x = x := by unfold wrap64; omega
theorem bt_rng (s : ByteArray) (i : Int) : 0 ≤ bt s i ∧ bt s i ≤ 255 := by
  unfold bt
  by_cases h : i.toNat < s.size
  · rw [dif_pos h]
    have := (s[i.toNat]'h).toNat_lt
    omega
  · rw [dif_neg h]
    omega
theorem w64b (s : ByteArray) (i : Int) : wrap64 (bt s i) = bt s i := by have := bt_rng s i; exact w64 (by omega) (by omega)
theorem tdivp {x y : Int} (h : 0 ≤ x) : Int.tdiv x y = x / y := Int.tdiv_eq_ediv_of_nonneg h
theorem tmodp {x y : Int} (h : 0 ≤ x) : Int.tmod x y = x % y := Int.tmod_eq_emod_of_nonneg h
theorem shl_i64 {x y : Int} {n : Nat} (hy : y = (n : Int)) (hn : n ≤ 64) : shl .i64 x y = wrap64 (x * 2 ^ n) := by
  unfold shl
  have e : min y.toNat IntKind.i64.bits = n := by subst hy; simp [IntKind.bits]; omega
  rw [e, IntKind.wrap_i64, wrap64]
theorem shr_i64 {x y : Int} {n : Nat} (hy : y = (n : Int)) (hn : n ≤ 64) : shr .i64 x y = x / 2 ^ n := by
  unfold shr
  have e : min y.toNat IntKind.i64.bits = n := by subst hy; simp [IntKind.bits]; omega
  rw [e]
theorem evx {α : Type} {g : Nat → Option α} {r : α} (h : Ev g r) : ∃ K, ∀ k, K ≤ k → g k = some r := h
theorem evi {α : Type} {g : Nat → Option α} {r : α} (K : Nat) (h : ∀ k, K ≤ k → g k = some r) : Ev g r := ⟨K, h⟩

theorem impl_in_f (a b c : Int) : impl_in.f a b c = some (decide (b ≤ a ∧ a ≤ c)) := by
  unfold impl_in.f
  by_cases h : a ≥ b
  · rw [if_pos h]; congr 1; simp [h]
  · rw [if_neg h]; congr 1; simp; omega

theorem spec_l1In_f (a b c : Int) : spec_l1In.f a b c = some (decide (b ≤ a ∧ a ≤ c)) := by
  unfold spec_l1In.f
  by_cases h : a ≥ b
  · rw [if_pos h]; congr 1; simp [h]
  · rw [if_neg h]; congr 1; simp; omega

def varL (n : Nat) : List UInt8 := if n < 128 then [UInt8.ofNat n] else UInt8.ofNat (n % 128 + 128) :: varL (n / 128)
termination_by n
decreasing_by omega
theorem varL_small {n : Nat} (h : n < 128) : varL n = [UInt8.ofNat n] := by rw [varL, if_pos h]
theorem varL_big {n : Nat} (h : ¬ n < 128) : varL n = UInt8.ofNat (n % 128 + 128) :: varL (n / 128) := by rw [varL, if_neg h]
theorem varL_pos (n : Nat) : 0 < (varL n).length := by
  by_cases h : n < 128
  · rw [varL_small h]; simp
  · rw [varL_big h]; simp
theorem varL_ne (n : Nat) : varL n ≠ [] := by intro h; have := varL_pos n; rw [h] at this; simp at this
theorem varL_len (j : Nat) : ∀ n : Nat, n < 128 ^ (j + 1) → (varL n).length ≤ j + 1 := by
  induction j with
  | zero => intro n h; rw [varL_small (by omega)]; simp
  | succ j ih =>
    intro n h
    by_cases hn : n < 128
    · rw [varL_small hn]; simp
    · rw [varL_big hn, List.length_cons]
      have : n / 128 < 128 ^ (j + 1) := by rw [Nat.div_lt_iff_lt_mul (by omega)]; rw [Nat.pow_succ] at h; exact h
      have := ih _ this
      omega
theorem varL_len7 {n : Nat} (h : n ≤ 562949953421311) : (varL n).length ≤ 7 := varL_len 6 n (by omega)
/-- A number's text. -/
def varS (n : Int) : ByteArray := if 0 ≤ n ∧ n ≤ 562949953421311 then mkS (varL n.toNat) else mkS []
theorem varS_nat {n : Nat} (h : n ≤ 562949953421311) : varS (n : Int) = mkS (varL n) := by
  unfold varS
  rw [if_pos ⟨by omega, by omega⟩, Int.toNat_natCast]
theorem impl_Var_l0 (m : Nat) : ∀ (n : Nat) (acc : List UInt8), n ≤ 562949953421311 → n ≤ m → acc.length + n ≤ 600000000000000 → acc.length + (varL n).length ≤ 100000000000000 → Ev (fun k => impl_Var.l0 k (n : Int) (ints acc)) (mkS (acc ++ varL n)) := by
  induction m using Nat.strongRecOn with
  | ind m ih =>
  intro n acc hn hm _ hl
  have hlp := varL_pos n
  by_cases h : n < 128
  · refine evi (1) fun k hk => ?_
    obtain ⟨k, rfl⟩ : ∃ m, k = m + 1 := ⟨k - 1, by omega⟩
    simp only [impl_Var.l0]
    rw [if_neg (by omega), if_pos (by rw [ints_length]; omega), ints_one n _ (by omega), ints_append, strOfNums_ints, varL_small h]
  · have hd := varL_big h
    obtain ⟨K, hK⟩ := evx (ih (n / 128) (by omega) (n / 128) (acc ++ [UInt8.ofNat (n % 128 + 128)]) (by omega) (Nat.le_refl _) (by rw [List.length_append, List.length_singleton]; omega) (by rw [hd, List.length_cons] at hl; rw [List.length_append, List.length_singleton]; omega))
    refine evi (K + 1) fun k hk => ?_
    obtain ⟨k, rfl⟩ : ∃ m, k = m + 1 := ⟨k - 1, by omega⟩
    simp only [impl_Var.l0]
    rw [if_pos (by omega), if_pos (by rw [ints_length]; omega), tdivp (by omega), tmodp (by omega), w64 (by omega) (by omega), w64 (by omega) (by omega), ints_one (n % 128 + 128) _ (by omega), ints_append]
    have := hK k (by omega)
    simp only [Int.natCast_ediv] at this
    rw [hd, show (128 : Int) = ((128 : Nat) : Int) from rfl, this, List.append_assoc]
    rfl
theorem impl_Var_ev (n : Int) : Ev (fun k => impl_Var.f k n) (varS n) := by
  by_cases h : 0 ≤ n ∧ n ≤ 562949953421311
  · obtain ⟨m, rfl⟩ := Int.eq_ofNat_of_zero_le h.1
    have h7 := varL_len7 (n := m) (by omega)
    obtain ⟨K, hK⟩ := evx (impl_Var_l0 m m [] (by omega) (Nat.le_refl _) (by simp; omega) (by simp; omega))
    refine evi (K) fun k hk => ?_
    unfold impl_Var.f
    rw [impl_in_f]
    simp only [Option.bind_some]
    rw [if_pos (by simpa using h), ints_nil, hK k hk, varS, if_pos h]
    rfl
  · refine evi (0) fun k hk => ?_
    unfold impl_Var.f
    rw [impl_in_f]
    simp only [Option.bind_some]
    rw [if_neg (by simpa using h), varS, if_neg h]
    rfl

theorem spec_Var_l0 (m : Nat) : ∀ (n : Nat) (acc : List UInt8), n ≤ 562949953421311 → n ≤ m → acc.length + (varL n).length ≤ 100000000000000 → Ev (fun k => spec_Var.l0 k (n : Int) (ints acc)) (mkS (acc ++ varL n)) := by
  induction m using Nat.strongRecOn with
  | ind m ih =>
  intro n acc hn hm hl
  have hlp := varL_pos n
  by_cases h : n < 128
  · refine evi (1) fun k hk => ?_
    obtain ⟨k, rfl⟩ : ∃ m, k = m + 1 := ⟨k - 1, by omega⟩
    simp only [spec_Var.l0]
    rw [if_neg (by omega), if_pos (by rw [ints_length]; omega), ints_one n _ (by omega), ints_append, strOfNums_ints, varL_small h]
  · have hd := varL_big h
    obtain ⟨K, hK⟩ := evx (ih (n / 128) (by omega) (n / 128) (acc ++ [UInt8.ofNat (n % 128 + 128)]) (by omega) (Nat.le_refl _) (by rw [hd, List.length_cons] at hl; rw [List.length_append, List.length_singleton]; omega))
    refine evi (K + 1) fun k hk => ?_
    obtain ⟨k, rfl⟩ : ∃ m, k = m + 1 := ⟨k - 1, by omega⟩
    simp only [spec_Var.l0]
    rw [if_pos (by omega), if_pos (by rw [ints_length]; omega), tdivp (by omega), tmodp (by omega), w64 (by omega) (by omega), w64 (by omega) (by omega), ints_one (n % 128 + 128) _ (by omega), ints_append]
    have := hK k (by omega)
    simp only [Int.natCast_ediv] at this
    rw [hd, show (128 : Int) = ((128 : Nat) : Int) from rfl, this, List.append_assoc]
    rfl
theorem spec_Var_ev (n : Int) : Ev (fun k => spec_Var.f k n) (varS n) := by
  by_cases h : 0 ≤ n ∧ n ≤ 562949953421311
  · obtain ⟨m, rfl⟩ := Int.eq_ofNat_of_zero_le h.1
    have h7 := varL_len7 (n := m) (by omega)
    obtain ⟨K, hK⟩ := evx (spec_Var_l0 m m [] (by omega) (Nat.le_refl _) (by simp; omega))
    refine evi (K) fun k hk => ?_
    unfold spec_Var.f
    rw [spec_l1In_f]
    simp only [Option.bind_some]
    rw [if_pos (by simpa using h), ints_nil, hK k hk, varS, if_pos h]
    rfl
  · refine evi (0) fun k hk => ?_
    unfold spec_Var.f
    rw [spec_l1In_f]
    simp only [Option.bind_some]
    rw [if_neg (by simpa using h), varS, if_neg h]
    rfl

/-- What a text begins with: a number, and how many bytes it has; at most f bytes; 'first': a zero byte may be all of it. -/
def rvF : Nat → Bool → List UInt8 → Option (Nat × Nat)
  | 0, _, _ => none
  | _ + 1, _, [] => none
  | f + 1, first, x :: t => if x.toNat < 128 then (if x.toNat = 0 ∧ first = false then none else some (x.toNat, 1)) else (rvF f false t).map fun p => (x.toNat % 128 + 128 * p.1, p.2 + 1)
def rv (l : List UInt8) : Option (Nat × Nat) := rvF 7 true l
/-- The number and how many bytes; two zeros where there is none. -/
def rvP (l : List UInt8) : Nat × Nat := (rv l).getD (0, 0)
theorem byte_ext {a b : UInt8} (h : a.toNat = b.toNat) : a = b := UInt8.toNat_inj.1 h
theorem ofNat_toNat_lt (n : Nat) (h : n < 256) : (UInt8.ofNat n).toNat = n := by simp; omega
theorem rvF_sound (f : Nat) : ∀ (first : Bool) (l : List UInt8) (n k : Nat), rvF f first l = some (n, k) → 0 < k ∧ k ≤ f ∧ k ≤ l.length ∧ l.take k = varL n ∧ n < 128 ^ f ∧ (first = false → n ≠ 0) := by
  induction f with
  | zero => intro first l n k h; simp [rvF] at h
  | succ f ih =>
    intro first l n k h
    cases l with
    | nil => simp [rvF] at h
    | cons x t =>
      rw [rvF] at h
      by_cases hx : x.toNat < 128
      · rw [if_pos hx] at h
        by_cases hz : x.toNat = 0 ∧ first = false
        · rw [if_pos hz] at h; cases h
        · rw [if_neg hz] at h
          injection h with h
          obtain ⟨rfl, rfl⟩ := Prod.mk.inj h
          have hp : 128 ≤ 128 ^ (f + 1) := by rw [Nat.pow_succ]; exact Nat.le_mul_of_pos_left _ (Nat.pow_pos (by omega))
          refine ⟨by omega, by omega, by simp, ?_, by omega, fun hf hn => hz ⟨hn, hf⟩⟩
          rw [varL_small hx]
          simp
      · rw [if_neg hx] at h
        obtain ⟨⟨n', k'⟩, hr, he⟩ := Option.map_eq_some_iff.1 h
        obtain ⟨rfl, rfl⟩ := Prod.mk.inj he
        obtain ⟨h1, h2, h3, h4, h5, h6⟩ := ih false t n' k' hr
        have hn' := h6 rfl
        have hb := x.toNat_lt
        simp only at *
        refine ⟨by omega, by omega, by simp only [List.length_cons]; omega, ?_, by rw [Nat.pow_succ]; omega, fun _ => by omega⟩
        rw [varL_big (by omega), List.take_succ_cons, h4]
        congr 1
        · apply byte_ext
          rw [ofNat_toNat_lt _ (by omega)]
          omega
        · congr 1
          omega
theorem rvF_complete (f : Nat) : ∀ (first : Bool) (n : Nat) (t : List UInt8), n < 128 ^ (f + 1) → (first = false → n ≠ 0) → rvF (f + 1) first (varL n ++ t) = some (n, (varL n).length) := by
  induction f with
  | zero =>
    intro first n t h h0
    have hn : n < 128 := by simpa using h
    rw [varL_small hn, List.singleton_append, rvF, ofNat_toNat_lt _ (by omega), if_pos hn, if_neg (fun hh => h0 hh.2 hh.1)]
    rfl
  | succ f ih =>
    intro first n t h h0
    by_cases hn : n < 128
    · rw [varL_small hn, List.singleton_append, rvF, ofNat_toNat_lt _ (by omega), if_pos hn, if_neg (fun hh => h0 hh.2 hh.1)]
      rfl
    · rw [varL_big hn, List.cons_append, rvF, ofNat_toNat_lt _ (by omega), if_neg (by omega)]
      rw [ih false (n / 128) t (by rw [Nat.div_lt_iff_lt_mul (by omega)]; rw [Nat.pow_succ] at h; exact h) (fun _ => by omega)]
      simp only [Option.map_some, List.length_cons]
      congr 2
      omega
theorem rv_sound {l : List UInt8} {n k : Nat} (h : rv l = some (n, k)) : 0 < k ∧ k ≤ 7 ∧ k ≤ l.length ∧ l.take k = varL n ∧ n ≤ 562949953421311 := by
  obtain ⟨h1, h2, h3, h4, h5, _⟩ := rvF_sound 7 true l n k h
  exact ⟨h1, h2, h3, h4, by omega⟩
theorem rv_complete {n : Nat} (t : List UInt8) (h : n ≤ 562949953421311) : rv (varL n ++ t) = some (n, (varL n).length) :=
  rvF_complete 6 true n t (by omega) (fun h => by cases h)
theorem rvP_none {l : List UInt8} (h : rv l = none) : rvP l = (0, 0) := by rw [rvP, h]; rfl
theorem rvP_some {l : List UInt8} {p : Nat × Nat} (h : rv l = some p) : rvP l = p := by rw [rvP, h]; rfl
def rvAdd (n i : Nat) : Option (Nat × Nat) → Int × Int
  | none => (0, 0)
  | some p => (((n + 128 ^ i * p.1 : Nat) : Int), ((i + p.2 : Nat) : Int))
theorem pow_2_7 (i : Nat) : ((2 : Int) ^ (7 * i)) = ((128 ^ i : Nat) : Int) := by
  rw [show (128 : Nat) = 2 ^ 7 from rfl, ← Nat.pow_mul]
  simp
theorem pow128_le {i : Nat} (h : i ≤ 6) : 128 ^ i ≤ 4398046511104 := Nat.pow_le_pow_right (n := 128) (by omega) h
theorem impl_ReadVar_l0 (l : List UInt8) (f : Nat) : ∀ (n i : Nat), f + i = 7 → n < 128 ^ i → Ev (fun k => impl_ReadVar.l0 k (mkS l) (n : Int) (i : Int)) (rvAdd n i (rvF f (decide (i = 0)) (l.drop i))) := by
  induction f with
  | zero =>
    intro n i hi hn
    refine evi (2) fun k hk => ?_
    obtain ⟨k, rfl⟩ : ∃ m, k = m + 2 := ⟨k - 2, by omega⟩
    simp only [impl_ReadVar.l0, impl_ReadVar.j1]
    rw [if_neg (by omega), if_neg (by decide)]
    rfl
  | succ f ih =>
    intro n i hi hn
    have hP := pow128_le (i := i) (by omega)
    by_cases hlt : i < l.length
    · have hx := (l[i]).toNat_lt
      have hd := List.drop_eq_getElem_cons hlt
      by_cases hx128 : (l[i]).toNat < 128
      · refine evi (2) fun k hk => ?_
        obtain ⟨k, rfl⟩ : ∃ m, k = m + 2 := ⟨k - 2, by omega⟩
        simp only [impl_ReadVar.l0, impl_ReadVar.j1]
        rw [if_pos (by omega), if_pos (by rw [mkS_size]; simpa using hlt), if_pos (by omega), if_pos (by rw [mkS_size]; simpa using hlt), if_pos (by rw [w64 (by omega) (by omega)]; omega), w64b, bt_mkS l i hlt, if_neg (by omega)]
        rw [tmodp (by omega), shl_i64 (n := 7 * i) (by rw [w64 (by omega) (by omega)]; simp) (by omega), pow_2_7, w64 (x := (i : Int) + 1) (by omega) (by omega)]
        have e : ((l[i].toNat : Int) % 128) = ((l[i].toNat : Nat) : Int) := by omega
        have hm : l[i].toNat * 128 ^ i ≤ 127 * 128 ^ i := Nat.mul_le_mul_right _ (by omega)
        have e2 : wrap64 ((n : Int) + wrap64 (((l[i].toNat : Int) % 128) * ((128 ^ i : Nat) : Int))) = ((n + 128 ^ i * l[i].toNat : Nat) : Int) := by
          rw [e, ← Int.natCast_mul, Nat.mul_comm (128 ^ i)]
          rw [w64 (x := ((l[i].toNat * 128 ^ i : Nat) : Int)) (by omega) (by omega), w64 (by omega) (by omega)]
          omega
        rw [e2, hd, rvF, if_pos hx128]
        by_cases hz : l[i].toNat = 0
        · rw [if_pos (by omega)]
          by_cases hi0 : i = 0
          · rw [if_neg (by omega), if_neg (by simp [hi0])]
            rfl
          · rw [if_pos (by omega), if_pos (by simp [hi0, hz])]
            rfl
        · rw [if_neg (by omega), if_neg (fun hh => hz hh.1)]
          rfl
      · have hm : (l[i].toNat % 128) * 128 ^ i ≤ 127 * 128 ^ i := Nat.mul_le_mul_right _ (by omega)
        obtain ⟨K, hK⟩ := evx (ih (n + 128 ^ i * (l[i].toNat % 128)) (i + 1) (by omega) (by rw [Nat.pow_succ, Nat.mul_comm (128 ^ i) (l[i].toNat % 128)]; omega))
        refine evi (K + 2) fun k hk => ?_
        obtain ⟨k, rfl⟩ : ∃ m, k = m + 2 := ⟨k - 2, by omega⟩
        simp only [impl_ReadVar.l0, impl_ReadVar.j1]
        rw [if_pos (by omega), if_pos (by rw [mkS_size]; simpa using hlt), if_pos (by omega), if_pos (by rw [mkS_size]; simpa using hlt), if_pos (by rw [w64 (by omega) (by omega)]; omega), w64b, bt_mkS l i hlt, if_pos (by omega)]
        rw [tmodp (by omega), shl_i64 (n := 7 * i) (by rw [w64 (by omega) (by omega)]; simp) (by omega), pow_2_7, w64 (x := (i : Int) + 1) (by omega) (by omega)]
        have e2 : wrap64 ((n : Int) + wrap64 (((l[i].toNat : Int) % 128) * ((128 ^ i : Nat) : Int))) = ((n + 128 ^ i * (l[i].toNat % 128) : Nat) : Int) := by
          rw [show ((l[i].toNat : Int) % 128) = ((l[i].toNat % 128 : Nat) : Int) from by omega, ← Int.natCast_mul, Nat.mul_comm (128 ^ i)]
          rw [w64 (x := ((l[i].toNat % 128 * 128 ^ i : Nat) : Int)) (by omega) (by omega), w64 (by omega) (by omega)]
          omega
        rw [e2, show ((i : Int) + 1) = ((i + 1 : Nat) : Int) from by omega, hK k (by omega), hd, rvF, if_neg hx128]
        have hdec : decide (i + 1 = 0) = false := by simp
        rw [hdec]
        cases rvF f false (l.drop (i + 1)) with
        | none => rfl
        | some p =>
          simp only [Option.map_some, rvAdd]
          congr 2
          · rw [Nat.pow_succ, Nat.mul_add, Nat.mul_assoc, Nat.add_assoc]
          · omega
    · refine evi (2) fun k hk => ?_
      obtain ⟨k, rfl⟩ : ∃ m, k = m + 2 := ⟨k - 2, by omega⟩
      simp only [impl_ReadVar.l0, impl_ReadVar.j1]
      rw [if_pos (by omega), if_neg (by rw [mkS_size]; simpa using hlt), List.drop_of_length_le (by omega)]
      rfl
/-- A number and how many bytes it has, as Go's two results. -/
def rvI (l : List UInt8) : Int × Int := (((rvP l).1 : Int), ((rvP l).2 : Int))
theorem rvAdd_rvI (l : List UInt8) : rvAdd 0 0 (rv l) = rvI l := by
  unfold rvI rvP
  cases rv l with
  | none => rfl
  | some p => simp [rvAdd]
theorem impl_ReadVar_ev (l : List UInt8) : Ev (fun k => impl_ReadVar.f k (mkS l)) (rvI l) := by
  have h := impl_ReadVar_l0 l 7 0 0 rfl (by simp)
  rw [List.drop_zero] at h
  rw [← rvAdd_rvI]
  exact h

def varB (n : Int) : List UInt8 := if 0 ≤ n ∧ n ≤ 562949953421311 then varL n.toNat else []
theorem varS_B (n : Int) : varS n = mkS (varB n) := by unfold varS varB; split <;> rfl
theorem varB_length (n : Int) : (varB n).length ≤ 7 := by
  unfold varB
  split
  · exact varL_len7 (by omega)
  · simp
theorem varB_nat {n : Nat} (h : n ≤ 562949953421311) : varB (n : Int) = varL n := by unfold varB; rw [if_pos ⟨by omega, by omega⟩, Int.toNat_natCast]
def fixL : Nat → Nat → List UInt8
  | 0, _ => []
  | w + 1, n => UInt8.ofNat (n / 256 ^ w) :: fixL w n
theorem fixL_length (w n : Nat) : (fixL w n).length = w := by induction w with
  | zero => rfl
  | succ w ih => rw [fixL, List.length_cons, ih]
def fixS (n w : Int) : ByteArray := if (1 ≤ w ∧ w ≤ 7) ∧ 0 ≤ n ∧ n < 256 ^ w.toNat then mkS (fixL w.toNat n.toNat) else mkS []
def beL (l : List UInt8) : Nat := l.foldl (fun a b => a * 256 + b.toNat) 0
theorem beL_snoc (l : List UInt8) (x : UInt8) : beL (l ++ [x]) = beL l * 256 + x.toNat := by simp [beL, List.foldl_append]
theorem beL_fold (l : List UInt8) : ∀ a : Nat, l.foldl (fun a b => a * 256 + b.toNat) a = a * 256 ^ l.length + beL l := by
  induction l with
  | nil => intro a; simp [beL]
  | cons x t ih =>
    intro a
    have e : beL (x :: t) = (0 * 256 + x.toNat) * 256 ^ t.length + beL t := ih _
    rw [List.foldl_cons, ih, e, List.length_cons, Nat.pow_succ, Nat.add_mul, Nat.zero_mul, Nat.zero_add, Nat.mul_assoc, Nat.mul_comm 256, Nat.add_assoc]
theorem beL_cons (x : UInt8) (t : List UInt8) : beL (x :: t) = x.toNat * 256 ^ t.length + beL t := by
  rw [beL, List.foldl_cons, beL_fold, Nat.zero_mul, Nat.zero_add]
theorem beL_lt (l : List UInt8) : beL l < 256 ^ l.length := by
  induction l with
  | nil => simp [beL]
  | cons x t ih =>
    rw [beL_cons, List.length_cons, Nat.pow_succ]
    have := x.toNat_lt
    have : x.toNat * 256 ^ t.length ≤ 255 * 256 ^ t.length := Nat.mul_le_mul_right _ (by omega)
    omega
theorem beL_fixL (w : Nat) : ∀ n, beL (fixL w n) = n % 256 ^ w := by
  induction w with
  | zero => intro n; simp [fixL, beL, Nat.mod_one]
  | succ w ih =>
    intro n
    rw [fixL, beL_cons, fixL_length, ih, Nat.pow_succ]
    have h1 : (UInt8.ofNat (n / 256 ^ w)).toNat = n / 256 ^ w % 256 := by simp
    rw [h1, Nat.mod_mul, Nat.mul_comm (n / 256 ^ w % 256), Nat.add_comm]
theorem pow256_le {i : Nat} (h : i ≤ 7) : 256 ^ i ≤ 72057594037927936 := Nat.pow_le_pow_right (n := 256) (by omega) h
theorem pow_2_8 (i : Nat) : ((2 : Int) ^ (8 * i)) = ((256 ^ i : Nat) : Int) := by
  rw [show (256 : Nat) = 2 ^ 8 from rfl, ← Nat.pow_mul]
  simp

theorem impl_Fixed_l0 (n : Nat) (m : Nat) : ∀ (acc : List UInt8), m ≤ 7 → acc.length + m ≤ 100 → Ev (fun k => impl_Fixed.l0 k (n : Int) (ints acc) ((m : Int) - 1)) (mkS (acc ++ fixL m n)) := by
  induction m with
  | zero =>
    intro acc _ hl
    refine evi (1) fun k hk => ?_
    obtain ⟨k, rfl⟩ : ∃ m, k = m + 1 := ⟨k - 1, by omega⟩
    simp only [impl_Fixed.l0]
    rw [if_neg (by omega), strOfNums_ints, fixL, List.append_nil]
  | succ m ih =>
    intro acc hm hl
    obtain ⟨K, hK⟩ := evx (ih (acc ++ [UInt8.ofNat (n / 256 ^ m)]) (by omega) (by rw [List.length_append, List.length_singleton]; omega))
    refine evi (K + 1) fun k hk => ?_
    obtain ⟨k, rfl⟩ : ∃ m, k = m + 1 := ⟨k - 1, by omega⟩
    simp only [impl_Fixed.l0]
    rw [show (((m + 1 : Nat) : Int) - 1) = (m : Int) from by omega]
    rw [if_pos (by omega), w64 (x := 8 * (m : Int)) (by omega) (by omega), if_pos (by omega), if_pos (by rw [ints_length]; omega), shr_i64 (n := 8 * m) (by simp) (by omega), pow_2_8, w64 (by omega) (by omega), ints_one (n / 256 ^ m) _ (by rw [← Int.natCast_ediv]; omega), ints_append, hK k (by omega), fixL, List.append_assoc]
    rfl
theorem impl_Fixed_ev (n w : Int) : Ev (fun k => impl_Fixed.f k n w) (fixS n w) := by
  by_cases hw : 1 ≤ w ∧ w ≤ 7
  · obtain ⟨m, rfl⟩ := Int.eq_ofNat_of_zero_le (show 0 ≤ w by omega)
    have hp := pow256_le (i := m) (by omega)
    have hp0 : 0 < 256 ^ m := Nat.pow_pos (by omega)
    have e1 : wrap64 (shl .i64 1 (wrap64 (8 * (m : Int))) - 1) = ((256 ^ m : Nat) : Int) - 1 := by
      rw [w64 (x := 8 * (m : Int)) (by omega) (by omega), shl_i64 (n := 8 * m) (by simp) (by omega), pow_2_8, Int.one_mul, w64 (x := ((256 ^ m : Nat) : Int)) (by omega) (by omega), w64 (by omega) (by omega)]
    have hcast : ((256 : Int) ^ m) = ((256 ^ m : Nat) : Int) := by simp
    by_cases hn : 0 ≤ n ∧ n < 256 ^ m
    · have hn2 := hn.2
      rw [hcast] at hn2
      obtain ⟨q, rfl⟩ := Int.eq_ofNat_of_zero_le hn.1
      obtain ⟨K, hK⟩ := evx (impl_Fixed_l0 q m [] (by omega) (by simp; omega))
      refine evi (K + 1) fun k hk => ?_
      obtain ⟨k, rfl⟩ : ∃ m, k = m + 1 := ⟨k - 1, by omega⟩
      unfold impl_Fixed.f
      rw [impl_in_f]
      simp only [Option.bind_some]
      rw [if_pos (by simpa using hw), if_pos (by rw [w64 (by omega) (by omega)]; omega), e1, impl_in_f]
      simp only [Option.bind_some, impl_Fixed.j0]
      rw [if_neg (by simp; omega), w64 (by omega) (by omega), ints_nil, hK k (by omega), fixS, if_pos ⟨hw, by simpa using hn⟩]
      simp
    · refine evi (1) fun k hk => ?_
      obtain ⟨k, rfl⟩ : ∃ m, k = m + 1 := ⟨k - 1, by omega⟩
      unfold impl_Fixed.f
      rw [impl_in_f]
      simp only [Option.bind_some]
      rw [if_pos (by simpa using hw), if_pos (by rw [w64 (by omega) (by omega)]; omega), e1, impl_in_f]
      simp only [Option.bind_some, impl_Fixed.j0]
      rw [hcast] at hn
      rw [if_pos (by simp only [Bool.not_eq_true', decide_eq_false_iff_not]; omega), fixS, if_neg (fun h => hn (by rw [← hcast]; simpa using h.2))]
      rfl
  · refine evi (1) fun k hk => ?_
    obtain ⟨k, rfl⟩ : ∃ m, k = m + 1 := ⟨k - 1, by omega⟩
    unfold impl_Fixed.f
    rw [impl_in_f]
    simp only [Option.bind_some, impl_Fixed.j0]
    rw [if_neg (by simpa using hw), if_pos trivial, fixS, if_neg (fun h => hw h.1)]
    rfl

/-- A number in so many bytes, and whether it is there. -/
def rfI (l : List UInt8) (w : Int) : Int × Bool := if (1 ≤ w ∧ w ≤ 7) ∧ w ≤ l.length then (((beL (l.take w.toNat) : Nat) : Int), true) else (0, false)
theorem or_join (n b : Nat) (hn : n < 256 ^ 6) (hb : b < 256) : Go.bits .or .i64 (wrap64 ((n : Int) * 256)) (b : Int) = ((n * 256 + b : Nat) : Int) := by
  rw [w64 (by omega) (by omega)]
  rw [bits_join .i64 63 (by decide) (fun m h0 h1 => by rw [IntKind.wrap_i64]; omega) 8 ((n : Int) * 256) (b : Int) (by omega) (by omega) (by omega) (by omega) (by omega) (by omega)]
  omega
theorem impl_ReadFixed_l0 (l : List UInt8) (w : Nat) (hw : w ≤ 7) (hl : w ≤ l.length) (d : Nat) : ∀ (i : Nat), d + i = w → Ev (fun k => impl_ReadFixed.l0 k (mkS l) ((beL (l.take i) : Nat) : Int) (w : Int) (i : Int)) (((beL (l.take w) : Nat) : Int), true) := by
  induction d with
  | zero =>
    intro i hi
    obtain rfl : i = w := by omega
    refine evi (1) fun k hk => ?_
    obtain ⟨k, rfl⟩ : ∃ m, k = m + 1 := ⟨k - 1, by omega⟩
    simp only [impl_ReadFixed.l0]
    rw [if_neg (by omega)]
  | succ d ih =>
    intro i hi
    obtain ⟨K, hK⟩ := evx (ih (i + 1) (by omega))
    refine evi (K + 1) fun k hk => ?_
    obtain ⟨k, rfl⟩ : ∃ m, k = m + 1 := ⟨k - 1, by omega⟩
    have hlt : i < l.length := by omega
    have hv := beL_lt (l.take i)
    have hp : 256 ^ (l.take i).length ≤ 256 ^ 6 := Nat.pow_le_pow_right (by omega) (by rw [List.length_take]; omega)
    simp only [impl_ReadFixed.l0]
    rw [if_pos (by omega), if_pos (by omega), if_pos (by rw [mkS_size]; omega), w64b, bt_mkS l i hlt, or_join _ _ (by omega) (l[i]).toNat_lt, w64 (by omega) (by omega)]
    have := hK k (by omega)
    rw [List.take_succ_eq_append_getElem hlt, beL_snoc] at this
    exact this
theorem impl_ReadFixed_ev (l : List UInt8) (w : Int) : Ev (fun k => impl_ReadFixed.f k (mkS l) w) (rfI l w) := by
  by_cases hw : 1 ≤ w ∧ w ≤ 7
  · by_cases hl : w ≤ l.length
    · obtain ⟨m, rfl⟩ := Int.eq_ofNat_of_zero_le (show 0 ≤ w by omega)
      obtain ⟨K, hK⟩ := evx (impl_ReadFixed_l0 l m (by omega) (by omega) m 0 (by omega))
      refine evi (K + 1) fun k hk => ?_
      obtain ⟨k, rfl⟩ : ∃ m, k = m + 1 := ⟨k - 1, by omega⟩
      unfold impl_ReadFixed.f
      rw [impl_in_f]
      simp only [Option.bind_some, impl_ReadFixed.j0]
      rw [if_pos (by simpa using hw), if_neg (by rw [mkS_size]; simp; omega), rfI, if_pos ⟨hw, hl⟩, Int.toNat_natCast]
      exact hK k (by omega)
    · refine evi (1) fun k hk => ?_
      obtain ⟨k, rfl⟩ : ∃ m, k = m + 1 := ⟨k - 1, by omega⟩
      unfold impl_ReadFixed.f
      rw [impl_in_f]
      simp only [Option.bind_some, impl_ReadFixed.j0]
      rw [if_pos (by simpa using hw), if_pos (by rw [mkS_size]; simp; omega), rfI, if_neg (fun h => hl h.2)]
  · refine evi (1) fun k hk => ?_
    obtain ⟨k, rfl⟩ : ∃ m, k = m + 1 := ⟨k - 1, by omega⟩
    unfold impl_ReadFixed.f
    rw [impl_in_f]
    simp only [Option.bind_some, impl_ReadFixed.j0]
    rw [if_neg (by simpa using hw), if_pos trivial, rfI, if_neg (fun h => hw h.1)]

def hexD (n : Nat) : UInt8 := if n < 10 then UInt8.ofNat (48 + n) else UInt8.ofNat (87 + n)
def hexL : List UInt8 → List UInt8
  | [] => []
  | b :: t => hexD (b.toNat / 16) :: hexD (b.toNat % 16) :: hexL t
theorem hexL_length (l : List UInt8) : (hexL l).length = 2 * l.length := by
  induction l with
  | nil => rfl
  | cons b t ih => rw [hexL, List.length_cons, List.length_cons, List.length_cons, ih]; omega
theorem bt_hex {n : Nat} (h : n < 16) : bt (⟨#[48, 49, 50, 51, 52, 53, 54, 55, 56, 57, 97, 98, 99, 100, 101, 102]⟩ : ByteArray) (n : Int) = ((hexD n).toNat : Int) := by
  have : ∀ n : Fin 16, bt (⟨#[48, 49, 50, 51, 52, 53, 54, 55, 56, 57, 97, 98, 99, 100, 101, 102]⟩ : ByteArray) ((n : Nat) : Int) = ((hexD n).toNat : Int) := by decide +kernel
  exact this ⟨n, h⟩
theorem and15 (b : UInt8) : Go.bits .and .u8 (b.toNat : Int) 15 = ((b.toNat % 16 : Nat) : Int) := by
  have : ∀ n : Fin 256, Go.bits .and .u8 ((n : Nat) : Int) 15 = (((n : Nat) % 16 : Nat) : Int) := by decide +kernel
  exact this ⟨b.toNat, b.toNat_lt⟩
/-- What a digit is worth, or -1. -/
def digV (b : Int) : Int := if 48 ≤ b ∧ b ≤ 57 then b - 48 else if 97 ≤ b ∧ b ≤ 102 then b - 87 else -1
theorem digV_lt (b : Int) : -1 ≤ digV b ∧ digV b ≤ 15 := by unfold digV; split <;> (try split) <;> omega
theorem digV_hexD {n : Nat} (h : n < 16) (b : Nat) (hb : b < 256) : ((hexD n).toNat : Int) = (b : Int) ↔ digV b = n := by
  have h1 : (hexD n).toNat = if n < 10 then 48 + n else 87 + n := by
    unfold hexD
    split <;> simp <;> omega
  rw [h1]
  unfold digV
  split <;> split <;> (try split) <;> omega
def unhexL : List UInt8 → Option (List UInt8)
  | [] => some []
  | [_] => none
  | a :: b :: t => if digV a.toNat < 0 ∨ digV b.toNat < 0 then none else (unhexL t).map (UInt8.ofNat (16 * digV a.toNat + digV b.toNat).toNat :: ·)
def unhexS (l : List UInt8) : ByteArray × Bool := match unhexL l with
  | some r => (mkS r, true)
  | none => (mkS [], false)
theorem unhexL_odd (n : Nat) : ∀ l : List UInt8, l.length = 2 * n + 1 → unhexL l = none := by
  induction n with
  | zero => intro l h; obtain ⟨x, rfl⟩ := List.length_eq_one_iff.1 h; rfl
  | succ n ih =>
    intro l h
    match l, h with
    | a :: b :: t, h =>
      rw [unhexL, ih t (by simp only [List.length_cons] at h; omega)]
      split <;> rfl
theorem unhexL_hexL (l : List UInt8) : unhexL (hexL l) = some l := by
  induction l with
  | nil => rfl
  | cons b t ih =>
    have hb := b.toNat_lt
    rw [hexL, unhexL, ih]
    have e1 := (digV_hexD (n := b.toNat / 16) (by omega) (hexD (b.toNat / 16)).toNat (UInt8.toNat_lt _)).1 rfl
    have e2 := (digV_hexD (n := b.toNat % 16) (by omega) (hexD (b.toNat % 16)).toNat (UInt8.toNat_lt _)).1 rfl
    rw [e1, e2, if_neg (by omega), Option.map_some]
    congr 2
    apply UInt8.toNat_inj.1
    simp
    omega

theorem impl_Hex_l0 (l : List UInt8) (hl : l.length ≤ 10000000) (d : Nat) : ∀ (i : Nat) (acc : List UInt8), d + i = l.length → acc.length + 2 * d ≤ 30000000 → Ev (fun k => impl_Hex.l0 k (mkS l) (ints acc) (i : Int)) (mkS (acc ++ hexL (l.drop i))) := by
  induction d with
  | zero =>
    intro i acc hi ha
    refine evi (1) fun k hk => ?_
    obtain ⟨k, rfl⟩ : ∃ m, k = m + 1 := ⟨k - 1, by omega⟩
    simp only [impl_Hex.l0]
    rw [if_neg (by rw [mkS_size]; omega), strOfNums_ints, List.drop_of_length_le (by omega), hexL, List.append_nil]
  | succ d ih =>
    intro i acc hi ha
    have hlt : i < l.length := by omega
    have hx := (l[i]).toNat_lt
    obtain ⟨K, hK⟩ := evx (ih (i + 1) (acc ++ [hexD (l[i].toNat / 16), hexD (l[i].toNat % 16)]) (by omega) (by simp; omega))
    refine evi (K + 1) fun k hk => ?_
    obtain ⟨k, rfl⟩ : ∃ m, k = m + 1 := ⟨k - 1, by omega⟩
    simp only [impl_Hex.l0, Option.bind_some]
    rw [if_pos (by rw [mkS_size]; omega), if_pos (by omega), bt_mkS l i hlt, and15, if_pos (by omega), if_pos (by omega), if_pos (by omega), if_pos (by omega)]
    rw [show ((l[i].toNat : Int) / 16) = ((l[i].toNat / 16 : Nat) : Int) from by omega, bt_hex (by omega), bt_hex (by omega)]
    rw [if_pos (by rw [ints_length]; simp; omega), w64 (by omega) (by omega)]
    have := hK k (by omega)
    rw [List.append_assoc, List.cons_append, List.cons_append, List.nil_append] at this
    rw [List.drop_eq_getElem_cons hlt, hexL, ← this, ← ints_append]
    rfl
theorem impl_Hex_ev (l : List UInt8) (hl : l.length ≤ 10000000) : Ev (fun k => impl_Hex.f k (mkS l)) (mkS (hexL l)) := by
  have := impl_Hex_l0 l hl l.length 0 [] rfl (by simp; omega)
  exact this

theorem impl_digit_ev (b : Nat) (hb : b < 256) (k : Nat) (hk : 0 < k) : impl_digit.f k (b : Int) = some (digV b) := by
  obtain ⟨k, rfl⟩ : ∃ m, k = m + 1 := ⟨k - 1, by omega⟩
  unfold impl_digit.f digV
  simp only [impl_digit.j0]
  by_cases h1 : 48 ≤ b ∧ b ≤ 57
  · rw [if_pos (by omega), if_pos (by simp; omega), if_pos (by omega)]; congr 1; omega
  · rw [if_neg (show ¬ (48 ≤ (b : Int) ∧ (b : Int) ≤ 57) by omega)]
    have e : (if (b : Int) ≥ 48 then (if decide ((b : Int) ≤ 57) = true then some (((b : Int) - 48) % 256) else if (b : Int) ≥ 97 then (if (b : Int) ≤ 102 then some ((((b : Int) - 97) % 256) + 10) else some (-1)) else some (-1)) else (if false = true then some (((b : Int) - 48) % 256) else if (b : Int) ≥ 97 then (if (b : Int) ≤ 102 then some ((((b : Int) - 97) % 256) + 10) else some (-1)) else some (-1))) = (if (b : Int) ≥ 97 then (if (b : Int) ≤ 102 then some ((((b : Int) - 97) % 256) + 10) else some (-1)) else some (-1)) := by
      by_cases h2 : (b : Int) ≥ 48
      · rw [if_pos h2, if_neg (by simp; omega)]
      · rw [if_neg h2, if_neg (by decide)]
    rw [e]
    by_cases h3 : 97 ≤ (b : Int)
    · rw [if_pos h3]
      by_cases h4 : (b : Int) ≤ 102
      · rw [if_pos h4, if_pos ⟨h3, h4⟩]; congr 1; omega
      · rw [if_neg h4, if_neg (by omega)]
    · rw [if_neg h3, if_neg (by omega)]
theorem impl_Unhex_l0 (l : List UInt8) (hl : l.length ≤ 10000000) (d : Nat) : ∀ (i : Nat) (acc : List UInt8), 2 * d + i = l.length → acc.length + d ≤ 30000000 → Ev (fun k => impl_Unhex.l0 k (mkS l) (ints acc) (i : Int)) (match unhexL (l.drop i) with | some r => (mkS (acc ++ r), true) | none => (mkS [], false)) := by
  induction d with
  | zero =>
    intro i acc hi ha
    refine evi (1) fun k hk => ?_
    obtain ⟨k, rfl⟩ : ∃ m, k = m + 1 := ⟨k - 1, by omega⟩
    simp only [impl_Unhex.l0]
    rw [if_neg (by rw [mkS_size]; omega), strOfNums_ints, List.drop_of_length_le (by omega), unhexL]
    simp
  | succ d ih =>
    intro i acc hi ha
    have hlt : i < l.length := by omega
    have hlt1 : i + 1 < l.length := by omega
    have hx := (l[i]).toNat_lt
    have hx1 := (l[i + 1]).toNat_lt
    have hd0 := digV_lt (l[i]).toNat
    have hd1 := digV_lt (l[i + 1]).toNat
    have hdr : l.drop i = l[i] :: l[i + 1] :: l.drop (i + 2) := by rw [List.drop_eq_getElem_cons hlt, List.drop_eq_getElem_cons hlt1]
    have hc1 : ((i : Int) + 1) = ((i + 1 : Nat) : Int) := by omega
    by_cases hneg : digV (l[i]).toNat < 0 ∨ digV (l[i + 1]).toNat < 0
    · refine evi (2) fun k hk => ?_
      obtain ⟨k, rfl⟩ : ∃ m, k = m + 1 := ⟨k - 1, by omega⟩
      simp only [impl_Unhex.l0]
      rw [if_pos (by rw [mkS_size]; omega), if_pos (by omega), w64 (x := (i : Int) + 1) (by omega) (by omega), hc1, bt_mkS l i hlt, bt_mkS l (i + 1) hlt1, impl_digit_ev _ hx k (by omega), impl_digit_ev _ hx1 k (by omega)]
      simp only [Option.bind_some]
      rw [if_pos (by omega), if_pos (by rw [mkS_size]; omega), hdr, unhexL, if_pos hneg]
      by_cases h0 : digV (l[i]).toNat < 0
      · rw [if_pos h0]; rfl
      · rw [if_neg h0, if_pos (by omega)]; rfl
    · have hn0 : ¬ digV (l[i]).toNat < 0 := fun h => hneg (.inl h)
      have hn1 : ¬ digV (l[i + 1]).toNat < 0 := fun h => hneg (.inr h)
      obtain ⟨K, hK⟩ := evx (ih (i + 2) (acc ++ [UInt8.ofNat (16 * digV (l[i]).toNat + digV (l[i + 1]).toNat).toNat]) (by omega) (by simp; omega))
      refine evi (K + 2) fun k hk => ?_
      obtain ⟨k, rfl⟩ : ∃ m, k = m + 1 := ⟨k - 1, by omega⟩
      rw [impl_Unhex.l0]
      rw [if_pos (by rw [mkS_size]; omega), if_pos (by omega), w64 (x := (i : Int) + 1) (by omega) (by omega), hc1, bt_mkS l i hlt, bt_mkS l (i + 1) hlt1, impl_digit_ev _ hx k (by omega), impl_digit_ev _ hx1 k (by omega)]
      simp only [Option.bind_some]
      rw [if_pos (by omega), if_pos (by rw [mkS_size]; omega), if_neg hn0, if_neg hn1, if_pos (by rw [ints_length]; omega)]
      rw [w64 (x := 16 * digV (l[i]).toNat) (by omega) (by omega), w64 (x := 16 * digV (l[i]).toNat + digV (l[i + 1]).toNat) (by omega) (by omega), w64 (by omega) (by omega), ints_one (16 * digV (l[i]).toNat + digV (l[i + 1]).toNat).toNat _ (by omega), ints_append]
      have := hK k (by omega)
      rw [show ((i : Int) + 2) = ((i + 2 : Nat) : Int) from by omega, this, hdr, unhexL, if_neg hneg]
      cases unhexL (l.drop (i + 2)) with
      | none => rfl
      | some r => simp only [Option.map_some]; rw [List.append_assoc]; rfl
theorem impl_Unhex_ev (l : List UInt8) (hl : l.length ≤ 10000000) : Ev (fun k => impl_Unhex.f k (mkS l)) (unhexS l) := by
  by_cases h : l.length % 2 = 0
  · obtain ⟨K, hK⟩ := evx (impl_Unhex_l0 l hl (l.length / 2) 0 [] (by omega) (by simp; omega))
    refine evi (K) fun k hk => ?_
    unfold impl_Unhex.f
    rw [if_pos (by rw [mkS_size]; omega), ints_nil]
    exact (hK k hk).trans rfl
  · refine evi (0) fun k hk => ?_
    unfold impl_Unhex.f unhexS
    rw [if_neg (by rw [mkS_size]; omega), unhexL_odd (l.length / 2) l (by omega)]
    rfl

theorem itoa_nat (u : Nat) : Lib.itoa (u : Int) = Lib.decDigits u := by unfold Lib.itoa; rw [if_neg (by omega), Int.toNat_natCast]
theorem itoa_neg {u : Nat} (h : 0 < u) : Lib.itoa (-(u : Int)) = 45 :: Lib.decDigits u := by unfold Lib.itoa; rw [if_pos (by omega), show (-(u : Int)).natAbs = u from by omega]
theorem dec_small {u : Nat} (h : u < 10) : Lib.decDigits u = [UInt8.ofNat (48 + u)] := by rw [Lib.decDigits, dif_pos h]
theorem dec_big {u : Nat} (h : ¬ u < 10) : Lib.decDigits u = Lib.decDigits (u / 10) ++ [UInt8.ofNat (48 + u % 10)] := by rw [Lib.decDigits, dif_neg h]
theorem dec_ne (u : Nat) : Lib.decDigits u ≠ [] := by
  by_cases h : u < 10
  · rw [dec_small h]; simp
  · rw [dec_big h]; simp
theorem dig_toNat {d : Nat} (h : d < 10) : (UInt8.ofNat (48 + d)).toNat = 48 + d := by simp; omega
theorem dec_digits (u : Nat) : ∀ c ∈ Lib.decDigits u, 48 ≤ c.toNat ∧ c.toNat ≤ 57 := by
  induction u using Nat.strongRecOn with
  | _ u ih =>
    by_cases h : u < 10
    · rw [dec_small h]; intro c hc; rw [List.mem_singleton] at hc; rw [hc, dig_toNat h]; omega
    · rw [dec_big h]
      intro c hc
      rcases List.mem_append.1 hc with hc | hc
      · exact ih (u / 10) (by omega) c hc
      · rw [List.mem_singleton] at hc; rw [hc, dig_toNat (by omega)]; omega
theorem dec_len (j : Nat) : ∀ u : Nat, u < 10 ^ (j + 1) → (Lib.decDigits u).length ≤ j + 1 := by
  induction j with
  | zero => intro u h; rw [dec_small (by simpa using h)]; simp
  | succ j ih =>
    intro u h
    by_cases hu : u < 10
    · rw [dec_small hu]; simp
    · have := ih (u / 10) (by rw [Nat.div_lt_iff_lt_mul (by omega)]; rw [Nat.pow_succ] at h; exact h)
      rw [dec_big hu, List.length_append]
      simp only [List.length_singleton]
      omega
theorem itoa_len (n : Int) (h0 : -9223372036854775808 ≤ n) (h1 : n ≤ 9223372036854775807) : (Lib.itoa n).length ≤ 20 := by
  by_cases h : n < 0
  · have e := itoa_neg (u := n.natAbs) (by omega)
    rw [show (-((n.natAbs : Nat) : Int)) = n from by omega] at e
    rw [e, List.length_cons]
    have := dec_len 18 n.natAbs (by omega)
    omega
  · obtain ⟨u, rfl⟩ := Int.eq_ofNat_of_zero_le (show 0 ≤ n by omega)
    rw [itoa_nat]
    have := dec_len 18 u (by omega)
    omega

theorem atoi_digits (u : Nat) : ∀ t : List UInt8, u < 1000000000000000000 → Lib.parseUint10 0 (Lib.decDigits u ++ t) = Lib.parseUint10 u t := by
  induction u using Nat.strongRecOn with
  | _ u ih =>
    intro t hu
    by_cases h : u < 10
    · rw [dec_small h, List.singleton_append, Lib.parseUint10, dig_toNat h, if_pos (by omega), if_neg (by omega), if_neg (by omega)]
      congr 1
      omega
    · rw [dec_big h, List.append_assoc, ih (u / 10) (by omega) _ (by omega), List.singleton_append, Lib.parseUint10, dig_toNat (by omega), if_pos (by omega), if_neg (by omega), if_neg (by omega)]
      congr 1
      omega
theorem atoi_mag (u : Nat) (hu : u < 1000000000000000000) : Lib.parseMag (Lib.decDigits u) = .ok u := by
  unfold Lib.parseMag
  rw [if_neg (dec_ne u)]
  have := atoi_digits u [] hu
  rw [List.append_nil] at this
  rw [this]
  rfl
theorem atoi_itoa (v : Int) (h0 : -999999999 ≤ v) (h1 : v ≤ 999999999) : Lib.atoiAll (Lib.itoa v) = .ok v := by
  by_cases hn : v < 0
  · obtain ⟨u, rfl⟩ : ∃ u : Nat, v = -(u : Int) := ⟨v.natAbs, by omega⟩
    rw [itoa_neg (by omega)]
    unfold Lib.atoiAll
    have e : (45 : UInt8).toNat = 45 := rfl
    simp only [e]
    rw [if_pos (Or.inr trivial), atoi_mag u (by omega)]
    simp only
    rw [if_neg (by simp), if_neg (by omega), if_pos trivial]
  · obtain ⟨u, rfl⟩ := Int.eq_ofNat_of_zero_le (show 0 ≤ v by omega)
    rw [itoa_nat]
    have hm := atoi_mag u (by omega)
    have hd := dec_digits u
    cases hl : Lib.decDigits u with
    | nil => exact absurd hl (dec_ne u)
    | cons c r =>
      have hc := hd c (by rw [hl]; simp)
      rw [hl] at hm
      unfold Lib.atoiAll
      simp only
      rw [if_neg (by omega), hm]
      simp only
      rw [if_neg (by omega), if_neg (by omega), if_neg (by omega)]
theorem itoa_len10 (v : Int) (h0 : -999999999 ≤ v) (h1 : v ≤ 999999999) : (Lib.itoa v).length ≤ 10 := by
  by_cases hn : v < 0
  · obtain ⟨u, rfl⟩ : ∃ u : Nat, v = -(u : Int) := ⟨v.natAbs, by omega⟩
    rw [itoa_neg (by omega), List.length_cons]
    have := dec_len 8 u (by omega)
    omega
  · obtain ⟨u, rfl⟩ := Int.eq_ofNat_of_zero_le (show 0 ≤ v by omega)
    rw [itoa_nat]
    have := dec_len 8 u (by omega)
    omega
/-- The digits among bytes, as spec reads them: the number, and how many. -/
def pdF : List UInt8 → Nat → Nat → Nat × Nat
  | [], n, k => (n, k)
  | c :: t, n, k => if 48 ≤ c.toNat ∧ c.toNat ≤ 57 then pdF t (n * 10 + (c.toNat - 48)) (k + 1) else pdF t n k
theorem pdF_lt (l : List UInt8) : ∀ n k, n < 10 ^ k → (pdF l n k).1 < 10 ^ (pdF l n k).2 := by
  induction l with
  | nil => intro n k h; exact h
  | cons c t ih =>
    intro n k h
    rw [pdF]
    split
    · exact ih _ _ (by rw [Nat.pow_succ]; omega)
    · exact ih _ _ h
theorem pdF_digits (u : Nat) : ∀ (t : List UInt8) (k : Nat), pdF (Lib.decDigits u ++ t) 0 k = pdF t u (k + (Lib.decDigits u).length) := by
  induction u using Nat.strongRecOn with
  | _ u ih =>
    intro t k
    by_cases h : u < 10
    · rw [dec_small h, List.singleton_append, pdF, dig_toNat h, if_pos (by omega)]
      congr 1
      omega
    · rw [dec_big h, List.append_assoc, ih (u / 10) (by omega), List.singleton_append, pdF, dig_toNat (by omega), if_pos (by omega), List.length_append, List.length_singleton]
      congr 1
      omega
def signed (l : List UInt8) (n : Nat) : Int := if l.head? = some 45 then -(n : Int) else (n : Int)
def rdEnd (l : List UInt8) (p : Nat × Nat) : Int × Bool := if p.2 > 9 then (0, false) else if l.length > 10 then (0, false) else if Lib.itoa (signed l p.1) = l then (signed l p.1, true) else (0, false)
def readDecO (l : List UInt8) : Int × Bool := rdEnd l (pdF (l.take 11) 0 0)
theorem readDec_cases (l : List UInt8) : (∃ v, Lib.itoa v = l ∧ (-999999999 ≤ v ∧ v ≤ 999999999) ∧ readDecO l = (v, true)) ∨ ((∀ v, -999999999 ≤ v → v ≤ 999999999 → Lib.itoa v ≠ l) ∧ readDecO l = (0, false)) := by
  by_cases h : ∃ v, Lib.itoa v = l ∧ -999999999 ≤ v ∧ v ≤ 999999999
  · obtain ⟨v, rfl, h0, h1⟩ := h
    refine Or.inl ⟨v, rfl, ⟨h0, h1⟩, ?_⟩
    have hl := itoa_len10 v h0 h1
    unfold readDecO
    rw [List.take_of_length_le (by omega)]
    have key : (pdF (Lib.itoa v) 0 0).2 ≤ 9 ∧ signed (Lib.itoa v) (pdF (Lib.itoa v) 0 0).1 = v := by
      by_cases hn : v < 0
      · obtain ⟨u, rfl⟩ : ∃ u : Nat, v = -(u : Int) := ⟨v.natAbs, by omega⟩
        have hd := dec_len 8 u (by omega)
        have e : Lib.itoa (-(u : Int)) = 45 :: Lib.decDigits u := itoa_neg (by omega)
        have e2 : pdF (Lib.decDigits u) 0 0 = (u, (Lib.decDigits u).length) := by
          have := pdF_digits u [] 0
          rw [List.append_nil, Nat.zero_add] at this
          exact this
        have e3 : pdF (Lib.itoa (-(u : Int))) 0 0 = (u, (Lib.decDigits u).length) := by rw [e, pdF, if_neg (by decide), e2]
        rw [e3]
        refine ⟨by simp only; omega, ?_⟩
        unfold signed
        rw [e, if_pos (by rfl)]
      · obtain ⟨u, rfl⟩ := Int.eq_ofNat_of_zero_le (show 0 ≤ v by omega)
        have hd := dec_len 8 u (by omega)
        have e2 : pdF (Lib.decDigits u) 0 0 = (u, (Lib.decDigits u).length) := by
          have := pdF_digits u [] 0
          rw [List.append_nil, Nat.zero_add] at this
          exact this
        rw [itoa_nat, e2]
        refine ⟨by simp only; omega, ?_⟩
        unfold signed
        rw [if_neg]
        intro hh
        have hm : (45 : UInt8) ∈ Lib.decDigits u := List.mem_of_head? hh
        have := dec_digits u 45 hm
        have e45 : (45 : UInt8).toNat = 45 := rfl
        omega
    unfold rdEnd
    rw [if_neg (by omega), if_neg (by omega), key.2, if_pos rfl]
  · refine Or.inr ⟨fun v h0 h1 e => h ⟨v, e, h0, h1⟩, ?_⟩
    unfold readDecO rdEnd
    have hlt := pdF_lt (l.take 11) 0 0 (by omega)
    generalize pdF (l.take 11) 0 0 = p at *
    by_cases h9 : p.2 > 9
    · rw [if_pos h9]
    · rw [if_neg h9]
      by_cases h10 : l.length > 10
      · rw [if_pos h10]
      · rw [if_neg h10, if_neg]
        intro he
        have hp : 10 ^ p.2 ≤ 10 ^ 9 := Nat.pow_le_pow_right (by omega) (by omega)
        refine h ⟨signed l p.1, he, ?_⟩
        unfold signed
        split <;> omega
theorem impl_ReadDec_f (l : List UInt8) (hl : l.length ≤ 1048576) : impl_ReadDec.f (mkS l) = some (readDecO l) := by
  unfold impl_ReadDec.f
  rw [if_pos (by rw [mkS_size]; omega), mkS_toList]
  rcases readDec_cases l with ⟨v, rfl, ⟨h0, h1⟩, he⟩ | ⟨hn, he⟩
  · rw [atoi_itoa v h0 h1, he]
    simp only
    rw [if_pos (by omega), if_pos trivial, if_pos h0, if_pos h1]
  · rw [he]
    cases ha : Lib.atoiAll l with
    | ok v =>
      simp only
      have hr : -9223372036854775808 ≤ v ∧ v ≤ 9223372036854775807 := by
        unfold Lib.atoiAll at ha
        split at ha
        · cases ha
        · rename_i c r
          simp only at ha
          split at ha
          · cases ha
          · cases ha
          · rename_i u hu
            split at ha
            · cases ha
            · split at ha
              · cases ha
              · injection ha with ha
                subst ha
                split <;> omega
      rw [if_pos hr]
      by_cases h1 : Lib.itoa v = l
      · rw [if_pos h1]
        by_cases h2 : -999999999 ≤ v
        · rw [if_pos h2]
          by_cases h3 : v ≤ 999999999
          · exact absurd h1 (hn v h2 h3)
          · rw [if_neg h3]
        · rw [if_neg h2]
      · rw [if_neg h1]
    | «syntax» => rfl
    | range => rfl
def decV (l : List UInt8) : Nat := l.foldl (fun a b => a * 10 + (b.toNat - 48)) 0
theorem decV_dec (m : Nat) : ∀ u, u ≤ m → decV (Lib.decDigits u) = u := by
  induction m with
  | zero => intro u hu; have : u = 0 := by omega
            subst this; rw [dec_small (by omega)]; rfl
  | succ m ih =>
    intro u hu
    by_cases h : u < 10
    · rw [dec_small h]
      show 0 * 10 + ((UInt8.ofNat (48 + u)).toNat - 48) = u
      rw [ofNat_toNat_lt _ (by omega)]
      omega
    · rw [dec_big h]
      have := ih (u / 10) (by omega)
      unfold decV at this ⊢
      rw [List.foldl_append, this]
      show u / 10 * 10 + ((UInt8.ofNat (48 + u % 10)).toNat - 48) = u
      rw [ofNat_toNat_lt _ (by omega)]
      omega
theorem itoa_inj {v w : Int} (h : Lib.itoa v = Lib.itoa w) : v = w := by
  have key : ∀ a b : Nat, 0 < a → Lib.itoa (-(a : Int)) ≠ Lib.itoa (b : Int) := by
    intro a b ha e
    rw [itoa_neg ha, itoa_nat] at e
    have := (dec_digits b 45 (by rw [← e]; simp)).1
    exact absurd this (by decide)
  rcases Int.lt_or_le v 0 with hv | hv <;> rcases Int.lt_or_le w 0 with hw | hw
  · obtain ⟨a, rfl⟩ : ∃ a : Nat, v = -(a : Int) := ⟨v.natAbs, by omega⟩
    obtain ⟨b, rfl⟩ : ∃ b : Nat, w = -(b : Int) := ⟨w.natAbs, by omega⟩
    rw [itoa_neg (by omega), itoa_neg (by omega)] at h
    have h2 := congrArg decV (List.cons.inj h).2
    rw [decV_dec a a (Nat.le_refl _), decV_dec b b (Nat.le_refl _)] at h2
    omega
  · obtain ⟨a, rfl⟩ : ∃ a : Nat, v = -(a : Int) := ⟨v.natAbs, by omega⟩
    obtain ⟨b, rfl⟩ := Int.eq_ofNat_of_zero_le hw
    exact absurd h (key a b (by omega))
  · obtain ⟨a, rfl⟩ : ∃ a : Nat, w = -(a : Int) := ⟨w.natAbs, by omega⟩
    obtain ⟨b, rfl⟩ := Int.eq_ofNat_of_zero_le hv
    exact absurd h.symm (key a b (by omega))
  · obtain ⟨a, rfl⟩ := Int.eq_ofNat_of_zero_le hv
    obtain ⟨b, rfl⟩ := Int.eq_ofNat_of_zero_le hw
    rw [itoa_nat, itoa_nat] at h
    have h2 := congrArg decV h
    rw [decV_dec a a (Nat.le_refl _), decV_dec b b (Nat.le_refl _)] at h2
    omega

theorem and255 (x : Int) : 0 ≤ Go.bits .and .i64 x 255 ∧ Go.bits .and .i64 x 255 ≤ 255 := by
  have hb : (BitVec.ofInt 64 x &&& BitVec.ofInt 64 255).toNat ≤ 255 := by
    rw [BitVec.toNat_and]; exact Nat.le_trans Nat.and_le_right (by decide)
  have e : Go.bits .and .i64 x 255 = IntKind.i64.wrap (((BitVec.ofInt 64 x &&& BitVec.ofInt 64 255).toNat : Nat) : Int) := rfl
  rw [e, IntKind.wrap_i64]
  omega
def okP (c : List Int) (p : Int) : Prop := 0 ≤ p ∧ p ≤ (c.length : Int)
theorem byte_ex (c : List Int) (hc : c.length ≤ 1048576) (p s : Int) (hp : okP c p) : ∃ v p' s', spec_l1Byte.f c p s = some (v, p', s') ∧ (0 ≤ v ∧ v ≤ 255) ∧ okP c p' := by
  unfold okP at *
  unfold spec_l1Byte.f
  by_cases h : p < (c.length : Int)
  · rw [if_pos h, if_pos hp.1]
    refine ⟨_, _, _, rfl, and255 _, ?_⟩
    rw [w64 (by omega) (by omega)]
    omega
  · rw [if_neg h]
    exact ⟨_, _, _, rfl, and255 _, hp⟩
theorem below_ex (c : List Int) (hc : c.length ≤ 1048576) (p s : Int) (hp : okP c p) (a : Int) : ∃ v p' s', spec_l1Below.f c p s a = some (v, p', s') ∧ 0 ≤ v ∧ (0 < a → v < a) ∧ (a ≤ 0 → v = 0) ∧ okP c p' := by
  unfold spec_l1Below.f
  by_cases h0 : a ≤ 0
  · rw [if_pos h0]
    exact ⟨_, _, _, rfl, by omega, by omega, fun _ => rfl, hp⟩
  · rw [if_neg h0]
    by_cases h1 : a ≤ 256
    · rw [if_pos h1]
      obtain ⟨v, p1, s1, e1, hv, hp1⟩ := byte_ex c hc p s hp
      rw [e1]
      simp only [Option.bind_some]
      rw [if_neg (by omega)]
      refine ⟨_, _, _, rfl, ?_, fun _ => ?_, by omega, hp1⟩
      · exact Int.tmod_nonneg _ hv.1
      · exact Int.tmod_lt_of_pos _ (by omega)
    · rw [if_neg h1]
      obtain ⟨v1, p1, s1, e1, hv1, hp1⟩ := byte_ex c hc p s hp
      obtain ⟨v2, p2, s2, e2, hv2, hp2⟩ := byte_ex c hc p1 s1 hp1
      obtain ⟨v3, p3, s3, e3, hv3, hp3⟩ := byte_ex c hc p2 s2 hp2
      obtain ⟨v4, p4, s4, e4, hv4, hp4⟩ := byte_ex c hc p3 s3 hp3
      rw [e1]
      simp only [Option.bind_some]
      rw [e2]
      simp only [Option.bind_some]
      rw [e3]
      simp only [Option.bind_some]
      rw [e4]
      simp only [Option.bind_some]
      rw [if_neg (by omega)]
      refine ⟨_, _, _, rfl, ?_, fun _ => ?_, by omega, hp4⟩
      · apply Int.tmod_nonneg
        rw [w64 (x := v1 * 16777216) (by omega) (by omega), w64 (x := v2 * 65536) (by omega) (by omega), w64 (x := v1 * 16777216 + v2 * 65536) (by omega) (by omega), w64 (x := v3 * 256) (by omega) (by omega), w64 (x := v1 * 16777216 + v2 * 65536 + v3 * 256) (by omega) (by omega), w64 (by omega) (by omega)]
        omega
      · exact Int.tmod_lt_of_pos _ (by omega)
theorem text_l0 (c : List Int) (hc : c.length ≤ 1048576) (x : Int) (d : Nat) : ∀ (acc : List Int) (p s : Int), okP c p → acc.length + d ≤ 1000000 → ∃ r p' s', Ev (fun k => spec_l1Text.l0 k acc x (d : Int) c p s) (r, p', s') ∧ r.size ≤ acc.length + d ∧ okP c p' := by
  induction d with
  | zero =>
    intro acc p s hp ha
    refine ⟨strOfNums acc, p, s, evi 1 (fun k hk => ?_), by rw [strOfNums_size]; omega, hp⟩
    obtain ⟨k, rfl⟩ : ∃ m, k = m + 1 := ⟨k - 1, by omega⟩
    rw [spec_l1Text.l0, if_neg (by omega)]
  | succ d ih =>
    intro acc p s hp ha
    obtain ⟨v, p1, s1, e1, hv, hp1⟩ := byte_ex c hc p s hp
    have key : ∀ v' : Int, ∃ r p' s', Ev (fun k => spec_l1Text.j1 k acc x ((d + 1 : Nat) : Int) v' c p1 s1) (r, p', s') ∧ r.size ≤ acc.length + (d + 1) ∧ okP c p' := by
      intro v'
      have hd : wrap64 (((d + 1 : Nat) : Int) - 1) = (d : Int) := by rw [w64 (by omega) (by omega)]; omega
      by_cases hx : x = 2
      · obtain ⟨r, p', s', hE, hr, hp'⟩ := ih (acc ++ [(wrap64 (97 + (Int.tmod v' 4))) % 256]) p1 s1 hp1 (by rw [List.length_append, List.length_singleton]; omega)
        obtain ⟨K, hK⟩ := evx hE
        refine ⟨r, p', s', evi (K + 1) (fun k hk => ?_), by rw [List.length_append, List.length_singleton] at hr; omega, hp'⟩
        obtain ⟨k, rfl⟩ : ∃ m, k = m + 1 := ⟨k - 1, by omega⟩
        rw [spec_l1Text.j1, if_pos hx, if_pos (by omega), hd]
        exact hK k (by omega)
      · obtain ⟨r, p', s', hE, hr, hp'⟩ := ih (acc ++ [v' % 256]) p1 s1 hp1 (by rw [List.length_append, List.length_singleton]; omega)
        obtain ⟨K, hK⟩ := evx hE
        refine ⟨r, p', s', evi (K + 1) (fun k hk => ?_), by rw [List.length_append, List.length_singleton] at hr; omega, hp'⟩
        obtain ⟨k, rfl⟩ : ∃ m, k = m + 1 := ⟨k - 1, by omega⟩
        rw [spec_l1Text.j1, if_neg hx, if_pos (by omega), hd]
        exact hK k (by omega)
    by_cases h1 : x = 1
    · obtain ⟨r, p', s', hE, hr, hp'⟩ := key (Int.tmod v 2)
      obtain ⟨K, hK⟩ := evx hE
      refine ⟨r, p', s', evi (K + 1) (fun k hk => ?_), hr, hp'⟩
      obtain ⟨k, rfl⟩ : ∃ m, k = m + 1 := ⟨k - 1, by omega⟩
      rw [spec_l1Text.l0, if_pos (by omega), e1]
      simp only [Option.bind_some]
      rw [if_pos h1]
      exact hK k (by omega)
    · obtain ⟨r, p', s', hE, hr, hp'⟩ := key v
      obtain ⟨K, hK⟩ := evx hE
      refine ⟨r, p', s', evi (K + 1) (fun k hk => ?_), hr, hp'⟩
      obtain ⟨k, rfl⟩ : ∃ m, k = m + 1 := ⟨k - 1, by omega⟩
      rw [spec_l1Text.l0, if_pos (by omega), e1]
      simp only [Option.bind_some]
      rw [if_neg h1]
      exact hK k (by omega)
theorem text_f {c : List Int} {p s a v1 p1 s1 v2 p2 s2 : Int} (h1 : spec_l1Below.f c p s 4 = some (v1, p1, s1)) (h2 : spec_l1Below.f c p1 s1 (wrap64 (a + 1)) = some (v2, p2, s2)) (k : Nat) : spec_l1Text.f k c p s a = spec_l1Text.l0 k ([] : List Int) v1 v2 c p2 s2 := by
  unfold spec_l1Text.f
  rw [h1]
  simp only [Option.bind_some]
  rw [h2]
  simp only [Option.bind_some]
theorem text_ex (c : List Int) (hc : c.length ≤ 1048576) (p s : Int) (hp : okP c p) (a : Nat) (ha : a ≤ 1000) : ∃ r p' s', Ev (fun k => spec_l1Text.f k c p s (a : Int)) (r, p', s') ∧ r.size ≤ a ∧ okP c p' := by
  obtain ⟨v1, p1, s1, e1, hv1, _, _, hp1⟩ := below_ex c hc p s hp 4
  obtain ⟨v2, p2, s2, e2, hv2, hv2', _, hp2⟩ := below_ex c hc p1 s1 hp1 (wrap64 ((a : Int) + 1))
  have hw : wrap64 ((a : Int) + 1) = (a : Int) + 1 := w64 (by omega) (by omega)
  rw [hw] at hv2'
  have := hv2' (by omega)
  obtain ⟨n, rfl⟩ := Int.eq_ofNat_of_zero_le hv2
  obtain ⟨r, p', s', hE, hr, hp'⟩ := text_l0 c hc v1 n [] p2 s2 hp2 (by simp only [List.length_nil]; omega)
  obtain ⟨K, hK⟩ := evx hE
  refine ⟨r, p', s', evi K (fun k hk => ?_), by simp only [List.length_nil] at hr; omega, hp'⟩
  have e := text_f e1 e2 k
  rw [e]
  exact hK k hk
theorem new_ex (c : List Int) (hc : c.length ≤ 1048576) : ∃ s, Ev (fun k => spec_l1New.f k c) (c, 0, s) := by
  have key : ∀ (d i : Nat) (h : Int), d + i = c.length → ∃ s, Ev (fun k => spec_l1New.l0 k c h (i : Int)) (c, 0, s) := by
    intro d
    induction d with
    | zero =>
      intro i h hi
      refine ⟨h, evi 1 (fun k hk => ?_)⟩
      obtain ⟨k, rfl⟩ : ∃ m, k = m + 1 := ⟨k - 1, by omega⟩
      rw [spec_l1New.l0, if_neg (by omega)]
    | succ d ih =>
      intro i h hi
      by_cases h4 : (i : Int) < 4000
      · obtain ⟨s, hs⟩ := ih (i + 1) (Go.bits .and .i64 (wrap64 ((wrap64 ((wrap64 (h * 131)) + (wrap64 (rd c (i : Int))))) + 7)) 1073741823) (by omega)
        obtain ⟨K, hK⟩ := evx hs
        refine ⟨s, evi (K + 1) (fun k hk => ?_)⟩
        obtain ⟨k, rfl⟩ : ∃ m, k = m + 1 := ⟨k - 1, by omega⟩
        have hgo := hK k (by omega)
        have e2 : wrap64 ((i : Int) + 1) = ((i + 1 : Nat) : Int) := by rw [w64 (by omega) (by omega)]; omega
        rw [spec_l1New.l0, if_pos (by omega), if_pos h4, if_pos (by omega), e2]
        exact hgo
      · refine ⟨h, evi 1 (fun k hk => ?_)⟩
        obtain ⟨k, rfl⟩ : ∃ m, k = m + 1 := ⟨k - 1, by omega⟩
        rw [spec_l1New.l0, if_pos (by omega), if_neg h4]
  obtain ⟨s, hs⟩ := key c.length 0 (wrap64 (10101 + (c.length : Int))) rfl
  exact ⟨s, hs⟩
theorem spoil_ex (c : List Int) (hc : c.length ≤ 1048576) (p s : Int) (hp : okP c p) (t : ByteArray) (ht : t.size ≤ 100000) : ∃ r p' s', Ev (fun k => spec_l1Spoil.f k c p s t) (r, p', s') ∧ r.size ≤ t.size + 3 ∧ okP c p' := by
  by_cases h0 : (t.size : Int) = 0
  · obtain ⟨r, p1, s1, hE, hrs, hp1⟩ := text_ex c hc p s hp 3 (by omega)
    obtain ⟨K, hK⟩ := evx hE
    refine ⟨r, p1, s1, evi K (fun k hk => ?_), by omega, hp1⟩
    have hgo : spec_l1Text.f k c p s 3 = some (r, p1, s1) := hK k hk
    unfold spec_l1Spoil.f
    rw [if_pos h0, hgo]
    rfl
  · obtain ⟨v1, p1, s1, e1, hv1, hv1', _, hp1⟩ := below_ex c hc p s hp (t.size : Int)
    have hlt := hv1' (by omega)
    obtain ⟨v2, p2, s2, e2, hv2, _, _, hp2⟩ := below_ex c hc p1 s1 hp1 4
    obtain ⟨v3, p3, s3, e3, hv3, hp3⟩ := byte_ex c hc p2 s2 hp2
    obtain ⟨v4, p4, s4, e4, hv4, _, _, hp4⟩ := below_ex c hc p2 s2 hp2 255
    obtain ⟨i, rfl⟩ := Int.eq_ofNat_of_zero_le hv1
    have hw : wrap64 ((i : Int) + 1) = ((i + 1 : Nat) : Int) := by rw [w64 (by omega) (by omega)]; omega
    have l1 : (t.extract 0 i).size ≤ t.size := by rw [ByteArray.size_extract]; omega
    have l2 : (t.extract (i + 1) t.size).size ≤ t.size := by rw [ByteArray.size_extract]; omega
    have l3 : (t.extract i t.size).size ≤ t.size := by rw [ByteArray.size_extract]; omega
    have nums : ∀ x : Int, (strOfNums [x]).size = 1 := by intro x; rw [strOfNums_size]; rfl
    by_cases d0 : v2 = 0
    · refine ⟨t.extract 0 i ++ t.extract (i + 1) t.size, p2, s2, evi 0 (fun k hk => ?_), by rw [ByteArray.size_append, ByteArray.size_extract, ByteArray.size_extract]; omega, hp2⟩
      unfold spec_l1Spoil.f
      rw [if_neg h0, e1]
      simp only [Option.bind_some]
      rw [e2]
      simp only [Option.bind_some]
      rw [if_pos d0, hw, if_pos (by omega), if_pos (by omega), if_pos (by omega), if_pos (by omega), Int.toNat_natCast, Int.toNat_natCast, if_pos (by omega)]
    by_cases d1 : v2 = 1
    · refine ⟨(t.extract 0 i ++ strOfNums [v3 % 256]) ++ t.extract i t.size, p3, s3, evi 0 (fun k hk => ?_), by rw [ByteArray.size_append, ByteArray.size_append, nums, ByteArray.size_extract, ByteArray.size_extract]; omega, hp3⟩
      unfold spec_l1Spoil.f
      rw [if_neg h0, e1]
      simp only [Option.bind_some]
      rw [e2]
      simp only [Option.bind_some]
      rw [if_neg d0, if_pos d1, if_pos (by omega), if_pos (by omega), e3]
      simp only [Option.bind_some, Int.toNat_natCast]
      rw [if_pos (by rw [nums]; omega), if_pos (by rw [ByteArray.size_append, nums]; omega)]
    by_cases d2 : v2 = 2
    · refine ⟨t.extract 0 i, p2, s2, evi 0 (fun k hk => ?_), by omega, hp2⟩
      unfold spec_l1Spoil.f
      rw [if_neg h0, e1]
      simp only [Option.bind_some]
      rw [e2]
      simp only [Option.bind_some]
      rw [if_neg d0, if_neg d1, if_pos d2, if_pos (by omega), if_pos (by omega), Int.toNat_natCast]
    · refine ⟨(t.extract 0 i ++ strOfNums [(Go.bits .xor .i64 (wrap64 (bt t (i : Int))) (wrap64 (1 + v4))) % 256]) ++ t.extract (i + 1) t.size, p4, s4, evi 0 (fun k hk => ?_), by rw [ByteArray.size_append, ByteArray.size_append, nums, ByteArray.size_extract, ByteArray.size_extract]; omega, hp4⟩
      unfold spec_l1Spoil.f
      rw [if_neg h0, e1]
      simp only [Option.bind_some]
      rw [e2]
      simp only [Option.bind_some]
      rw [if_neg d0, if_neg d1, if_neg d2, if_pos (by omega), if_pos (by omega), if_pos (by omega), e4]
      simp only [Option.bind_some]
      rw [hw]
      simp only [Int.toNat_natCast]
      rw [if_pos (by rw [nums]; omega), if_pos (by omega), if_pos (by omega), if_pos (by rw [ByteArray.size_append, nums]; omega)]
theorem once_ex (c : List Int) (hc : c.length ≤ 1048576) (p s : Int) (hp : okP c p) (a : Int) : ∃ v p' s', spec_l1Once.f c p s a = some (v, p', s') ∧ okP c p' := by
  obtain ⟨v, p1, s1, e1, _, _, _, hp1⟩ := below_ex c hc p s hp a
  unfold spec_l1Once.f
  rw [e1]
  exact ⟨_, _, _, rfl, hp1⟩

def i64P (x : Int) : Prop := -9223372036854775808 ≤ x ∧ x ≤ 9223372036854775807
instance (x : Int) : Decidable (i64P x) := by unfold i64P; infer_instance
theorem wrap64_P (x : Int) : i64P (wrap64 x) := by unfold i64P wrap64; omega
theorem pickIntP_ex (c : List Int) (hc : c.length ≤ 1048576) (p s : Int) (hp : okP c p) (l : List Int) (hl : 0 < l.length) (hP : ∀ i : Nat, i < l.length → i64P (rd l (i : Int))) : ∃ v p' s', spec_l1PickInt.f c p s l = some (v, p', s') ∧ i64P v ∧ okP c p' := by
  obtain ⟨v1, p1, s1, e1, hv1, hv1', _, hp1⟩ := below_ex c hc p s hp (l.length : Int)
  have := hv1' (by omega)
  unfold spec_l1PickInt.f
  rw [e1]
  simp only [Option.bind_some]
  rw [if_pos hv1, if_pos this]
  obtain ⟨n, rfl⟩ := Int.eq_ofNat_of_zero_le hv1
  exact ⟨_, _, _, rfl, hP n (by omega), hp1⟩
theorem num_ex (c : List Int) (hc : c.length ≤ 1048576) (p s : Int) (hp : okP c p) : ∃ v p' s', spec_l1Num.f c p s = some (v, p', s') ∧ i64P v ∧ okP c p' := by
  obtain ⟨v, p1, s1, e1, _, _, _, hp1⟩ := below_ex c hc p s hp 8
  unfold spec_l1Num.f
  rw [e1]
  simp only [Option.bind_some]
  by_cases d0 : v = 0
  · rw [if_pos d0]
    obtain ⟨v2, p2, s2, e2, h2, hp2⟩ := pickIntP_ex c hc p1 s1 hp1 ([(-1), 0, 127, 128, 255, 256, 16383, 16384, 65535, 65536, 562949953421311, 562949953421312, 999999999, 1000000000, (-999999999), 9223372036854775807, (-9223372036854775808)] : List Int) (by decide) (by decide)
    rw [e2]
    exact ⟨_, _, _, rfl, h2, hp2⟩
  rw [if_neg d0]
  by_cases d1 : v = 1
  · rw [if_pos d1]
    obtain ⟨v2, p2, s2, e2, _, _, _, hp2⟩ := below_ex c hc p1 s1 hp1 1000000000
    obtain ⟨v3, p3, s3, e3, _, _, _, hp3⟩ := below_ex c hc p2 s2 hp2 1000000000
    rw [e2]
    simp only [Option.bind_some]
    rw [e3]
    exact ⟨_, _, _, rfl, wrap64_P _, hp3⟩
  rw [if_neg d1]
  by_cases d2 : v = 2
  · rw [if_pos d2]
    obtain ⟨v2, p2, s2, e2, _, _, _, hp2⟩ := below_ex c hc p1 s1 hp1 100000
    rw [e2]
    exact ⟨_, _, _, rfl, wrap64_P _, hp2⟩
  rw [if_neg d2]
  obtain ⟨v2, p2, s2, e2, h2, h2', _, hp2⟩ := below_ex c hc p1 s1 hp1 70000
  rw [e2]
  have := h2' (by omega)
  exact ⟨_, _, _, rfl, ⟨by omega, by omega⟩, hp2⟩
theorem drawVar_ex (c : List Int) (hc : c.length ≤ 1048576) : ∃ v, Ev (fun k => spec_DrawVar.f k c) v ∧ i64P v := by
  obtain ⟨s, hs⟩ := new_ex c hc
  obtain ⟨K1, h1⟩ := evx hs
  obtain ⟨v, p1, s1, e1, hv, _⟩ := num_ex c hc 0 s ⟨by omega, by omega⟩
  refine ⟨v, evi K1 (fun k hk => ?_), hv⟩
  unfold spec_DrawVar.f
  rw [h1 k (by omega)]
  simp only [Option.bind_some]
  rw [e1]
  rfl
theorem drawHex_ex (c : List Int) (hc : c.length ≤ 1048576) : ∃ t, Ev (fun k => spec_DrawHex.f k c) t ∧ t.size ≤ 40 := by
  obtain ⟨s, hs⟩ := new_ex c hc
  obtain ⟨K1, h1⟩ := evx hs
  obtain ⟨r, p1, s1, hE, hr, _⟩ := text_ex c hc 0 s ⟨by omega, by omega⟩ 40 (by omega)
  have hE' : Ev (fun k => spec_l1Text.f k c 0 s 40) (r, p1, s1) := hE
  obtain ⟨K2, h2⟩ := evx hE'
  refine ⟨r, evi (K1 + K2) (fun k hk => ?_), hr⟩
  unfold spec_DrawHex.f
  rw [h1 k (by omega)]
  simp only [Option.bind_some]
  rw [h2 k (by omega)]
  rfl
theorem drawRV_ex (c : List Int) (hc : c.length ≤ 1048576) : ∃ t, Ev (fun k => spec_DrawReadVar.f k c) t := by
  obtain ⟨s, hs⟩ := new_ex c hc
  obtain ⟨K1, h1⟩ := evx hs
  obtain ⟨v, p1, s1, e1, hv, hp1⟩ := num_ex c hc 0 s ⟨by omega, by omega⟩
  obtain ⟨K2, h2⟩ := evx (spec_Var_ev v)
  obtain ⟨r, p2, s2, hE, hr, hp2⟩ := text_ex c hc p1 s1 hp1 4 (by omega)
  have hE' : Ev (fun k => spec_l1Text.f k c p1 s1 4) (r, p2, s2) := hE
  obtain ⟨K3, h3⟩ := evx hE'
  obtain ⟨b, p3, s3, e3, hp3⟩ := once_ex c hc p2 s2 hp2 4
  have hvs : (varS v).size ≤ 7 := by rw [varS_B, mkS_size]; exact varB_length v
  generalize varS v = u at *
  have hsz : (u ++ r).size ≤ 100000 := by rw [ByteArray.size_append]; omega
  obtain ⟨q, p4, s4, hS, _, _⟩ := spoil_ex c hc p3 s3 hp3 (u ++ r) hsz
  obtain ⟨K4, h4⟩ := evx hS
  refine ⟨if b = true then q else u ++ r, evi (K1 + K2 + K3 + K4) (fun k hk => ?_)⟩
  unfold spec_DrawReadVar.f
  rw [h1 k (by omega)]
  simp only [Option.bind_some]
  rw [e1]
  simp only [Option.bind_some]
  rw [h2 k (by omega)]
  simp only [Option.bind_some]
  rw [h3 k (by omega)]
  simp only [Option.bind_some]
  rw [if_pos (by omega), e3]
  simp only [Option.bind_some]
  by_cases hb : b = true
  · rw [if_pos hb, if_pos hb, h4 k (by omega)]
    rfl
  · rw [if_neg hb, if_neg hb]



/-! ### the law -/
theorem num_j2 (c : List Int) (hc : c.length ≤ 1048576) (lt : List UInt8) (hl : lt.length ≤ 1000) : Ev (fun k => laws_FnNumbers.j2 k c (mkS lt) false) true := by
  obtain ⟨K1, k1⟩ := evx (impl_Hex_ev lt (by omega))
  obtain ⟨K2, k2⟩ := evx (impl_Unhex_ev (hexL lt) (by rw [hexL_length]; omega))
  obtain ⟨t, hT⟩ := drawRV_ex c hc
  obtain ⟨K3, k3⟩ := evx hT
  obtain ⟨lr, rfl⟩ := exS t
  obtain ⟨K4, k4⟩ := evx (impl_ReadVar_ev lr)
  obtain ⟨K5, k5⟩ := evx (impl_Var_ev ((rvP lr).1 : Int))
  have hu : unhexS (hexL lt) = (mkS lt, true) := by unfold unhexS; rw [unhexL_hexL]
  rw [hu] at k2
  refine evi (K1 + K2 + K3 + K4 + K5 + 1) (fun k hk => ?_)
  obtain ⟨m, rfl⟩ : ∃ m, k = m + 1 := ⟨k - 1, by omega⟩
  simp only [laws_FnNumbers.j2, Bool.false_eq_true, if_false]
  rw [k1 m (by omega)]
  simp only [Option.bind_some]
  rw [k2 m (by omega)]
  simp only [Option.bind_some]
  rw [k3 m (by omega)]
  simp only [Option.bind_some]
  rw [k4 m (by omega)]
  simp only [Option.bind_some, if_true]
  cases hr : rv lr with
  | none => simp [rvI, rvP_none hr]
  | some p =>
    obtain ⟨n, j⟩ := p
    obtain ⟨hj, _, hjl, htk, hn⟩ := rv_sound hr
    have e1 : rvI lr = ((n : Int), (j : Int)) := by unfold rvI; rw [rvP_some hr]
    have hv : (rvP lr).1 = n := by rw [rvP_some hr]
    rw [hv] at k5
    simp only [e1]
    rw [if_neg (by omega), if_pos (by omega), mkS_size, if_pos (by omega), k5 m (by omega)]
    simp only [Option.bind_some]
    rw [if_pos (by omega), if_pos (by omega), varS_nat hn, mkS_extract]
    simp [mkS_toList, htk]
theorem num_j1 (c : List Int) (hc : c.length ≤ 1048576) (n : Int) (hn : i64P n) (lt : List UInt8) (hl : lt.length ≤ 1000) : Ev (fun k => laws_FnNumbers.j1 k c n (mkS lt) false) true := by
  obtain ⟨K1, k1⟩ := evx (num_j2 c hc lt hl)
  have hR : impl_ReadDec.f (⟨(Lib.itoa n).toArray⟩ : ByteArray) = some (if -999999999 ≤ n ∧ n ≤ 999999999 then (n, true) else (0, false)) := by
    have h0 := impl_ReadDec_f (Lib.itoa n) (by have := itoa_len n hn.1 hn.2; omega)
    rcases readDec_cases (Lib.itoa n) with ⟨v, hv, hr, he⟩ | ⟨hno, he⟩
    · have := itoa_inj hv
      subst this
      rw [if_pos hr, ← he]
      exact h0
    · rw [if_neg (fun h => hno n h.1 h.2 rfl), ← he]
      exact h0
  have hD : impl_Dec.f n = some (⟨(Lib.itoa n).toArray⟩ : ByteArray) := by unfold impl_Dec.f; exact if_pos hn
  refine evi (K1 + 1) (fun k hk => ?_)
  obtain ⟨m, rfl⟩ : ∃ m, k = m + 1 := ⟨k - 1, by omega⟩
  simp only [laws_FnNumbers.j1, Bool.false_eq_true, if_false]
  rw [hD]
  simp only [Option.bind_some]
  rw [hR]
  simp only [Option.bind_some]
  have k1' := k1 m (by omega)
  by_cases hr : -999999999 ≤ n ∧ n ≤ 999999999
  · rw [if_pos hr]
    have d1 : decide (n < 1000000000) = true := decide_eq_true (by omega)
    rw [if_pos (by omega : n > -1000000000), d1]
    simp [k1']
  · rw [if_neg hr]
    by_cases h2 : n > -1000000000
    · have d1 : decide (n < 1000000000) = false := decide_eq_false (by omega)
      rw [if_pos h2, d1]
      simp [k1']
    · rw [if_neg h2]
      simp [k1']
theorem num_j0 (c : List Int) (hc : c.length ≤ 1048576) (n : Int) (hn : i64P n) (lt : List UInt8) (hl : lt.length ≤ 1000) : Ev (fun k => laws_FnNumbers.j0 k c n (mkS lt) false) true := by
  obtain ⟨K1, k1⟩ := evx (num_j1 c hc n hn lt hl)
  obtain ⟨K2, k2⟩ := evx (impl_Fixed_ev n 7)
  have e7 : (7 : Int).toNat = 7 := rfl
  have e56 : (256 : Int) ^ 7 = 72057594037927936 := by decide
  by_cases hr : 0 ≤ n ∧ n < 72057594037927936
  · obtain ⟨u, rfl⟩ := Int.eq_ofNat_of_zero_le hr.1
    have hF : fixS (u : Int) 7 = mkS (fixL 7 u) := by
      unfold fixS
      rw [if_pos ⟨⟨by omega, by omega⟩, by omega, by rw [e7, e56]; omega⟩, e7, Int.toNat_natCast]
    rw [hF] at k2
    have hlen : (fixL 7 u).length = 7 := fixL_length 7 u
    have hbe : beL (fixL 7 u) = u := by rw [beL_fixL]; exact Nat.mod_eq_of_lt (by omega)
    obtain ⟨lf, hlf⟩ : ∃ lf, lf = fixL 7 u := ⟨_, rfl⟩
    rw [← hlf] at hlen hbe k2
    obtain ⟨K3, k3⟩ := evx (impl_ReadFixed_ev (lf ++ lt) 7)
    have hR : rfI (lf ++ lt) 7 = ((u : Int), true) := by
      unfold rfI
      rw [if_pos ⟨⟨by omega, by omega⟩, by rw [List.length_append]; omega⟩, e7, List.take_append_of_le_length (by omega), List.take_of_length_le (by omega), hbe]
    rw [hR] at k3
    have hne : lf ≠ [] := by intro h; rw [h] at hlen; simp at hlen
    refine evi (K1 + K2 + K3 + 1) (fun k hk => ?_)
    obtain ⟨m, rfl⟩ : ∃ m, k = m + 1 := ⟨k - 1, by omega⟩
    simp only [laws_FnNumbers.j0, Bool.false_eq_true, if_false]
    rw [k2 m (by omega)]
    simp only [Option.bind_some, mkS_size, mkS_append, mkS_toList]
    rw [if_pos (by omega), k3 m (by omega)]
    simp only [Option.bind_some, if_true]
    have hd : decide ((u : Int) ≥ 72057594037927936) = false := decide_eq_false (by omega)
    have hb : (lf == ([] : List UInt8)) = false := by simpa using hne
    rw [if_neg hne, hlen, if_pos (by rfl), if_neg (by omega), hd, hb]
    exact k1 m (by omega)
  · have hF : fixS n 7 = mkS [] := by
      unfold fixS
      rw [if_neg (fun h => hr ⟨h.2.1, by have := h.2.2; rw [e7, e56] at this; exact this⟩)]
    rw [hF] at k2
    obtain ⟨K3, k3⟩ := evx (impl_ReadFixed_ev lt 7)
    refine evi (K1 + K2 + K3 + 1) (fun k hk => ?_)
    obtain ⟨m, rfl⟩ : ∃ m, k = m + 1 := ⟨k - 1, by omega⟩
    simp only [laws_FnNumbers.j0, Bool.false_eq_true, if_false]
    rw [k2 m (by omega)]
    simp only [Option.bind_some, mkS_size, mkS_append, mkS_toList, List.nil_append, List.length_nil]
    rw [if_pos (by omega), k3 m (by omega)]
    simp only [Option.bind_some, if_true]
    by_cases h0 : n < 0
    · rw [if_pos h0]
      exact k1 m (by omega)
    · have hd : decide (n ≥ 72057594037927936) = true := decide_eq_true (by omega)
      rw [if_neg h0, hd]
      exact k1 m (by omega)
theorem FnNumbers : laws_FnNumbers.Pure := by
  intro c h1 h2 h3
  by_cases hb : (c.length : Int) > 1048576
  · refine ⟨0, ?_⟩
    unfold laws_FnNumbers.f laws_big.f
    simp only [Option.bind_some]
    rw [if_pos (by simpa using hb)]
  · have hc : c.length ≤ 1048576 := by omega
    obtain ⟨n, hN, hn⟩ := drawVar_ex c hc
    obtain ⟨K1, k1⟩ := evx hN
    obtain ⟨t, hT, ht⟩ := drawHex_ex c hc
    obtain ⟨K2, k2⟩ := evx hT
    obtain ⟨lt, rfl⟩ := exS t
    rw [mkS_size] at ht
    obtain ⟨K3, k3⟩ := evx (impl_Var_ev n)
    rw [varS_B] at k3
    obtain ⟨K4, k4⟩ := evx (impl_ReadVar_ev (varB n ++ lt))
    obtain ⟨K5, k5⟩ := evx (num_j0 c hc n hn lt (by omega))
    have hvl := varB_length n
    refine ⟨K1 + K2 + K3 + K4 + K5, ?_⟩
    unfold laws_FnNumbers.f laws_big.f
    simp only [Option.bind_some]
    rw [if_neg (by simpa using hb), k1 _ (by omega)]
    simp only [Option.bind_some]
    rw [k2 _ (by omega)]
    simp only [Option.bind_some]
    rw [k3 _ (by omega)]
    simp only [Option.bind_some, mkS_size, mkS_append, mkS_toList]
    rw [if_pos (by omega), k4 _ (by omega)]
    simp only [Option.bind_some]
    have k5' := k5 (K1 + K2 + K3 + K4 + K5) (by omega)
    by_cases h0 : n ≥ 0
    · rw [if_pos h0]
      by_cases hM : n ≤ 562949953421311
      · obtain ⟨u, rfl⟩ := Int.eq_ofNat_of_zero_le h0
        have hB : varB (u : Int) = varL u := varB_nat (by omega)
        have hR : rvI (varL u ++ lt) = ((u : Int), ((varL u).length : Int)) := by
          unfold rvI
          rw [rvP_some (rv_complete lt (by omega))]
        rw [hB, hR]
        have hne := varL_ne u
        have hb1 : (varL u != ([] : List UInt8)) = true := by simpa using hne
        have hd : decide ((u : Int) ≤ 562949953421311) = true := decide_eq_true hM
        rw [hb1, hd, if_neg (by decide), if_neg hne]
        simp only [if_true]
        rw [show (((varL u).length : Int) != ((varL u).length : Int)) = false by simp]
        exact k5'
      · have hB : varB n = [] := by unfold varB; rw [if_neg (fun h => hM h.2)]
        have hd : decide (n ≤ 562949953421311) = false := decide_eq_false hM
        rw [hB, hd, if_neg (by decide), if_pos rfl]
        exact k5'
    · have hB : varB n = [] := by unfold varB; rw [if_neg (fun h => h0 h.1)]
      rw [if_neg h0, hB, if_neg (by decide), if_pos rfl]
      exact k5'

end Go.Proofs.YtnmileaeadhiaaaDoor.Pure
