/- The pure statement of the law FnExactReadVar: for all arguments within the printed bounds the printed function of the law answers true. Conditions: only the bounds that the printed statement itself names. -/
import Derived.Test.YtokljpgdjgphlaaPFnExactReadVarx1
namespace Go.Proofs.Ytokljpgdjgphlaa.Pure
open Go.RowKit Go.Proofs.Ytokljpgdjgphlaa.PFnExactReadVar Go.Proofs.YtokljpgdjgphlaaW.PrintWords Go.Proofs.YtokljpgdjgphlaaW.PrintLast
set_option linter.unusedVariables false
set_option linter.unusedSimpArgs false

/-! ### Base: strings as lists of bytes, arithmetic of Go's ints -/
/-- The string of a list of bytes. -/
def mkS (l : List UInt8) : ByteArray := ⟨l.toArray⟩
theorem exS (s : ByteArray) : ∃ l, s = mkS l := ⟨s.data.toList, by cases s; simp [mkS]⟩
theorem mkS_size (l : List UInt8) : (mkS l).size = l.length := by simp [mkS, ByteArray.size]
theorem mkS_inj {a b : List UInt8} : mkS a = mkS b ↔ a = b := by
  constructor
  · intro h; have := congrArg (fun s : ByteArray => s.data.toList) h; simpa [mkS] using this
  · intro h; rw [h]
theorem toList_data (s : ByteArray) : s.toList = s.data.toList := by
  have key : ∀ (n i : Nat) (r : List UInt8), s.size - i = n → ByteArray.toList.loop s i r = r.reverse ++ s.data.toList.drop i := by
    intro n
    induction n with
    | zero =>
      intro i r h
      unfold ByteArray.toList.loop
      rw [if_neg (by omega), List.drop_of_length_le (by simp only [Array.length_toList]; have : s.size = s.data.size := rfl; omega), List.append_nil]
    | succ n ih =>
      intro i r h
      unfold ByteArray.toList.loop
      have hi : i < s.data.toList.length := by simp only [Array.length_toList]; have : s.size = s.data.size := rfl; omega
      rw [if_pos (by omega), ih (i + 1) _ (by omega), List.reverse_cons, List.append_assoc, List.drop_eq_getElem_cons hi]
      have : s.get! i = s.data.toList[i] := by
        show s.data[i]! = _
        rw [Array.getElem_toList]
        exact getElem!_pos s.data i (by simpa using hi)
      rw [this]
      rfl
  have := key _ 0 [] rfl
  simpa [ByteArray.toList] using this
theorem mkS_toList (l : List UInt8) : (mkS l).toList = l := by rw [toList_data]; simp [mkS]
theorem mkS_append (a b : List UInt8) : mkS a ++ mkS b = mkS (a ++ b) := by
  apply ByteArray.ext
  simp [mkS, ByteArray.data_append]
theorem mkS_extract (l : List UInt8) (i j : Nat) : (mkS l).extract i j = mkS ((l.drop i).take (j - i)) := by
  apply ByteArray.ext
  rw [ByteArray.data_extract]
  simp only [mkS]
  apply Array.ext'
  rw [Array.toList_extract]
  try simp [List.extract_eq_drop_take]
theorem mkS_nil : (⟨#[]⟩ : ByteArray) = mkS [] := rfl
theorem bt_mkS (l : List UInt8) (i : Nat) (h : i < l.length) : bt (mkS l) (i : Int) = ((l[i]).toNat : Int) := by
  unfold bt
  have h' : ((i : Int)).toNat < (mkS l).size := by rw [mkS_size]; simpa using h
  rw [dif_pos h']
  simp only [Int.toNat_natCast]
  rfl
/-- A slice of bytes as the print tells it. -/
def ints (l : List UInt8) : List Int := l.map fun b => (b.toNat : Int)
theorem ints_length (l : List UInt8) : (ints l).length = l.length := by simp [ints]
theorem ints_append (a b : List UInt8) : ints a ++ ints b = ints (a ++ b) := by simp [ints]
theorem ints_nil : ([] : List Int) = ints [] := rfl
theorem ub_byte (b : UInt8) : UInt8.ofNat ((b.toNat : Int)).toNat = b := by simp
theorem strOfNums_ints (l : List UInt8) : strOfNums (ints l) = mkS l := by
  unfold strOfNums ints mkS
  congr 2
  rw [List.map_map]
  conv => rhs; rw [← List.map_id l]
  apply List.map_congr_left
  intro b _
  simp
theorem ofNat_cast (n : Nat) : ((UInt8.ofNat n).toNat : Int) = (n : Int) % 256 := by simp
theorem ints_one (n : Nat) (x : Int) (h : x % 256 = ((n % 256 : Nat) : Int)) : [x % 256] = ints [UInt8.ofNat n] := by
  simp only [ints, List.map_cons, List.map_nil]
  rw [h, ofNat_cast]
  simp
theorem w64 {x : Int} (h0 : -9223372036854775808 ≤ x) (h1 : x ≤ 9223372036854775807) : wrap64 x = x := by unfold wrap64; omega
theorem w64b (s : ByteArray) (i : Int) : wrap64 (bt s i) = bt s i := by have := bt_range s i; exact w64 (by omega) (by omega)
theorem wfI {x : Int} (h : (Lit.int .i64 x).wf = true) : -9223372036854775808 ≤ x ∧ x ≤ 9223372036854775807 := by
  have e1 : IntKind.i64.min = -9223372036854775808 := by decide
  have e2 : IntKind.i64.max = 9223372036854775807 := by decide
  have h1 : IntKind.i64.min ≤ x ∧ x ≤ IntKind.i64.max := by simpa [Lit.wf] using h
  rw [e1, e2] at h1
  exact h1
theorem tdivp {x y : Int} (h : 0 ≤ x) : Int.tdiv x y = x / y := Int.tdiv_eq_ediv_of_nonneg h
theorem tmodp {x y : Int} (h : 0 ≤ x) : Int.tmod x y = x % y := Int.tmod_eq_emod_of_nonneg h
theorem shl_i64 {x y : Int} {n : Nat} (hy : y = (n : Int)) (hn : n ≤ 64) : shl .i64 x y = wrap64 (x * 2 ^ n) := by
  unfold shl
  have e : min y.toNat IntKind.i64.bits = n := by subst hy; simp [IntKind.bits]; omega
  rw [e, IntKind.wrap_i64, wrap64]
theorem shr_i64 {x y : Int} {n : Nat} (hy : y = (n : Int)) (hn : n ≤ 64) : shr .i64 x y = x / 2 ^ n := by
  unfold shr
  have e : min y.toNat IntKind.i64.bits = n := by subst hy; simp [IntKind.bits]; omega
  rw [e]
theorem getElem_drop_cons {α : Type} {l : List α} {i : Nat} (h : i < l.length) : l.drop i = l[i] :: l.drop (i + 1) := List.drop_eq_getElem_cons h
theorem ev_some {α : Type} {g : Nat → Option α} {r q : α} (h : Ev g r) (hk : r = q) : Ev g q := hk ▸ h
theorem evx {α : Type} {g : Nat → Option α} {r : α} (h : Ev g r) : ∃ K, ∀ k, K ≤ k → g k = some r := h
theorem evi {α : Type} {g : Nat → Option α} {r : α} (K : Nat) (h : ∀ k, K ≤ k → g k = some r) : Ev g r := ⟨K, h⟩

/-! ### Var: a number in as few bytes as may be -/
def varL (n : Nat) : List UInt8 := if n < 128 then [UInt8.ofNat n] else UInt8.ofNat (n % 128 + 128) :: varL (n / 128)
termination_by n
decreasing_by omega
theorem varL_small {n : Nat} (h : n < 128) : varL n = [UInt8.ofNat n] := by rw [varL, if_pos h]
theorem varL_big {n : Nat} (h : ¬ n < 128) : varL n = UInt8.ofNat (n % 128 + 128) :: varL (n / 128) := by rw [varL, if_neg h]
theorem varL_pos (n : Nat) : 0 < (varL n).length := by
  by_cases h : n < 128
  · rw [varL_small h]; simp
  · rw [varL_big h]; simp
theorem varL_ne (n : Nat) : varL n ≠ [] := by intro h; have := varL_pos n; rw [h] at this; simp at this
theorem varL_len (j : Nat) : ∀ n : Nat, n < 128 ^ (j + 1) → (varL n).length ≤ j + 1 := by
  induction j with
  | zero => intro n h; rw [varL_small (by omega)]; simp
  | succ j ih =>
    intro n h
    by_cases hn : n < 128
    · rw [varL_small hn]; simp
    · rw [varL_big hn, List.length_cons]
      have : n / 128 < 128 ^ (j + 1) := by rw [Nat.div_lt_iff_lt_mul (by omega)]; rw [Nat.pow_succ] at h; exact h
      have := ih _ this
      omega
theorem varL_len7 {n : Nat} (h : n ≤ 562949953421311) : (varL n).length ≤ 7 := varL_len 6 n (by omega)
/-- A number's text. -/
def varS (n : Int) : ByteArray := if 0 ≤ n ∧ n ≤ 562949953421311 then mkS (varL n.toNat) else mkS []

/-! ### spec's l1In -/
theorem spec_l1In_f (a b c : Int) : spec_l1In.f a b c = some (decide (b ≤ a ∧ a ≤ c)) := by
  unfold spec_l1In.f
  by_cases h : a ≥ b
  · rw [if_pos h]; congr 1; simp [h]
  · rw [if_neg h]; congr 1; simp; omega

/-! ### spec's Var -/
theorem spec_Var_l0 (m : Nat) : ∀ (n : Nat) (acc : List UInt8), n ≤ 562949953421311 → n ≤ m → acc.length + (varL n).length ≤ 100000000000000 → Ev (fun k => spec_Var.l0 k (n : Int) (ints acc)) (mkS (acc ++ varL n)) := by
  induction m using Nat.strongRecOn with
  | ind m ih =>
  intro n acc hn hm hl
  have hlp := varL_pos n
  by_cases h : n < 128
  · refine evi (1) fun k hk => ?_
    obtain ⟨k, rfl⟩ : ∃ m, k = m + 1 := ⟨k - 1, by omega⟩
    simp only [spec_Var.l0]
    rw [if_neg (by omega), if_pos (by rw [ints_length]; omega), ints_one n _ (by omega), ints_append, strOfNums_ints, varL_small h]
  · have hd := varL_big h
    obtain ⟨K, hK⟩ := evx (ih (n / 128) (by omega) (n / 128) (acc ++ [UInt8.ofNat (n % 128 + 128)]) (by omega) (Nat.le_refl _) (by rw [hd, List.length_cons] at hl; rw [List.length_append, List.length_singleton]; omega))
    refine evi (K + 1) fun k hk => ?_
    obtain ⟨k, rfl⟩ : ∃ m, k = m + 1 := ⟨k - 1, by omega⟩
    simp only [spec_Var.l0]
    rw [if_pos (by omega), if_pos (by rw [ints_length]; omega), tdivp (by omega), tmodp (by omega), w64 (by omega) (by omega), w64 (by omega) (by omega), ints_one (n % 128 + 128) _ (by omega), ints_append]
    have := hK k (by omega)
    simp only [Int.natCast_ediv] at this
    rw [hd, show (128 : Int) = ((128 : Nat) : Int) from rfl, this, List.append_assoc]
    rfl
theorem spec_Var_ev (n : Int) : Ev (fun k => spec_Var.f k n) (varS n) := by
  by_cases h : 0 ≤ n ∧ n ≤ 562949953421311
  · obtain ⟨m, rfl⟩ := Int.eq_ofNat_of_zero_le h.1
    have h7 := varL_len7 (n := m) (by omega)
    obtain ⟨K, hK⟩ := evx (spec_Var_l0 m m [] (by omega) (Nat.le_refl _) (by simp; omega))
    refine evi (K) fun k hk => ?_
    unfold spec_Var.f
    rw [spec_l1In_f]
    simp only [Option.bind_some]
    rw [if_pos (by simpa using h), ints_nil, hK k hk, varS, if_pos h]
    rfl
  · refine evi (0) fun k hk => ?_
    unfold spec_Var.f
    rw [spec_l1In_f]
    simp only [Option.bind_some]
    rw [if_neg (by simpa using h), varS, if_neg h]
    rfl

/-! ### rv: reading a number -/
/-- What a text begins with: a number, and how many bytes it has; at most f bytes; 'first': a zero byte may be all of it. -/
def rvF : Nat → Bool → List UInt8 → Option (Nat × Nat)
  | 0, _, _ => none
  | _ + 1, _, [] => none
  | f + 1, first, x :: t => if x.toNat < 128 then (if x.toNat = 0 ∧ first = false then none else some (x.toNat, 1)) else (rvF f false t).map fun p => (x.toNat % 128 + 128 * p.1, p.2 + 1)
def rv (l : List UInt8) : Option (Nat × Nat) := rvF 7 true l
/-- The number and how many bytes; two zeros where there is none. -/
def rvP (l : List UInt8) : Nat × Nat := (rv l).getD (0, 0)
theorem byte_ext {a b : UInt8} (h : a.toNat = b.toNat) : a = b := UInt8.toNat_inj.1 h
theorem ofNat_toNat_lt (n : Nat) (h : n < 256) : (UInt8.ofNat n).toNat = n := by simp; omega
theorem rvF_sound (f : Nat) : ∀ (first : Bool) (l : List UInt8) (n k : Nat), rvF f first l = some (n, k) → 0 < k ∧ k ≤ f ∧ k ≤ l.length ∧ l.take k = varL n ∧ n < 128 ^ f ∧ (first = false → n ≠ 0) := by
  induction f with
  | zero => intro first l n k h; simp [rvF] at h
  | succ f ih =>
    intro first l n k h
    cases l with
    | nil => simp [rvF] at h
    | cons x t =>
      rw [rvF] at h
      by_cases hx : x.toNat < 128
      · rw [if_pos hx] at h
        by_cases hz : x.toNat = 0 ∧ first = false
        · rw [if_pos hz] at h; cases h
        · rw [if_neg hz] at h
          injection h with h
          obtain ⟨rfl, rfl⟩ := Prod.mk.inj h
          have hp : 128 ≤ 128 ^ (f + 1) := by rw [Nat.pow_succ]; exact Nat.le_mul_of_pos_left _ (Nat.pow_pos (by omega))
          refine ⟨by omega, by omega, by simp, ?_, by omega, fun hf hn => hz ⟨hn, hf⟩⟩
          rw [varL_small hx]
          simp
      · rw [if_neg hx] at h
        obtain ⟨⟨n', k'⟩, hr, he⟩ := Option.map_eq_some_iff.1 h
        obtain ⟨rfl, rfl⟩ := Prod.mk.inj he
        obtain ⟨h1, h2, h3, h4, h5, h6⟩ := ih false t n' k' hr
        have hn' := h6 rfl
        have hb := x.toNat_lt
        simp only at *
        refine ⟨by omega, by omega, by simp only [List.length_cons]; omega, ?_, by rw [Nat.pow_succ]; omega, fun _ => by omega⟩
        rw [varL_big (by omega), List.take_succ_cons, h4]
        congr 1
        · apply byte_ext
          rw [ofNat_toNat_lt _ (by omega)]
          omega
        · congr 1
          omega
theorem rvF_complete (f : Nat) : ∀ (first : Bool) (n : Nat) (t : List UInt8), n < 128 ^ (f + 1) → (first = false → n ≠ 0) → rvF (f + 1) first (varL n ++ t) = some (n, (varL n).length) := by
  induction f with
  | zero =>
    intro first n t h h0
    have hn : n < 128 := by simpa using h
    rw [varL_small hn, List.singleton_append, rvF, ofNat_toNat_lt _ (by omega), if_pos hn, if_neg (fun hh => h0 hh.2 hh.1)]
    rfl
  | succ f ih =>
    intro first n t h h0
    by_cases hn : n < 128
    · rw [varL_small hn, List.singleton_append, rvF, ofNat_toNat_lt _ (by omega), if_pos hn, if_neg (fun hh => h0 hh.2 hh.1)]
      rfl
    · rw [varL_big hn, List.cons_append, rvF, ofNat_toNat_lt _ (by omega), if_neg (by omega)]
      rw [ih false (n / 128) t (by rw [Nat.div_lt_iff_lt_mul (by omega)]; rw [Nat.pow_succ] at h; exact h) (fun _ => by omega)]
      simp only [Option.map_some, List.length_cons]
      congr 2
      omega
theorem rv_sound {l : List UInt8} {n k : Nat} (h : rv l = some (n, k)) : 0 < k ∧ k ≤ 7 ∧ k ≤ l.length ∧ l.take k = varL n ∧ n ≤ 562949953421311 := by
  obtain ⟨h1, h2, h3, h4, h5, _⟩ := rvF_sound 7 true l n k h
  exact ⟨h1, h2, h3, h4, by omega⟩
theorem rv_complete {n : Nat} (t : List UInt8) (h : n ≤ 562949953421311) : rv (varL n ++ t) = some (n, (varL n).length) :=
  rvF_complete 6 true n t (by omega) (fun h => by cases h)
theorem rv_of_take {l : List UInt8} {n k : Nat} (hk : k ≤ l.length) (h : l.take k = varL n) (hn : n ≤ 562949953421311) : rv l = some (n, k) := by
  have e := rv_complete (l.drop k) hn
  rw [← h, List.take_append_drop, List.length_take] at e
  rw [e]
  congr 2
  omega
theorem rvP_none {l : List UInt8} (h : rv l = none) : rvP l = (0, 0) := by rw [rvP, h]; rfl
theorem rvP_some {l : List UInt8} {p : Nat × Nat} (h : rv l = some p) : rvP l = p := by rw [rvP, h]; rfl
/-- The number that a text's bytes tell. -/
def valL : List UInt8 → Nat
  | [] => 0
  | x :: t => x.toNat % 128 + 128 * valL t
theorem valL_lt (l : List UInt8) : valL l < 128 ^ l.length := by
  induction l with
  | nil => simp [valL]
  | cons x t ih => rw [valL, List.length_cons, Nat.pow_succ]; omega
theorem valL_varL (m : Nat) : ∀ n, n ≤ m → valL (varL n) = n := by
  induction m using Nat.strongRecOn with
  | ind m ih =>
  intro n hm
  by_cases h : n < 128
  · rw [varL_small h, valL, valL, ofNat_toNat_lt _ (by omega)]; omega
  · rw [varL_big h, valL, ih (n / 128) (by omega) _ (Nat.le_refl _), ofNat_toNat_lt _ (by omega)]; omega

/-! ### impl's ReadVar -/
def rvAdd (n i : Nat) : Option (Nat × Nat) → Int × Int
  | none => (0, 0)
  | some p => (((n + 128 ^ i * p.1 : Nat) : Int), ((i + p.2 : Nat) : Int))
theorem pow_2_7 (i : Nat) : ((2 : Int) ^ (7 * i)) = ((128 ^ i : Nat) : Int) := by
  rw [show (128 : Nat) = 2 ^ 7 from rfl, ← Nat.pow_mul]
  simp
theorem pow128_le {i : Nat} (h : i ≤ 6) : 128 ^ i ≤ 4398046511104 := Nat.pow_le_pow_right (n := 128) (by omega) h
theorem impl_ReadVar_l0 (l : List UInt8) (f : Nat) : ∀ (n i : Nat), f + i = 7 → n < 128 ^ i → Ev (fun k => impl_ReadVar.l0 k (mkS l) (n : Int) (i : Int)) (rvAdd n i (rvF f (decide (i = 0)) (l.drop i))) := by
  induction f with
  | zero =>
    intro n i hi hn
    refine evi (2) fun k hk => ?_
    obtain ⟨k, rfl⟩ : ∃ m, k = m + 2 := ⟨k - 2, by omega⟩
    simp only [impl_ReadVar.l0, impl_ReadVar.j1]
    rw [if_neg (by omega), if_neg (by decide)]
    rfl
  | succ f ih =>
    intro n i hi hn
    have hP := pow128_le (i := i) (by omega)
    by_cases hlt : i < l.length
    · have hx := (l[i]).toNat_lt
      have hd := List.drop_eq_getElem_cons hlt
      by_cases hx128 : (l[i]).toNat < 128
      · refine evi (2) fun k hk => ?_
        obtain ⟨k, rfl⟩ : ∃ m, k = m + 2 := ⟨k - 2, by omega⟩
        simp only [impl_ReadVar.l0, impl_ReadVar.j1]
        rw [if_pos (by omega), if_pos (by rw [mkS_size]; simpa using hlt), if_pos (by omega), if_pos (by rw [mkS_size]; simpa using hlt), if_pos (by rw [w64 (by omega) (by omega)]; omega), w64b, bt_mkS l i hlt, if_neg (by omega)]
        rw [tmodp (by omega), shl_i64 (n := 7 * i) (by rw [w64 (by omega) (by omega)]; simp) (by omega), pow_2_7, w64 (x := (i : Int) + 1) (by omega) (by omega)]
        have e : ((l[i].toNat : Int) % 128) = ((l[i].toNat : Nat) : Int) := by omega
        have hm : l[i].toNat * 128 ^ i ≤ 127 * 128 ^ i := Nat.mul_le_mul_right _ (by omega)
        have e2 : wrap64 ((n : Int) + wrap64 (((l[i].toNat : Int) % 128) * ((128 ^ i : Nat) : Int))) = ((n + 128 ^ i * l[i].toNat : Nat) : Int) := by
          rw [e, ← Int.natCast_mul, Nat.mul_comm (128 ^ i)]
          rw [w64 (x := ((l[i].toNat * 128 ^ i : Nat) : Int)) (by omega) (by omega), w64 (by omega) (by omega)]
          omega
        rw [e2, hd, rvF, if_pos hx128]
        by_cases hz : l[i].toNat = 0
        · rw [if_pos (by omega)]
          by_cases hi0 : i = 0
          · rw [if_neg (by omega), if_neg (by simp [hi0])]
            rfl
          · rw [if_pos (by omega), if_pos (by simp [hi0, hz])]
            rfl
        · rw [if_neg (by omega), if_neg (fun hh => hz hh.1)]
          rfl
      · have hm : (l[i].toNat % 128) * 128 ^ i ≤ 127 * 128 ^ i := Nat.mul_le_mul_right _ (by omega)
        obtain ⟨K, hK⟩ := evx (ih (n + 128 ^ i * (l[i].toNat % 128)) (i + 1) (by omega) (by rw [Nat.pow_succ, Nat.mul_comm (128 ^ i) (l[i].toNat % 128)]; omega))
        refine evi (K + 2) fun k hk => ?_
        obtain ⟨k, rfl⟩ : ∃ m, k = m + 2 := ⟨k - 2, by omega⟩
        simp only [impl_ReadVar.l0, impl_ReadVar.j1]
        rw [if_pos (by omega), if_pos (by rw [mkS_size]; simpa using hlt), if_pos (by omega), if_pos (by rw [mkS_size]; simpa using hlt), if_pos (by rw [w64 (by omega) (by omega)]; omega), w64b, bt_mkS l i hlt, if_pos (by omega)]
        rw [tmodp (by omega), shl_i64 (n := 7 * i) (by rw [w64 (by omega) (by omega)]; simp) (by omega), pow_2_7, w64 (x := (i : Int) + 1) (by omega) (by omega)]
        have e2 : wrap64 ((n : Int) + wrap64 (((l[i].toNat : Int) % 128) * ((128 ^ i : Nat) : Int))) = ((n + 128 ^ i * (l[i].toNat % 128) : Nat) : Int) := by
          rw [show ((l[i].toNat : Int) % 128) = ((l[i].toNat % 128 : Nat) : Int) from by omega, ← Int.natCast_mul, Nat.mul_comm (128 ^ i)]
          rw [w64 (x := ((l[i].toNat % 128 * 128 ^ i : Nat) : Int)) (by omega) (by omega), w64 (by omega) (by omega)]
          omega
        rw [e2, show ((i : Int) + 1) = ((i + 1 : Nat) : Int) from by omega, hK k (by omega), hd, rvF, if_neg hx128]
        have hdec : decide (i + 1 = 0) = false := by simp
        rw [hdec]
        cases rvF f false (l.drop (i + 1)) with
        | none => rfl
        | some p =>
          simp only [Option.map_some, rvAdd]
          congr 2
          · rw [Nat.pow_succ, Nat.mul_add, Nat.mul_assoc, Nat.add_assoc]
          · omega
    · refine evi (2) fun k hk => ?_
      obtain ⟨k, rfl⟩ : ∃ m, k = m + 2 := ⟨k - 2, by omega⟩
      simp only [impl_ReadVar.l0, impl_ReadVar.j1]
      rw [if_pos (by omega), if_neg (by rw [mkS_size]; simpa using hlt), List.drop_of_length_le (by omega)]
      rfl
/-- A number and how many bytes it has, as Go's two results. -/
def rvI (l : List UInt8) : Int × Int := (((rvP l).1 : Int), ((rvP l).2 : Int))
theorem rvAdd_rvI (l : List UInt8) : rvAdd 0 0 (rv l) = rvI l := by
  unfold rvI rvP
  cases rv l with
  | none => rfl
  | some p => simp [rvAdd]
theorem impl_ReadVar_ev (l : List UInt8) : Ev (fun k => impl_ReadVar.f k (mkS l)) (rvI l) := by
  have h := impl_ReadVar_l0 l 7 0 0 rfl (by simp)
  rw [List.drop_zero] at h
  rw [← rvAdd_rvI]
  exact h

/-! ### spec's ReadVar -/
theorem spec_ReadVar_l1 (l : List UInt8) (j : Nat) (hj : j ≤ l.length) (hj7 : j ≤ 7) (r : Int × Int) (hr : Ev (fun k => spec_ReadVar.l1 k (mkS l) (j : Int) ((valL (l.take j) : Nat) : Int) (-1)) r) :
    ∀ m, m ≤ j → Ev (fun k => spec_ReadVar.l1 k (mkS l) (j : Int) ((valL ((l.take j).drop m) : Nat) : Int) ((m : Int) - 1)) r := by
  intro m
  induction m with
  | zero => intro _; simpa using hr
  | succ m ih =>
    intro hm
    obtain ⟨K, hK⟩ := evx (ih (by omega))
    refine evi (K + 1) fun k hk => ?_
    obtain ⟨k, rfl⟩ : ∃ m, k = m + 1 := ⟨k - 1, by omega⟩
    have hlt : m < l.length := by omega
    have hd : (l.take j).drop m = l[m] :: (l.take j).drop (m + 1) := by
      rw [List.drop_eq_getElem_cons (by rw [List.length_take]; omega)]
      congr 1
      simp
    have hv := valL_lt ((l.take j).drop (m + 1))
    have hp : 128 ^ ((l.take j).drop (m + 1)).length ≤ 128 ^ 6 := Nat.pow_le_pow_right (by omega) (by rw [List.length_drop, List.length_take]; omega)
    have hx := (l[m]).toNat_lt
    simp only [spec_ReadVar.l1]
    rw [show (((m + 1 : Nat) : Int) - 1) = (m : Int) from by omega]
    rw [if_pos (by omega), if_pos (by omega), if_pos (by rw [mkS_size]; omega), w64b, bt_mkS l m hlt, tmodp (by omega), w64 (x := (m : Int) - 1) (by omega) (by omega)]
    rw [w64 (x := ((valL ((l.take j).drop (m + 1)) : Nat) : Int) * 128) (by omega) (by omega), w64 (by omega) (by omega)]
    have := hK k (by omega)
    rw [hd, valL] at this
    rw [← this]
    congr 1
    omega
theorem varS_nat {n : Nat} (h : n ≤ 562949953421311) : varS (n : Int) = mkS (varL n) := by
  unfold varS
  rw [if_pos ⟨by omega, by omega⟩, Int.toNat_natCast]
theorem spec_ReadVar_l0 (l : List UInt8) (hl : l.length ≤ 9000000000000000000) (f : Nat) : ∀ (j : Nat), f + j = 8 → 1 ≤ j → (∀ i, 1 ≤ i → i < j → i ≤ l.length → varL (valL (l.take i)) ≠ l.take i) → Ev (fun k => spec_ReadVar.l0 k (mkS l) (j : Int)) (rvI l) := by
  have stop : ∀ j, (∀ i, 1 ≤ i → i < j → i ≤ l.length → varL (valL (l.take i)) ≠ l.take i) → (j = 8 ∨ l.length < j) → rvI l = (0, 0) := by
    intro j hno hj
    unfold rvI
    cases hr : rv l with
    | none => rw [rvP_none hr]; rfl
    | some p =>
      obtain ⟨n, k⟩ := p
      obtain ⟨h1, h2, h3, h4, h5⟩ := rv_sound hr
      refine absurd ?_ (hno k h1 (by omega) h3)
      rw [h4, valL_varL n n (Nat.le_refl _)]
  induction f with
  | zero =>
    intro j hf h1 hno
    rw [stop j hno (.inl (by omega))]
    refine evi (2) fun k hk => ?_
    obtain ⟨k, rfl⟩ : ∃ m, k = m + 2 := ⟨k - 2, by omega⟩
    simp only [spec_ReadVar.l0, spec_ReadVar.j1]
    rw [if_neg (by omega), if_neg (by decide)]
  | succ f ih =>
    intro j hf h1 hno
    by_cases hj : j ≤ l.length
    · have hv := valL_lt (l.take j)
      rw [List.length_take, Nat.min_eq_left hj] at hv
      have hp : 128 ^ j ≤ 128 ^ 7 := Nat.pow_le_pow_right (by omega) (by omega)
      have hend : Ev (fun k => spec_ReadVar.l1 k (mkS l) (j : Int) ((valL (l.take j) : Nat) : Int) (-1)) (rvI l) := by
        obtain ⟨K1, hK1⟩ := evx (spec_Var_ev ((valL (l.take j) : Nat) : Int))
        by_cases heq : varL (valL (l.take j)) = l.take j
        · refine evi (K1 + 1) fun k hk => ?_
          obtain ⟨k, rfl⟩ : ∃ m, k = m + 1 := ⟨k - 1, by omega⟩
          simp only [spec_ReadVar.l1]
          rw [if_neg (by omega), hK1 k (by omega)]
          simp only [Option.bind_some]
          rw [if_pos (by omega), if_pos (by rw [mkS_size]; omega), varS_nat (by omega), mkS_extract, Int.toNat_natCast, List.drop_zero, Nat.sub_zero, mkS_toList, mkS_toList, if_pos heq]
          rw [rvI, rvP_some (rv_of_take hj heq.symm (by omega))]
        · obtain ⟨K2, hK2⟩ := evx <| ih (j + 1) (by omega) (by omega) (fun i h1 h2 h3 => by
            by_cases hij : i = j
            · subst hij; exact heq
            · exact hno i h1 (by omega) h3)
          refine evi (K1 + K2 + 1) fun k hk => ?_
          obtain ⟨k, rfl⟩ : ∃ m, k = m + 1 := ⟨k - 1, by omega⟩
          simp only [spec_ReadVar.l1]
          rw [if_neg (by omega), hK1 k (by omega)]
          simp only [Option.bind_some]
          rw [if_pos (by omega), if_pos (by rw [mkS_size]; omega), varS_nat (by omega), mkS_extract, Int.toNat_natCast, List.drop_zero, Nat.sub_zero, mkS_toList, mkS_toList, if_neg heq, w64 (by omega) (by omega)]
          have := hK2 k (by omega)
          rw [show ((j + 1 : Nat) : Int) = (j : Int) + 1 from by omega] at this
          exact this
      obtain ⟨K, hK⟩ := evx (spec_ReadVar_l1 l j hj (by omega) _ hend j (Nat.le_refl _))
      refine evi (K + 2) fun k hk => ?_
      obtain ⟨k, rfl⟩ : ∃ m, k = m + 2 := ⟨k - 2, by omega⟩
      simp only [spec_ReadVar.l0, spec_ReadVar.j1]
      rw [if_pos (by omega), if_pos (by rw [mkS_size]; simpa using hj), w64 (by omega) (by omega)]
      have := hK k (by omega)
      rw [List.drop_of_length_le (by rw [List.length_take]; omega)] at this
      exact this
    · rw [stop j hno (.inr (by omega))]
      refine evi (2) fun k hk => ?_
      obtain ⟨k, rfl⟩ : ∃ m, k = m + 2 := ⟨k - 2, by omega⟩
      simp only [spec_ReadVar.l0, spec_ReadVar.j1]
      rw [if_pos (by omega), if_neg (by rw [mkS_size]; simpa using hj)]
theorem spec_ReadVar_ev (l : List UInt8) (hl : l.length ≤ 9000000000000000000) : Ev (fun k => spec_ReadVar.f k (mkS l)) (rvI l) :=
  spec_ReadVar_l0 l hl 7 1 rfl (Nat.le_refl _) (fun i h1 h2 _ => by omega)

/-! ### the law -/
theorem FnExactReadVar : laws_FnExactReadVar.Pure := by
  intro a h
  by_cases hb : (a.size : Int) > 1048576
  · exact ⟨0, by unfold laws_FnExactReadVar.f; rw [if_pos hb]⟩
  · obtain ⟨l, rfl⟩ := exS a
    rw [mkS_size] at hb
    obtain ⟨K1, h1⟩ := evx (spec_ReadVar_ev l (by omega))
    obtain ⟨K2, h2⟩ := evx (impl_ReadVar_ev l)
    refine ⟨K1 + K2, ?_⟩
    unfold laws_FnExactReadVar.f
    rw [if_neg (by rw [mkS_size]; exact hb), h1 _ (by omega), h2 _ (by omega)]
    simp only [Option.bind_some]
    simp

end Go.Proofs.Ytokljpgdjgphlaa.Pure
