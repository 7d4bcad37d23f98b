/- The pure statement of the law FnExactRecOk: for all arguments within the printed bounds the printed function of the law answers true. Conditions: only the bounds that the printed statement itself names. -/
import Derived.Test.YtokljpgdjgphlaaPFnExactRecOkx5
namespace Go.Proofs.Ytokljpgdjgphlaa.Pure
open Go.RowKit Go.Proofs.Ytokljpgdjgphlaa.PFnExactRecOk Go.Proofs.YtokljpgdjgphlaaW.PrintWords Go.Proofs.YtokljpgdjgphlaaW.PrintLast
set_option linter.unusedVariables false
set_option linter.unusedSimpArgs false

/-! ### Base: strings as lists of bytes, arithmetic of Go's ints -/
/-- The string of a list of bytes. -/
def mkS (l : List UInt8) : ByteArray := ⟨l.toArray⟩
theorem exS (s : ByteArray) : ∃ l, s = mkS l := ⟨s.data.toList, by cases s; simp [mkS]⟩
theorem mkS_size (l : List UInt8) : (mkS l).size = l.length := by simp [mkS, ByteArray.size]
theorem mkS_inj {a b : List UInt8} : mkS a = mkS b ↔ a = b := by
  constructor
  · intro h; have := congrArg (fun s : ByteArray => s.data.toList) h; simpa [mkS] using this
  · intro h; rw [h]
theorem toList_data (s : ByteArray) : s.toList = s.data.toList := by
  have key : ∀ (n i : Nat) (r : List UInt8), s.size - i = n → ByteArray.toList.loop s i r = r.reverse ++ s.data.toList.drop i := by
    intro n
    induction n with
    | zero =>
      intro i r h
      unfold ByteArray.toList.loop
      rw [if_neg (by omega), List.drop_of_length_le (by simp only [Array.length_toList]; have : s.size = s.data.size := rfl; omega), List.append_nil]
    | succ n ih =>
      intro i r h
      unfold ByteArray.toList.loop
      have hi : i < s.data.toList.length := by simp only [Array.length_toList]; have : s.size = s.data.size := rfl; omega
      rw [if_pos (by omega), ih (i + 1) _ (by omega), List.reverse_cons, List.append_assoc, List.drop_eq_getElem_cons hi]
      have : s.get! i = s.data.toList[i] := by
        show s.data[i]! = _
        rw [Array.getElem_toList]
        exact getElem!_pos s.data i (by simpa using hi)
      rw [this]
      rfl
  have := key _ 0 [] rfl
  simpa [ByteArray.toList] using this
theorem mkS_toList (l : List UInt8) : (mkS l).toList = l := by rw [toList_data]; simp [mkS]
theorem mkS_append (a b : List UInt8) : mkS a ++ mkS b = mkS (a ++ b) := by
  apply ByteArray.ext
  simp [mkS, ByteArray.data_append]
theorem mkS_extract (l : List UInt8) (i j : Nat) : (mkS l).extract i j = mkS ((l.drop i).take (j - i)) := by
  apply ByteArray.ext
  rw [ByteArray.data_extract]
  simp only [mkS]
  apply Array.ext'
  rw [Array.toList_extract]
  try simp [List.extract_eq_drop_take]
theorem mkS_nil : (⟨#[]⟩ : ByteArray) = mkS [] := rfl
theorem bt_mkS (l : List UInt8) (i : Nat) (h : i < l.length) : bt (mkS l) (i : Int) = ((l[i]).toNat : Int) := by
  unfold bt
  have h' : ((i : Int)).toNat < (mkS l).size := by rw [mkS_size]; simpa using h
  rw [dif_pos h']
  simp only [Int.toNat_natCast]
  rfl
/-- A slice of bytes as the print tells it. -/
def ints (l : List UInt8) : List Int := l.map fun b => (b.toNat : Int)
theorem ints_length (l : List UInt8) : (ints l).length = l.length := by simp [ints]
theorem ints_append (a b : List UInt8) : ints a ++ ints b = ints (a ++ b) := by simp [ints]
theorem ints_nil : ([] : List Int) = ints [] := rfl
theorem ub_byte (b : UInt8) : UInt8.ofNat ((b.toNat : Int)).toNat = b := by simp
theorem strOfNums_ints (l : List UInt8) : strOfNums (ints l) = mkS l := by
  unfold strOfNums ints mkS
  congr 2
  rw [List.map_map]
  conv => rhs; rw [← List.map_id l]
  apply List.map_congr_left
  intro b _
  simp
theorem ofNat_cast (n : Nat) : ((UInt8.ofNat n).toNat : Int) = (n : Int) % 256 := by simp
theorem ints_one (n : Nat) (x : Int) (h : x % 256 = ((n % 256 : Nat) : Int)) : [x % 256] = ints [UInt8.ofNat n] := by
  simp only [ints, List.map_cons, List.map_nil]
  rw [h, ofNat_cast]
  simp
theorem w64 {x : Int} (h0 : -9223372036854775808 ≤ x) (h1 : x ≤ 9223372036854775807) : wrap64 x = x := by unfold wrap64; omega
theorem w64b (s : ByteArray) (i : Int) : wrap64 (bt s i) = bt s i := by have := bt_range s i; exact w64 (by omega) (by omega)
theorem wfI {x : Int} (h : (Lit.int .i64 x).wf = true) : -9223372036854775808 ≤ x ∧ x ≤ 9223372036854775807 := by
  have e1 : IntKind.i64.min = -9223372036854775808 := by decide
  have e2 : IntKind.i64.max = 9223372036854775807 := by decide
  have h1 : IntKind.i64.min ≤ x ∧ x ≤ IntKind.i64.max := by simpa [Lit.wf] using h
  rw [e1, e2] at h1
  exact h1
theorem tdivp {x y : Int} (h : 0 ≤ x) : Int.tdiv x y = x / y := Int.tdiv_eq_ediv_of_nonneg h
theorem tmodp {x y : Int} (h : 0 ≤ x) : Int.tmod x y = x % y := Int.tmod_eq_emod_of_nonneg h
theorem shl_i64 {x y : Int} {n : Nat} (hy : y = (n : Int)) (hn : n ≤ 64) : shl .i64 x y = wrap64 (x * 2 ^ n) := by
  unfold shl
  have e : min y.toNat IntKind.i64.bits = n := by subst hy; simp [IntKind.bits]; omega
  rw [e, IntKind.wrap_i64, wrap64]
theorem shr_i64 {x y : Int} {n : Nat} (hy : y = (n : Int)) (hn : n ≤ 64) : shr .i64 x y = x / 2 ^ n := by
  unfold shr
  have e : min y.toNat IntKind.i64.bits = n := by subst hy; simp [IntKind.bits]; omega
  rw [e]
theorem getElem_drop_cons {α : Type} {l : List α} {i : Nat} (h : i < l.length) : l.drop i = l[i] :: l.drop (i + 1) := List.drop_eq_getElem_cons h
theorem ev_some {α : Type} {g : Nat → Option α} {r q : α} (h : Ev g r) (hk : r = q) : Ev g q := hk ▸ h
theorem evx {α : Type} {g : Nat → Option α} {r : α} (h : Ev g r) : ∃ K, ∀ k, K ≤ k → g k = some r := h
theorem evi {α : Type} {g : Nat → Option α} {r : α} (K : Nat) (h : ∀ k, K ≤ k → g k = some r) : Ev g r := ⟨K, h⟩

/-! ### impl's in -/
theorem impl_in_f (a b c : Int) : impl_in.f a b c = some (decide (b ≤ a ∧ a ≤ c)) := by
  unfold impl_in.f
  by_cases h : a ≥ b
  · rw [if_pos h]; congr 1; simp [h]
  · rw [if_neg h]; congr 1; simp; omega

/-! ### spec's l1In -/
theorem spec_l1In_f (a b c : Int) : spec_l1In.f a b c = some (decide (b ≤ a ∧ a ≤ c)) := by
  unfold spec_l1In.f
  by_cases h : a ≥ b
  · rw [if_pos h]; congr 1; simp [h]
  · rw [if_neg h]; congr 1; simp; omega

/-! ### impl's KeyOk -/
def keyOkB (l : List UInt8) : Bool := decide (1 ≤ l.length ∧ l.length ≤ 8)
theorem impl_KeyOk_f (l : List UInt8) : impl_KeyOk.f (mkS l) = some (keyOkB l) := by
  unfold impl_KeyOk.f keyOkB
  rw [impl_in_f, mkS_size]
  simp only [Option.bind_some]
  congr 1
  apply decide_eq_decide.2
  omega

/-! ### spec's KeyOk -/
theorem spec_KeyOk_f (l : List UInt8) : spec_KeyOk.f (mkS l) = some (keyOkB l) := by
  unfold spec_KeyOk.f keyOkB
  rw [spec_l1In_f, mkS_size]
  simp only [Option.bind_some]
  congr 1
  apply decide_eq_decide.2
  omega

/-! ### records: when one is right -/
/-- A record is right: its kind, batch, key, value, count and sum. -/
def recOk (kind batch : Int) (key value : List UInt8) (count sum : Int) : Bool :=
  decide (0 ≤ batch ∧ batch ≤ 1000000) && (decide (batch ≠ 0) || decide (kind = 5)) &&
  (if kind = 1 ∨ kind = 4 then keyOkB key && decide (value.length ≤ 24) && decide (count = 0) && decide (sum = 0)
   else if kind = 2 then keyOkB key && decide (value = []) && decide (count = 0) && decide (sum = 0)
   else if kind = 3 then decide (key = []) && decide (value = []) && decide (0 ≤ count ∧ count ≤ 8) && decide (0 ≤ sum ∧ sum ≤ 4294967295)
   else if kind = 5 then decide (key = []) && decide (value = []) && decide (0 ≤ count ∧ count ≤ 20) && decide (0 ≤ sum ∧ sum ≤ 4294967295)
   else false)

/-! ### impl's RecOk -/
theorem opt_bool {a b : Bool} (h : (a = true) ↔ (b = true)) : some a = some b := by rw [Bool.eq_iff_iff.2 h]
theorem impl_RecOk_f (kind batch count sum : Int) (key value : List UInt8) (k : Nat) (hk : 0 < k) : impl_RecOk.f k kind batch (mkS key) (mkS value) count sum = some (recOk kind batch key value count sum) := by
  obtain ⟨k, rfl⟩ : ∃ m, k = m + 1 := ⟨k - 1, by omega⟩
  unfold impl_RecOk.f
  simp only [impl_RecOk.j0, impl_KeyOk_f, impl_in_f, Option.bind_some, mkS_size, mkS_toList, mkS_nil, beq_iff_eq, decide_eq_true_eq, Bool.false_eq_true, if_false]
  unfold recOk
  generalize keyOkB key = kb
  have hv : value = [] ↔ value.length = 0 := by simp
  have hke : key = [] ↔ key.length = 0 := by simp
  clear hk
  by_cases h1 : kind = 1
  · subst h1; cases kb <;> simp <;> (repeat' split) <;> simp_all <;> (try rw [Bool.eq_iff_iff]) <;> (try simp) <;> (try omega) <;> (try (constructor <;> (intro hh; simp_all <;> omega)))
  · by_cases h4 : kind = 4
    · subst h4; cases kb <;> simp <;> (repeat' split) <;> simp_all <;> (try rw [Bool.eq_iff_iff]) <;> (try simp) <;> (try omega) <;> (try (constructor <;> (intro hh; simp_all <;> omega)))
    · by_cases h2 : kind = 2
      · subst h2; cases kb <;> simp <;> (repeat' split) <;> simp_all <;> (try rw [Bool.eq_iff_iff]) <;> (try simp) <;> (try omega) <;> (try (constructor <;> (intro hh; simp_all <;> omega)))
      · by_cases h3 : kind = 3
        · subst h3; simp <;> (repeat' split) <;> simp_all <;> (try rw [Bool.eq_iff_iff]) <;> (try simp) <;> (try omega) <;> (try (constructor <;> (intro hh; simp_all <;> omega)))
        · by_cases h5 : kind = 5
          · subst h5; simp <;> (repeat' split) <;> simp_all <;> (try rw [Bool.eq_iff_iff]) <;> (try simp) <;> (try omega) <;> (try (constructor <;> (intro hh; simp_all <;> omega)))
          · simp [h1, h2, h3, h4, h5]

/-! ### spec's RecOk -/
theorem spec_RecOk_f (kind batch count sum : Int) (key value : List UInt8) (k : Nat) (hk : 1 < k) : spec_RecOk.f k kind batch (mkS key) (mkS value) count sum = some (recOk kind batch key value count sum) := by
  obtain ⟨k, rfl⟩ : ∃ m, k = m + 2 := ⟨k - 2, by omega⟩
  unfold spec_RecOk.f
  simp only [spec_RecOk.j0, spec_RecOk.j1, spec_KeyOk_f, spec_l1In_f, Option.bind_some, mkS_size, mkS_toList, mkS_nil, beq_iff_eq, bne_iff_ne, decide_eq_true_eq, Bool.false_eq_true, if_false, if_true]
  unfold recOk
  generalize keyOkB key = kb
  have hv : value = [] ↔ value.length = 0 := by simp
  have hke : key = [] ↔ key.length = 0 := by simp
  clear hk
  by_cases h1 : kind = 1
  · subst h1; cases kb <;> simp <;> (repeat' split) <;> simp_all <;> (try rw [Bool.eq_iff_iff]) <;> (try simp) <;> (try omega) <;> (try (constructor <;> (intro hh; simp_all <;> omega)))
  · by_cases h4 : kind = 4
    · subst h4; cases kb <;> simp <;> (repeat' split) <;> simp_all <;> (try rw [Bool.eq_iff_iff]) <;> (try simp) <;> (try omega) <;> (try (constructor <;> (intro hh; simp_all <;> omega)))
    · by_cases h2 : kind = 2
      · subst h2; cases kb <;> simp <;> (repeat' split) <;> simp_all <;> (try rw [Bool.eq_iff_iff]) <;> (try simp) <;> (try omega) <;> (try (constructor <;> (intro hh; simp_all <;> omega)))
      · by_cases h3 : kind = 3
        · subst h3; simp <;> (repeat' split) <;> simp_all <;> (try rw [Bool.eq_iff_iff]) <;> (try simp) <;> (try omega) <;> (try (constructor <;> (intro hh; simp_all <;> omega)))
        · by_cases h5 : kind = 5
          · subst h5; simp <;> (repeat' split) <;> simp_all <;> (try rw [Bool.eq_iff_iff]) <;> (try simp) <;> (try omega) <;> (try (constructor <;> (intro hh; simp_all <;> omega)))
          · simp [h1, h2, h3, h4, h5]

/-! ### the law -/
theorem FnExactRecOk : laws_FnExactRecOk.Pure := by
  intro kind batch key value count sum h1 h2 h3 h4 h5 h6
  obtain ⟨key, rfl⟩ := exS key
  obtain ⟨value, rfl⟩ := exS value
  refine ⟨2, ?_⟩
  unfold laws_FnExactRecOk.f laws_toRec.f laws_szRec.f
  simp only [impl_RecOk_f _ _ _ _ _ _ 2 (by omega), spec_RecOk_f _ _ _ _ _ _ 2 (by omega), Option.bind_some]
  repeat' split
  all_goals simp_all

end Go.Proofs.Ytokljpgdjgphlaa.Pure
