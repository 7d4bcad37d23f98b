/- The pure statement of the law FnExactLiveOk: for all arguments within the printed bounds the printed function of the law answers true. Conditions: only the bounds that the printed statement itself names. -/
import Derived.Test.YtodmaebgogjpdaaPFnExactLiveOkx4
namespace Go.Proofs.Ytodmaebgogjpdaa.Pure
open Go.RowKit Go.Proofs.Ytodmaebgogjpdaa.PFnExactLiveOk Go.Proofs.YtodmaebgogjpdaaW.PrintWords Go.Proofs.YtodmaebgogjpdaaW.PrintLast
set_option linter.unusedVariables false
set_option linter.unusedSimpArgs false

/-! ### Base: strings as lists of bytes, arithmetic of Go's ints -/
/-- The string of a list of bytes. -/
def mkS (l : List UInt8) : ByteArray := ⟨l.toArray⟩
theorem exS (s : ByteArray) : ∃ l, s = mkS l := ⟨s.data.toList, by cases s; simp [mkS]⟩
theorem mkS_size (l : List UInt8) : (mkS l).size = l.length := by simp [mkS, ByteArray.size]
theorem mkS_inj {a b : List UInt8} : mkS a = mkS b ↔ a = b := by
  constructor
  · intro h; have := congrArg (fun s : ByteArray => s.data.toList) h; simpa [mkS] using this
  · intro h; rw [h]
theorem toList_data (s : ByteArray) : s.toList = s.data.toList := by
  have key : ∀ (n i : Nat) (r : List UInt8), s.size - i = n → ByteArray.toList.loop s i r = r.reverse ++ s.data.toList.drop i := by
    intro n
    induction n with
    | zero =>
      intro i r h
      unfold ByteArray.toList.loop
      rw [if_neg (by omega), List.drop_of_length_le (by simp only [Array.length_toList]; have : s.size = s.data.size := rfl; omega), List.append_nil]
    | succ n ih =>
      intro i r h
      unfold ByteArray.toList.loop
      have hi : i < s.data.toList.length := by simp only [Array.length_toList]; have : s.size = s.data.size := rfl; omega
      rw [if_pos (by omega), ih (i + 1) _ (by omega), List.reverse_cons, List.append_assoc, List.drop_eq_getElem_cons hi]
      have : s.get! i = s.data.toList[i] := by
        show s.data[i]! = _
        rw [Array.getElem_toList]
        exact getElem!_pos s.data i (by simpa using hi)
      rw [this]
      rfl
  have := key _ 0 [] rfl
  simpa [ByteArray.toList] using this
theorem mkS_toList (l : List UInt8) : (mkS l).toList = l := by rw [toList_data]; simp [mkS]
theorem mkS_append (a b : List UInt8) : mkS a ++ mkS b = mkS (a ++ b) := by
  apply ByteArray.ext
  simp [mkS, ByteArray.data_append]
theorem mkS_extract (l : List UInt8) (i j : Nat) : (mkS l).extract i j = mkS ((l.drop i).take (j - i)) := by
  apply ByteArray.ext
  rw [ByteArray.data_extract]
  simp only [mkS]
  apply Array.ext'
  rw [Array.toList_extract]
  try simp [List.extract_eq_drop_take]
theorem mkS_nil : (⟨#[]⟩ : ByteArray) = mkS [] := rfl
theorem bt_mkS (l : List UInt8) (i : Nat) (h : i < l.length) : bt (mkS l) (i : Int) = ((l[i]).toNat : Int) := by
  unfold bt
  have h' : ((i : Int)).toNat < (mkS l).size := by rw [mkS_size]; simpa using h
  rw [dif_pos h']
  simp only [Int.toNat_natCast]
  rfl
/-- A slice of bytes as the print tells it. -/
def ints (l : List UInt8) : List Int := l.map fun b => (b.toNat : Int)
theorem ints_length (l : List UInt8) : (ints l).length = l.length := by simp [ints]
theorem ints_append (a b : List UInt8) : ints a ++ ints b = ints (a ++ b) := by simp [ints]
theorem ints_nil : ([] : List Int) = ints [] := rfl
theorem ub_byte (b : UInt8) : UInt8.ofNat ((b.toNat : Int)).toNat = b := by simp
theorem strOfNums_ints (l : List UInt8) : strOfNums (ints l) = mkS l := by
  unfold strOfNums ints mkS
  congr 2
  rw [List.map_map]
  conv => rhs; rw [← List.map_id l]
  apply List.map_congr_left
  intro b _
  simp
theorem ofNat_cast (n : Nat) : ((UInt8.ofNat n).toNat : Int) = (n : Int) % 256 := by simp
theorem ints_one (n : Nat) (x : Int) (h : x % 256 = ((n % 256 : Nat) : Int)) : [x % 256] = ints [UInt8.ofNat n] := by
  simp only [ints, List.map_cons, List.map_nil]
  rw [h, ofNat_cast]
  simp
theorem w64 {x : Int} (h0 : -9223372036854775808 ≤ x) (h1 : x ≤ 9223372036854775807) : wrap64 x = x := by unfold wrap64; omega
theorem w64b (s : ByteArray) (i : Int) : wrap64 (bt s i) = bt s i := by have := bt_range s i; exact w64 (by omega) (by omega)
theorem wfI {x : Int} (h : (Lit.int .i64 x).wf = true) : -9223372036854775808 ≤ x ∧ x ≤ 9223372036854775807 := by
  have e1 : IntKind.i64.min = -9223372036854775808 := by decide
  have e2 : IntKind.i64.max = 9223372036854775807 := by decide
  have h1 : IntKind.i64.min ≤ x ∧ x ≤ IntKind.i64.max := by simpa [Lit.wf] using h
  rw [e1, e2] at h1
  exact h1
theorem tdivp {x y : Int} (h : 0 ≤ x) : Int.tdiv x y = x / y := Int.tdiv_eq_ediv_of_nonneg h
theorem tmodp {x y : Int} (h : 0 ≤ x) : Int.tmod x y = x % y := Int.tmod_eq_emod_of_nonneg h
theorem shl_i64 {x y : Int} {n : Nat} (hy : y = (n : Int)) (hn : n ≤ 64) : shl .i64 x y = wrap64 (x * 2 ^ n) := by
  unfold shl
  have e : min y.toNat IntKind.i64.bits = n := by subst hy; simp [IntKind.bits]; omega
  rw [e, IntKind.wrap_i64, wrap64]
theorem shr_i64 {x y : Int} {n : Nat} (hy : y = (n : Int)) (hn : n ≤ 64) : shr .i64 x y = x / 2 ^ n := by
  unfold shr
  have e : min y.toNat IntKind.i64.bits = n := by subst hy; simp [IntKind.bits]; omega
  rw [e]
theorem getElem_drop_cons {α : Type} {l : List α} {i : Nat} (h : i < l.length) : l.drop i = l[i] :: l.drop (i + 1) := List.drop_eq_getElem_cons h
theorem ev_some {α : Type} {g : Nat → Option α} {r q : α} (h : Ev g r) (hk : r = q) : Ev g q := hk ▸ h
theorem evx {α : Type} {g : Nat → Option α} {r : α} (h : Ev g r) : ∃ K, ∀ k, K ≤ k → g k = some r := h
theorem evi {α : Type} {g : Nat → Option α} {r : α} (K : Nat) (h : ∀ k, K ≤ k → g k = some r) : Ev g r := ⟨K, h⟩

/-! ### impl's in -/
theorem impl_in_f (a b c : Int) : impl_in.f a b c = some (decide (b ≤ a ∧ a ≤ c)) := by
  unfold impl_in.f
  by_cases h : a ≥ b
  · rw [if_pos h]; congr 1; simp [h]
  · rw [if_neg h]; congr 1; simp; omega

/-! ### spec's l1In -/
theorem spec_l1In_f (a b c : Int) : spec_l1In.f a b c = some (decide (b ≤ a ∧ a ≤ c)) := by
  unfold spec_l1In.f
  by_cases h : a ≥ b
  · rw [if_pos h]; congr 1; simp [h]
  · rw [if_neg h]; congr 1; simp; omega

/-! ### filling a row -/
theorem fill_step {α : Type} (m : List α) (z : α) (i n : Nat) (x : α) (hn : m.length = n) (h : i < n) (hx : m[i]? = some x) : (m.take i ++ List.replicate (n - i) z).set i x = m.take (i + 1) ++ List.replicate (n - (i + 1)) z := by
  subst hn
  have hl : (m.take i).length = i := by rw [List.length_take]; omega
  have e : m.length - i = (m.length - (i + 1)) + 1 := by omega
  have ex : m[i] = x := by rw [List.getElem?_eq_getElem h] at hx; exact Option.some.inj hx
  rw [e, List.replicate_succ, List.set_append_right _ _ (by omega), hl, Nat.sub_self, List.set_cons_zero, List.take_succ_eq_append_getElem h, List.append_assoc, ex]
  rfl

/-! ### sz, to, eq of whole numbers -/
theorem laws_szIntS_f (l : List Int) (hl : l.length ≤ maxLen) (a : Int) (h0 : 0 ≤ a) (h1 : a ≤ 1048576) : ∃ s, laws_szIntS.f l a = some s ∧ s ≤ a ∧ (s < 0 ∨ 0 ≤ s ∧ l.length ≤ 1048576) := by
  have hmax : maxLen = 9223372036854775807 := rfl
  unfold laws_szIntS.f wrap64
  repeat' split
  all_goals exact ⟨_, rfl, by omega, by omega⟩
theorem laws_toIntS_l0 (l : List Int) (hl : l.length ≤ 4611686018427387904) (d : Nat) : ∀ (i : Nat), d + i = l.length → Ev (fun k => laws_toIntS.l0 k l (l.take i ++ List.replicate (l.length - i) 0) (i : Int)) l := by
  induction d with
  | zero =>
    intro i hi
    refine evi (1) fun k hk => ?_
    obtain ⟨k, rfl⟩ : ∃ m, k = m + 1 := ⟨k - 1, by omega⟩
    simp only [laws_toIntS.l0]
    rw [if_neg (by omega), List.take_of_length_le (by omega), show l.length - i = 0 from by omega, List.replicate_zero, List.append_nil]
  | succ d ih =>
    intro i hi
    have hlt : i < l.length := by omega
    have hrd : rd l (i : Int) = l[i] := by simp [rd, hlt]
    obtain ⟨K, hK⟩ := evx (ih (i + 1) (by omega))
    refine evi (K + 1) fun k hk => ?_
    obtain ⟨k, rfl⟩ : ∃ m, k = m + 1 := ⟨k - 1, by omega⟩
    simp only [laws_toIntS.l0]
    rw [if_pos (by omega), if_pos (by omega), if_pos (by rw [List.length_append, List.length_take, List.length_replicate]; omega), hrd, Int.toNat_natCast, w64 (by omega) (by omega), fill_step l 0 i l.length l[i] rfl hlt (List.getElem?_eq_getElem hlt)]
    exact hK k (by omega)
theorem laws_toIntS_ev (l : List Int) (hl : l.length ≤ 1048576) : Ev (fun k => laws_toIntS.f k l) l := by
  obtain ⟨K, hK⟩ := evx (laws_toIntS_l0 l (by omega) l.length 0 rfl)
  refine evi (K) fun k hk => ?_
  unfold laws_toIntS.f
  rw [if_pos (by omega), if_pos (by omega), Int.toNat_natCast]
  have := hK k hk
  rw [List.take_zero, List.nil_append, Nat.sub_zero] at this
  exact this
theorem laws_eqIntS_l0 (l : List Int) (hl : l.length ≤ 4611686018427387904) (d : Nat) : ∀ (i : Nat), d + i = l.length → Ev (fun k => laws_eqIntS.l0 k l l (i : Int)) true := by
  induction d with
  | zero =>
    intro i hi
    refine evi (1) fun k hk => ?_
    obtain ⟨k, rfl⟩ : ∃ m, k = m + 1 := ⟨k - 1, by omega⟩
    simp only [laws_eqIntS.l0]
    rw [if_neg (by omega)]
  | succ d ih =>
    intro i hi
    obtain ⟨K, hK⟩ := evx (ih (i + 1) (by omega))
    refine evi (K + 1) fun k hk => ?_
    obtain ⟨k, rfl⟩ : ∃ m, k = m + 1 := ⟨k - 1, by omega⟩
    simp only [laws_eqIntS.l0]
    rw [if_pos (by omega), if_pos (by omega), if_pos (by omega), if_pos trivial, w64 (by omega) (by omega)]
    exact hK k (by omega)
theorem laws_eqIntS_ev (l : List Int) (hl : l.length ≤ 4611686018427387904) : Ev (fun k => laws_eqIntS.f k l l) true := by
  obtain ⟨K, hK⟩ := evx (laws_eqIntS_l0 l hl l.length 0 rfl)
  refine evi (K) fun k hk => ?_
  unfold laws_eqIntS.f
  rw [if_pos rfl]
  exact hK k hk

/-! ### lists of segments: the words -/
def lvBad (m : Int) (l : List Int) (i : Nat) : Bool := (!decide (1 ≤ rd l (i : Int) ∧ rd l (i : Int) ≤ m)) || (decide (0 < (i : Int)) && decide (rd l (i : Int) ≤ rd l ((i : Int) - 1)))
def lvL (m : Int) (l : List Int) : Nat → Nat → Bool
 | 0, _ => true
 | d + 1, i => if lvBad m l i = true then false else lvL m l d (i + 1)
def lvOk (n : Int) (l : List Int) : Bool := decide (1 ≤ n ∧ n ≤ 100000) && (decide (1 ≤ (l.length : Int) ∧ (l.length : Int) ≤ 60) && lvL (wrap64 (n - 1)) l l.length 0)

/-! ### spec's LiveOk -/
theorem spec_LiveOk_l0 (n : Int) (l : List Int) (hl : l.length ≤ 4611686018427387904) (d : Nat) : ∀ (i : Nat), d + i = l.length → Ev (fun k => spec_LiveOk.l0 k (i : Int) n l) (lvL (wrap64 (n - 1)) l d i) := by
  induction d with
  | zero =>
    intro i hi
    refine evi (1) fun k hk => ?_
    obtain ⟨k, rfl⟩ : ∃ m, k = m + 1 := ⟨k - 1, by omega⟩
    simp only [spec_LiveOk.l0]
    rw [if_neg (by omega)]
    rfl
  | succ d ih =>
    intro i hi
    obtain ⟨K, hK⟩ := evx (ih (i + 1) (by omega))
    refine evi (K + 2) fun k hk => ?_
    obtain ⟨k, rfl⟩ : ∃ m, k = m + 2 := ⟨k - 2, by omega⟩
    have e1 : (i : Int) < (l.length : Int) := by omega
    have e2 : (0 : Int) ≤ i := by omega
    have e3 : wrap64 ((i : Int) + 1) = ((i + 1 : Nat) : Int) := w64 (by omega) (by omega)
    have e4 : (i : Int) > 0 → wrap64 ((i : Int) - 1) = (i : Int) - 1 := fun h => w64 (by omega) (by omega)
    have e5 : (i : Int) > 0 → 0 ≤ (i : Int) - 1 := fun h => by omega
    have e6 : (i : Int) - 1 < (l.length : Int) := by omega
    have hK' := hK k (by omega)
    simp only [spec_LiveOk.l0]
    rw [if_pos e1, if_pos e2, spec_l1In_f, Option.bind_some]
    simp only [lvL]
    by_cases hb : 1 ≤ rd l (i : Int) ∧ rd l (i : Int) ≤ wrap64 (n - 1)
    · rw [decide_eq_true hb, if_pos rfl]
      by_cases h0 : (i : Int) > 0
      · rw [if_pos h0, e4 h0, if_pos (e5 h0), if_pos e6]
        simp only [spec_LiveOk.j2]
        by_cases hc : rd l (i : Int) ≤ rd l ((i : Int) - 1)
        · rw [decide_eq_true hc, if_pos rfl, if_pos (show lvBad (wrap64 (n - 1)) l i = true by unfold lvBad; rw [decide_eq_true hb, decide_eq_true hc, decide_eq_true h0]; rfl)]
        · rw [decide_eq_false hc, if_neg (by decide), if_neg (show ¬ lvBad (wrap64 (n - 1)) l i = true by unfold lvBad; rw [decide_eq_true hb, decide_eq_false hc, decide_eq_true h0]; decide), e3]
          exact hK'
      · rw [if_neg h0]
        simp only [spec_LiveOk.j2]
        rw [if_neg (by decide), if_neg (show ¬ lvBad (wrap64 (n - 1)) l i = true by unfold lvBad; rw [decide_eq_true hb, decide_eq_false h0, Bool.false_and]; decide), e3]
        exact hK'
    · rw [decide_eq_false hb, if_neg (by decide)]
      simp only [spec_LiveOk.j2]
      rw [if_pos trivial, if_pos (show lvBad (wrap64 (n - 1)) l i = true by unfold lvBad; rw [decide_eq_false hb]; rfl)]
theorem spec_LiveOk_ev (n : Int) (l : List Int) (hl : l.length ≤ 4611686018427387904) : Ev (fun k => spec_LiveOk.f k n l) (lvOk n l) := by
  obtain ⟨K, hK⟩ := evx (spec_LiveOk_l0 n l hl l.length 0 rfl)
  refine evi (K + 1) fun k hk => ?_
  obtain ⟨k, rfl⟩ : ∃ m, k = m + 1 := ⟨k - 1, by omega⟩
  have hK' := hK k (by omega)
  unfold spec_LiveOk.f lvOk
  rw [spec_l1In_f, spec_l1In_f, Option.bind_some]
  simp only [spec_LiveOk.j0, Option.bind_some]
  by_cases h1 : 1 ≤ n ∧ n ≤ 100000
  · by_cases h2 : 1 ≤ (l.length : Int) ∧ (l.length : Int) ≤ 60
    · rw [decide_eq_true h1, decide_eq_true h2]
      exact hK'
    · rw [decide_eq_true h1, decide_eq_false h2]; rfl
  · rw [decide_eq_false h1]; rfl

/-! ### impl's LiveOk -/
theorem impl_LiveOk_l0 (n : Int) (l : List Int) (hl : l.length ≤ 4611686018427387904) (d : Nat) : ∀ (i : Nat), d + i = l.length → Ev (fun k => impl_LiveOk.l0 k l (l.length : Int) (i : Int) n l) (lvL (wrap64 (n - 1)) l d i && (decide (1 ≤ n ∧ n ≤ 100000) && decide (1 ≤ (l.length : Int) ∧ (l.length : Int) ≤ 60))) := by
  induction d with
  | zero =>
    intro i hi
    refine evi (1) fun k hk => ?_
    obtain ⟨k, rfl⟩ : ∃ m, k = m + 1 := ⟨k - 1, by omega⟩
    simp only [impl_LiveOk.l0]
    rw [if_neg (by omega), impl_in_f, impl_in_f, Option.bind_some, Option.bind_some]
    simp only [lvL, Bool.true_and]
    by_cases h1 : 1 ≤ n ∧ n ≤ 100000
    · rw [decide_eq_true h1]; rfl
    · rw [decide_eq_false h1]; rfl
  | succ d ih =>
    intro i hi
    obtain ⟨K, hK⟩ := evx (ih (i + 1) (by omega))
    refine evi (K + 2) fun k hk => ?_
    obtain ⟨k, rfl⟩ : ∃ m, k = m + 2 := ⟨k - 2, by omega⟩
    have e1 : (i : Int) < (l.length : Int) := by omega
    have e2 : (0 : Int) ≤ i := by omega
    have e3 : wrap64 ((i : Int) + 1) = ((i + 1 : Nat) : Int) := w64 (by omega) (by omega)
    have e4 : (i : Int) > 0 → wrap64 ((i : Int) - 1) = (i : Int) - 1 := fun h => w64 (by omega) (by omega)
    have e5 : (i : Int) > 0 → 0 ≤ (i : Int) - 1 := fun h => by omega
    have e6 : (i : Int) - 1 < (l.length : Int) := by omega
    have hK' := hK k (by omega)
    simp only [impl_LiveOk.l0]
    rw [if_pos e1, if_pos e2, if_pos e1, impl_in_f, Option.bind_some]
    simp only [lvL]
    by_cases hb : 1 ≤ rd l (i : Int) ∧ rd l (i : Int) ≤ wrap64 (n - 1)
    · rw [decide_eq_true hb, if_pos rfl]
      by_cases h0 : (i : Int) > 0
      · rw [if_pos h0, e4 h0, if_pos (e5 h0), if_pos e6]
        simp only [impl_LiveOk.j1]
        by_cases hc : rd l (i : Int) ≤ rd l ((i : Int) - 1)
        · rw [if_pos (show decide (rd l ((i : Int) - 1) ≥ rd l (i : Int)) = true from decide_eq_true hc), if_pos (show lvBad (wrap64 (n - 1)) l i = true by unfold lvBad; rw [decide_eq_true hb, decide_eq_true hc, decide_eq_true h0]; rfl)]
          rfl
        · rw [if_neg (show ¬ decide (rd l ((i : Int) - 1) ≥ rd l (i : Int)) = true from fun h => hc (of_decide_eq_true h)), if_neg (show ¬ lvBad (wrap64 (n - 1)) l i = true by unfold lvBad; rw [decide_eq_true hb, decide_eq_false hc, decide_eq_true h0]; decide), e3]
          exact hK'
      · rw [if_neg h0]
        simp only [impl_LiveOk.j1]
        rw [if_neg (by decide), if_neg (show ¬ lvBad (wrap64 (n - 1)) l i = true by unfold lvBad; rw [decide_eq_true hb, decide_eq_false h0, Bool.false_and]; decide), e3]
        exact hK'
    · rw [decide_eq_false hb, if_neg (by decide)]
      simp only [impl_LiveOk.j1]
      rw [if_pos trivial, if_pos (show lvBad (wrap64 (n - 1)) l i = true by unfold lvBad; rw [decide_eq_false hb]; rfl)]
      rfl
theorem impl_LiveOk_ev (n : Int) (l : List Int) (hl : l.length ≤ 4611686018427387904) : Ev (fun k => impl_LiveOk.f k n l) (lvOk n l) := by
  obtain ⟨K, hK⟩ := evx (impl_LiveOk_l0 n l hl l.length 0 rfl)
  refine evi (K) fun k hk => ?_
  have hK' := hK k hk
  unfold impl_LiveOk.f
  rw [show lvOk n l = (lvL (wrap64 (n - 1)) l l.length 0 && (decide (1 ≤ n ∧ n ≤ 100000) && decide (1 ≤ (l.length : Int) ∧ (l.length : Int) ≤ 60))) by unfold lvOk; rw [← Bool.and_assoc, Bool.and_comm]]
  exact hK'

/-! ### the size of a list of segments -/
theorem laws_szLive_f (n : Int) (l : List Int) (hl : l.length ≤ maxLen) : ∃ s, laws_szLive.f n l 1048576 = some s ∧ (s < 0 ∨ l.length ≤ 1048576) := by
  obtain ⟨s, hs, h1, h2⟩ := laws_szIntS_f l hl 1048576 (by omega) (by omega)
  unfold laws_szLive.f
  rw [hs, Option.bind_some]
  by_cases h : s < 0
  · rw [if_pos h]; exact ⟨_, rfl, Or.inl (by omega)⟩
  · rw [if_neg h]; exact ⟨_, rfl, Or.inr (by omega)⟩

/-! ### the law -/
theorem FnExactLiveOk : laws_FnExactLiveOk.Pure := by
  intro n l h1 h2
  obtain ⟨s, hs, h3⟩ := laws_szLive_f n l h2.1
  by_cases h : s < 0
  · refine ⟨0, ?_⟩
    unfold laws_FnExactLiveOk.f
    rw [hs, Option.bind_some, if_pos h]
  · have hl : l.length ≤ 1048576 := by omega
    obtain ⟨K1, k1⟩ := evx (laws_toIntS_ev l hl)
    obtain ⟨K2, k2⟩ := evx (spec_LiveOk_ev n l (by omega))
    obtain ⟨K3, k3⟩ := evx (impl_LiveOk_ev n l (by omega))
    obtain ⟨K4, k4⟩ := evx (laws_eqIntS_ev l (by omega))
    refine ⟨K1 + K2 + K3 + K4, ?_⟩
    have r1 := k1 (K1 + K2 + K3 + K4) (by omega)
    have r2 := k2 (K1 + K2 + K3 + K4) (by omega)
    have r3 := k3 (K1 + K2 + K3 + K4) (by omega)
    have r4 := k4 (K1 + K2 + K3 + K4) (by omega)
    unfold laws_FnExactLiveOk.f laws_toLive.f laws_eqLive.f
    rw [hs, Option.bind_some, if_neg h]
    simp only [r1, r2, r3, r4, Option.bind_some]
    simp

end Go.Proofs.Ytodmaebgogjpdaa.Pure
