/- The pure statement of the law FnExactSameStore: for all arguments within the printed bounds the printed function of the law answers true. Conditions: only the bounds that the printed statement itself names. -/
import Derived.Test.YtodmaebgogjpdabPFnExactSameStorex6
namespace Go.Proofs.Ytodmaebgogjpdab.Pure
open Go.RowKit Go.Proofs.Ytodmaebgogjpdab.PFnExactSameStore Go.Proofs.YtodmaebgogjpdabW.PrintWords Go.Proofs.YtodmaebgogjpdabW.PrintLast
set_option linter.unusedVariables false
set_option linter.unusedSimpArgs false

/-! ### Base: strings as lists of bytes, arithmetic of Go's ints -/
/-- The string of a list of bytes. -/
def mkS (l : List UInt8) : ByteArray := ⟨l.toArray⟩
theorem exS (s : ByteArray) : ∃ l, s = mkS l := ⟨s.data.toList, by cases s; simp [mkS]⟩
theorem mkS_size (l : List UInt8) : (mkS l).size = l.length := by simp [mkS, ByteArray.size]
theorem mkS_inj {a b : List UInt8} : mkS a = mkS b ↔ a = b := by
  constructor
  · intro h; have := congrArg (fun s : ByteArray => s.data.toList) h; simpa [mkS] using this
  · intro h; rw [h]
theorem toList_data (s : ByteArray) : s.toList = s.data.toList := by
  have key : ∀ (n i : Nat) (r : List UInt8), s.size - i = n → ByteArray.toList.loop s i r = r.reverse ++ s.data.toList.drop i := by
    intro n
    induction n with
    | zero =>
      intro i r h
      unfold ByteArray.toList.loop
      rw [if_neg (by omega), List.drop_of_length_le (by simp only [Array.length_toList]; have : s.size = s.data.size := rfl; omega), List.append_nil]
    | succ n ih =>
      intro i r h
      unfold ByteArray.toList.loop
      have hi : i < s.data.toList.length := by simp only [Array.length_toList]; have : s.size = s.data.size := rfl; omega
      rw [if_pos (by omega), ih (i + 1) _ (by omega), List.reverse_cons, List.append_assoc, List.drop_eq_getElem_cons hi]
      have : s.get! i = s.data.toList[i] := by
        show s.data[i]! = _
        rw [Array.getElem_toList]
        exact getElem!_pos s.data i (by simpa using hi)
      rw [this]
      rfl
  have := key _ 0 [] rfl
  simpa [ByteArray.toList] using this
theorem mkS_toList (l : List UInt8) : (mkS l).toList = l := by rw [toList_data]; simp [mkS]
theorem mkS_append (a b : List UInt8) : mkS a ++ mkS b = mkS (a ++ b) := by
  apply ByteArray.ext
  simp [mkS, ByteArray.data_append]
theorem mkS_extract (l : List UInt8) (i j : Nat) : (mkS l).extract i j = mkS ((l.drop i).take (j - i)) := by
  apply ByteArray.ext
  rw [ByteArray.data_extract]
  simp only [mkS]
  apply Array.ext'
  rw [Array.toList_extract]
  try simp [List.extract_eq_drop_take]
theorem mkS_nil : (⟨#[]⟩ : ByteArray) = mkS [] := rfl
theorem bt_mkS (l : List UInt8) (i : Nat) (h : i < l.length) : bt (mkS l) (i : Int) = ((l[i]).toNat : Int) := by
  unfold bt
  have h' : ((i : Int)).toNat < (mkS l).size := by rw [mkS_size]; simpa using h
  rw [dif_pos h']
  simp only [Int.toNat_natCast]
  rfl
/-- A slice of bytes as the print tells it. -/
def ints (l : List UInt8) : List Int := l.map fun b => (b.toNat : Int)
theorem ints_length (l : List UInt8) : (ints l).length = l.length := by simp [ints]
theorem ints_append (a b : List UInt8) : ints a ++ ints b = ints (a ++ b) := by simp [ints]
theorem ints_nil : ([] : List Int) = ints [] := rfl
theorem ub_byte (b : UInt8) : UInt8.ofNat ((b.toNat : Int)).toNat = b := by simp
theorem strOfNums_ints (l : List UInt8) : strOfNums (ints l) = mkS l := by
  unfold strOfNums ints mkS
  congr 2
  rw [List.map_map]
  conv => rhs; rw [← List.map_id l]
  apply List.map_congr_left
  intro b _
  simp
theorem ofNat_cast (n : Nat) : ((UInt8.ofNat n).toNat : Int) = (n : Int) % 256 := by simp
theorem ints_one (n : Nat) (x : Int) (h : x % 256 = ((n % 256 : Nat) : Int)) : [x % 256] = ints [UInt8.ofNat n] := by
  simp only [ints, List.map_cons, List.map_nil]
  rw [h, ofNat_cast]
  simp
theorem w64 {x : Int} (h0 : -9223372036854775808 ≤ x) (h1 : x ≤ 9223372036854775807) : wrap64 x = x := by unfold wrap64; omega
theorem w64b (s : ByteArray) (i : Int) : wrap64 (bt s i) = bt s i := by have := bt_range s i; exact w64 (by omega) (by omega)
theorem wfI {x : Int} (h : (Lit.int .i64 x).wf = true) : -9223372036854775808 ≤ x ∧ x ≤ 9223372036854775807 := by
  have e1 : IntKind.i64.min = -9223372036854775808 := by decide
  have e2 : IntKind.i64.max = 9223372036854775807 := by decide
  have h1 : IntKind.i64.min ≤ x ∧ x ≤ IntKind.i64.max := by simpa [Lit.wf] using h
  rw [e1, e2] at h1
  exact h1
theorem tdivp {x y : Int} (h : 0 ≤ x) : Int.tdiv x y = x / y := Int.tdiv_eq_ediv_of_nonneg h
theorem tmodp {x y : Int} (h : 0 ≤ x) : Int.tmod x y = x % y := Int.tmod_eq_emod_of_nonneg h
theorem shl_i64 {x y : Int} {n : Nat} (hy : y = (n : Int)) (hn : n ≤ 64) : shl .i64 x y = wrap64 (x * 2 ^ n) := by
  unfold shl
  have e : min y.toNat IntKind.i64.bits = n := by subst hy; simp [IntKind.bits]; omega
  rw [e, IntKind.wrap_i64, wrap64]
theorem shr_i64 {x y : Int} {n : Nat} (hy : y = (n : Int)) (hn : n ≤ 64) : shr .i64 x y = x / 2 ^ n := by
  unfold shr
  have e : min y.toNat IntKind.i64.bits = n := by subst hy; simp [IntKind.bits]; omega
  rw [e]
theorem getElem_drop_cons {α : Type} {l : List α} {i : Nat} (h : i < l.length) : l.drop i = l[i] :: l.drop (i + 1) := List.drop_eq_getElem_cons h
theorem ev_some {α : Type} {g : Nat → Option α} {r q : α} (h : Ev g r) (hk : r = q) : Ev g q := hk ▸ h
theorem evx {α : Type} {g : Nat → Option α} {r : α} (h : Ev g r) : ∃ K, ∀ k, K ≤ k → g k = some r := h
theorem evi {α : Type} {g : Nat → Option α} {r : α} (K : Nat) (h : ∀ k, K ≤ k → g k = some r) : Ev g r := ⟨K, h⟩

/-! ### filling a row -/
theorem fill_step {α : Type} (m : List α) (z : α) (i n : Nat) (x : α) (hn : m.length = n) (h : i < n) (hx : m[i]? = some x) : (m.take i ++ List.replicate (n - i) z).set i x = m.take (i + 1) ++ List.replicate (n - (i + 1)) z := by
  subst hn
  have hl : (m.take i).length = i := by rw [List.length_take]; omega
  have e : m.length - i = (m.length - (i + 1)) + 1 := by omega
  have ex : m[i] = x := by rw [List.getElem?_eq_getElem h] at hx; exact Option.some.inj hx
  rw [e, List.replicate_succ, List.set_append_right _ _ (by omega), hl, Nat.sub_self, List.set_cons_zero, List.take_succ_eq_append_getElem h, List.append_assoc, ex]
  rfl

/-! ### sz, to, eq of whole numbers -/
theorem laws_szIntS_f (l : List Int) (hl : l.length ≤ maxLen) (a : Int) (h0 : 0 ≤ a) (h1 : a ≤ 1048576) : ∃ s, laws_szIntS.f l a = some s ∧ s ≤ a ∧ (s < 0 ∨ 0 ≤ s ∧ l.length ≤ 1048576) := by
  have hmax : maxLen = 9223372036854775807 := rfl
  unfold laws_szIntS.f wrap64
  repeat' split
  all_goals exact ⟨_, rfl, by omega, by omega⟩
theorem laws_toIntS_l0 (l : List Int) (hl : l.length ≤ 4611686018427387904) (d : Nat) : ∀ (i : Nat), d + i = l.length → Ev (fun k => laws_toIntS.l0 k l (l.take i ++ List.replicate (l.length - i) 0) (i : Int)) l := by
  induction d with
  | zero =>
    intro i hi
    refine evi (1) fun k hk => ?_
    obtain ⟨k, rfl⟩ : ∃ m, k = m + 1 := ⟨k - 1, by omega⟩
    simp only [laws_toIntS.l0]
    rw [if_neg (by omega), List.take_of_length_le (by omega), show l.length - i = 0 from by omega, List.replicate_zero, List.append_nil]
  | succ d ih =>
    intro i hi
    have hlt : i < l.length := by omega
    have hrd : rd l (i : Int) = l[i] := by simp [rd, hlt]
    obtain ⟨K, hK⟩ := evx (ih (i + 1) (by omega))
    refine evi (K + 1) fun k hk => ?_
    obtain ⟨k, rfl⟩ : ∃ m, k = m + 1 := ⟨k - 1, by omega⟩
    simp only [laws_toIntS.l0]
    rw [if_pos (by omega), if_pos (by omega), if_pos (by rw [List.length_append, List.length_take, List.length_replicate]; omega), hrd, Int.toNat_natCast, w64 (by omega) (by omega), fill_step l 0 i l.length l[i] rfl hlt (List.getElem?_eq_getElem hlt)]
    exact hK k (by omega)
theorem laws_toIntS_ev (l : List Int) (hl : l.length ≤ 1048576) : Ev (fun k => laws_toIntS.f k l) l := by
  obtain ⟨K, hK⟩ := evx (laws_toIntS_l0 l (by omega) l.length 0 rfl)
  refine evi (K) fun k hk => ?_
  unfold laws_toIntS.f
  rw [if_pos (by omega), if_pos (by omega), Int.toNat_natCast]
  have := hK k hk
  rw [List.take_zero, List.nil_append, Nat.sub_zero] at this
  exact this
theorem laws_eqIntS_l0 (l : List Int) (hl : l.length ≤ 4611686018427387904) (d : Nat) : ∀ (i : Nat), d + i = l.length → Ev (fun k => laws_eqIntS.l0 k l l (i : Int)) true := by
  induction d with
  | zero =>
    intro i hi
    refine evi (1) fun k hk => ?_
    obtain ⟨k, rfl⟩ : ∃ m, k = m + 1 := ⟨k - 1, by omega⟩
    simp only [laws_eqIntS.l0]
    rw [if_neg (by omega)]
  | succ d ih =>
    intro i hi
    obtain ⟨K, hK⟩ := evx (ih (i + 1) (by omega))
    refine evi (K + 1) fun k hk => ?_
    obtain ⟨k, rfl⟩ : ∃ m, k = m + 1 := ⟨k - 1, by omega⟩
    simp only [laws_eqIntS.l0]
    rw [if_pos (by omega), if_pos (by omega), if_pos (by omega), if_pos trivial, w64 (by omega) (by omega)]
    exact hK k (by omega)
theorem laws_eqIntS_ev (l : List Int) (hl : l.length ≤ 4611686018427387904) : Ev (fun k => laws_eqIntS.f k l l) true := by
  obtain ⟨K, hK⟩ := evx (laws_eqIntS_l0 l hl l.length 0 rfl)
  refine evi (K) fun k hk => ?_
  unfold laws_eqIntS.f
  rw [if_pos rfl]
  exact hK k hk

/-! ### sz of Entry -/
def bigEntry (e : S59) : Prop := e.f0.size ≤ maxLen
def smallEntry (e : S59) : Prop := e.f0.size ≤ 1048576
theorem laws_szEntry_f (e : S59) (h : bigEntry e) (a : Int) (h0 : 0 ≤ a) (h1 : a ≤ 1048576) : ∃ s, laws_szEntry.f e.f0 e.f1 e.f2 e.f3 e.f4 a = some s ∧ s ≤ a ∧ (s < 0 ∨ 0 ≤ s ∧ smallEntry e) := by
  have hmax : maxLen = 9223372036854775807 := rfl
  unfold bigEntry at h
  unfold laws_szEntry.f smallEntry wrap64
  repeat' split
  all_goals refine ⟨_, rfl, by omega, by omega⟩
theorem laws_szEntryS_l0 (l : List S59) (hl : l.length ≤ 4611686018427387904) (hb : ∀ e ∈ l, bigEntry e) (d : Nat) : ∀ (i : Nat) (a : Int), d + i = l.length → 0 ≤ a → a ≤ 1048576 →
    ∃ s, Ev (fun k => laws_szEntryS.l0 k l a (i : Int)) s ∧ s ≤ a ∧ (s < 0 ∨ 0 ≤ s ∧ ∀ e ∈ l.drop i, smallEntry e) := by
  induction d with
  | zero =>
    intro i a hi h0 h1
    refine ⟨a, evi (1) (fun k hk => ?_), by omega, .inr ⟨h0, fun e he => by rw [List.drop_of_length_le (by omega)] at he; cases he⟩⟩
    obtain ⟨k, rfl⟩ : ∃ m, k = m + 1 := ⟨k - 1, by omega⟩
    simp only [laws_szEntryS.l0]
    rw [if_neg (by omega)]
  | succ d ih =>
    intro i a hi h0 h1
    have hlt : i < l.length := by omega
    have hrd : rd_T59 l (i : Int) = l[i] := by simp [rd_T59, hlt]
    obtain ⟨s, hs, hsa, hs0⟩ := laws_szEntry_f l[i] (hb _ (List.getElem_mem hlt)) a h0 h1
    by_cases hn : s < 0
    · refine ⟨-1, evi (1) (fun k hk => ?_), by omega, .inl (by omega)⟩
      obtain ⟨k, rfl⟩ : ∃ m, k = m + 1 := ⟨k - 1, by omega⟩
      simp only [laws_szEntryS.l0]
      rw [if_pos (by omega), if_pos (by omega), hrd, hs]
      simp only [Option.bind_some]
      rw [if_pos hn]
    · obtain ⟨r, hr, hra, hr0⟩ := ih (i + 1) s (by omega) (by omega) (by omega)
      obtain ⟨K, hK⟩ := evx hr
      refine ⟨r, evi (K + 1) (fun k hk => ?_), by omega, ?_⟩
      · obtain ⟨k, rfl⟩ : ∃ m, k = m + 1 := ⟨k - 1, by omega⟩
        simp only [laws_szEntryS.l0]
        rw [if_pos (by omega), if_pos (by omega), hrd, hs]
        simp only [Option.bind_some]
        rw [if_neg hn, w64 (by omega) (by omega)]
        exact hK k (by omega)
      · rcases hr0 with hr0 | ⟨hr0, hr1⟩
        · exact .inl hr0
        · refine .inr ⟨hr0, fun e he => ?_⟩
          rw [List.drop_eq_getElem_cons hlt] at he
          rcases List.mem_cons.1 he with rfl | he
          · rcases hs0 with hs0 | ⟨_, hs0⟩
            · exact absurd hs0 hn
            · exact hs0
          · exact hr1 e he
theorem laws_szEntryS_ev (l : List S59) (hl : l.length ≤ maxLen) (hb : ∀ e ∈ l, bigEntry e) (a : Int) (h0 : 0 ≤ a) (h1 : a ≤ 1048576) :
    ∃ s, Ev (fun k => laws_szEntryS.f k l a) s ∧ s ≤ a ∧ (s < 0 ∨ 0 ≤ s ∧ l.length ≤ 1048576 ∧ ∀ e ∈ l, smallEntry e) := by
  have hmax : maxLen = 9223372036854775807 := rfl
  by_cases hn : wrap64 (a - (l.length : Int)) < 0
  · refine ⟨-1, evi (0) (fun k hk => ?_), by omega, .inl (by omega)⟩
    unfold laws_szEntryS.f
    rw [if_pos hn]
  · have hle : (l.length : Int) ≤ a := by unfold wrap64 at hn; omega
    rw [w64 (by omega) (by omega)] at hn
    obtain ⟨s, hs, hsa, hs0⟩ := laws_szEntryS_l0 l (by omega) hb l.length 0 (a - (l.length : Int)) rfl (by omega) (by omega)
    obtain ⟨K, hK⟩ := evx hs
    refine ⟨s, evi (K) (fun k hk => ?_), by omega, ?_⟩
    · unfold laws_szEntryS.f
      rw [w64 (x := a - (l.length : Int)) (by omega) (by omega), if_neg hn]
      exact hK k hk
    · rcases hs0 with hs0 | ⟨hs0, hs1⟩
      · exact .inl hs0
      · exact .inr ⟨hs0, by omega, by simpa using hs1⟩

/-! ### to of Entry -/
def convEntry (e : S59) : S26 := ⟨e.f0, e.f1, e.f2, e.f3, e.f4⟩
theorem laws_toEntryS_l0 (l : List S59) (hl : l.length ≤ 4611686018427387904) (d : Nat) : ∀ (i : Nat), d + i = l.length → Ev (fun k => laws_toEntryS.l0 k l ((l.map convEntry).take i ++ List.replicate (l.length - i) z26) (i : Int)) (l.map convEntry) := by
  induction d with
  | zero =>
    intro i hi
    refine evi (1) fun k hk => ?_
    obtain ⟨k, rfl⟩ : ∃ m, k = m + 1 := ⟨k - 1, by omega⟩
    simp only [laws_toEntryS.l0]
    rw [if_neg (by omega), List.take_of_length_le (by rw [List.length_map]; omega), show l.length - i = 0 from by omega, List.replicate_zero, List.append_nil]
  | succ d ih =>
    intro i hi
    have hlt : i < l.length := by omega
    have hrd : rd_T59 l (i : Int) = l[i] := by simp [rd_T59, hlt]
    obtain ⟨K, hK⟩ := evx (ih (i + 1) (by omega))
    refine evi (K + 1) fun k hk => ?_
    obtain ⟨k, rfl⟩ : ∃ m, k = m + 1 := ⟨k - 1, by omega⟩
    simp only [laws_toEntryS.l0, laws_toEntry.f, Option.bind_some]
    rw [if_pos (by omega), if_pos (by omega), if_pos (by rw [List.length_append, List.length_take, List.length_replicate, List.length_map]; omega), hrd, Int.toNat_natCast, w64 (by omega) (by omega)]
    have e : (⟨l[i].f0, l[i].f1, l[i].f2, l[i].f3, l[i].f4⟩ : S26) = convEntry l[i] := rfl
    rw [e, fill_step (l.map convEntry) z26 i l.length (convEntry l[i]) (List.length_map ..) hlt (by rw [List.getElem?_map, List.getElem?_eq_getElem hlt]; rfl)]
    exact hK k (by omega)
theorem laws_toEntryS_ev (l : List S59) (hl : l.length ≤ 1048576) : Ev (fun k => laws_toEntryS.f k l) (l.map convEntry) := by
  obtain ⟨K, hK⟩ := evx (laws_toEntryS_l0 l (by omega) l.length 0 rfl)
  refine evi (K) fun k hk => ?_
  unfold laws_toEntryS.f
  rw [if_pos (by omega), if_pos (by omega), Int.toNat_natCast]
  have := hK k hk
  rw [List.take_zero, List.nil_append, Nat.sub_zero] at this
  exact this

/-! ### eq of Entry -/
theorem laws_eqEntry_self (e : S26) : laws_eqEntry.f e.f0 e.f1 e.f2 e.f3 e.f4 e.f0 e.f1 e.f2 e.f3 e.f4 = some true := by
  unfold laws_eqEntry.f
  simp
theorem laws_eqEntryS_l0 (l : List S26) (hl : l.length ≤ 4611686018427387904) (d : Nat) : ∀ (i : Nat), d + i = l.length → Ev (fun k => laws_eqEntryS.l0 k l l (i : Int)) true := by
  induction d with
  | zero =>
    intro i hi
    refine evi (1) fun k hk => ?_
    obtain ⟨k, rfl⟩ : ∃ m, k = m + 1 := ⟨k - 1, by omega⟩
    simp only [laws_eqEntryS.l0]
    rw [if_neg (by omega)]
  | succ d ih =>
    intro i hi
    obtain ⟨K, hK⟩ := evx (ih (i + 1) (by omega))
    refine evi (K + 1) fun k hk => ?_
    obtain ⟨k, rfl⟩ : ∃ m, k = m + 1 := ⟨k - 1, by omega⟩
    simp only [laws_eqEntryS.l0]
    rw [if_pos (by omega), if_pos (by omega), if_pos (by omega), laws_eqEntry_self]
    simp only [Option.bind_some]
    rw [if_pos trivial, w64 (by omega) (by omega)]
    exact hK k (by omega)
theorem laws_eqEntryS_ev (l : List S26) (hl : l.length ≤ 4611686018427387904) : Ev (fun k => laws_eqEntryS.f k l l) true := by
  obtain ⟨K, hK⟩ := evx (laws_eqEntryS_l0 l hl l.length 0 rfl)
  refine evi (K) fun k hk => ?_
  unfold laws_eqEntryS.f
  rw [if_pos rfl]
  exact hK k hk

/-! ### impl's and spec's SameDir -/
def entEq (a b : S26) : Bool := (a.f0.toList == b.f0.toList) && ((a.f1 == b.f1) && ((a.f2 == b.f2) && ((a.f3 == b.f3) && (a.f4 == b.f4))))
def entsEq (a b : List S26) (i d : Nat) : Bool := (List.range d).all fun j => entEq (a.getD (i + j) z26) (b.getD (i + j) z26)
theorem entsEq_succ (a b : List S26) (i d : Nat) : entsEq a b i (d + 1) = (entEq (a.getD i z26) (b.getD i z26) && entsEq a b (i + 1) d) := by
  unfold entsEq
  rw [List.range_succ_eq_map, List.all_cons, List.all_map]
  congr 1
  congr 1
  funext j
  simp only [Function.comp]
  rw [show i + 1 + j = i + j.succ from by omega]
theorem entNe (a b : S26) : (!(a.f0.toList == b.f0.toList) || (!(a.f1 == b.f1) || (!(a.f2 == b.f2) || (!(a.f3 == b.f3) || (!(a.f4 == b.f4)))))) = !entEq a b := by
  unfold entEq
  simp [Bool.not_and]
def sameDirB (a b : List S26) : Bool := decide (a.length = b.length) && entsEq a b 0 a.length
theorem spec_SameDir_l0 (a b : List S26) (hab : a.length = b.length) (hl : a.length ≤ 4611686018427387904) (d : Nat) : ∀ (i : Nat), d + i = a.length → Ev (fun k => spec_SameDir.l0 k a b (i : Int)) (entsEq a b i d) := by
  induction d with
  | zero =>
    intro i hi
    refine evi (1) fun k hk => ?_
    obtain ⟨k, rfl⟩ : ∃ m, k = m + 1 := ⟨k - 1, by omega⟩
    simp only [spec_SameDir.l0]
    rw [if_neg (by omega)]
    rfl
  | succ d ih =>
    intro i hi
    obtain ⟨K, hK⟩ := evx (ih (i + 1) (by omega))
    refine evi (K + 1) fun k hk => ?_
    obtain ⟨k, rfl⟩ : ∃ m, k = m + 1 := ⟨k - 1, by omega⟩
    simp only [spec_SameDir.l0]
    have h1 : rd_T26 a (i : Int) = a.getD i z26 := by simp [rd_T26]
    have h2 : rd_T26 b (i : Int) = b.getD i z26 := by simp [rd_T26]
    rw [if_pos (by omega), if_pos (by omega), if_pos (by omega), h1, h2, entNe, entsEq_succ]
    cases entEq (a.getD i z26) (b.getD i z26) with
    | false => rfl
    | true =>
      rw [if_neg (by decide), w64 (by omega) (by omega)]
      exact hK k (by omega)
theorem spec_SameDir_ev (a b : List S26) (hl : a.length ≤ 4611686018427387904) : Ev (fun k => spec_SameDir.f k a b) (sameDirB a b) := by
  unfold sameDirB
  by_cases h : a.length = b.length
  · obtain ⟨K, hK⟩ := evx (spec_SameDir_l0 a b h hl a.length 0 rfl)
    refine evi (K) fun k hk => ?_
    unfold spec_SameDir.f
    rw [if_pos (by omega), decide_eq_true h, Bool.true_and]
    exact hK k hk
  · refine evi (0) fun k hk => ?_
    unfold spec_SameDir.f
    rw [if_neg (by omega), decide_eq_false h, Bool.false_and]
theorem impl_SameDir_l0 (a b : List S26) (hab : a.length = b.length) (hl : a.length ≤ 4611686018427387904) (d : Nat) : ∀ (i : Nat), d + i = a.length → Ev (fun k => impl_SameDir.l0 k a b (a.length : Int) (i : Int)) (entsEq a b i d) := by
  induction d with
  | zero =>
    intro i hi
    refine evi (1) fun k hk => ?_
    obtain ⟨k, rfl⟩ : ∃ m, k = m + 1 := ⟨k - 1, by omega⟩
    simp only [impl_SameDir.l0]
    rw [if_neg (by omega)]
    rfl
  | succ d ih =>
    intro i hi
    obtain ⟨K, hK⟩ := evx (ih (i + 1) (by omega))
    refine evi (K + 1) fun k hk => ?_
    obtain ⟨k, rfl⟩ : ∃ m, k = m + 1 := ⟨k - 1, by omega⟩
    simp only [impl_SameDir.l0]
    have h1 : rd_T26 a (i : Int) = a.getD i z26 := by simp [rd_T26]
    have h2 : rd_T26 b (i : Int) = b.getD i z26 := by simp [rd_T26]
    rw [if_pos (by omega), if_pos (by omega), if_pos (by omega), if_pos (by omega), h1, h2, entNe, entsEq_succ]
    cases entEq (a.getD i z26) (b.getD i z26) with
    | false => rfl
    | true =>
      rw [if_neg (by decide), w64 (by omega) (by omega)]
      exact hK k (by omega)
theorem impl_SameDir_ev (a b : List S26) (hl : a.length ≤ 4611686018427387904) : Ev (fun k => impl_SameDir.f k a b) (sameDirB a b) := by
  unfold sameDirB
  by_cases h : a.length = b.length
  · obtain ⟨K, hK⟩ := evx (impl_SameDir_l0 a b h hl a.length 0 rfl)
    refine evi (K) fun k hk => ?_
    unfold impl_SameDir.f
    rw [if_pos (by omega), decide_eq_true h, Bool.true_and]
    exact hK k hk
  · refine evi (0) fun k hk => ?_
    unfold impl_SameDir.f
    rw [if_neg (by omega), decide_eq_false h, Bool.false_and]

/-! ### SameStore -/
def intsEq (a b : List Int) : Nat → Nat → Bool
  | 0, _ => true
  | d + 1, i => (a.getD i 0 == b.getD i 0) && intsEq a b d (i + 1)
def sameIntsB (a b : List Int) : Bool := decide (a.length = b.length) && intsEq a b a.length 0
theorem rd_getD (l : List Int) (i : Nat) : rd l (i : Int) = l.getD i 0 := by simp [rd]
theorem impl_sameInts_l0 (a b : List Int) (hab : a.length = b.length) (hl : a.length ≤ 4611686018427387904) (d : Nat) : ∀ (i : Nat), d + i = a.length → Ev (fun k => impl_sameInts.l0 k a b (a.length : Int) (i : Int)) (intsEq a b d i) := by
  induction d with
  | zero =>
    intro i hi
    refine evi (1) fun k hk => ?_
    obtain ⟨k, rfl⟩ : ∃ m, k = m + 1 := ⟨k - 1, by omega⟩
    simp only [impl_sameInts.l0]
    rw [if_neg (by omega)]
    rfl
  | succ d ih =>
    intro i hi
    obtain ⟨K, hK⟩ := evx (ih (i + 1) (by omega))
    refine evi (K + 1) fun k hk => ?_
    obtain ⟨k, rfl⟩ : ∃ m, k = m + 1 := ⟨k - 1, by omega⟩
    have hgo := hK k (by omega)
    simp only [impl_sameInts.l0]
    rw [if_pos (by omega), if_pos (by omega), if_pos (by omega), if_pos (by omega), rd_getD, rd_getD, intsEq, w64 (by omega) (by omega), show ((i : Int) + 1) = ((i + 1 : Nat) : Int) from by omega, hgo]
    by_cases h : a.getD i 0 = b.getD i 0
    · rw [if_pos h, beq_iff_eq.2 h, Bool.true_and]
    · rw [if_neg h, beq_eq_false_iff_ne.2 h, Bool.false_and]
theorem impl_sameInts_ev (a b : List Int) (hl : a.length ≤ 4611686018427387904) : Ev (fun k => impl_sameInts.f k a b) (sameIntsB a b) := by
  unfold sameIntsB
  by_cases h : a.length = b.length
  · obtain ⟨K, hK⟩ := evx (impl_sameInts_l0 a b h hl a.length 0 rfl)
    refine evi (K) fun k hk => ?_
    unfold impl_sameInts.f
    rw [if_pos (by omega), decide_eq_true h, Bool.true_and]
    exact hK k hk
  · refine evi (0) fun k hk => ?_
    unfold impl_sameInts.f
    rw [if_neg (by omega), decide_eq_false h, Bool.false_and]
structure StoreM where
  next : Int
  ids : List Int
  dir : List S26
  batch : Int
  size : Int
  hinted : Int
def sameStoreB (s t : StoreM) : Bool := decide (s.next = t.next) && (sameIntsB s.ids t.ids && (sameDirB s.dir t.dir && (decide (s.batch = t.batch) && (decide (s.size = t.size) && (s.hinted == t.hinted)))))
theorem impl_SameStore_ev (s t : StoreM) (h1 : s.ids.length ≤ 1048576) (h2 : s.dir.length ≤ 1048576) : Ev (fun k => impl_SameStore.f k s.next s.ids s.dir s.batch s.size s.hinted t.next t.ids t.dir t.batch t.size t.hinted) (sameStoreB s t) := by
  obtain ⟨K1, e1⟩ := evx (impl_sameInts_ev s.ids t.ids (by omega))
  obtain ⟨K2, e2⟩ := evx (impl_SameDir_ev s.dir t.dir (by omega))
  refine evi (K1 + K2) fun k hk => ?_
  unfold impl_SameStore.f sameStoreB
  rw [e1 k (by omega), e2 k (by omega)]
  simp only [Option.bind_some]
  cases sameIntsB s.ids t.ids <;> cases sameDirB s.dir t.dir <;> by_cases h3 : s.next = t.next <;> by_cases h4 : s.batch = t.batch <;> by_cases h5 : s.size = t.size <;> simp [h3, h4, h5]
theorem spec_SameStore_l0 (s t : StoreM) (hab : s.ids.length = t.ids.length) (h1 : s.ids.length ≤ 1048576) (h2 : s.dir.length ≤ 1048576) (d : Nat) : ∀ (i : Nat), d + i = s.ids.length → Ev (fun k => spec_SameStore.l0 k (i : Int) s.next s.ids s.dir s.batch s.size s.hinted t.next t.ids t.dir t.batch t.size t.hinted) (intsEq s.ids t.ids d i && sameDirB s.dir t.dir) := by
  induction d with
  | zero =>
    intro i hi
    obtain ⟨K2, e2⟩ := evx (spec_SameDir_ev s.dir t.dir (by omega))
    refine evi (K2 + 1) fun k hk => ?_
    obtain ⟨k, rfl⟩ : ∃ m, k = m + 1 := ⟨k - 1, by omega⟩
    simp only [spec_SameStore.l0]
    rw [if_neg (by omega), e2 k (by omega), intsEq, Bool.true_and]
    rfl
  | succ d ih =>
    intro i hi
    obtain ⟨K, hK⟩ := evx (ih (i + 1) (by omega))
    refine evi (K + 1) fun k hk => ?_
    obtain ⟨k, rfl⟩ : ∃ m, k = m + 1 := ⟨k - 1, by omega⟩
    have hgo := hK k (by omega)
    simp only [spec_SameStore.l0]
    rw [if_pos (by omega), if_pos (by omega), if_pos (by omega), rd_getD, rd_getD, intsEq, w64 (by omega) (by omega), show ((i : Int) + 1) = ((i + 1 : Nat) : Int) from by omega, hgo]
    by_cases h : s.ids.getD i 0 = t.ids.getD i 0
    · rw [if_pos h, beq_iff_eq.2 h, Bool.true_and]
    · rw [if_neg h, beq_eq_false_iff_ne.2 h, Bool.false_and, Bool.false_and]
theorem spec_SameStore_ev (s t : StoreM) (h1 : s.ids.length ≤ 1048576) (h2 : s.dir.length ≤ 1048576) : Ev (fun k => spec_SameStore.f k s.next s.ids s.dir s.batch s.size s.hinted t.next t.ids t.dir t.batch t.size t.hinted) (sameStoreB s t) := by
  unfold sameStoreB sameIntsB
  by_cases h : s.ids.length = t.ids.length
  · obtain ⟨K, hK⟩ := evx (spec_SameStore_l0 s t h h1 h2 s.ids.length 0 rfl)
    refine evi (K + 1) fun k hk => ?_
    obtain ⟨k, rfl⟩ : ∃ m, k = m + 1 := ⟨k - 1, by omega⟩
    have hgo := hK k (by omega)
    have hgo' : spec_SameStore.l0 k 0 s.next s.ids s.dir s.batch s.size s.hinted t.next t.ids t.dir t.batch t.size t.hinted = some (intsEq s.ids t.ids s.ids.length 0 && sameDirB s.dir t.dir) := hgo
    have hi : (s.ids.length : Int) = (t.ids.length : Int) := by omega
    unfold spec_SameStore.f
    simp only [spec_SameStore.j0, hgo', if_pos hi, decide_eq_true h]
    generalize intsEq s.ids t.ids s.ids.length 0 = x
    cases x <;> cases sameDirB s.dir t.dir <;> by_cases h3 : s.next = t.next <;> by_cases h4 : s.batch = t.batch <;> by_cases h5 : s.size = t.size <;> by_cases h6 : s.hinted = t.hinted <;> simp [h3, h4, h5, h6]
  · refine evi (1) fun k hk => ?_
    obtain ⟨k, rfl⟩ : ∃ m, k = m + 1 := ⟨k - 1, by omega⟩
    have hi : ¬ ((s.ids.length : Int) = (t.ids.length : Int)) := by omega
    unfold spec_SameStore.f
    simp only [spec_SameStore.j0, if_neg hi, decide_eq_false h]
    simp
theorem laws_szStore_ev (next batch size hinted : Int) (ids : List Int) (l : List S59) (hi : ids.length ≤ maxLen) (hl : l.length ≤ maxLen) (hb : ∀ e ∈ l, bigEntry e) (a : Int) (h0 : 0 ≤ a) (h1 : a ≤ 1048576) :
    ∃ s, Ev (fun k => laws_szStore.f k next ids l batch size hinted a) s ∧ s ≤ a ∧ (s < 0 ∨ 0 ≤ s ∧ ids.length ≤ 1048576 ∧ l.length ≤ 1048576) := by
  obtain ⟨s, hs, hs1, hs2⟩ := laws_szIntS_f ids hi a h0 h1
  by_cases hn : s < 0
  · refine ⟨-1, evi (0) (fun k hk => ?_), by omega, .inl (by omega)⟩
    unfold laws_szStore.f laws_szLive.f
    rw [hs]
    simp only [Option.bind_some]
    rw [if_pos hn]
    rfl
  · obtain ⟨t, ht, ht1, ht2⟩ := laws_szEntryS_ev l hl hb s (by omega) (by omega)
    obtain ⟨K, hK⟩ := evx ht
    by_cases hn2 : t < 0
    · refine ⟨-1, evi (K) (fun k hk => ?_), by omega, .inl (by omega)⟩
      unfold laws_szStore.f laws_szLive.f
      rw [hs]
      simp only [Option.bind_some]
      rw [if_neg hn]
      simp only [Option.bind_some]
      rw [if_neg hn, hK k hk]
      simp only [Option.bind_some]
      rw [if_pos hn2]
    · refine ⟨t, evi (K) (fun k hk => ?_), by omega, .inr ⟨by omega, by omega, by omega⟩⟩
      unfold laws_szStore.f laws_szLive.f
      rw [hs]
      simp only [Option.bind_some]
      rw [if_neg hn]
      simp only [Option.bind_some]
      rw [if_neg hn, hK k hk]
      simp only [Option.bind_some]
      rw [if_neg hn2]
theorem laws_toStore_ev (next batch size hinted : Int) (ids : List Int) (l : List S59) (hi : ids.length ≤ 1048576) (hl : l.length ≤ 1048576) : Ev (fun k => laws_toStore.f k next ids l batch size hinted) (next, ids, l.map convEntry, batch, size, hinted) := by
  obtain ⟨K1, h1⟩ := evx (laws_toIntS_ev ids hi)
  obtain ⟨K2, h2⟩ := evx (laws_toEntryS_ev l hl)
  refine evi (K1 + K2) fun k hk => ?_
  unfold laws_toStore.f laws_toLive.f
  rw [h1 k (by omega), h2 k (by omega)]
  rfl
theorem laws_eqStore_ev (next batch size hinted : Int) (ids : List Int) (l : List S26) (hi : ids.length ≤ 1048576) (hl : l.length ≤ 1048576) : Ev (fun k => laws_eqStore.f k next ids l batch size hinted next ids l batch size hinted) true := by
  obtain ⟨K1, h1⟩ := evx (laws_eqIntS_ev ids (by omega))
  obtain ⟨K2, h2⟩ := evx (laws_eqEntryS_ev l (by omega))
  refine evi (K1 + K2) fun k hk => ?_
  unfold laws_eqStore.f laws_eqLive.f
  rw [h1 k (by omega), h2 k (by omega)]
  simp

/-! ### the law -/
theorem FnExactSameStore : laws_FnExactSameStore.Pure := by
  intro n1 i1 a b1 z1 g1 n2 i2 b b2 z2 g2 q1 hi1 ha q2 q3 q4 q5 hi2 hb q6 q7 q8
  have big : ∀ l : List S59, (∀ z ∈ l, (z.f0.size ≤ maxLen) ∧ ((Lit.int .i64 z.f1).wf = true) ∧ ((Lit.int .i64 z.f2).wf = true) ∧ ((Lit.int .i64 z.f3).wf = true) ∧ ((Lit.int .i64 z.f4).wf = true)) → ∀ e ∈ l, bigEntry e := fun l h e he => (h e he).1
  obtain ⟨s, hs, hs1, hs2⟩ := laws_szStore_ev n1 b1 z1 g1 i1 a hi1.1 ha.1 (big a ha.2) 1048576 (by omega) (by omega)
  obtain ⟨K1, h1⟩ := evx hs
  by_cases hn : s < 0
  · exact ⟨K1, by unfold laws_FnExactSameStore.f; rw [h1 _ (by omega)]; simp only [Option.bind_some]; rw [if_pos hn]⟩
  · obtain ⟨t, ht, ht1, ht2⟩ := laws_szStore_ev n2 b2 z2 g2 i2 b hi2.1 hb.1 (big b hb.2) s (by omega) hs1
    obtain ⟨K2, h2⟩ := evx ht
    by_cases hn2 : t < 0
    · exact ⟨K1 + K2, by unfold laws_FnExactSameStore.f; rw [h1 _ (by omega)]; simp only [Option.bind_some]; rw [if_neg hn, h2 _ (by omega)]; simp only [Option.bind_some]; rw [if_pos hn2]⟩
    · have la : a.length ≤ 1048576 := by omega
      have lb : b.length ≤ 1048576 := by omega
      have li : i1.length ≤ 1048576 := by omega
      have lj : i2.length ≤ 1048576 := by omega
      obtain ⟨K3, h3⟩ := evx (laws_toStore_ev n1 b1 z1 g1 i1 a li la)
      obtain ⟨K4, h4⟩ := evx (laws_toStore_ev n2 b2 z2 g2 i2 b lj lb)
      have lA : (a.map convEntry).length = a.length := List.length_map ..
      have lB : (b.map convEntry).length = b.length := List.length_map ..
      generalize a.map convEntry = A at *
      generalize b.map convEntry = B at *
      obtain ⟨K5, h5⟩ := evx (spec_SameStore_ev ⟨n1, i1, A, b1, z1, g1⟩ ⟨n2, i2, B, b2, z2, g2⟩ li (by show A.length ≤ _; omega))
      obtain ⟨K6, h6⟩ := evx (impl_SameStore_ev ⟨n1, i1, A, b1, z1, g1⟩ ⟨n2, i2, B, b2, z2, g2⟩ li (by show A.length ≤ _; omega))
      obtain ⟨K7, h7⟩ := evx (laws_eqStore_ev n1 b1 z1 g1 i1 A li (by omega))
      obtain ⟨K8, h8⟩ := evx (laws_eqStore_ev n2 b2 z2 g2 i2 B lj (by omega))
      refine ⟨K1 + K2 + K3 + K4 + K5 + K6 + K7 + K8, ?_⟩
      unfold laws_FnExactSameStore.f
      try rw [h1 _ (by omega)]
      try simp only [Option.bind_some]
      try rw [if_neg hn]
      try rw [h2 _ (by omega)]
      try simp only [Option.bind_some]
      try rw [if_neg hn2]
      try rw [h3 _ (by omega)]
      try simp only [Option.bind_some]
      try rw [h4 _ (by omega)]
      try simp only [Option.bind_some]
      try rw [h5 _ (by omega)]
      try simp only [Option.bind_some]
      try rw [h3 _ (by omega)]
      try simp only [Option.bind_some]
      try rw [h4 _ (by omega)]
      try simp only [Option.bind_some]
      try rw [h6 _ (by omega)]
      try simp only [Option.bind_some]
      rw [if_neg (by simp)]
      try rw [h3 _ (by omega)]
      try simp only [Option.bind_some]
      try rw [h7 _ (by omega)]
      try simp only [Option.bind_some]
      try rw [if_pos trivial]
      try rw [h4 _ (by omega)]
      try simp only [Option.bind_some]
      try rw [h8 _ (by omega)]
      try simp only [Option.bind_some]
      try rw [if_pos trivial]

end Go.Proofs.Ytodmaebgogjpdab.Pure
