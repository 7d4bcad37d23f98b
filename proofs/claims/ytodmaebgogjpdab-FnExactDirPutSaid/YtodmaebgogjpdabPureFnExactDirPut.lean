/- The pure statement of the law FnExactDirPut: for all arguments within the printed bounds the printed function of the law answers true. Conditions: only the bounds that the printed statement itself names. -/
import Derived.Test.YtodmaebgogjpdabPFnExactDirPutx6
namespace Go.Proofs.Ytodmaebgogjpdab.Pure
open Go.RowKit Go.Proofs.Ytodmaebgogjpdab.PFnExactDirPut Go.Proofs.YtodmaebgogjpdabW.PrintWords Go.Proofs.YtodmaebgogjpdabW.PrintLast
set_option linter.unusedVariables false
set_option linter.unusedSimpArgs false

/-! ### Base: strings as lists of bytes, arithmetic of Go's ints -/
/-- The string of a list of bytes. -/
def mkS (l : List UInt8) : ByteArray := ⟨l.toArray⟩
theorem exS (s : ByteArray) : ∃ l, s = mkS l := ⟨s.data.toList, by cases s; simp [mkS]⟩
theorem mkS_size (l : List UInt8) : (mkS l).size = l.length := by simp [mkS, ByteArray.size]
theorem mkS_inj {a b : List UInt8} : mkS a = mkS b ↔ a = b := by
  constructor
  · intro h; have := congrArg (fun s : ByteArray => s.data.toList) h; simpa [mkS] using this
  · intro h; rw [h]
theorem toList_data (s : ByteArray) : s.toList = s.data.toList := by
  have key : ∀ (n i : Nat) (r : List UInt8), s.size - i = n → ByteArray.toList.loop s i r = r.reverse ++ s.data.toList.drop i := by
    intro n
    induction n with
    | zero =>
      intro i r h
      unfold ByteArray.toList.loop
      rw [if_neg (by omega), List.drop_of_length_le (by simp only [Array.length_toList]; have : s.size = s.data.size := rfl; omega), List.append_nil]
    | succ n ih =>
      intro i r h
      unfold ByteArray.toList.loop
      have hi : i < s.data.toList.length := by simp only [Array.length_toList]; have : s.size = s.data.size := rfl; omega
      rw [if_pos (by omega), ih (i + 1) _ (by omega), List.reverse_cons, List.append_assoc, List.drop_eq_getElem_cons hi]
      have : s.get! i = s.data.toList[i] := by
        show s.data[i]! = _
        rw [Array.getElem_toList]
        exact getElem!_pos s.data i (by simpa using hi)
      rw [this]
      rfl
  have := key _ 0 [] rfl
  simpa [ByteArray.toList] using this
theorem mkS_toList (l : List UInt8) : (mkS l).toList = l := by rw [toList_data]; simp [mkS]
theorem mkS_append (a b : List UInt8) : mkS a ++ mkS b = mkS (a ++ b) := by
  apply ByteArray.ext
  simp [mkS, ByteArray.data_append]
theorem mkS_extract (l : List UInt8) (i j : Nat) : (mkS l).extract i j = mkS ((l.drop i).take (j - i)) := by
  apply ByteArray.ext
  rw [ByteArray.data_extract]
  simp only [mkS]
  apply Array.ext'
  rw [Array.toList_extract]
  try simp [List.extract_eq_drop_take]
theorem mkS_nil : (⟨#[]⟩ : ByteArray) = mkS [] := rfl
theorem bt_mkS (l : List UInt8) (i : Nat) (h : i < l.length) : bt (mkS l) (i : Int) = ((l[i]).toNat : Int) := by
  unfold bt
  have h' : ((i : Int)).toNat < (mkS l).size := by rw [mkS_size]; simpa using h
  rw [dif_pos h']
  simp only [Int.toNat_natCast]
  rfl
/-- A slice of bytes as the print tells it. -/
def ints (l : List UInt8) : List Int := l.map fun b => (b.toNat : Int)
theorem ints_length (l : List UInt8) : (ints l).length = l.length := by simp [ints]
theorem ints_append (a b : List UInt8) : ints a ++ ints b = ints (a ++ b) := by simp [ints]
theorem ints_nil : ([] : List Int) = ints [] := rfl
theorem ub_byte (b : UInt8) : UInt8.ofNat ((b.toNat : Int)).toNat = b := by simp
theorem strOfNums_ints (l : List UInt8) : strOfNums (ints l) = mkS l := by
  unfold strOfNums ints mkS
  congr 2
  rw [List.map_map]
  conv => rhs; rw [← List.map_id l]
  apply List.map_congr_left
  intro b _
  simp
theorem ofNat_cast (n : Nat) : ((UInt8.ofNat n).toNat : Int) = (n : Int) % 256 := by simp
theorem ints_one (n : Nat) (x : Int) (h : x % 256 = ((n % 256 : Nat) : Int)) : [x % 256] = ints [UInt8.ofNat n] := by
  simp only [ints, List.map_cons, List.map_nil]
  rw [h, ofNat_cast]
  simp
theorem w64 {x : Int} (h0 : -9223372036854775808 ≤ x) (h1 : x ≤ 9223372036854775807) : wrap64 x = x := by unfold wrap64; omega
theorem w64b (s : ByteArray) (i : Int) : wrap64 (bt s i) = bt s i := by have := bt_range s i; exact w64 (by omega) (by omega)
theorem wfI {x : Int} (h : (Lit.int .i64 x).wf = true) : -9223372036854775808 ≤ x ∧ x ≤ 9223372036854775807 := by
  have e1 : IntKind.i64.min = -9223372036854775808 := by decide
  have e2 : IntKind.i64.max = 9223372036854775807 := by decide
  have h1 : IntKind.i64.min ≤ x ∧ x ≤ IntKind.i64.max := by simpa [Lit.wf] using h
  rw [e1, e2] at h1
  exact h1
theorem tdivp {x y : Int} (h : 0 ≤ x) : Int.tdiv x y = x / y := Int.tdiv_eq_ediv_of_nonneg h
theorem tmodp {x y : Int} (h : 0 ≤ x) : Int.tmod x y = x % y := Int.tmod_eq_emod_of_nonneg h
theorem shl_i64 {x y : Int} {n : Nat} (hy : y = (n : Int)) (hn : n ≤ 64) : shl .i64 x y = wrap64 (x * 2 ^ n) := by
  unfold shl
  have e : min y.toNat IntKind.i64.bits = n := by subst hy; simp [IntKind.bits]; omega
  rw [e, IntKind.wrap_i64, wrap64]
theorem shr_i64 {x y : Int} {n : Nat} (hy : y = (n : Int)) (hn : n ≤ 64) : shr .i64 x y = x / 2 ^ n := by
  unfold shr
  have e : min y.toNat IntKind.i64.bits = n := by subst hy; simp [IntKind.bits]; omega
  rw [e]
theorem getElem_drop_cons {α : Type} {l : List α} {i : Nat} (h : i < l.length) : l.drop i = l[i] :: l.drop (i + 1) := List.drop_eq_getElem_cons h
theorem ev_some {α : Type} {g : Nat → Option α} {r q : α} (h : Ev g r) (hk : r = q) : Ev g q := hk ▸ h
theorem evx {α : Type} {g : Nat → Option α} {r : α} (h : Ev g r) : ∃ K, ∀ k, K ≤ k → g k = some r := h
theorem evi {α : Type} {g : Nat → Option α} {r : α} (K : Nat) (h : ∀ k, K ≤ k → g k = some r) : Ev g r := ⟨K, h⟩

/-! ### filling a row -/
theorem fill_step {α : Type} (m : List α) (z : α) (i n : Nat) (x : α) (hn : m.length = n) (h : i < n) (hx : m[i]? = some x) : (m.take i ++ List.replicate (n - i) z).set i x = m.take (i + 1) ++ List.replicate (n - (i + 1)) z := by
  subst hn
  have hl : (m.take i).length = i := by rw [List.length_take]; omega
  have e : m.length - i = (m.length - (i + 1)) + 1 := by omega
  have ex : m[i] = x := by rw [List.getElem?_eq_getElem h] at hx; exact Option.some.inj hx
  rw [e, List.replicate_succ, List.set_append_right _ _ (by omega), hl, Nat.sub_self, List.set_cons_zero, List.take_succ_eq_append_getElem h, List.append_assoc, ex]
  rfl

/-! ### sz of Entry -/
def bigEntry (e : S59) : Prop := e.f0.size ≤ maxLen
def smallEntry (e : S59) : Prop := e.f0.size ≤ 1048576
theorem laws_szEntry_f (e : S59) (h : bigEntry e) (a : Int) (h0 : 0 ≤ a) (h1 : a ≤ 1048576) : ∃ s, laws_szEntry.f e.f0 e.f1 e.f2 e.f3 e.f4 a = some s ∧ s ≤ a ∧ (s < 0 ∨ 0 ≤ s ∧ smallEntry e) := by
  have hmax : maxLen = 9223372036854775807 := rfl
  unfold bigEntry at h
  unfold laws_szEntry.f smallEntry wrap64
  repeat' split
  all_goals refine ⟨_, rfl, by omega, by omega⟩
theorem laws_szEntryS_l0 (l : List S59) (hl : l.length ≤ 4611686018427387904) (hb : ∀ e ∈ l, bigEntry e) (d : Nat) : ∀ (i : Nat) (a : Int), d + i = l.length → 0 ≤ a → a ≤ 1048576 →
    ∃ s, Ev (fun k => laws_szEntryS.l0 k l a (i : Int)) s ∧ s ≤ a ∧ (s < 0 ∨ 0 ≤ s ∧ ∀ e ∈ l.drop i, smallEntry e) := by
  induction d with
  | zero =>
    intro i a hi h0 h1
    refine ⟨a, evi (1) (fun k hk => ?_), by omega, .inr ⟨h0, fun e he => by rw [List.drop_of_length_le (by omega)] at he; cases he⟩⟩
    obtain ⟨k, rfl⟩ : ∃ m, k = m + 1 := ⟨k - 1, by omega⟩
    simp only [laws_szEntryS.l0]
    rw [if_neg (by omega)]
  | succ d ih =>
    intro i a hi h0 h1
    have hlt : i < l.length := by omega
    have hrd : rd_T59 l (i : Int) = l[i] := by simp [rd_T59, hlt]
    obtain ⟨s, hs, hsa, hs0⟩ := laws_szEntry_f l[i] (hb _ (List.getElem_mem hlt)) a h0 h1
    by_cases hn : s < 0
    · refine ⟨-1, evi (1) (fun k hk => ?_), by omega, .inl (by omega)⟩
      obtain ⟨k, rfl⟩ : ∃ m, k = m + 1 := ⟨k - 1, by omega⟩
      simp only [laws_szEntryS.l0]
      rw [if_pos (by omega), if_pos (by omega), hrd, hs]
      simp only [Option.bind_some]
      rw [if_pos hn]
    · obtain ⟨r, hr, hra, hr0⟩ := ih (i + 1) s (by omega) (by omega) (by omega)
      obtain ⟨K, hK⟩ := evx hr
      refine ⟨r, evi (K + 1) (fun k hk => ?_), by omega, ?_⟩
      · obtain ⟨k, rfl⟩ : ∃ m, k = m + 1 := ⟨k - 1, by omega⟩
        simp only [laws_szEntryS.l0]
        rw [if_pos (by omega), if_pos (by omega), hrd, hs]
        simp only [Option.bind_some]
        rw [if_neg hn, w64 (by omega) (by omega)]
        exact hK k (by omega)
      · rcases hr0 with hr0 | ⟨hr0, hr1⟩
        · exact .inl hr0
        · refine .inr ⟨hr0, fun e he => ?_⟩
          rw [List.drop_eq_getElem_cons hlt] at he
          rcases List.mem_cons.1 he with rfl | he
          · rcases hs0 with hs0 | ⟨_, hs0⟩
            · exact absurd hs0 hn
            · exact hs0
          · exact hr1 e he
theorem laws_szEntryS_ev (l : List S59) (hl : l.length ≤ maxLen) (hb : ∀ e ∈ l, bigEntry e) (a : Int) (h0 : 0 ≤ a) (h1 : a ≤ 1048576) :
    ∃ s, Ev (fun k => laws_szEntryS.f k l a) s ∧ s ≤ a ∧ (s < 0 ∨ 0 ≤ s ∧ l.length ≤ 1048576 ∧ ∀ e ∈ l, smallEntry e) := by
  have hmax : maxLen = 9223372036854775807 := rfl
  by_cases hn : wrap64 (a - (l.length : Int)) < 0
  · refine ⟨-1, evi (0) (fun k hk => ?_), by omega, .inl (by omega)⟩
    unfold laws_szEntryS.f
    rw [if_pos hn]
  · have hle : (l.length : Int) ≤ a := by unfold wrap64 at hn; omega
    rw [w64 (by omega) (by omega)] at hn
    obtain ⟨s, hs, hsa, hs0⟩ := laws_szEntryS_l0 l (by omega) hb l.length 0 (a - (l.length : Int)) rfl (by omega) (by omega)
    obtain ⟨K, hK⟩ := evx hs
    refine ⟨s, evi (K) (fun k hk => ?_), by omega, ?_⟩
    · unfold laws_szEntryS.f
      rw [w64 (x := a - (l.length : Int)) (by omega) (by omega), if_neg hn]
      exact hK k hk
    · rcases hs0 with hs0 | ⟨hs0, hs1⟩
      · exact .inl hs0
      · exact .inr ⟨hs0, by omega, by simpa using hs1⟩

/-! ### to of Entry -/
def convEntry (e : S59) : S26 := ⟨e.f0, e.f1, e.f2, e.f3, e.f4⟩
theorem laws_toEntryS_l0 (l : List S59) (hl : l.length ≤ 4611686018427387904) (d : Nat) : ∀ (i : Nat), d + i = l.length → Ev (fun k => laws_toEntryS.l0 k l ((l.map convEntry).take i ++ List.replicate (l.length - i) z26) (i : Int)) (l.map convEntry) := by
  induction d with
  | zero =>
    intro i hi
    refine evi (1) fun k hk => ?_
    obtain ⟨k, rfl⟩ : ∃ m, k = m + 1 := ⟨k - 1, by omega⟩
    simp only [laws_toEntryS.l0]
    rw [if_neg (by omega), List.take_of_length_le (by rw [List.length_map]; omega), show l.length - i = 0 from by omega, List.replicate_zero, List.append_nil]
  | succ d ih =>
    intro i hi
    have hlt : i < l.length := by omega
    have hrd : rd_T59 l (i : Int) = l[i] := by simp [rd_T59, hlt]
    obtain ⟨K, hK⟩ := evx (ih (i + 1) (by omega))
    refine evi (K + 1) fun k hk => ?_
    obtain ⟨k, rfl⟩ : ∃ m, k = m + 1 := ⟨k - 1, by omega⟩
    simp only [laws_toEntryS.l0, laws_toEntry.f, Option.bind_some]
    rw [if_pos (by omega), if_pos (by omega), if_pos (by rw [List.length_append, List.length_take, List.length_replicate, List.length_map]; omega), hrd, Int.toNat_natCast, w64 (by omega) (by omega)]
    have e : (⟨l[i].f0, l[i].f1, l[i].f2, l[i].f3, l[i].f4⟩ : S26) = convEntry l[i] := rfl
    rw [e, fill_step (l.map convEntry) z26 i l.length (convEntry l[i]) (List.length_map ..) hlt (by rw [List.getElem?_map, List.getElem?_eq_getElem hlt]; rfl)]
    exact hK k (by omega)
theorem laws_toEntryS_ev (l : List S59) (hl : l.length ≤ 1048576) : Ev (fun k => laws_toEntryS.f k l) (l.map convEntry) := by
  obtain ⟨K, hK⟩ := evx (laws_toEntryS_l0 l (by omega) l.length 0 rfl)
  refine evi (K) fun k hk => ?_
  unfold laws_toEntryS.f
  rw [if_pos (by omega), if_pos (by omega), Int.toNat_natCast]
  have := hK k hk
  rw [List.take_zero, List.nil_append, Nat.sub_zero] at this
  exact this

/-! ### eq of Entry -/
theorem laws_eqEntry_self (e : S26) : laws_eqEntry.f e.f0 e.f1 e.f2 e.f3 e.f4 e.f0 e.f1 e.f2 e.f3 e.f4 = some true := by
  unfold laws_eqEntry.f
  simp
theorem laws_eqEntryS_l0 (l : List S26) (hl : l.length ≤ 4611686018427387904) (d : Nat) : ∀ (i : Nat), d + i = l.length → Ev (fun k => laws_eqEntryS.l0 k l l (i : Int)) true := by
  induction d with
  | zero =>
    intro i hi
    refine evi (1) fun k hk => ?_
    obtain ⟨k, rfl⟩ : ∃ m, k = m + 1 := ⟨k - 1, by omega⟩
    simp only [laws_eqEntryS.l0]
    rw [if_neg (by omega)]
  | succ d ih =>
    intro i hi
    obtain ⟨K, hK⟩ := evx (ih (i + 1) (by omega))
    refine evi (K + 1) fun k hk => ?_
    obtain ⟨k, rfl⟩ : ∃ m, k = m + 1 := ⟨k - 1, by omega⟩
    simp only [laws_eqEntryS.l0]
    rw [if_pos (by omega), if_pos (by omega), if_pos (by omega), laws_eqEntry_self]
    simp only [Option.bind_some]
    rw [if_pos trivial, w64 (by omega) (by omega)]
    exact hK k (by omega)
theorem laws_eqEntryS_ev (l : List S26) (hl : l.length ≤ 4611686018427387904) : Ev (fun k => laws_eqEntryS.f k l l) true := by
  obtain ⟨K, hK⟩ := evx (laws_eqEntryS_l0 l hl l.length 0 rfl)
  refine evi (K) fun k hk => ?_
  unfold laws_eqEntryS.f
  rw [if_pos rfl]
  exact hK k hk

/-! ### marks: the texts and numbers that the laws write into memory -/
theorem laws_markText_l0 (m : Nat) : ∀ (n : Nat) (s : ByteArray), n ≤ m → s.size + n ≤ 4611686018427387904 → ∃ r, Ev (fun k => laws_markText.l0 k (n : Int) s) r := by
  induction m using Nat.strongRecOn with
  | ind m ih =>
  intro n s hn hs
  by_cases h0 : n = 0
  · subst h0
    refine ⟨(⟨#[109]⟩ : ByteArray) ++ s, evi 1 (fun k hk => ?_)⟩
    obtain ⟨k, rfl⟩ : ∃ m, k = m + 1 := ⟨k - 1, by omega⟩
    simp only [laws_markText.l0]
    rw [if_neg (by omega), if_pos (by omega)]
  · obtain ⟨r, hr⟩ := ih (n / 10) (by omega) (n / 10) (strOfNums [(wrap64 (48 + (Int.tmod (n : Int) 10))) % 256] ++ s) (Nat.le_refl _) (by rw [ByteArray.size_append, strOfNums_size]; simp only [List.length_singleton]; omega)
    obtain ⟨K, hK⟩ := evx hr
    refine ⟨r, evi (K + 1) (fun k hk => ?_)⟩
    obtain ⟨k, rfl⟩ : ∃ m, k = m + 1 := ⟨k - 1, by omega⟩
    simp only [laws_markText.l0, Option.bind_some]
    rw [if_pos (by omega), if_pos (by rw [strOfNums_size]; simp only [List.length_singleton]; omega), tdivp (by omega), w64 (x := (n : Int) / 10) (by omega) (by omega), show ((n : Int) / 10) = ((n / 10 : Nat) : Int) from by omega]
    exact hK k (by omega)
theorem laws_markText_ex (a : Int) : ∃ r, a ≤ 4611686018427387904 → Ev (fun k => laws_markText.f k a) r := by
  by_cases h : a ≤ 0
  · exact ⟨_, fun _ => evi 0 (fun k _ => by unfold laws_markText.f; rw [if_pos h])⟩
  · by_cases h2 : a ≤ 4611686018427387904
    · obtain ⟨n, rfl⟩ := Int.eq_ofNat_of_zero_le (show 0 ≤ a by omega)
      obtain ⟨r, hr⟩ := laws_markText_l0 n n (⟨#[]⟩ : ByteArray) (Nat.le_refl _) (by show 0 + n ≤ _; omega)
      obtain ⟨K, hK⟩ := evx hr
      exact ⟨r, fun _ => evi K (fun k hk => by unfold laws_markText.f; rw [if_neg h]; exact hK k hk)⟩
    · exact ⟨(⟨#[]⟩ : ByteArray), fun hh => absurd hh h2⟩
noncomputable def markS (a : Int) : ByteArray := Classical.choose (laws_markText_ex a)
theorem markS_ev (a : Int) (h : a ≤ 4611686018427387904) : Ev (fun k => laws_markText.f k a) (markS a) := Classical.choose_spec (laws_markText_ex a) h
theorem toNat_cast' (i : Nat) : ((i : Int) : Int).toNat = i := Int.toNat_natCast i

/-! ### mark and held of Entry -/
noncomputable def stepEntry (a : Int) : S26 := ⟨markS (a), a + 1, a + 1 + 1, a + 1 + 1 + 1, a + 1 + 1 + 1 + 1⟩
noncomputable def marksEntry (n : Nat) (a : Int) : List S26 := (List.range n).map fun (j : Nat) => stepEntry (a + 5 * (j : Int))
theorem marksEntry_length (n : Nat) (a : Int) : (marksEntry n a).length = n := by simp [marksEntry]
theorem rd_T26_set (x : List S26) (i : Nat) (v : S26) (h : i < x.length) : rd_T26 (x.set i v) (i : Int) = v := by simp [rd_T26, h]
theorem laws_markEntryS_l0 (n : Nat) (hn : n ≤ 2097152) (a0 : Int) (ha0 : 0 ≤ a0) (ha1 : a0 ≤ 1099511627776) (d : Nat) : ∀ (i : Nat) (x : List S26) (a : Int), d + i = n → x.length = n → a = a0 + 5 * (i : Int) → (∀ j, j < i → x[j]? = some (stepEntry (a0 + 5 * (j : Int)))) →
    Ev (fun k => laws_markEntryS.l0 k x a (i : Int)) (a0 + 5 * (n : Int), marksEntry n a0) := by
  induction d with
  | zero =>
    intro i x a hi hx ha hj
    refine evi (1) fun k hk => ?_
    obtain ⟨k, rfl⟩ : ∃ m, k = m + 1 := ⟨k - 1, by omega⟩
    simp only [laws_markEntryS.l0]
    rw [if_neg (by omega)]
    have e : x = marksEntry n a0 := by
      apply List.ext_getElem?
      intro j
      by_cases hjn : j < n
      · rw [hj j (by omega)]
        simp [marksEntry, hjn]
      · rw [List.getElem?_eq_none (by omega), List.getElem?_eq_none (by rw [marksEntry_length]; omega)]
    rw [e, ha, show i = n from by omega]
  | succ d ih =>
    intro i x a hi hx ha hj
    have hlt : i < x.length := by omega
    obtain ⟨M0, hM0⟩ := evx (markS_ev (a) (by omega))
    obtain ⟨K, hK⟩ := evx (ih (i + 1) (x.set i (stepEntry a)) (a + 1 + 1 + 1 + 1 + 1) (by omega) (by rw [List.length_set]; exact hx) (by omega) (by
      intro j hji
      by_cases hij : j = i
      · rw [hij, List.getElem?_set_self hlt, ha]
      · rw [List.getElem?_set_ne (by omega)]
        exact hj j (by omega)))
    refine evi (K + M0 + 1) fun k hk => ?_
    obtain ⟨k, rfl⟩ : ∃ m, k = m + 1 := ⟨k - 1, by omega⟩
    simp only [laws_markEntryS.l0]
    have e0 : (0 : Int) ≤ (i : Int) := by omega
    have e1 : (i : Int) < (x.length : Int) := by omega
    have hset : ∀ v : S26, rd_T26 (x.set i v) (i : Int) = v := fun v => rd_T26_set x i v hlt
    have hK' := hK k (by omega)
    have m0 := hM0 k (by omega)
    have b0 : -9223372036854775808 ≤ (i : Int) + 1 ∧ (i : Int) + 1 ≤ 9223372036854775807 := by omega
    have b1 : -9223372036854775808 ≤ a + 1 ∧ a + 1 ≤ 9223372036854775807 := by omega
    have b2 : -9223372036854775808 ≤ a + 1 + 1 ∧ a + 1 + 1 ≤ 9223372036854775807 := by omega
    have b3 : -9223372036854775808 ≤ a + 1 + 1 + 1 ∧ a + 1 + 1 + 1 ≤ 9223372036854775807 := by omega
    have b4 : -9223372036854775808 ≤ a + 1 + 1 + 1 + 1 ∧ a + 1 + 1 + 1 + 1 ≤ 9223372036854775807 := by omega
    have b5 : -9223372036854775808 ≤ a + 1 + 1 + 1 + 1 + 1 ∧ a + 1 + 1 + 1 + 1 + 1 ≤ 9223372036854775807 := by omega
    have c0 : (i : Int) + 1 = ((i + 1 : Nat) : Int) := by omega
    have e2 : wrap64 ((i : Int) + 1) = ((i + 1 : Nat) : Int) := by rw [w64 b0.1 b0.2, c0]
    have w1 : wrap64 (a + 1) = a + 1 := w64 b1.1 b1.2
    have w2 : wrap64 (a + 1 + 1) = a + 1 + 1 := w64 b2.1 b2.2
    have w3 : wrap64 (a + 1 + 1 + 1) = a + 1 + 1 + 1 := w64 b3.1 b3.2
    have w4 : wrap64 (a + 1 + 1 + 1 + 1) = a + 1 + 1 + 1 + 1 := w64 b4.1 b4.2
    have w5 : wrap64 (a + 1 + 1 + 1 + 1 + 1) = a + 1 + 1 + 1 + 1 + 1 := w64 b5.1 b5.2
    simp only [w1, w2, w3, w4, w5, m0, if_pos e0, if_pos e1, e2, Option.bind_some, Int.toNat_natCast, hset, List.set_set]
    exact hK'
theorem laws_markEntryS_ev (l : List S26) (hn : l.length ≤ 2097152) (a : Int) (ha0 : 0 ≤ a) (ha1 : a ≤ 1099511627776) : Ev (fun k => laws_markEntryS.f k l a) (a + 5 * (l.length : Int), marksEntry l.length a) := by
  have := laws_markEntryS_l0 l.length hn a ha0 ha1 l.length 0 l a rfl rfl (by omega) (fun j hj => by omega)
  exact this

/-! ### held of Entry -/
theorem laws_heldEntryS_l0 (n : Nat) (hn : n ≤ 2097152) (a0 : Int) (ha0 : 0 ≤ a0) (ha1 : a0 ≤ 1099511627776) (d : Nat) : ∀ (i : Nat) (a : Int), d + i = n → a = a0 + 5 * (i : Int) → Ev (fun k => laws_heldEntryS.l0 k (marksEntry n a0) a (i : Int)) (a0 + 5 * (n : Int)) := by
  induction d with
  | zero =>
    intro i a hi ha
    refine evi (1) fun k hk => ?_
    obtain ⟨k, rfl⟩ : ∃ m, k = m + 1 := ⟨k - 1, by omega⟩
    simp only [laws_heldEntryS.l0]
    rw [if_neg (by rw [marksEntry_length]; omega), ha, show i = n from by omega]
  | succ d ih =>
    intro i a hi ha
    obtain ⟨M0, hM0⟩ := evx (markS_ev (a) (by omega))
    obtain ⟨K, hK⟩ := evx (ih (i + 1) (a + 1 + 1 + 1 + 1 + 1) (by omega) (by omega))
    refine evi (K + M0 + 1) fun k hk => ?_
    obtain ⟨k, rfl⟩ : ∃ m, k = m + 1 := ⟨k - 1, by omega⟩
    simp only [laws_heldEntryS.l0]
    have e0 : (0 : Int) ≤ (i : Int) := by omega
    have e1 : (i : Int) < ((marksEntry n a0).length : Int) := by rw [marksEntry_length]; omega
    have hr : rd_T26 (marksEntry n a0) (i : Int) = stepEntry a := by
      have hin : i < n := by omega
      simp [rd_T26, marksEntry, hin, ha]
    have hK' := hK k (by omega)
    have m0 := hM0 k (by omega)
    have b0 : -9223372036854775808 ≤ (i : Int) + 1 ∧ (i : Int) + 1 ≤ 9223372036854775807 := by omega
    have b1 : -9223372036854775808 ≤ a + 1 ∧ a + 1 ≤ 9223372036854775807 := by omega
    have b2 : -9223372036854775808 ≤ a + 1 + 1 ∧ a + 1 + 1 ≤ 9223372036854775807 := by omega
    have b3 : -9223372036854775808 ≤ a + 1 + 1 + 1 ∧ a + 1 + 1 + 1 ≤ 9223372036854775807 := by omega
    have b4 : -9223372036854775808 ≤ a + 1 + 1 + 1 + 1 ∧ a + 1 + 1 + 1 + 1 ≤ 9223372036854775807 := by omega
    have b5 : -9223372036854775808 ≤ a + 1 + 1 + 1 + 1 + 1 ∧ a + 1 + 1 + 1 + 1 + 1 ≤ 9223372036854775807 := by omega
    have c0 : (i : Int) + 1 = ((i + 1 : Nat) : Int) := by omega
    have e2 : wrap64 ((i : Int) + 1) = ((i + 1 : Nat) : Int) := by rw [w64 b0.1 b0.2, c0]
    have w1 : wrap64 (a + 1) = a + 1 := w64 b1.1 b1.2
    have w2 : wrap64 (a + 1 + 1) = a + 1 + 1 := w64 b2.1 b2.2
    have w3 : wrap64 (a + 1 + 1 + 1) = a + 1 + 1 + 1 := w64 b3.1 b3.2
    have w4 : wrap64 (a + 1 + 1 + 1 + 1) = a + 1 + 1 + 1 + 1 := w64 b4.1 b4.2
    have w5 : wrap64 (a + 1 + 1 + 1 + 1 + 1) = a + 1 + 1 + 1 + 1 + 1 := w64 b5.1 b5.2
    simp only [w1, w2, w3, w4, w5, m0, if_pos e0, if_pos e1, e2, Option.bind_some, hr, stepEntry, if_true]
    exact hK'
theorem laws_heldEntryS_ev (n : Nat) (hn : n ≤ 2097152) (a : Int) (ha0 : 0 ≤ a) (ha1 : a ≤ 1099511627776) : Ev (fun k => laws_heldEntryS.f k (marksEntry n a) a) (a + 5 * (n : Int)) := by
  have := laws_heldEntryS_l0 n hn a ha0 ha1 n 0 a rfl (by omega)
  exact this

/-! ### impl's and spec's DirDrop -/
def dirDrop (key : ByteArray) (l : List S26) : List S26 := l.filter fun e => !(e.f0.toList == key.toList)
theorem impl_DirDrop_l0 (l : List S26) (key : ByteArray) (hl : l.length ≤ 1099511627776) (d : Nat) : ∀ (i : Nat) (acc : List S26), d + i = l.length → acc.length + d ≤ 1099511627776 → Ev (fun k => impl_DirDrop.l0 k key acc l (l.length : Int) (i : Int)) (acc ++ dirDrop key (l.drop i)) := by
  induction d with
  | zero =>
    intro i acc hi ha
    refine evi (1) fun k hk => ?_
    obtain ⟨k, rfl⟩ : ∃ m, k = m + 1 := ⟨k - 1, by omega⟩
    simp only [impl_DirDrop.l0]
    rw [if_neg (by omega), List.drop_of_length_le (by omega)]
    simp [dirDrop]
  | succ d ih =>
    intro i acc hi ha
    have hlt : i < l.length := by omega
    have h1 : rd_T26 l (i : Int) = l[i] := by simp [rd_T26, hlt]
    by_cases h : l[i].f0.toList = key.toList
    · obtain ⟨K, hK⟩ := evx (ih (i + 1) acc (by omega) (by omega))
      refine evi (K + 1) fun k hk => ?_
      obtain ⟨k, rfl⟩ : ∃ m, k = m + 1 := ⟨k - 1, by omega⟩
      simp only [impl_DirDrop.l0]
      rw [if_pos (by omega), if_pos (by omega), if_pos (by omega), h1, if_pos h, w64 (by omega) (by omega), List.drop_eq_getElem_cons hlt, dirDrop, List.filter_cons, if_neg (by simp [h])]
      exact hK k (by omega)
    · obtain ⟨K, hK⟩ := evx (ih (i + 1) (acc ++ [l[i]]) (by omega) (by rw [List.length_append, List.length_singleton]; omega))
      refine evi (K + 1) fun k hk => ?_
      obtain ⟨k, rfl⟩ : ∃ m, k = m + 1 := ⟨k - 1, by omega⟩
      simp only [impl_DirDrop.l0]
      rw [if_pos (by omega), if_pos (by omega), if_pos (by omega), h1, if_neg h, if_pos (by omega), w64 (by omega) (by omega), List.drop_eq_getElem_cons hlt, dirDrop, List.filter_cons, if_pos (by simp [h])]
      have := hK k (by omega)
      rw [List.append_assoc, List.singleton_append] at this
      exact this
theorem impl_DirDrop_ev (l : List S26) (key : ByteArray) (hl : l.length ≤ 1099511627776) : Ev (fun k => impl_DirDrop.f k l key) (dirDrop key l) := by
  have := impl_DirDrop_l0 l key hl l.length 0 [] rfl (by simp only [List.length_nil]; omega)
  exact this
theorem dirDrop_length (key : ByteArray) (l : List S26) : (dirDrop key l).length ≤ l.length := List.length_filter_le _ _

/-! ### an entry put into a directory -/
def insL (e : S26) : List S26 → List S26
 | [] => [e]
 | x :: t => if Op.bytesLess e.f0.toList x.f0.toList = true then e :: x :: t else x :: insL e t
theorem insL_length (e : S26) (l : List S26) : (insL e l).length = l.length + 1 := by
  induction l with
  | nil => rfl
  | cons x t ih =>
    unfold insL
    split
    · rfl
    · rw [List.length_cons, ih, List.length_cons]
def dirPut (e : S26) (l : List S26) : List S26 := insL e (dirDrop e.f0 l)
theorem dirPut_length (e : S26) (l : List S26) : (dirPut e l).length ≤ l.length + 1 := by
  unfold dirPut
  rw [insL_length]
  have := dirDrop_length e.f0 l
  omega

/-! ### spec's DirPut -/
theorem spec_DirPut_l0 (l : List S26) (e : S26) (hl : l.length ≤ 1099511627776) (d : Nat) : ∀ (i : Nat) (acc : List S26) (dn : Bool), d + i = l.length → acc.length + 2 * d ≤ 2932031007000 → Ev (fun k => spec_DirPut.l0 k l acc dn (i : Int) e.f0 e.f1 e.f2 e.f3 e.f4) (acc ++ (if dn = true then dirDrop e.f0 (l.drop i) else insL e (dirDrop e.f0 (l.drop i)))) := by
  induction d with
  | zero =>
    intro i acc dn hi ha
    refine evi (1) fun k hk => ?_
    obtain ⟨k, rfl⟩ : ∃ m, k = m + 1 := ⟨k - 1, by omega⟩
    simp only [spec_DirPut.l0]
    rw [if_neg (by omega), List.drop_of_length_le (by omega)]
    cases dn with
    | true => rw [if_pos rfl, if_pos rfl]; simp [dirDrop]
    | false => rw [if_neg (by decide), if_pos (by omega), if_neg (by decide)]; rfl
  | succ d ih =>
    intro i acc dn hi ha
    have hlt : i < l.length := by omega
    have h1 : rd_T26 l (i : Int) = l[i] := by simp [rd_T26, hlt]
    by_cases h : l[i].f0.toList = e.f0.toList
    · obtain ⟨K, hK⟩ := evx (ih (i + 1) acc dn (by omega) (by omega))
      refine evi (K + 1) fun k hk => ?_
      obtain ⟨k, rfl⟩ : ∃ m, k = m + 1 := ⟨k - 1, by omega⟩
      have hgo := hK k (by omega)
      simp only [spec_DirPut.l0]
      have hd : dirDrop e.f0 (l.drop i) = dirDrop e.f0 (l.drop (i + 1)) := by rw [List.drop_eq_getElem_cons hlt, dirDrop, List.filter_cons, if_neg (by simp [h])]; rfl
      rw [if_pos (by omega), if_pos (by omega), h1, if_pos h, w64 (by omega) (by omega), hd]
      exact hgo
    · have hd : dirDrop e.f0 (l.drop i) = l[i] :: dirDrop e.f0 (l.drop (i + 1)) := by rw [List.drop_eq_getElem_cons hlt, dirDrop, List.filter_cons, if_pos (by simp [h])]; rfl
      have hw : wrap64 ((i : Int) + 1) = ((i + 1 : Nat) : Int) := w64 (by omega) (by omega)
      cases dn with
      | true =>
        obtain ⟨K, hK⟩ := evx (ih (i + 1) (acc ++ [l[i]]) true (by omega) (by rw [List.length_append, List.length_singleton]; omega))
        refine evi (K + 1) fun k hk => ?_
        obtain ⟨k, rfl⟩ : ∃ m, k = m + 1 := ⟨k - 1, by omega⟩
        have hgo := hK k (by omega)
        clear hK ih
        have c1 : (i : Int) < (l.length : Int) := by clear hw; omega
        have c2 : (0 : Int) ≤ (i : Int) := by clear hw; omega
        have c3 : acc.length < 2932031007402 := by clear hw; omega
        simp only [spec_DirPut.l0]
        rw [if_pos c1, if_pos c2, h1, if_neg h, if_pos trivial, if_pos c3, hw, hd, if_pos trivial]
        rw [if_pos rfl, List.append_assoc, List.singleton_append] at hgo
        exact hgo
      | false =>
        by_cases hb : Op.bytesLess e.f0.toList l[i].f0.toList = true
        · obtain ⟨K, hK⟩ := evx (ih (i + 1) ((acc ++ [e]) ++ [l[i]]) true (by omega) (by rw [List.length_append, List.length_append, List.length_singleton, List.length_singleton]; omega))
          refine evi (K + 1) fun k hk => ?_
          obtain ⟨k, rfl⟩ : ∃ m, k = m + 1 := ⟨k - 1, by omega⟩
          have hgo := hK k (by omega)
          clear hK ih
          have c1 : (i : Int) < (l.length : Int) := by clear hw; omega
          have c2 : (0 : Int) ≤ (i : Int) := by clear hw; omega
          have c3 : acc.length < 2932031007402 := by clear hw; omega
          have c4 : (acc ++ [e]).length < 2932031007402 := by rw [List.length_append, List.length_singleton]; clear hw; omega
          simp only [spec_DirPut.l0]
          rw [if_pos c1, if_pos c2, h1, if_neg h, if_neg (by decide), if_pos hb, if_pos c3]
          simp only [Option.bind_some]
          rw [if_pos c4, hw, hd, if_neg (by decide), insL, if_pos hb]
          rw [if_pos rfl] at hgo
          exact hgo.trans (by simp)
        · obtain ⟨K, hK⟩ := evx (ih (i + 1) (acc ++ [l[i]]) false (by omega) (by rw [List.length_append, List.length_singleton]; omega))
          refine evi (K + 1) fun k hk => ?_
          obtain ⟨k, rfl⟩ : ∃ m, k = m + 1 := ⟨k - 1, by omega⟩
          have hgo := hK k (by omega)
          clear hK ih
          have c1 : (i : Int) < (l.length : Int) := by clear hw; omega
          have c2 : (0 : Int) ≤ (i : Int) := by clear hw; omega
          have c3 : acc.length < 2932031007402 := by clear hw; omega
          simp only [spec_DirPut.l0]
          rw [if_pos c1, if_pos c2, h1, if_neg h, if_neg (by decide), if_neg hb, if_pos c3, hw, hd, if_neg (by decide), insL, if_neg hb]
          rw [if_neg (by decide), List.append_assoc, List.singleton_append] at hgo
          exact hgo
theorem spec_DirPut_ev (l : List S26) (e : S26) (hl : l.length ≤ 1099511627776) : Ev (fun k => spec_DirPut.f k l e.f0 e.f1 e.f2 e.f3 e.f4) (dirPut e l) := by
  have := spec_DirPut_l0 l e hl l.length 0 [] false rfl (by simp only [List.length_nil]; omega)
  exact this

/-! ### impl's DirPut -/
theorem impl_DirPut_l0 (l : List S26) (e : S26) (hl : l.length ≤ 1099511627776) (d : Nat) : ∀ (i : Nat), d + i = l.length → Ev (fun k => impl_DirPut.l0 k l (i : Int) e.f0 e.f1 e.f2 e.f3 e.f4) (l.take i ++ insL e (l.drop i)) := by
  induction d with
  | zero =>
    intro i hi
    refine evi (1) fun k hk => ?_
    obtain ⟨k, rfl⟩ : ∃ m, k = m + 1 := ⟨k - 1, by omega⟩
    simp only [impl_DirPut.l0, impl_copyDir.f, Int.toNat_natCast]
    have c1 : ([] : List S26).length + (l.take i).length < 2932031007402 := by rw [List.length_take, List.length_nil]; omega
    have c2 : (([] : List S26) ++ l.take i).length + [e].length < 2932031007402 := by rw [List.nil_append, List.length_take, List.length_singleton]; omega
    have c3 : ((([] : List S26) ++ l.take i) ++ [e]).length + (l.drop i).length < 2932031007402 := by rw [List.nil_append, List.length_append, List.length_take, List.length_singleton, List.length_drop]; omega
    rw [if_neg (by omega), if_pos (by omega), if_pos (by omega), if_pos c1]
    simp only [Option.bind_some]
    refine (if_pos c2).trans ?_
    refine (if_pos c3).trans ?_
    rw [List.drop_of_length_le (by omega)]
    simp [insL]
  | succ d ih =>
    intro i hi
    have hlt : i < l.length := by omega
    have h1 : rd_T26 l (i : Int) = l[i] := by simp [rd_T26, hlt]
    obtain ⟨K, hK⟩ := evx (ih (i + 1) (by omega))
    refine evi (K + 1) fun k hk => ?_
    obtain ⟨k, rfl⟩ : ∃ m, k = m + 1 := ⟨k - 1, by omega⟩
    have hgo := hK k (by omega)
    have hw : wrap64 ((i : Int) + 1) = ((i + 1 : Nat) : Int) := w64 (by omega) (by omega)
    have c1 : ([] : List S26).length + (l.take i).length < 2932031007402 := by rw [List.length_take, List.length_nil]; clear hw; omega
    have c2 : (([] : List S26) ++ l.take i).length + [e].length < 2932031007402 := by rw [List.nil_append, List.length_take, List.length_singleton]; clear hw; omega
    have c3 : ((([] : List S26) ++ l.take i) ++ [e]).length + (l.drop i).length < 2932031007402 := by rw [List.nil_append, List.length_append, List.length_take, List.length_singleton, List.length_drop]; clear hw; omega
    have d1 : (i : Int) < (l.length : Int) := by clear hw; omega
    have d2 : (0 : Int) ≤ (i : Int) := by clear hw; omega
    have d3 : (i : Int) ≤ (l.length : Int) := by clear hw; omega
    clear hK ih
    simp only [impl_DirPut.l0, impl_copyDir.f, Int.toNat_natCast]
    rw [if_pos d1, if_pos d2, h1]
    by_cases hb : Op.bytesLess e.f0.toList l[i].f0.toList = true
    · rw [if_pos hb, if_pos d3, if_pos c1]
      simp only [Option.bind_some]
      refine (if_pos c2).trans ?_
      refine (if_pos c3).trans ?_
      rw [List.drop_eq_getElem_cons hlt, insL, if_pos hb]
      simp
    · rw [if_neg hb, hw, List.drop_eq_getElem_cons hlt, insL, if_neg hb]
      rw [List.take_succ_eq_append_getElem hlt, List.append_assoc, List.singleton_append] at hgo
      exact hgo
theorem impl_DirPut_ev (l : List S26) (e : S26) (hl : l.length ≤ 1048576) : Ev (fun k => impl_DirPut.f k l e.f0 e.f1 e.f2 e.f3 e.f4) (dirPut e l) := by
  obtain ⟨K1, h1⟩ := evx (impl_DirDrop_ev l e.f0 (by omega))
  have hd := dirDrop_length e.f0 l
  obtain ⟨K2, h2⟩ := evx (impl_DirPut_l0 (dirDrop e.f0 l) e (by omega) _ 0 rfl)
  refine evi (K1 + K2) fun k hk => ?_
  have hgo := h2 k (by omega)
  unfold impl_DirPut.f
  rw [h1 k (by omega), Option.bind_some]
  exact hgo

/-! ### the law -/
theorem FnExactDirPut : laws_FnExactDirPut.Pure := by
  intro a k0 f1 f2 f3 f4 ha w0 w1 w2 w3 w4
  have big : ∀ e ∈ a, bigEntry e := fun e he => (ha.2 e he).1
  obtain ⟨s, hs, hs1, hs2⟩ := laws_szEntryS_ev a ha.1 big 1048576 (by omega) (by omega)
  obtain ⟨K1, h1⟩ := evx hs
  by_cases hn : s < 0
  · exact ⟨K1, by unfold laws_FnExactDirPut.f; rw [h1 _ (by omega)]; simp only [Option.bind_some]; rw [if_pos hn]⟩
  · have la : a.length ≤ 1048576 := by omega
    obtain ⟨s2, h2, hs3, hs4⟩ := laws_szEntry_f (⟨k0, f1, f2, f3, f4⟩ : S59) w0 s (by omega) (by omega)
    have h2' : laws_szEntry.f k0 f1 f2 f3 f4 s = some s2 := h2
    clear h2
    by_cases hn2 : s2 < 0
    · exact ⟨K1, by unfold laws_FnExactDirPut.f; rw [h1 _ (by omega)]; simp only [Option.bind_some]; rw [if_neg hn, h2', Option.bind_some, if_pos hn2]⟩
    obtain ⟨K3, h3⟩ := evx (laws_toEntryS_ev a la)
    have lb : (a.map convEntry).length = a.length := List.length_map ..
    generalize a.map convEntry = b at *
    obtain ⟨K5, h5⟩ := evx (spec_DirPut_ev b (⟨k0, f1, f2, f3, f4⟩ : S26) (by omega))
    obtain ⟨K6, h6⟩ := evx (impl_DirPut_ev b (⟨k0, f1, f2, f3, f4⟩ : S26) (by omega))
    obtain ⟨K7, h7⟩ := evx (laws_eqEntryS_ev b (by omega))
    have lc := dirPut_length (⟨k0, f1, f2, f3, f4⟩ : S26) b
    generalize dirPut (⟨k0, f1, f2, f3, f4⟩ : S26) b = c at *
    dsimp only at h5 h6
    obtain ⟨K8, h8⟩ := evx (laws_eqEntryS_ev c (by omega))
    obtain ⟨K9, h9⟩ := evx (laws_markEntryS_ev b (by omega) 1 (by omega) (by omega))
    obtain ⟨Ka, ha⟩ := evx (laws_markEntryS_ev c (by omega) 1 (by omega) (by omega))
    obtain ⟨Kb, hb⟩ := evx (laws_heldEntryS_ev c.length (by omega) 1 (by omega) (by omega))
    refine ⟨K1 + K3 + K5 + K6 + K7 + K8 + K9 + Ka + Kb + 1, ?_⟩
    have e1 : ¬ (1 + 5 * (b.length : Int) < 0) := by omega
    have e2 : ¬ (1 + 5 * (c.length : Int) < 0) := by omega
    unfold laws_FnExactDirPut.f laws_toEntry.f
    rw [h1 _ (by omega)]
    simp only [Option.bind_some]
    rw [if_neg hn, h2']
    simp only [Option.bind_some]
    rw [if_neg hn2]
    try rw [h3 _ (by omega)]
    try simp only [Option.bind_some]
    try rw [h5 _ (by omega)]
    try simp only [Option.bind_some]
    try rw [h3 _ (by omega)]
    try simp only [Option.bind_some]
    try rw [h6 _ (by omega)]
    try simp only [Option.bind_some]
    try rw [h8 _ (by omega)]
    try simp only [Option.bind_some]
    try rw [if_pos trivial]
    try rw [h3 _ (by omega)]
    try simp only [Option.bind_some]
    try rw [h7 _ (by omega)]
    try simp only [Option.bind_some]
    try rw [if_pos trivial]
    try rw [h9 _ (by omega)]
    try simp only [Option.bind_some]
    try rw [if_neg e1]
    try rw [h8 _ (by omega)]
    try simp only [Option.bind_some]
    simp only [laws_FnExactDirPut.j0, laws_toEntry.f, Bool.not_true, Option.bind_some]
    try rw [if_neg (by decide)]
    try rw [ha _ (by omega)]
    try simp only [Option.bind_some]
    try rw [hb _ (by omega)]
    try simp only [Option.bind_some]
    try rw [if_neg e2]
    try rw [if_pos trivial]
    try rw [h3 _ (by omega)]
    try simp only [Option.bind_some]
    try rw [h6 _ (by omega)]
    try simp only [Option.bind_some]
    try rw [h8 _ (by omega)]
    try simp only [Option.bind_some]
    try rw [if_pos trivial]
    try rw [hb _ (by omega)]
    try simp only [Option.bind_some]
    try rw [if_neg e2]
    try rw [if_pos trivial]

end Go.Proofs.Ytodmaebgogjpdab.Pure
