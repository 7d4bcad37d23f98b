/- The pure statement of the law FnExactSameDisk: for all arguments within the printed bounds the printed function of the law answers true. Conditions: only the bounds that the printed statement itself names. -/
import Derived.Test.YtodmaebgogjpdaaPFnExactSameDiskx5
namespace Go.Proofs.Ytodmaebgogjpdaa.Pure
open Go.RowKit Go.Proofs.Ytodmaebgogjpdaa.PFnExactSameDisk Go.Proofs.YtodmaebgogjpdaaW.PrintWords Go.Proofs.YtodmaebgogjpdaaW.PrintLast
set_option linter.unusedVariables false
set_option linter.unusedSimpArgs false

/-! ### Base: strings as lists of bytes, arithmetic of Go's ints -/
/-- The string of a list of bytes. -/
def mkS (l : List UInt8) : ByteArray := ⟨l.toArray⟩
theorem exS (s : ByteArray) : ∃ l, s = mkS l := ⟨s.data.toList, by cases s; simp [mkS]⟩
theorem mkS_size (l : List UInt8) : (mkS l).size = l.length := by simp [mkS, ByteArray.size]
theorem mkS_inj {a b : List UInt8} : mkS a = mkS b ↔ a = b := by
  constructor
  · intro h; have := congrArg (fun s : ByteArray => s.data.toList) h; simpa [mkS] using this
  · intro h; rw [h]
theorem toList_data (s : ByteArray) : s.toList = s.data.toList := by
  have key : ∀ (n i : Nat) (r : List UInt8), s.size - i = n → ByteArray.toList.loop s i r = r.reverse ++ s.data.toList.drop i := by
    intro n
    induction n with
    | zero =>
      intro i r h
      unfold ByteArray.toList.loop
      rw [if_neg (by omega), List.drop_of_length_le (by simp only [Array.length_toList]; have : s.size = s.data.size := rfl; omega), List.append_nil]
    | succ n ih =>
      intro i r h
      unfold ByteArray.toList.loop
      have hi : i < s.data.toList.length := by simp only [Array.length_toList]; have : s.size = s.data.size := rfl; omega
      rw [if_pos (by omega), ih (i + 1) _ (by omega), List.reverse_cons, List.append_assoc, List.drop_eq_getElem_cons hi]
      have : s.get! i = s.data.toList[i] := by
        show s.data[i]! = _
        rw [Array.getElem_toList]
        exact getElem!_pos s.data i (by simpa using hi)
      rw [this]
      rfl
  have := key _ 0 [] rfl
  simpa [ByteArray.toList] using this
theorem mkS_toList (l : List UInt8) : (mkS l).toList = l := by rw [toList_data]; simp [mkS]
theorem mkS_append (a b : List UInt8) : mkS a ++ mkS b = mkS (a ++ b) := by
  apply ByteArray.ext
  simp [mkS, ByteArray.data_append]
theorem mkS_extract (l : List UInt8) (i j : Nat) : (mkS l).extract i j = mkS ((l.drop i).take (j - i)) := by
  apply ByteArray.ext
  rw [ByteArray.data_extract]
  simp only [mkS]
  apply Array.ext'
  rw [Array.toList_extract]
  try simp [List.extract_eq_drop_take]
theorem mkS_nil : (⟨#[]⟩ : ByteArray) = mkS [] := rfl
theorem bt_mkS (l : List UInt8) (i : Nat) (h : i < l.length) : bt (mkS l) (i : Int) = ((l[i]).toNat : Int) := by
  unfold bt
  have h' : ((i : Int)).toNat < (mkS l).size := by rw [mkS_size]; simpa using h
  rw [dif_pos h']
  simp only [Int.toNat_natCast]
  rfl
/-- A slice of bytes as the print tells it. -/
def ints (l : List UInt8) : List Int := l.map fun b => (b.toNat : Int)
theorem ints_length (l : List UInt8) : (ints l).length = l.length := by simp [ints]
theorem ints_append (a b : List UInt8) : ints a ++ ints b = ints (a ++ b) := by simp [ints]
theorem ints_nil : ([] : List Int) = ints [] := rfl
theorem ub_byte (b : UInt8) : UInt8.ofNat ((b.toNat : Int)).toNat = b := by simp
theorem strOfNums_ints (l : List UInt8) : strOfNums (ints l) = mkS l := by
  unfold strOfNums ints mkS
  congr 2
  rw [List.map_map]
  conv => rhs; rw [← List.map_id l]
  apply List.map_congr_left
  intro b _
  simp
theorem ofNat_cast (n : Nat) : ((UInt8.ofNat n).toNat : Int) = (n : Int) % 256 := by simp
theorem ints_one (n : Nat) (x : Int) (h : x % 256 = ((n % 256 : Nat) : Int)) : [x % 256] = ints [UInt8.ofNat n] := by
  simp only [ints, List.map_cons, List.map_nil]
  rw [h, ofNat_cast]
  simp
theorem w64 {x : Int} (h0 : -9223372036854775808 ≤ x) (h1 : x ≤ 9223372036854775807) : wrap64 x = x := by unfold wrap64; omega
theorem w64b (s : ByteArray) (i : Int) : wrap64 (bt s i) = bt s i := by have := bt_range s i; exact w64 (by omega) (by omega)
theorem wfI {x : Int} (h : (Lit.int .i64 x).wf = true) : -9223372036854775808 ≤ x ∧ x ≤ 9223372036854775807 := by
  have e1 : IntKind.i64.min = -9223372036854775808 := by decide
  have e2 : IntKind.i64.max = 9223372036854775807 := by decide
  have h1 : IntKind.i64.min ≤ x ∧ x ≤ IntKind.i64.max := by simpa [Lit.wf] using h
  rw [e1, e2] at h1
  exact h1
theorem tdivp {x y : Int} (h : 0 ≤ x) : Int.tdiv x y = x / y := Int.tdiv_eq_ediv_of_nonneg h
theorem tmodp {x y : Int} (h : 0 ≤ x) : Int.tmod x y = x % y := Int.tmod_eq_emod_of_nonneg h
theorem shl_i64 {x y : Int} {n : Nat} (hy : y = (n : Int)) (hn : n ≤ 64) : shl .i64 x y = wrap64 (x * 2 ^ n) := by
  unfold shl
  have e : min y.toNat IntKind.i64.bits = n := by subst hy; simp [IntKind.bits]; omega
  rw [e, IntKind.wrap_i64, wrap64]
theorem shr_i64 {x y : Int} {n : Nat} (hy : y = (n : Int)) (hn : n ≤ 64) : shr .i64 x y = x / 2 ^ n := by
  unfold shr
  have e : min y.toNat IntKind.i64.bits = n := by subst hy; simp [IntKind.bits]; omega
  rw [e]
theorem getElem_drop_cons {α : Type} {l : List α} {i : Nat} (h : i < l.length) : l.drop i = l[i] :: l.drop (i + 1) := List.drop_eq_getElem_cons h
theorem ev_some {α : Type} {g : Nat → Option α} {r q : α} (h : Ev g r) (hk : r = q) : Ev g q := hk ▸ h
theorem evx {α : Type} {g : Nat → Option α} {r : α} (h : Ev g r) : ∃ K, ∀ k, K ≤ k → g k = some r := h
theorem evi {α : Type} {g : Nat → Option α} {r : α} (K : Nat) (h : ∀ k, K ≤ k → g k = some r) : Ev g r := ⟨K, h⟩

/-! ### filling a row -/
theorem fill_step {α : Type} (m : List α) (z : α) (i n : Nat) (x : α) (hn : m.length = n) (h : i < n) (hx : m[i]? = some x) : (m.take i ++ List.replicate (n - i) z).set i x = m.take (i + 1) ++ List.replicate (n - (i + 1)) z := by
  subst hn
  have hl : (m.take i).length = i := by rw [List.length_take]; omega
  have e : m.length - i = (m.length - (i + 1)) + 1 := by omega
  have ex : m[i] = x := by rw [List.getElem?_eq_getElem h] at hx; exact Option.some.inj hx
  rw [e, List.replicate_succ, List.set_append_right _ _ (by omega), hl, Nat.sub_self, List.set_cons_zero, List.take_succ_eq_append_getElem h, List.append_assoc, ex]
  rfl

/-! ### sz of File -/
def bigFile (e : S155) : Prop := e.f0.size ≤ maxLen ∧ e.f1.size ≤ maxLen
def smallFile (e : S155) : Prop := e.f0.size ≤ 1048576 ∧ e.f1.size ≤ 1048576
theorem laws_szFile_f (e : S155) (h : bigFile e) (a : Int) (h0 : 0 ≤ a) (h1 : a ≤ 1048576) : ∃ s, laws_szFile.f e.f0 e.f1 e.f2 a = some s ∧ s ≤ a ∧ (s < 0 ∨ 0 ≤ s ∧ smallFile e) := by
  have hmax : maxLen = 9223372036854775807 := rfl
  unfold bigFile at h
  unfold laws_szFile.f smallFile wrap64
  repeat' split
  all_goals refine ⟨_, rfl, by omega, by omega⟩
theorem laws_szFileS_l0 (l : List S155) (hl : l.length ≤ 4611686018427387904) (hb : ∀ e ∈ l, bigFile e) (d : Nat) : ∀ (i : Nat) (a : Int), d + i = l.length → 0 ≤ a → a ≤ 1048576 →
    ∃ s, Ev (fun k => laws_szFileS.l0 k l a (i : Int)) s ∧ s ≤ a ∧ (s < 0 ∨ 0 ≤ s ∧ ∀ e ∈ l.drop i, smallFile e) := by
  induction d with
  | zero =>
    intro i a hi h0 h1
    refine ⟨a, evi (1) (fun k hk => ?_), by omega, .inr ⟨h0, fun e he => by rw [List.drop_of_length_le (by omega)] at he; cases he⟩⟩
    obtain ⟨k, rfl⟩ : ∃ m, k = m + 1 := ⟨k - 1, by omega⟩
    simp only [laws_szFileS.l0]
    rw [if_neg (by omega)]
  | succ d ih =>
    intro i a hi h0 h1
    have hlt : i < l.length := by omega
    have hrd : rd_T155 l (i : Int) = l[i] := by simp [rd_T155, hlt]
    obtain ⟨s, hs, hsa, hs0⟩ := laws_szFile_f l[i] (hb _ (List.getElem_mem hlt)) a h0 h1
    by_cases hn : s < 0
    · refine ⟨-1, evi (1) (fun k hk => ?_), by omega, .inl (by omega)⟩
      obtain ⟨k, rfl⟩ : ∃ m, k = m + 1 := ⟨k - 1, by omega⟩
      simp only [laws_szFileS.l0]
      rw [if_pos (by omega), if_pos (by omega), hrd, hs]
      simp only [Option.bind_some]
      rw [if_pos hn]
    · obtain ⟨r, hr, hra, hr0⟩ := ih (i + 1) s (by omega) (by omega) (by omega)
      obtain ⟨K, hK⟩ := evx hr
      refine ⟨r, evi (K + 1) (fun k hk => ?_), by omega, ?_⟩
      · obtain ⟨k, rfl⟩ : ∃ m, k = m + 1 := ⟨k - 1, by omega⟩
        simp only [laws_szFileS.l0]
        rw [if_pos (by omega), if_pos (by omega), hrd, hs]
        simp only [Option.bind_some]
        rw [if_neg hn, w64 (by omega) (by omega)]
        exact hK k (by omega)
      · rcases hr0 with hr0 | ⟨hr0, hr1⟩
        · exact .inl hr0
        · refine .inr ⟨hr0, fun e he => ?_⟩
          rw [List.drop_eq_getElem_cons hlt] at he
          rcases List.mem_cons.1 he with rfl | he
          · rcases hs0 with hs0 | ⟨_, hs0⟩
            · exact absurd hs0 hn
            · exact hs0
          · exact hr1 e he
theorem laws_szFileS_ev (l : List S155) (hl : l.length ≤ maxLen) (hb : ∀ e ∈ l, bigFile e) (a : Int) (h0 : 0 ≤ a) (h1 : a ≤ 1048576) :
    ∃ s, Ev (fun k => laws_szFileS.f k l a) s ∧ s ≤ a ∧ (s < 0 ∨ 0 ≤ s ∧ l.length ≤ 1048576 ∧ ∀ e ∈ l, smallFile e) := by
  have hmax : maxLen = 9223372036854775807 := rfl
  by_cases hn : wrap64 (a - (l.length : Int)) < 0
  · refine ⟨-1, evi (0) (fun k hk => ?_), by omega, .inl (by omega)⟩
    unfold laws_szFileS.f
    rw [if_pos hn]
  · have hle : (l.length : Int) ≤ a := by unfold wrap64 at hn; omega
    rw [w64 (by omega) (by omega)] at hn
    obtain ⟨s, hs, hsa, hs0⟩ := laws_szFileS_l0 l (by omega) hb l.length 0 (a - (l.length : Int)) rfl (by omega) (by omega)
    obtain ⟨K, hK⟩ := evx hs
    refine ⟨s, evi (K) (fun k hk => ?_), by omega, ?_⟩
    · unfold laws_szFileS.f
      rw [w64 (x := a - (l.length : Int)) (by omega) (by omega), if_neg hn]
      exact hK k hk
    · rcases hs0 with hs0 | ⟨hs0, hs1⟩
      · exact .inl hs0
      · exact .inr ⟨hs0, by omega, by simpa using hs1⟩

/-! ### to of File -/
def convFile (e : S155) : S133 := ⟨e.f0, e.f1, e.f2⟩
theorem laws_toFileS_l0 (l : List S155) (hl : l.length ≤ 4611686018427387904) (d : Nat) : ∀ (i : Nat), d + i = l.length → Ev (fun k => laws_toFileS.l0 k l ((l.map convFile).take i ++ List.replicate (l.length - i) z133) (i : Int)) (l.map convFile) := by
  induction d with
  | zero =>
    intro i hi
    refine evi (1) fun k hk => ?_
    obtain ⟨k, rfl⟩ : ∃ m, k = m + 1 := ⟨k - 1, by omega⟩
    simp only [laws_toFileS.l0]
    rw [if_neg (by omega), List.take_of_length_le (by rw [List.length_map]; omega), show l.length - i = 0 from by omega, List.replicate_zero, List.append_nil]
  | succ d ih =>
    intro i hi
    have hlt : i < l.length := by omega
    have hrd : rd_T155 l (i : Int) = l[i] := by simp [rd_T155, hlt]
    obtain ⟨K, hK⟩ := evx (ih (i + 1) (by omega))
    refine evi (K + 1) fun k hk => ?_
    obtain ⟨k, rfl⟩ : ∃ m, k = m + 1 := ⟨k - 1, by omega⟩
    simp only [laws_toFileS.l0, laws_toFile.f, Option.bind_some]
    rw [if_pos (by omega), if_pos (by omega), if_pos (by rw [List.length_append, List.length_take, List.length_replicate, List.length_map]; omega), hrd, Int.toNat_natCast, w64 (by omega) (by omega)]
    have e : (⟨l[i].f0, l[i].f1, l[i].f2⟩ : S133) = convFile l[i] := rfl
    rw [e, fill_step (l.map convFile) z133 i l.length (convFile l[i]) (List.length_map ..) hlt (by rw [List.getElem?_map, List.getElem?_eq_getElem hlt]; rfl)]
    exact hK k (by omega)
theorem laws_toFileS_ev (l : List S155) (hl : l.length ≤ 1048576) : Ev (fun k => laws_toFileS.f k l) (l.map convFile) := by
  obtain ⟨K, hK⟩ := evx (laws_toFileS_l0 l (by omega) l.length 0 rfl)
  refine evi (K) fun k hk => ?_
  unfold laws_toFileS.f
  rw [if_pos (by omega), if_pos (by omega), Int.toNat_natCast]
  have := hK k hk
  rw [List.take_zero, List.nil_append, Nat.sub_zero] at this
  exact this

/-! ### eq of File -/
theorem laws_eqFile_self (e : S133) : laws_eqFile.f e.f0 e.f1 e.f2 e.f0 e.f1 e.f2 = some true := by
  unfold laws_eqFile.f
  simp
theorem laws_eqFileS_l0 (l : List S133) (hl : l.length ≤ 4611686018427387904) (d : Nat) : ∀ (i : Nat), d + i = l.length → Ev (fun k => laws_eqFileS.l0 k l l (i : Int)) true := by
  induction d with
  | zero =>
    intro i hi
    refine evi (1) fun k hk => ?_
    obtain ⟨k, rfl⟩ : ∃ m, k = m + 1 := ⟨k - 1, by omega⟩
    simp only [laws_eqFileS.l0]
    rw [if_neg (by omega)]
  | succ d ih =>
    intro i hi
    obtain ⟨K, hK⟩ := evx (ih (i + 1) (by omega))
    refine evi (K + 1) fun k hk => ?_
    obtain ⟨k, rfl⟩ : ∃ m, k = m + 1 := ⟨k - 1, by omega⟩
    simp only [laws_eqFileS.l0]
    rw [if_pos (by omega), if_pos (by omega), if_pos (by omega), laws_eqFile_self]
    simp only [Option.bind_some]
    rw [if_pos trivial, w64 (by omega) (by omega)]
    exact hK k (by omega)
theorem laws_eqFileS_ev (l : List S133) (hl : l.length ≤ 4611686018427387904) : Ev (fun k => laws_eqFileS.f k l l) true := by
  obtain ⟨K, hK⟩ := evx (laws_eqFileS_l0 l hl l.length 0 rfl)
  refine evi (K) fun k hk => ?_
  unfold laws_eqFileS.f
  rw [if_pos rfl]
  exact hK k hk

/-! ### eq of Disk -/
theorem laws_eqDisk_ev (l : List S133) (a b : Int) (c : Bool) (hl : l.length ≤ 4611686018427387904) : Ev (fun k => laws_eqDisk.f k l a b c l a b c) true := by
  obtain ⟨K, hK⟩ := evx (laws_eqFileS_ev l hl)
  refine evi (K) fun k hk => ?_
  unfold laws_eqDisk.f
  rw [hK k hk]
  simp

/-! ### sz, to of Disk -/
theorem laws_szDisk_ev (l : List S155) (cap fuel : Int) (down : Bool) (hl : l.length ≤ maxLen) (hb : ∀ e ∈ l, bigFile e) (a : Int) (h0 : 0 ≤ a) (h1 : a ≤ 1048576) :
    ∃ s, Ev (fun k => laws_szDisk.f k l cap fuel down a) s ∧ s ≤ a ∧ (s < 0 ∨ 0 ≤ s ∧ l.length ≤ 1048576 ∧ ∀ e ∈ l, smallFile e) := by
  obtain ⟨s, hs, hs1, hs2⟩ := laws_szFileS_ev l hl hb a h0 h1
  obtain ⟨K, hK⟩ := evx hs
  by_cases hn : s < 0
  · refine ⟨-1, evi (K) (fun k hk => ?_), by omega, .inl (by omega)⟩
    unfold laws_szDisk.f
    rw [hK k hk]
    simp only [Option.bind_some]
    rw [if_pos hn]
  · refine ⟨s, evi (K) (fun k hk => ?_), hs1, hs2⟩
    unfold laws_szDisk.f
    rw [hK k hk]
    simp only [Option.bind_some]
    rw [if_neg hn]
theorem laws_toDisk_ev (l : List S155) (cap fuel : Int) (down : Bool) (hl : l.length ≤ 1048576) : Ev (fun k => laws_toDisk.f k l cap fuel down) (l.map convFile, cap, fuel, down) := by
  obtain ⟨K, hK⟩ := evx (laws_toFileS_ev l hl)
  refine evi (K) fun k hk => ?_
  unfold laws_toDisk.f
  rw [hK k hk]
  rfl

/-! ### SameDisk -/
def filEq (a b : S133) : Bool := (a.f0.toList == b.f0.toList) && ((a.f1.toList == b.f1.toList) && (a.f2 == b.f2))
def filsEq (a b : List S133) : Nat → Nat → Bool
  | 0, _ => true
  | d + 1, i => filEq (a.getD i z133) (b.getD i z133) && filsEq a b d (i + 1)
theorem filNe (a b : S133) : (!(a.f0.toList == b.f0.toList) || (!(a.f1.toList == b.f1.toList) || (!(a.f2 == b.f2)))) = !filEq a b := by
  unfold filEq
  simp [Bool.not_and]
def sameDiskB (a : List S133) (c f : Int) (d : Bool) (a' : List S133) (c' f' : Int) (d' : Bool) : Bool := decide (a.length = a'.length) && (decide (c = c') && (decide (f = f') && ((d == d') && filsEq a a' a.length 0)))
theorem spec_SameDisk_l0 (a b : List S133) (c f : Int) (dn : Bool) (c' f' : Int) (dn' : Bool) (hab : a.length = b.length) (hl : a.length ≤ 4611686018427387904) (d : Nat) : ∀ (i : Nat), d + i = a.length → Ev (fun k => spec_SameDisk.l0 k (i : Int) a c f dn b c' f' dn') (filsEq a b d i) := by
  induction d with
  | zero =>
    intro i hi
    refine evi (1) fun k hk => ?_
    obtain ⟨k, rfl⟩ : ∃ m, k = m + 1 := ⟨k - 1, by omega⟩
    simp only [spec_SameDisk.l0]
    rw [if_neg (by omega)]
    rfl
  | succ d ih =>
    intro i hi
    obtain ⟨K, hK⟩ := evx (ih (i + 1) (by omega))
    refine evi (K + 1) fun k hk => ?_
    obtain ⟨k, rfl⟩ : ∃ m, k = m + 1 := ⟨k - 1, by omega⟩
    simp only [spec_SameDisk.l0]
    have h1 : rd_T133 a (i : Int) = a.getD i z133 := by simp [rd_T133]
    have h2 : rd_T133 b (i : Int) = b.getD i z133 := by simp [rd_T133]
    rw [if_pos (by omega), if_pos (by omega), if_pos (by omega), h1, h2, filNe, filsEq]
    cases filEq (a.getD i z133) (b.getD i z133) with
    | false => rfl
    | true =>
      rw [if_neg (by decide), w64 (by omega) (by omega)]
      exact hK k (by omega)
theorem impl_SameDisk_l0 (a b : List S133) (c f : Int) (dn : Bool) (c' f' : Int) (dn' : Bool) (hab : a.length = b.length) (hl : a.length ≤ 4611686018427387904) (d : Nat) : ∀ (i : Nat), d + i = a.length → Ev (fun k => impl_SameDisk.l0 k (a.length : Int) (i : Int) a c f dn b c' f' dn') (filsEq a b d i) := by
  induction d with
  | zero =>
    intro i hi
    refine evi (1) fun k hk => ?_
    obtain ⟨k, rfl⟩ : ∃ m, k = m + 1 := ⟨k - 1, by omega⟩
    simp only [impl_SameDisk.l0]
    rw [if_neg (by omega)]
    rfl
  | succ d ih =>
    intro i hi
    obtain ⟨K, hK⟩ := evx (ih (i + 1) (by omega))
    refine evi (K + 1) fun k hk => ?_
    obtain ⟨k, rfl⟩ : ∃ m, k = m + 1 := ⟨k - 1, by omega⟩
    simp only [impl_SameDisk.l0]
    have h1 : rd_T133 a (i : Int) = a.getD i z133 := by simp [rd_T133]
    have h2 : rd_T133 b (i : Int) = b.getD i z133 := by simp [rd_T133]
    rw [if_pos (by omega), if_pos (by omega), if_pos (by omega), if_pos (by omega), h1, h2, filNe, filsEq]
    cases filEq (a.getD i z133) (b.getD i z133) with
    | false => rfl
    | true =>
      rw [if_neg (by decide), w64 (by omega) (by omega)]
      exact hK k (by omega)
theorem spec_SameDisk_ev (a b : List S133) (c f : Int) (dn : Bool) (c' f' : Int) (dn' : Bool) (hl : a.length ≤ 4611686018427387904) : Ev (fun k => spec_SameDisk.f k a c f dn b c' f' dn') (sameDiskB a c f dn b c' f' dn') := by
  unfold sameDiskB
  by_cases h : a.length = b.length
  · obtain ⟨K, hK⟩ := evx (spec_SameDisk_l0 a b c f dn c' f' dn' h hl a.length 0 rfl)
    refine evi (K + 1) fun k hk => ?_
    obtain ⟨k, rfl⟩ : ∃ m, k = m + 1 := ⟨k - 1, by omega⟩
    have hgo := hK k (by omega)
    have hgo' : spec_SameDisk.l0 k 0 a c f dn b c' f' dn' = some (filsEq a b a.length 0) := hgo
    have hi : (a.length : Int) = (b.length : Int) := by omega
    unfold spec_SameDisk.f
    simp only [spec_SameDisk.j0, hgo', if_pos hi, decide_eq_true h]
    by_cases h1 : c = c' <;> by_cases h2 : f = f' <;> cases dn <;> cases dn' <;> simp [h1, h2]
  · refine evi (1) fun k hk => ?_
    obtain ⟨k, rfl⟩ : ∃ m, k = m + 1 := ⟨k - 1, by omega⟩
    have hi : ¬ ((a.length : Int) = (b.length : Int)) := by omega
    unfold spec_SameDisk.f
    simp only [spec_SameDisk.j0, if_neg hi, decide_eq_false h]
    simp
theorem impl_SameDisk_ev (a b : List S133) (c f : Int) (dn : Bool) (c' f' : Int) (dn' : Bool) (hl : a.length ≤ 4611686018427387904) : Ev (fun k => impl_SameDisk.f k a c f dn b c' f' dn') (sameDiskB a c f dn b c' f' dn') := by
  unfold sameDiskB
  by_cases h : a.length = b.length
  · obtain ⟨K, hK⟩ := evx (impl_SameDisk_l0 a b c f dn c' f' dn' h hl a.length 0 rfl)
    refine evi (K + 1) fun k hk => ?_
    obtain ⟨k, rfl⟩ : ∃ m, k = m + 1 := ⟨k - 1, by omega⟩
    have hgo := hK k (by omega)
    have hgo' : impl_SameDisk.l0 k (a.length : Int) 0 a c f dn b c' f' dn' = some (filsEq a b a.length 0) := hgo
    have hi : ((a.length : Int) != (b.length : Int)) = false := by rw [bne_eq_false_iff_eq]; omega
    unfold impl_SameDisk.f
    simp only [impl_SameDisk.j0, hgo', hi, decide_eq_true h]
    by_cases h1 : c = c' <;> by_cases h2 : f = f' <;> cases dn <;> cases dn' <;> simp [h1, h2]
  · refine evi (1) fun k hk => ?_
    obtain ⟨k, rfl⟩ : ∃ m, k = m + 1 := ⟨k - 1, by omega⟩
    have hi : ((a.length : Int) != (b.length : Int)) = true := by rw [bne_iff_ne]; omega
    unfold impl_SameDisk.f
    simp only [impl_SameDisk.j0, hi, decide_eq_false h]
    by_cases h1 : c = c' <;> by_cases h2 : f = f' <;> cases dn <;> cases dn' <;> simp [h1, h2]

/-! ### the law -/
theorem FnExactSameDisk : laws_FnExactSameDisk.Pure := by
  intro a ca fa da b cb fb db ha hca hfa hb hcb hfb
  have big : ∀ l : List S155, (∀ z ∈ l, (z.f0.size ≤ maxLen) ∧ (z.f1.size ≤ maxLen) ∧ ((Lit.int .i64 z.f2).wf = true)) → ∀ e ∈ l, bigFile e := fun l h e he => ⟨(h e he).1, (h e he).2.1⟩
  obtain ⟨s, hs, hs1, hs2⟩ := laws_szDisk_ev a ca fa da ha.1 (big a ha.2) 1048576 (by omega) (by omega)
  obtain ⟨K1, h1⟩ := evx hs
  by_cases hn : s < 0
  · exact ⟨K1, by unfold laws_FnExactSameDisk.f; rw [h1 _ (by omega)]; simp only [Option.bind_some]; rw [if_pos hn]⟩
  · obtain ⟨t, ht, ht1, ht2⟩ := laws_szDisk_ev b cb fb db hb.1 (big b hb.2) s (by omega) hs1
    obtain ⟨K2, h2⟩ := evx ht
    by_cases hn2 : t < 0
    · exact ⟨K1 + K2, by unfold laws_FnExactSameDisk.f; rw [h1 _ (by omega)]; simp only [Option.bind_some]; rw [if_neg hn, h2 _ (by omega)]; simp only [Option.bind_some]; rw [if_pos hn2]⟩
    · have la : a.length ≤ 1048576 := by omega
      have lb : b.length ≤ 1048576 := by omega
      obtain ⟨K3, h3⟩ := evx (laws_toDisk_ev a ca fa da la)
      obtain ⟨K4, h4⟩ := evx (laws_toDisk_ev b cb fb db lb)
      have lA : (a.map convFile).length = a.length := List.length_map ..
      have lB : (b.map convFile).length = b.length := List.length_map ..
      generalize a.map convFile = A at *
      generalize b.map convFile = B at *
      obtain ⟨K5, h5⟩ := evx (spec_SameDisk_ev A B ca fa da cb fb db (by omega))
      obtain ⟨K6, h6⟩ := evx (impl_SameDisk_ev A B ca fa da cb fb db (by omega))
      obtain ⟨K7, h7⟩ := evx (laws_eqDisk_ev A ca fa da (by omega))
      obtain ⟨K8, h8⟩ := evx (laws_eqDisk_ev B cb fb db (by omega))
      refine ⟨K1 + K2 + K3 + K4 + K5 + K6 + K7 + K8, ?_⟩
      unfold laws_FnExactSameDisk.f
      try rw [h1 _ (by omega)]
      try simp only [Option.bind_some]
      try rw [if_neg hn]
      try rw [h2 _ (by omega)]
      try simp only [Option.bind_some]
      try rw [if_neg hn2]
      try rw [h3 _ (by omega)]
      try simp only [Option.bind_some]
      try rw [h4 _ (by omega)]
      try simp only [Option.bind_some]
      try rw [h5 _ (by omega)]
      try simp only [Option.bind_some]
      try rw [h3 _ (by omega)]
      try simp only [Option.bind_some]
      try rw [h4 _ (by omega)]
      try simp only [Option.bind_some]
      try rw [h6 _ (by omega)]
      try simp only [Option.bind_some]
      rw [if_neg (by simp)]
      try rw [h3 _ (by omega)]
      try simp only [Option.bind_some]
      try rw [h7 _ (by omega)]
      try simp only [Option.bind_some]
      try rw [if_pos trivial]
      try rw [h4 _ (by omega)]
      try simp only [Option.bind_some]
      try rw [h8 _ (by omega)]
      try simp only [Option.bind_some]
      try rw [if_pos trivial]

end Go.Proofs.Ytodmaebgogjpdaa.Pure
