/- The pure statement of the law FnExactDiskNew: for all arguments within the printed bounds the printed function of the law answers true. Conditions: only the bounds that the printed statement itself names. -/
import Derived.Test.YtodmaebgogjpdaaPFnExactDiskNewx3
namespace Go.Proofs.Ytodmaebgogjpdaa.Pure
open Go.RowKit Go.Proofs.Ytodmaebgogjpdaa.PFnExactDiskNew Go.Proofs.YtodmaebgogjpdaaW.PrintWords Go.Proofs.YtodmaebgogjpdaaW.PrintLast
set_option linter.unusedVariables false
set_option linter.unusedSimpArgs false

/-! ### Base: strings as lists of bytes, arithmetic of Go's ints -/
/-- The string of a list of bytes. -/
def mkS (l : List UInt8) : ByteArray := ⟨l.toArray⟩
theorem exS (s : ByteArray) : ∃ l, s = mkS l := ⟨s.data.toList, by cases s; simp [mkS]⟩
theorem mkS_size (l : List UInt8) : (mkS l).size = l.length := by simp [mkS, ByteArray.size]
theorem mkS_inj {a b : List UInt8} : mkS a = mkS b ↔ a = b := by
  constructor
  · intro h; have := congrArg (fun s : ByteArray => s.data.toList) h; simpa [mkS] using this
  · intro h; rw [h]
theorem toList_data (s : ByteArray) : s.toList = s.data.toList := by
  have key : ∀ (n i : Nat) (r : List UInt8), s.size - i = n → ByteArray.toList.loop s i r = r.reverse ++ s.data.toList.drop i := by
    intro n
    induction n with
    | zero =>
      intro i r h
      unfold ByteArray.toList.loop
      rw [if_neg (by omega), List.drop_of_length_le (by simp only [Array.length_toList]; have : s.size = s.data.size := rfl; omega), List.append_nil]
    | succ n ih =>
      intro i r h
      unfold ByteArray.toList.loop
      have hi : i < s.data.toList.length := by simp only [Array.length_toList]; have : s.size = s.data.size := rfl; omega
      rw [if_pos (by omega), ih (i + 1) _ (by omega), List.reverse_cons, List.append_assoc, List.drop_eq_getElem_cons hi]
      have : s.get! i = s.data.toList[i] := by
        show s.data[i]! = _
        rw [Array.getElem_toList]
        exact getElem!_pos s.data i (by simpa using hi)
      rw [this]
      rfl
  have := key _ 0 [] rfl
  simpa [ByteArray.toList] using this
theorem mkS_toList (l : List UInt8) : (mkS l).toList = l := by rw [toList_data]; simp [mkS]
theorem mkS_append (a b : List UInt8) : mkS a ++ mkS b = mkS (a ++ b) := by
  apply ByteArray.ext
  simp [mkS, ByteArray.data_append]
theorem mkS_extract (l : List UInt8) (i j : Nat) : (mkS l).extract i j = mkS ((l.drop i).take (j - i)) := by
  apply ByteArray.ext
  rw [ByteArray.data_extract]
  simp only [mkS]
  apply Array.ext'
  rw [Array.toList_extract]
  try simp [List.extract_eq_drop_take]
theorem mkS_nil : (⟨#[]⟩ : ByteArray) = mkS [] := rfl
theorem bt_mkS (l : List UInt8) (i : Nat) (h : i < l.length) : bt (mkS l) (i : Int) = ((l[i]).toNat : Int) := by
  unfold bt
  have h' : ((i : Int)).toNat < (mkS l).size := by rw [mkS_size]; simpa using h
  rw [dif_pos h']
  simp only [Int.toNat_natCast]
  rfl
/-- A slice of bytes as the print tells it. -/
def ints (l : List UInt8) : List Int := l.map fun b => (b.toNat : Int)
theorem ints_length (l : List UInt8) : (ints l).length = l.length := by simp [ints]
theorem ints_append (a b : List UInt8) : ints a ++ ints b = ints (a ++ b) := by simp [ints]
theorem ints_nil : ([] : List Int) = ints [] := rfl
theorem ub_byte (b : UInt8) : UInt8.ofNat ((b.toNat : Int)).toNat = b := by simp
theorem strOfNums_ints (l : List UInt8) : strOfNums (ints l) = mkS l := by
  unfold strOfNums ints mkS
  congr 2
  rw [List.map_map]
  conv => rhs; rw [← List.map_id l]
  apply List.map_congr_left
  intro b _
  simp
theorem ofNat_cast (n : Nat) : ((UInt8.ofNat n).toNat : Int) = (n : Int) % 256 := by simp
theorem ints_one (n : Nat) (x : Int) (h : x % 256 = ((n % 256 : Nat) : Int)) : [x % 256] = ints [UInt8.ofNat n] := by
  simp only [ints, List.map_cons, List.map_nil]
  rw [h, ofNat_cast]
  simp
theorem w64 {x : Int} (h0 : -9223372036854775808 ≤ x) (h1 : x ≤ 9223372036854775807) : wrap64 x = x := by unfold wrap64; omega
theorem w64b (s : ByteArray) (i : Int) : wrap64 (bt s i) = bt s i := by have := bt_range s i; exact w64 (by omega) (by omega)
theorem wfI {x : Int} (h : (Lit.int .i64 x).wf = true) : -9223372036854775808 ≤ x ∧ x ≤ 9223372036854775807 := by
  have e1 : IntKind.i64.min = -9223372036854775808 := by decide
  have e2 : IntKind.i64.max = 9223372036854775807 := by decide
  have h1 : IntKind.i64.min ≤ x ∧ x ≤ IntKind.i64.max := by simpa [Lit.wf] using h
  rw [e1, e2] at h1
  exact h1
theorem tdivp {x y : Int} (h : 0 ≤ x) : Int.tdiv x y = x / y := Int.tdiv_eq_ediv_of_nonneg h
theorem tmodp {x y : Int} (h : 0 ≤ x) : Int.tmod x y = x % y := Int.tmod_eq_emod_of_nonneg h
theorem shl_i64 {x y : Int} {n : Nat} (hy : y = (n : Int)) (hn : n ≤ 64) : shl .i64 x y = wrap64 (x * 2 ^ n) := by
  unfold shl
  have e : min y.toNat IntKind.i64.bits = n := by subst hy; simp [IntKind.bits]; omega
  rw [e, IntKind.wrap_i64, wrap64]
theorem shr_i64 {x y : Int} {n : Nat} (hy : y = (n : Int)) (hn : n ≤ 64) : shr .i64 x y = x / 2 ^ n := by
  unfold shr
  have e : min y.toNat IntKind.i64.bits = n := by subst hy; simp [IntKind.bits]; omega
  rw [e]
theorem getElem_drop_cons {α : Type} {l : List α} {i : Nat} (h : i < l.length) : l.drop i = l[i] :: l.drop (i + 1) := List.drop_eq_getElem_cons h
theorem ev_some {α : Type} {g : Nat → Option α} {r q : α} (h : Ev g r) (hk : r = q) : Ev g q := hk ▸ h
theorem evx {α : Type} {g : Nat → Option α} {r : α} (h : Ev g r) : ∃ K, ∀ k, K ≤ k → g k = some r := h
theorem evi {α : Type} {g : Nat → Option α} {r : α} (K : Nat) (h : ∀ k, K ≤ k → g k = some r) : Ev g r := ⟨K, h⟩

/-! ### impl's in -/
theorem impl_in_f (a b c : Int) : impl_in.f a b c = some (decide (b ≤ a ∧ a ≤ c)) := by
  unfold impl_in.f
  by_cases h : a ≥ b
  · rw [if_pos h]; congr 1; simp [h]
  · rw [if_neg h]; congr 1; simp; omega

/-! ### spec's l1In -/
theorem spec_l1In_f (a b c : Int) : spec_l1In.f a b c = some (decide (b ≤ a ∧ a ≤ c)) := by
  unfold spec_l1In.f
  by_cases h : a ≥ b
  · rw [if_pos h]; congr 1; simp [h]
  · rw [if_neg h]; congr 1; simp; omega

/-! ### DiskNew -/
def diskNew (a : Int) : (List S133) × Int × Int × Bool := if 0 ≤ a ∧ a ≤ 100000 then ([], a, -1, false) else ([], 0, 0, false)
theorem impl_DiskNew_f (a : Int) : impl_DiskNew.f a = some (diskNew a) := by
  unfold impl_DiskNew.f diskNew
  rw [impl_in_f]
  simp only [Option.bind_some, decide_eq_true_eq]
  split <;> rfl
theorem spec_DiskNew_f (a : Int) : spec_DiskNew.f a = some (diskNew a) := by
  unfold spec_DiskNew.f diskNew
  rw [spec_l1In_f]
  simp only [Option.bind_some, decide_eq_true_eq]
  split <;> rfl
theorem diskNew_1 (a : Int) : (diskNew a).1 = [] := by unfold diskNew; split <;> rfl

/-! ### eq of File -/
theorem laws_eqFile_self (e : S133) : laws_eqFile.f e.f0 e.f1 e.f2 e.f0 e.f1 e.f2 = some true := by
  unfold laws_eqFile.f
  simp
theorem laws_eqFileS_l0 (l : List S133) (hl : l.length ≤ 4611686018427387904) (d : Nat) : ∀ (i : Nat), d + i = l.length → Ev (fun k => laws_eqFileS.l0 k l l (i : Int)) true := by
  induction d with
  | zero =>
    intro i hi
    refine evi (1) fun k hk => ?_
    obtain ⟨k, rfl⟩ : ∃ m, k = m + 1 := ⟨k - 1, by omega⟩
    simp only [laws_eqFileS.l0]
    rw [if_neg (by omega)]
  | succ d ih =>
    intro i hi
    obtain ⟨K, hK⟩ := evx (ih (i + 1) (by omega))
    refine evi (K + 1) fun k hk => ?_
    obtain ⟨k, rfl⟩ : ∃ m, k = m + 1 := ⟨k - 1, by omega⟩
    simp only [laws_eqFileS.l0]
    rw [if_pos (by omega), if_pos (by omega), if_pos (by omega), laws_eqFile_self]
    simp only [Option.bind_some]
    rw [if_pos trivial, w64 (by omega) (by omega)]
    exact hK k (by omega)
theorem laws_eqFileS_ev (l : List S133) (hl : l.length ≤ 4611686018427387904) : Ev (fun k => laws_eqFileS.f k l l) true := by
  obtain ⟨K, hK⟩ := evx (laws_eqFileS_l0 l hl l.length 0 rfl)
  refine evi (K) fun k hk => ?_
  unfold laws_eqFileS.f
  rw [if_pos rfl]
  exact hK k hk

/-! ### eq of Disk -/
theorem laws_eqDisk_ev (l : List S133) (a b : Int) (c : Bool) (hl : l.length ≤ 4611686018427387904) : Ev (fun k => laws_eqDisk.f k l a b c l a b c) true := by
  obtain ⟨K, hK⟩ := evx (laws_eqFileS_ev l hl)
  refine evi (K) fun k hk => ?_
  unfold laws_eqDisk.f
  rw [hK k hk]
  simp

/-! ### marks: the texts and numbers that the laws write into memory -/
theorem laws_markText_l0 (m : Nat) : ∀ (n : Nat) (s : ByteArray), n ≤ m → s.size + n ≤ 4611686018427387904 → ∃ r, Ev (fun k => laws_markText.l0 k (n : Int) s) r := by
  induction m using Nat.strongRecOn with
  | ind m ih =>
  intro n s hn hs
  by_cases h0 : n = 0
  · subst h0
    refine ⟨(⟨#[109]⟩ : ByteArray) ++ s, evi 1 (fun k hk => ?_)⟩
    obtain ⟨k, rfl⟩ : ∃ m, k = m + 1 := ⟨k - 1, by omega⟩
    simp only [laws_markText.l0]
    rw [if_neg (by omega), if_pos (by omega)]
  · obtain ⟨r, hr⟩ := ih (n / 10) (by omega) (n / 10) (strOfNums [(wrap64 (48 + (Int.tmod (n : Int) 10))) % 256] ++ s) (Nat.le_refl _) (by rw [ByteArray.size_append, strOfNums_size]; simp only [List.length_singleton]; omega)
    obtain ⟨K, hK⟩ := evx hr
    refine ⟨r, evi (K + 1) (fun k hk => ?_)⟩
    obtain ⟨k, rfl⟩ : ∃ m, k = m + 1 := ⟨k - 1, by omega⟩
    simp only [laws_markText.l0, Option.bind_some]
    rw [if_pos (by omega), if_pos (by rw [strOfNums_size]; simp only [List.length_singleton]; omega), tdivp (by omega), w64 (x := (n : Int) / 10) (by omega) (by omega), show ((n : Int) / 10) = ((n / 10 : Nat) : Int) from by omega]
    exact hK k (by omega)
theorem laws_markText_ex (a : Int) : ∃ r, a ≤ 4611686018427387904 → Ev (fun k => laws_markText.f k a) r := by
  by_cases h : a ≤ 0
  · exact ⟨_, fun _ => evi 0 (fun k _ => by unfold laws_markText.f; rw [if_pos h])⟩
  · by_cases h2 : a ≤ 4611686018427387904
    · obtain ⟨n, rfl⟩ := Int.eq_ofNat_of_zero_le (show 0 ≤ a by omega)
      obtain ⟨r, hr⟩ := laws_markText_l0 n n (⟨#[]⟩ : ByteArray) (Nat.le_refl _) (by show 0 + n ≤ _; omega)
      obtain ⟨K, hK⟩ := evx hr
      exact ⟨r, fun _ => evi K (fun k hk => by unfold laws_markText.f; rw [if_neg h]; exact hK k hk)⟩
    · exact ⟨(⟨#[]⟩ : ByteArray), fun hh => absurd hh h2⟩
noncomputable def markS (a : Int) : ByteArray := Classical.choose (laws_markText_ex a)
theorem markS_ev (a : Int) (h : a ≤ 4611686018427387904) : Ev (fun k => laws_markText.f k a) (markS a) := Classical.choose_spec (laws_markText_ex a) h
theorem toNat_cast' (i : Nat) : ((i : Int) : Int).toNat = i := Int.toNat_natCast i

/-! ### mark and held of File -/
noncomputable def stepFile (a : Int) : S133 := ⟨markS (a), markS (a + 1), a + 1 + 1⟩
noncomputable def marksFile (n : Nat) (a : Int) : List S133 := (List.range n).map fun (j : Nat) => stepFile (a + 3 * (j : Int))
theorem marksFile_length (n : Nat) (a : Int) : (marksFile n a).length = n := by simp [marksFile]
theorem rd_T133_set (x : List S133) (i : Nat) (v : S133) (h : i < x.length) : rd_T133 (x.set i v) (i : Int) = v := by simp [rd_T133, h]
theorem laws_markFileS_l0 (n : Nat) (hn : n ≤ 2097152) (a0 : Int) (ha0 : 0 ≤ a0) (ha1 : a0 ≤ 1099511627776) (d : Nat) : ∀ (i : Nat) (x : List S133) (a : Int), d + i = n → x.length = n → a = a0 + 3 * (i : Int) → (∀ j, j < i → x[j]? = some (stepFile (a0 + 3 * (j : Int)))) →
    Ev (fun k => laws_markFileS.l0 k x a (i : Int)) (a0 + 3 * (n : Int), marksFile n a0) := by
  induction d with
  | zero =>
    intro i x a hi hx ha hj
    refine evi (1) fun k hk => ?_
    obtain ⟨k, rfl⟩ : ∃ m, k = m + 1 := ⟨k - 1, by omega⟩
    simp only [laws_markFileS.l0]
    rw [if_neg (by omega)]
    have e : x = marksFile n a0 := by
      apply List.ext_getElem?
      intro j
      by_cases hjn : j < n
      · rw [hj j (by omega)]
        simp [marksFile, hjn]
      · rw [List.getElem?_eq_none (by omega), List.getElem?_eq_none (by rw [marksFile_length]; omega)]
    rw [e, ha, show i = n from by omega]
  | succ d ih =>
    intro i x a hi hx ha hj
    have hlt : i < x.length := by omega
    obtain ⟨M0, hM0⟩ := evx (markS_ev (a) (by omega))
    obtain ⟨M1, hM1⟩ := evx (markS_ev (a + 1) (by omega))
    obtain ⟨K, hK⟩ := evx (ih (i + 1) (x.set i (stepFile a)) (a + 1 + 1 + 1) (by omega) (by rw [List.length_set]; exact hx) (by omega) (by
      intro j hji
      by_cases hij : j = i
      · rw [hij, List.getElem?_set_self hlt, ha]
      · rw [List.getElem?_set_ne (by omega)]
        exact hj j (by omega)))
    refine evi (K + M0 + M1 + 1) fun k hk => ?_
    obtain ⟨k, rfl⟩ : ∃ m, k = m + 1 := ⟨k - 1, by omega⟩
    simp only [laws_markFileS.l0]
    have e0 : (0 : Int) ≤ (i : Int) := by omega
    have e1 : (i : Int) < (x.length : Int) := by omega
    have hset : ∀ v : S133, rd_T133 (x.set i v) (i : Int) = v := fun v => rd_T133_set x i v hlt
    have hK' := hK k (by omega)
    have m0 := hM0 k (by omega)
    have m1 := hM1 k (by omega)
    have b0 : -9223372036854775808 ≤ (i : Int) + 1 ∧ (i : Int) + 1 ≤ 9223372036854775807 := by omega
    have b1 : -9223372036854775808 ≤ a + 1 ∧ a + 1 ≤ 9223372036854775807 := by omega
    have b2 : -9223372036854775808 ≤ a + 1 + 1 ∧ a + 1 + 1 ≤ 9223372036854775807 := by omega
    have b3 : -9223372036854775808 ≤ a + 1 + 1 + 1 ∧ a + 1 + 1 + 1 ≤ 9223372036854775807 := by omega
    have c0 : (i : Int) + 1 = ((i + 1 : Nat) : Int) := by omega
    have e2 : wrap64 ((i : Int) + 1) = ((i + 1 : Nat) : Int) := by rw [w64 b0.1 b0.2, c0]
    have w1 : wrap64 (a + 1) = a + 1 := w64 b1.1 b1.2
    have w2 : wrap64 (a + 1 + 1) = a + 1 + 1 := w64 b2.1 b2.2
    have w3 : wrap64 (a + 1 + 1 + 1) = a + 1 + 1 + 1 := w64 b3.1 b3.2
    simp only [w1, w2, w3, m0, m1, if_pos e0, if_pos e1, e2, Option.bind_some, Int.toNat_natCast, hset, List.set_set]
    exact hK'
theorem laws_markFileS_ev (l : List S133) (hn : l.length ≤ 2097152) (a : Int) (ha0 : 0 ≤ a) (ha1 : a ≤ 1099511627776) : Ev (fun k => laws_markFileS.f k l a) (a + 3 * (l.length : Int), marksFile l.length a) := by
  have := laws_markFileS_l0 l.length hn a ha0 ha1 l.length 0 l a rfl rfl (by omega) (fun j hj => by omega)
  exact this
theorem laws_heldFileS_l0 (n : Nat) (hn : n ≤ 2097152) (a0 : Int) (ha0 : 0 ≤ a0) (ha1 : a0 ≤ 1099511627776) (d : Nat) : ∀ (i : Nat) (a : Int), d + i = n → a = a0 + 3 * (i : Int) → Ev (fun k => laws_heldFileS.l0 k (marksFile n a0) a (i : Int)) (a0 + 3 * (n : Int)) := by
  induction d with
  | zero =>
    intro i a hi ha
    refine evi (1) fun k hk => ?_
    obtain ⟨k, rfl⟩ : ∃ m, k = m + 1 := ⟨k - 1, by omega⟩
    simp only [laws_heldFileS.l0]
    rw [if_neg (by rw [marksFile_length]; omega), ha, show i = n from by omega]
  | succ d ih =>
    intro i a hi ha
    obtain ⟨M0, hM0⟩ := evx (markS_ev (a) (by omega))
    obtain ⟨M1, hM1⟩ := evx (markS_ev (a + 1) (by omega))
    obtain ⟨K, hK⟩ := evx (ih (i + 1) (a + 1 + 1 + 1) (by omega) (by omega))
    refine evi (K + M0 + M1 + 1) fun k hk => ?_
    obtain ⟨k, rfl⟩ : ∃ m, k = m + 1 := ⟨k - 1, by omega⟩
    simp only [laws_heldFileS.l0]
    have e0 : (0 : Int) ≤ (i : Int) := by omega
    have e1 : (i : Int) < ((marksFile n a0).length : Int) := by rw [marksFile_length]; omega
    have hr : rd_T133 (marksFile n a0) (i : Int) = stepFile a := by
      have hin : i < n := by omega
      simp [rd_T133, marksFile, hin, ha]
    have hK' := hK k (by omega)
    have m0 := hM0 k (by omega)
    have m1 := hM1 k (by omega)
    have b0 : -9223372036854775808 ≤ (i : Int) + 1 ∧ (i : Int) + 1 ≤ 9223372036854775807 := by omega
    have b1 : -9223372036854775808 ≤ a + 1 ∧ a + 1 ≤ 9223372036854775807 := by omega
    have b2 : -9223372036854775808 ≤ a + 1 + 1 ∧ a + 1 + 1 ≤ 9223372036854775807 := by omega
    have b3 : -9223372036854775808 ≤ a + 1 + 1 + 1 ∧ a + 1 + 1 + 1 ≤ 9223372036854775807 := by omega
    have c0 : (i : Int) + 1 = ((i + 1 : Nat) : Int) := by omega
    have e2 : wrap64 ((i : Int) + 1) = ((i + 1 : Nat) : Int) := by rw [w64 b0.1 b0.2, c0]
    have w1 : wrap64 (a + 1) = a + 1 := w64 b1.1 b1.2
    have w2 : wrap64 (a + 1 + 1) = a + 1 + 1 := w64 b2.1 b2.2
    have w3 : wrap64 (a + 1 + 1 + 1) = a + 1 + 1 + 1 := w64 b3.1 b3.2
    simp only [w1, w2, w3, m0, m1, if_pos e0, if_pos e1, e2, Option.bind_some, hr, stepFile, if_true]
    exact hK'
theorem laws_heldFileS_ev (n : Nat) (hn : n ≤ 2097152) (a : Int) (ha0 : 0 ≤ a) (ha1 : a ≤ 1099511627776) : Ev (fun k => laws_heldFileS.f k (marksFile n a) a) (a + 3 * (n : Int)) := by
  have := laws_heldFileS_l0 n hn a ha0 ha1 n 0 a rfl (by omega)
  exact this

/-! ### mark and held of Disk -/
theorem laws_markDisk_ev (l : List S133) (a b : Int) (c : Bool) (hl : l.length ≤ 2097152) (x : Int) (h0 : 0 ≤ x) (h1 : x ≤ 1099511627776) : Ev (fun k => laws_markDisk.f k l a b c x) (x + 3 * (l.length : Int), marksFile l.length x) := by
  obtain ⟨K, hK⟩ := evx (laws_markFileS_ev l hl x h0 h1)
  refine evi (K) fun k hk => ?_
  unfold laws_markDisk.f
  rw [hK k hk]
  rfl
theorem laws_heldDisk_ev (n : Nat) (a b : Int) (c : Bool) (hl : n ≤ 2097152) (x : Int) (h0 : 0 ≤ x) (h1 : x ≤ 1099511627776) : Ev (fun k => laws_heldDisk.f k (marksFile n x) a b c x) (x + 3 * (n : Int)) := by
  obtain ⟨K, hK⟩ := evx (laws_heldFileS_ev n hl x h0 h1)
  refine evi (K) fun k hk => ?_
  unfold laws_heldDisk.f
  rw [hK k hk]
  simp only [Option.bind_some]
  rw [if_neg (by omega)]

/-! ### the law -/
theorem FnExactDiskNew : laws_FnExactDiskNew.Pure := by
  intro a ha
  have hl : (diskNew a).1.length ≤ 2097152 := by rw [diskNew_1]; simp
  obtain ⟨K1, h1⟩ := evx (laws_eqDisk_ev (diskNew a).1 (diskNew a).2.1 (diskNew a).2.2.1 (diskNew a).2.2.2 (by omega))
  obtain ⟨K2, h2⟩ := evx (laws_markDisk_ev (diskNew a).1 (diskNew a).2.1 (diskNew a).2.2.1 (diskNew a).2.2.2 hl 1 (by omega) (by omega))
  obtain ⟨K3, h3⟩ := evx (laws_heldDisk_ev (diskNew a).1.length (diskNew a).2.1 (diskNew a).2.2.1 (diskNew a).2.2.2 hl 1 (by omega) (by omega))
  refine ⟨K1 + K2 + K3, ?_⟩
  have e : ¬ (1 + 3 * ((diskNew a).1.length : Int) < 0) := by omega
  unfold laws_FnExactDiskNew.f
  rw [impl_DiskNew_f, spec_DiskNew_f]
  simp (disch := omega) only [h1, h2, h3, Option.bind_some, if_true, if_neg e]

end Go.Proofs.Ytodmaebgogjpdaa.Pure
