/- The pure statement of the law FnExactPower: for all arguments within the printed bounds the printed function of the law answers true. Conditions: only the bounds that the printed statement itself names. -/
import Derived.Test.YtigbekefjbfopaaPFnExactPowerx10
namespace Go.Proofs.Ytigbekefjbfopaa.Pure
open Go.RowKit Go.Proofs.Ytigbekefjbfopaa.PFnExactPower Go.Proofs.YtigbekefjbfopaaW.PrintWords Go.Proofs.YtigbekefjbfopaaW.PrintLast
set_option linter.unusedVariables false
set_option linter.unusedSimpArgs false

/-- The string of a list of bytes. -/
def mkS (l : List UInt8) : ByteArray := ⟨l.toArray⟩
theorem exS (s : ByteArray) : ∃ l, s = mkS l := ⟨s.data.toList, by cases s; simp [mkS]⟩
theorem mkS_size (l : List UInt8) : (mkS l).size = l.length := by simp [mkS, ByteArray.size]
theorem toList_data (s : ByteArray) : s.toList = s.data.toList := by
  have key : ∀ (n i : Nat) (r : List UInt8), s.size - i = n → ByteArray.toList.loop s i r = r.reverse ++ s.data.toList.drop i := by
    intro n
    induction n with
    | zero =>
      intro i r h
      unfold ByteArray.toList.loop
      rw [if_neg (by omega), List.drop_of_length_le (by simp only [Array.length_toList]; have : s.size = s.data.size := rfl; omega), List.append_nil]
    | succ n ih =>
      intro i r h
      unfold ByteArray.toList.loop
      have hi : i < s.data.toList.length := by simp only [Array.length_toList]; have : s.size = s.data.size := rfl; omega
      rw [if_pos (by omega), ih (i + 1) _ (by omega), List.reverse_cons, List.append_assoc, List.drop_eq_getElem_cons hi]
      have : s.get! i = s.data.toList[i] := by
        show s.data[i]! = _
        rw [Array.getElem_toList]
        exact getElem!_pos s.data i (by simpa using hi)
      rw [this]
      rfl
  have := key _ 0 [] rfl
  simpa [ByteArray.toList] using this
theorem mkS_toList (l : List UInt8) : (mkS l).toList = l := by rw [toList_data]; simp [mkS]
theorem bt_mkS (l : List UInt8) (i : Nat) (h : i < l.length) : bt (mkS l) (i : Int) = ((l[i]).toNat : Int) := by
  unfold bt
  have h' : ((i : Int)).toNat < (mkS l).size := by rw [mkS_size]; simpa using h
  rw [dif_pos h']
  simp only [Int.toNat_natCast]
  rfl
theorem w64 {x : Int} (h0 : -9223372036854775808 ≤ x) (h1 : x ≤ 9223372036854775807) : wrap64 x = x := by unfold wrap64; omega
theorem tdivp {x y : Int} (h : 0 ≤ x) : Int.tdiv x y = x / y := Int.tdiv_eq_ediv_of_nonneg h
theorem tmodp {x y : Int} (h : 0 ≤ x) : Int.tmod x y = x % y := Int.tmod_eq_emod_of_nonneg h
theorem evx {α : Type} {g : Nat → Option α} {r : α} (h : Ev g r) : ∃ K, ∀ k, K ≤ k → g k = some r := h
theorem evi {α : Type} {g : Nat → Option α} {r : α} (K : Nat) (h : ∀ k, K ≤ k → g k = some r) : Ev g r := ⟨K, h⟩

theorem fill_step {α : Type} (m : List α) (z : α) (i n : Nat) (x : α) (hn : m.length = n) (h : i < n) (hx : m[i]? = some x) : (m.take i ++ List.replicate (n - i) z).set i x = m.take (i + 1) ++ List.replicate (n - (i + 1)) z := by
  subst hn
  have hl : (m.take i).length = i := by rw [List.length_take]; omega
  have e : m.length - i = (m.length - (i + 1)) + 1 := by omega
  have ex : m[i] = x := by rw [List.getElem?_eq_getElem h] at hx; exact Option.some.inj hx
  rw [e, List.replicate_succ, List.set_append_right _ _ (by omega), hl, Nat.sub_self, List.set_cons_zero, List.take_succ_eq_append_getElem h, List.append_assoc, ex]
  rfl

theorem laws_toIntS_l0 (l : List Int) (hl : l.length ≤ 4611686018427387904) (d : Nat) : ∀ (i : Nat), d + i = l.length → Ev (fun k => laws_toIntS.l0 k l (l.take i ++ List.replicate (l.length - i) 0) (i : Int)) l := by
  induction d with
  | zero =>
    intro i hi
    refine evi (1) fun k hk => ?_
    obtain ⟨k, rfl⟩ : ∃ m, k = m + 1 := ⟨k - 1, by omega⟩
    simp only [laws_toIntS.l0]
    rw [if_neg (by omega), List.take_of_length_le (by omega), show l.length - i = 0 from by omega, List.replicate_zero, List.append_nil]
  | succ d ih =>
    intro i hi
    have hlt : i < l.length := by omega
    have hrd : rd l (i : Int) = l[i] := by simp [rd, hlt]
    obtain ⟨K, hK⟩ := evx (ih (i + 1) (by omega))
    refine evi (K + 1) fun k hk => ?_
    obtain ⟨k, rfl⟩ : ∃ m, k = m + 1 := ⟨k - 1, by omega⟩
    simp only [laws_toIntS.l0]
    rw [if_pos (by omega), if_pos (by omega), if_pos (by rw [List.length_append, List.length_take, List.length_replicate]; omega), hrd, Int.toNat_natCast, w64 (by omega) (by omega), fill_step l 0 i l.length l[i] rfl hlt (List.getElem?_eq_getElem hlt)]
    exact hK k (by omega)
theorem laws_toIntS_ev (l : List Int) (hl : l.length ≤ 1048576) : Ev (fun k => laws_toIntS.f k l) l := by
  obtain ⟨K, hK⟩ := evx (laws_toIntS_l0 l (by omega) l.length 0 rfl)
  refine evi (K) fun k hk => ?_
  unfold laws_toIntS.f
  rw [if_pos (by omega), if_pos (by omega), Int.toNat_natCast]
  have := hK k hk
  rw [List.take_zero, List.nil_append, Nat.sub_zero] at this
  exact this
theorem laws_eqIntS_l0 (l : List Int) (hl : l.length ≤ 4611686018427387904) (d : Nat) : ∀ (i : Nat), d + i = l.length → Ev (fun k => laws_eqIntS.l0 k l l (i : Int)) true := by
  induction d with
  | zero =>
    intro i hi
    refine evi (1) fun k hk => ?_
    obtain ⟨k, rfl⟩ : ∃ m, k = m + 1 := ⟨k - 1, by omega⟩
    simp only [laws_eqIntS.l0]
    rw [if_neg (by omega)]
  | succ d ih =>
    intro i hi
    obtain ⟨K, hK⟩ := evx (ih (i + 1) (by omega))
    refine evi (K + 1) fun k hk => ?_
    obtain ⟨k, rfl⟩ : ∃ m, k = m + 1 := ⟨k - 1, by omega⟩
    simp only [laws_eqIntS.l0]
    rw [if_pos (by omega), if_pos (by omega), if_pos (by omega), if_pos trivial, w64 (by omega) (by omega)]
    exact hK k (by omega)
theorem laws_eqIntS_ev (l : List Int) (hl : l.length ≤ 4611686018427387904) : Ev (fun k => laws_eqIntS.f k l l) true := by
  obtain ⟨K, hK⟩ := evx (laws_eqIntS_l0 l hl l.length 0 rfl)
  refine evi (K) fun k hk => ?_
  unfold laws_eqIntS.f
  rw [if_pos rfl]
  exact hK k hk

theorem impl_in_f (a b c : Int) : impl_in.f a b c = some (decide (b ≤ a ∧ a ≤ c)) := by
  unfold impl_in.f
  by_cases h : a ≥ b
  · rw [if_pos h]; congr 1; simp [h]
  · rw [if_neg h]; congr 1; simp; omega

theorem spec_l1In_f (a b c : Int) : spec_l1In.f a b c = some (decide (b ≤ a ∧ a ≤ c)) := by
  unfold spec_l1In.f
  by_cases h : a ≥ b
  · rw [if_pos h]; congr 1; simp [h]
  · rw [if_neg h]; congr 1; simp; omega

def nameC (b : UInt8) : Bool := decide (97 ≤ b.toNat ∧ b.toNat ≤ 122 ∨ 48 ≤ b.toNat ∧ b.toNat ≤ 57)
def nameB (l : List UInt8) : Bool := l.all nameC && decide (1 ≤ l.length ∧ l.length ≤ 12)

theorem impl_NameOk_l0 (l : List UInt8) (hl : l.length ≤ 9000000000000000000) (d : Nat) : ∀ (i : Nat), d + i = l.length → Ev (fun k => impl_NameOk.l0 k (mkS l) (i : Int)) ((l.drop i).all nameC && decide (1 ≤ l.length ∧ l.length ≤ 12)) := by
  induction d with
  | zero =>
    intro i hi
    refine evi (1) fun k hk => ?_
    obtain ⟨k, rfl⟩ : ∃ m, k = m + 1 := ⟨k - 1, by omega⟩
    simp only [impl_NameOk.l0]
    rw [if_neg (by rw [mkS_size]; omega), impl_in_f, List.drop_of_length_le (by omega), mkS_size]
    simp only [Option.bind_some, List.all_nil, Bool.true_and]
    congr 1
    apply decide_eq_decide.2
    omega
  | succ d ih =>
    intro i hi
    have hlt : i < l.length := by omega
    obtain ⟨K, hK⟩ := evx (ih (i + 1) (by omega))
    refine evi (K + 2) fun k hk => ?_
    obtain ⟨k, rfl⟩ : ∃ m, k = m + 2 := ⟨k - 2, by omega⟩
    have hgo := hK k (by omega)
    rw [show k + 2 = (k + 1) + 1 from rfl, impl_NameOk.l0]
    simp only [impl_NameOk.j1]
    rw [if_pos (by rw [mkS_size]; omega), if_pos (by omega), bt_mkS l i hlt, w64 (by omega) (by omega), List.drop_eq_getElem_cons hlt, List.all_cons]
    rw [show ((i : Int) + 1) = ((i + 1 : Nat) : Int) from by omega, hgo]
    by_cases h : 97 ≤ l[i].toNat ∧ l[i].toNat ≤ 122 ∨ 48 ≤ l[i].toNat ∧ l[i].toNat ≤ 57
    · have : nameC l[i] = true := by simpa [nameC] using h
      rw [this, Bool.true_and]
      repeat' split
      all_goals first | rfl | (exfalso; omega) | (exfalso; simp_all; omega) | (simp_all; done)
    · have : nameC l[i] = false := by simpa [nameC] using h
      rw [this, Bool.false_and, Bool.false_and]
      repeat' split
      all_goals first | rfl | (exfalso; omega) | (exfalso; simp_all; omega) | (simp_all; done)
theorem impl_NameOk_ev (l : List UInt8) (hl : l.length ≤ 9000000000000000000) : Ev (fun k => impl_NameOk.f k (mkS l)) (nameB l) := by
  have := impl_NameOk_l0 l hl l.length 0 rfl
  exact this

theorem spec_NameOk_l0 (l : List UInt8) (hl : l.length ≤ 9000000000000000000) (d : Nat) : ∀ (i : Nat), d + i = l.length → Ev (fun k => spec_NameOk.l0 k (mkS l) (i : Int)) ((l.drop i).all nameC && decide (1 ≤ l.length ∧ l.length ≤ 12)) := by
  induction d with
  | zero =>
    intro i hi
    refine evi (1) fun k hk => ?_
    obtain ⟨k, rfl⟩ : ∃ m, k = m + 1 := ⟨k - 1, by omega⟩
    simp only [spec_NameOk.l0]
    rw [if_neg (by rw [mkS_size]; omega), spec_l1In_f, List.drop_of_length_le (by omega), mkS_size]
    simp only [Option.bind_some, List.all_nil, Bool.true_and]
    congr 1
    apply decide_eq_decide.2
    omega
  | succ d ih =>
    intro i hi
    have hlt : i < l.length := by omega
    obtain ⟨K, hK⟩ := evx (ih (i + 1) (by omega))
    refine evi (K + 2) fun k hk => ?_
    obtain ⟨k, rfl⟩ : ∃ m, k = m + 2 := ⟨k - 2, by omega⟩
    have hgo := hK k (by omega)
    rw [show k + 2 = (k + 1) + 1 from rfl, spec_NameOk.l0]
    simp only [spec_NameOk.j1]
    rw [if_pos (by rw [mkS_size]; omega), if_pos (by omega), bt_mkS l i hlt, w64 (by omega) (by omega), List.drop_eq_getElem_cons hlt, List.all_cons]
    rw [show ((i : Int) + 1) = ((i + 1 : Nat) : Int) from by omega, hgo]
    by_cases h : 97 ≤ l[i].toNat ∧ l[i].toNat ≤ 122 ∨ 48 ≤ l[i].toNat ∧ l[i].toNat ≤ 57
    · have : nameC l[i] = true := by simpa [nameC] using h
      rw [this, Bool.true_and]
      repeat' split
      all_goals first | rfl | (exfalso; omega) | (exfalso; simp_all; omega) | (simp_all; done)
    · have : nameC l[i] = false := by simpa [nameC] using h
      rw [this, Bool.false_and, Bool.false_and]
      repeat' split
      all_goals first | rfl | (exfalso; omega) | (exfalso; simp_all; omega) | (simp_all; done)
theorem spec_NameOk_ev (l : List UInt8) (hl : l.length ≤ 9000000000000000000) : Ev (fun k => spec_NameOk.f k (mkS l)) (nameB l) := by
  have := spec_NameOk_l0 l hl l.length 0 rfl
  exact this

def bigFile (e : S100) : Prop := e.f0.size ≤ maxLen ∧ e.f1.size ≤ maxLen
def smallFile (e : S100) : Prop := e.f0.size ≤ 1048576 ∧ e.f1.size ≤ 1048576
theorem laws_szFile_f (e : S100) (h : bigFile e) (a : Int) (h0 : 0 ≤ a) (h1 : a ≤ 1048576) : ∃ s, laws_szFile.f e.f0 e.f1 e.f2 a = some s ∧ s ≤ a ∧ (s < 0 ∨ 0 ≤ s ∧ smallFile e) := by
  have hmax : maxLen = 9223372036854775807 := rfl
  unfold bigFile at h
  unfold laws_szFile.f smallFile wrap64
  repeat' split
  all_goals refine ⟨_, rfl, by omega, by omega⟩
theorem laws_szFileS_l0 (l : List S100) (hl : l.length ≤ 4611686018427387904) (hb : ∀ e ∈ l, bigFile e) (d : Nat) : ∀ (i : Nat) (a : Int), d + i = l.length → 0 ≤ a → a ≤ 1048576 →
    ∃ s, Ev (fun k => laws_szFileS.l0 k l a (i : Int)) s ∧ s ≤ a ∧ (s < 0 ∨ 0 ≤ s ∧ ∀ e ∈ l.drop i, smallFile e) := by
  induction d with
  | zero =>
    intro i a hi h0 h1
    refine ⟨a, evi (1) (fun k hk => ?_), by omega, .inr ⟨h0, fun e he => by rw [List.drop_of_length_le (by omega)] at he; cases he⟩⟩
    obtain ⟨k, rfl⟩ : ∃ m, k = m + 1 := ⟨k - 1, by omega⟩
    simp only [laws_szFileS.l0]
    rw [if_neg (by omega)]
  | succ d ih =>
    intro i a hi h0 h1
    have hlt : i < l.length := by omega
    have hrd : rd_T100 l (i : Int) = l[i] := by simp [rd_T100, hlt]
    obtain ⟨s, hs, hsa, hs0⟩ := laws_szFile_f l[i] (hb _ (List.getElem_mem hlt)) a h0 h1
    by_cases hn : s < 0
    · refine ⟨-1, evi (1) (fun k hk => ?_), by omega, .inl (by omega)⟩
      obtain ⟨k, rfl⟩ : ∃ m, k = m + 1 := ⟨k - 1, by omega⟩
      simp only [laws_szFileS.l0]
      rw [if_pos (by omega), if_pos (by omega), hrd, hs]
      simp only [Option.bind_some]
      rw [if_pos hn]
    · obtain ⟨r, hr, hra, hr0⟩ := ih (i + 1) s (by omega) (by omega) (by omega)
      obtain ⟨K, hK⟩ := evx hr
      refine ⟨r, evi (K + 1) (fun k hk => ?_), by omega, ?_⟩
      · obtain ⟨k, rfl⟩ : ∃ m, k = m + 1 := ⟨k - 1, by omega⟩
        simp only [laws_szFileS.l0]
        rw [if_pos (by omega), if_pos (by omega), hrd, hs]
        simp only [Option.bind_some]
        rw [if_neg hn, w64 (by omega) (by omega)]
        exact hK k (by omega)
      · rcases hr0 with hr0 | ⟨hr0, hr1⟩
        · exact .inl hr0
        · refine .inr ⟨hr0, fun e he => ?_⟩
          rw [List.drop_eq_getElem_cons hlt] at he
          rcases List.mem_cons.1 he with rfl | he
          · rcases hs0 with hs0 | ⟨_, hs0⟩
            · exact absurd hs0 hn
            · exact hs0
          · exact hr1 e he
theorem laws_szFileS_ev (l : List S100) (hl : l.length ≤ maxLen) (hb : ∀ e ∈ l, bigFile e) (a : Int) (h0 : 0 ≤ a) (h1 : a ≤ 1048576) :
    ∃ s, Ev (fun k => laws_szFileS.f k l a) s ∧ s ≤ a ∧ (s < 0 ∨ 0 ≤ s ∧ l.length ≤ 1048576 ∧ ∀ e ∈ l, smallFile e) := by
  have hmax : maxLen = 9223372036854775807 := rfl
  by_cases hn : wrap64 (a - (l.length : Int)) < 0
  · refine ⟨-1, evi (0) (fun k hk => ?_), by omega, .inl (by omega)⟩
    unfold laws_szFileS.f
    rw [if_pos hn]
  · have hle : (l.length : Int) ≤ a := by unfold wrap64 at hn; omega
    rw [w64 (by omega) (by omega)] at hn
    obtain ⟨s, hs, hsa, hs0⟩ := laws_szFileS_l0 l (by omega) hb l.length 0 (a - (l.length : Int)) rfl (by omega) (by omega)
    obtain ⟨K, hK⟩ := evx hs
    refine ⟨s, evi (K) (fun k hk => ?_), by omega, ?_⟩
    · unfold laws_szFileS.f
      rw [w64 (x := a - (l.length : Int)) (by omega) (by omega), if_neg hn]
      exact hK k hk
    · rcases hs0 with hs0 | ⟨hs0, hs1⟩
      · exact .inl hs0
      · exact .inr ⟨hs0, by omega, by simpa using hs1⟩

def convFile (e : S100) : S45 := ⟨e.f0, e.f1, e.f2⟩
theorem laws_toFileS_l0 (l : List S100) (hl : l.length ≤ 4611686018427387904) (d : Nat) : ∀ (i : Nat), d + i = l.length → Ev (fun k => laws_toFileS.l0 k l ((l.map convFile).take i ++ List.replicate (l.length - i) z45) (i : Int)) (l.map convFile) := by
  induction d with
  | zero =>
    intro i hi
    refine evi (1) fun k hk => ?_
    obtain ⟨k, rfl⟩ : ∃ m, k = m + 1 := ⟨k - 1, by omega⟩
    simp only [laws_toFileS.l0]
    rw [if_neg (by omega), List.take_of_length_le (by rw [List.length_map]; omega), show l.length - i = 0 from by omega, List.replicate_zero, List.append_nil]
  | succ d ih =>
    intro i hi
    have hlt : i < l.length := by omega
    have hrd : rd_T100 l (i : Int) = l[i] := by simp [rd_T100, hlt]
    obtain ⟨K, hK⟩ := evx (ih (i + 1) (by omega))
    refine evi (K + 1) fun k hk => ?_
    obtain ⟨k, rfl⟩ : ∃ m, k = m + 1 := ⟨k - 1, by omega⟩
    simp only [laws_toFileS.l0, laws_toFile.f, Option.bind_some]
    rw [if_pos (by omega), if_pos (by omega), if_pos (by rw [List.length_append, List.length_take, List.length_replicate, List.length_map]; omega), hrd, Int.toNat_natCast, w64 (by omega) (by omega)]
    have e : (⟨l[i].f0, l[i].f1, l[i].f2⟩ : S45) = convFile l[i] := rfl
    rw [e, fill_step (l.map convFile) z45 i l.length (convFile l[i]) (List.length_map ..) hlt (by rw [List.getElem?_map, List.getElem?_eq_getElem hlt]; rfl)]
    exact hK k (by omega)
theorem laws_toFileS_ev (l : List S100) (hl : l.length ≤ 1048576) : Ev (fun k => laws_toFileS.f k l) (l.map convFile) := by
  obtain ⟨K, hK⟩ := evx (laws_toFileS_l0 l (by omega) l.length 0 rfl)
  refine evi (K) fun k hk => ?_
  unfold laws_toFileS.f
  rw [if_pos (by omega), if_pos (by omega), Int.toNat_natCast]
  have := hK k hk
  rw [List.take_zero, List.nil_append, Nat.sub_zero] at this
  exact this

theorem laws_eqFile_self (e : S45) : laws_eqFile.f e.f0 e.f1 e.f2 e.f0 e.f1 e.f2 = some true := by
  unfold laws_eqFile.f
  simp
theorem laws_eqFileS_l0 (l : List S45) (hl : l.length ≤ 4611686018427387904) (d : Nat) : ∀ (i : Nat), d + i = l.length → Ev (fun k => laws_eqFileS.l0 k l l (i : Int)) true := by
  induction d with
  | zero =>
    intro i hi
    refine evi (1) fun k hk => ?_
    obtain ⟨k, rfl⟩ : ∃ m, k = m + 1 := ⟨k - 1, by omega⟩
    simp only [laws_eqFileS.l0]
    rw [if_neg (by omega)]
  | succ d ih =>
    intro i hi
    obtain ⟨K, hK⟩ := evx (ih (i + 1) (by omega))
    refine evi (K + 1) fun k hk => ?_
    obtain ⟨k, rfl⟩ : ∃ m, k = m + 1 := ⟨k - 1, by omega⟩
    simp only [laws_eqFileS.l0]
    rw [if_pos (by omega), if_pos (by omega), if_pos (by omega), laws_eqFile_self]
    simp only [Option.bind_some]
    rw [if_pos trivial, w64 (by omega) (by omega)]
    exact hK k (by omega)
theorem laws_eqFileS_ev (l : List S45) (hl : l.length ≤ 4611686018427387904) : Ev (fun k => laws_eqFileS.f k l l) true := by
  obtain ⟨K, hK⟩ := evx (laws_eqFileS_l0 l hl l.length 0 rfl)
  refine evi (K) fun k hk => ?_
  unfold laws_eqFileS.f
  rw [if_pos rfl]
  exact hK k hk

theorem laws_eqDisk_ev (l : List S45) (a b : Int) (c : Bool) (hl : l.length ≤ 4611686018427387904) : Ev (fun k => laws_eqDisk.f k l a b c l a b c) true := by
  obtain ⟨K, hK⟩ := evx (laws_eqFileS_ev l hl)
  refine evi (K) fun k hk => ?_
  unfold laws_eqDisk.f
  rw [hK k hk]
  simp

def smallF (e : S45) : Prop := e.f0.size ≤ 1048576 ∧ e.f1.size ≤ 1048576
def useN (l : List S45) (i : Nat) : Nat := ((l.take i).map fun e => e.f1.size).sum
theorem useN_zero (l : List S45) : useN l 0 = 0 := by simp [useN]
theorem useN_succ (l : List S45) (i : Nat) (h : i < l.length) : useN l (i + 1) = useN l i + l[i].f1.size := by
  unfold useN
  rw [List.take_succ_eq_append_getElem h, List.map_append, List.sum_append]
  simp
theorem useN_le (l : List S45) (hs : ∀ e ∈ l, smallF e) (i : Nat) (hi : i ≤ l.length) : useN l i ≤ i * 1048576 := by
  induction i with
  | zero => simp [useN_zero]
  | succ i ih =>
    have := (hs _ (List.getElem_mem (show i < l.length by omega))).2
    rw [useN_succ l i (by omega)]
    have := ih (by omega)
    omega
def diskAt (l : List S45) (i : Nat) : Bool :=
  nameB (l.getD i z45).f0.toList && (decide (0 ≤ (l.getD i z45).f2 ∧ (l.getD i z45).f2 ≤ ((l.getD i z45).f1.size : Int)) && (decide (i = 0) || Go.Op.bytesLess (l.getD (i - 1) z45).f0.toList (l.getD i z45).f0.toList))
def diskFrom (l : List S45) : Nat → Nat → Bool
  | 0, _ => true
  | d + 1, i => diskAt l i && diskFrom l d (i + 1)
def diskOkB (l : List S45) (cap fuel : Int) : Bool := decide (l.length ≤ 130) && (decide (0 ≤ cap ∧ cap ≤ 100000) && (decide (-1 ≤ fuel ∧ fuel ≤ 100000) && (diskFrom l l.length 0 && decide ((useN l l.length : Int) ≤ cap))))

theorem laws_szDisk_ev (l : List S100) (cap fuel : Int) (down : Bool) (hl : l.length ≤ maxLen) (hb : ∀ e ∈ l, bigFile e) (a : Int) (h0 : 0 ≤ a) (h1 : a ≤ 1048576) :
    ∃ s, Ev (fun k => laws_szDisk.f k l cap fuel down a) s ∧ s ≤ a ∧ (s < 0 ∨ 0 ≤ s ∧ l.length ≤ 1048576 ∧ ∀ e ∈ l, smallFile e) := by
  obtain ⟨s, hs, hs1, hs2⟩ := laws_szFileS_ev l hl hb a h0 h1
  obtain ⟨K, hK⟩ := evx hs
  by_cases hn : s < 0
  · refine ⟨-1, evi (K) (fun k hk => ?_), by omega, .inl (by omega)⟩
    unfold laws_szDisk.f
    rw [hK k hk]
    simp only [Option.bind_some]
    rw [if_pos hn]
  · refine ⟨s, evi (K) (fun k hk => ?_), hs1, hs2⟩
    unfold laws_szDisk.f
    rw [hK k hk]
    simp only [Option.bind_some]
    rw [if_neg hn]
theorem laws_toDisk_ev (l : List S100) (cap fuel : Int) (down : Bool) (hl : l.length ≤ 1048576) : Ev (fun k => laws_toDisk.f k l cap fuel down) (l.map convFile, cap, fuel, down) := by
  obtain ⟨K, hK⟩ := evx (laws_toFileS_ev l hl)
  refine evi (K) fun k hk => ?_
  unfold laws_toDisk.f
  rw [hK k hk]
  rfl
theorem small_conv (l : List S100) (h : ∀ e ∈ l, smallFile e) : ∀ e ∈ l.map convFile, smallF e := by
  intro e he
  obtain ⟨x, hx, rfl⟩ := List.mem_map.1 he
  exact h x hx

theorem impl_NameOk_s (s : ByteArray) (h : s.size ≤ 1048576) : Ev (fun k => impl_NameOk.f k s) (nameB s.toList) := by
  obtain ⟨l, rfl⟩ := exS s
  rw [mkS_size] at h
  rw [mkS_toList]
  exact impl_NameOk_ev l (by omega)
theorem impl_DiskOk_l0 (l : List S45) (cap fuel : Int) (down : Bool) (hl : l.length ≤ 1048576) (hs : ∀ e ∈ l, smallF e) (d : Nat) : ∀ (i : Nat), d + i = l.length → Ev (fun k => impl_DiskOk.l0 k (useN l i : Int) l (l.length : Int) (i : Int) l cap fuel down) (diskFrom l d i && decide ((useN l l.length : Int) ≤ cap)) := by
  induction d with
  | zero =>
    intro i hi
    refine evi (1) fun k hk => ?_
    obtain ⟨k, rfl⟩ : ∃ m, k = m + 1 := ⟨k - 1, by omega⟩
    simp only [impl_DiskOk.l0]
    rw [if_neg (by omega), diskFrom, Bool.true_and, show i = l.length from by omega]
  | succ d ih =>
    intro i hi
    have hlt : i < l.length := by omega
    have hsi := hs _ (List.getElem_mem hlt)
    have hu := useN_le l hs (i + 1) (by omega)
    have hu1 := useN_succ l i hlt
    have h0 : l.getD i z45 = l[i] := by simp [hlt]
    have h1 : rd_T45 l (i : Int) = l[i] := by simp [rd_T45, hlt]
    obtain ⟨K1, hK1⟩ := evx (impl_NameOk_s l[i].f0 hsi.1)
    obtain ⟨K, hK⟩ := evx (ih (i + 1) (by omega))
    refine evi (K + K1 + 2) fun k hk => ?_
    obtain ⟨k, rfl⟩ : ∃ m, k = m + 2 := ⟨k - 2, by omega⟩
    have hgo := hK k (by omega)
    have hk1 := hK1 (k + 1) (by omega)
    have h2 : i ≠ 0 → rd_T45 l (wrap64 ((i : Int) - 1)) = l.getD (i - 1) z45 := fun hi0 => by
      rw [w64 (by omega) (by omega), show ((i : Int) - 1) = ((i - 1 : Nat) : Int) from by omega]
      simp [rd_T45]
    have e1 : i ≠ 0 → 0 ≤ wrap64 ((i : Int) - 1) := fun hi0 => by rw [w64 (by omega) (by omega)]; omega
    have e2 : i ≠ 0 → wrap64 ((i : Int) - 1) < (l.length : Int) := fun hi0 => by rw [w64 (by omega) (by omega)]; omega
    rw [show k + 2 = (k + 1) + 1 from rfl, impl_DiskOk.l0]
    simp only [impl_DiskOk.j2]
    rw [if_pos (by omega), if_pos (by omega), if_pos (by omega), h1, hk1]
    simp only [impl_in_f, Option.bind_some]
    rw [w64 (x := (i : Int) + 1) (by omega) (by omega), w64 (x := (useN l i : Int) + (l[i].f1.size : Int)) (by omega) (by omega), show ((i : Int) + 1) = ((i + 1 : Nat) : Int) from by omega, show ((useN l i : Int) + (l[i].f1.size : Int)) = (useN l (i + 1) : Int) from by omega, hgo, diskFrom]
    unfold diskAt
    rw [h0]
    generalize l[i] = e
    generalize l.getD (i - 1) z45 = p at h2
    cases nameB e.f0.toList with
    | false => simp
    | true =>
      by_cases c1 : 0 ≤ e.f2 ∧ e.f2 ≤ (e.f1.size : Int)
      · by_cases c5 : i = 0
        · subst c5
          simp [c1]
        · have c6 : (i : Int) > 0 := by omega
          rw [h2 c5, if_pos (e1 c5), if_pos (e2 c5)]
          cases Go.Op.bytesLess p.f0.toList e.f0.toList <;> simp [c1, c5, c6]
      · simp [c1]
theorem impl_DiskOk_ev (l : List S45) (cap fuel : Int) (down : Bool) (hl : l.length ≤ 1048576) (hs : ∀ e ∈ l, smallF e) : Ev (fun k => impl_DiskOk.f k l cap fuel down) (diskOkB l cap fuel) := by
  obtain ⟨K, hK⟩ := evx (impl_DiskOk_l0 l cap fuel down hl hs l.length 0 rfl)
  rw [useN_zero] at hK
  refine evi (K + 1) fun k hk => ?_
  obtain ⟨k, rfl⟩ : ∃ m, k = m + 1 := ⟨k - 1, by omega⟩
  have hgo := hK k (by omega)
  unfold impl_DiskOk.f diskOkB
  simp only [impl_in_f, Option.bind_some, impl_DiskOk.j0]
  by_cases c1 : l.length ≤ 130
  · rw [if_neg (by omega), decide_eq_true c1]
    by_cases c2 : 0 ≤ cap ∧ cap ≤ 100000
    · by_cases c3 : -1 ≤ fuel ∧ fuel ≤ 100000
      · rw [if_pos (by simpa using c2), if_neg (by simpa using c3), decide_eq_true c2, decide_eq_true c3, Bool.true_and, Bool.true_and, Bool.true_and]
        exact hgo
      · rw [if_pos (by simpa using c2), decide_eq_false c3, if_pos (by decide)]
        simp
    · rw [if_neg (by simpa using c2), decide_eq_false c2]
      simp
  · rw [if_pos (by omega), decide_eq_false c1]
    simp

theorem spec_NameOk_s (s : ByteArray) (h : s.size ≤ 1048576) : Ev (fun k => spec_NameOk.f k s) (nameB s.toList) := by
  obtain ⟨l, rfl⟩ := exS s
  rw [mkS_size] at h
  rw [mkS_toList]
  exact spec_NameOk_ev l (by omega)
theorem spec_l3Used_l0 (l : List S45) (cap fuel : Int) (down : Bool) (hl : l.length ≤ 1048576) (hs : ∀ e ∈ l, smallF e) (d : Nat) : ∀ (i : Nat), d + i = l.length → Ev (fun k => spec_l3Used.l0 k (useN l i : Int) (i : Int) l cap fuel down) (useN l l.length : Int) := by
  induction d with
  | zero =>
    intro i hi
    refine evi (1) fun k hk => ?_
    obtain ⟨k, rfl⟩ : ∃ m, k = m + 1 := ⟨k - 1, by omega⟩
    simp only [spec_l3Used.l0]
    rw [if_neg (by omega), show i = l.length from by omega]
  | succ d ih =>
    intro i hi
    have hlt : i < l.length := by omega
    have hsi := hs _ (List.getElem_mem hlt)
    have hu := useN_le l hs (i + 1) (by omega)
    have hu1 := useN_succ l i hlt
    have h1 : rd_T45 l (i : Int) = l[i] := by simp [rd_T45, hlt]
    obtain ⟨K, hK⟩ := evx (ih (i + 1) (by omega))
    refine evi (K + 1) fun k hk => ?_
    obtain ⟨k, rfl⟩ : ∃ m, k = m + 1 := ⟨k - 1, by omega⟩
    have hgo := hK k (by omega)
    simp only [spec_l3Used.l0]
    rw [if_pos (by omega), if_pos (by omega), h1, w64 (x := (i : Int) + 1) (by omega) (by omega), w64 (x := (useN l i : Int) + (l[i].f1.size : Int)) (by omega) (by omega), show ((i : Int) + 1) = ((i + 1 : Nat) : Int) from by omega, show ((useN l i : Int) + (l[i].f1.size : Int)) = (useN l (i + 1) : Int) from by omega]
    exact hgo
theorem spec_l3Used_ev (l : List S45) (cap fuel : Int) (down : Bool) (hl : l.length ≤ 1048576) (hs : ∀ e ∈ l, smallF e) : Ev (fun k => spec_l3Used.f k l cap fuel down) (useN l l.length : Int) := by
  have := spec_l3Used_l0 l cap fuel down hl hs l.length 0 rfl
  rw [useN_zero] at this
  exact this
theorem spec_DiskOk_l0 (l : List S45) (cap fuel : Int) (down : Bool) (hl : l.length ≤ 1048576) (hs : ∀ e ∈ l, smallF e) (d : Nat) : ∀ (i : Nat), d + i = l.length → Ev (fun k => spec_DiskOk.l0 k (i : Int) l cap fuel down) (diskFrom l d i) := by
  induction d with
  | zero =>
    intro i hi
    refine evi (1) fun k hk => ?_
    obtain ⟨k, rfl⟩ : ∃ m, k = m + 1 := ⟨k - 1, by omega⟩
    simp only [spec_DiskOk.l0]
    rw [if_neg (by omega), diskFrom]
  | succ d ih =>
    intro i hi
    have hlt : i < l.length := by omega
    have hsi := hs _ (List.getElem_mem hlt)
    have h0 : l.getD i z45 = l[i] := by simp [hlt]
    have h1 : rd_T45 l (i : Int) = l[i] := by simp [rd_T45, hlt]
    obtain ⟨K1, hK1⟩ := evx (spec_NameOk_s l[i].f0 hsi.1)
    obtain ⟨K, hK⟩ := evx (ih (i + 1) (by omega))
    refine evi (K + K1 + 2) fun k hk => ?_
    obtain ⟨k, rfl⟩ : ∃ m, k = m + 2 := ⟨k - 2, by omega⟩
    have hgo := hK k (by omega)
    have hk1 := hK1 (k + 1) (by omega)
    have h2 : i ≠ 0 → rd_T45 l (wrap64 ((i : Int) - 1)) = l.getD (i - 1) z45 := fun hi0 => by
      rw [w64 (by omega) (by omega), show ((i : Int) - 1) = ((i - 1 : Nat) : Int) from by omega]
      simp [rd_T45]
    have e1 : i ≠ 0 → 0 ≤ wrap64 ((i : Int) - 1) := fun hi0 => by rw [w64 (by omega) (by omega)]; omega
    have e2 : i ≠ 0 → wrap64 ((i : Int) - 1) < (l.length : Int) := fun hi0 => by rw [w64 (by omega) (by omega)]; omega
    rw [show k + 2 = (k + 1) + 1 from rfl, spec_DiskOk.l0]
    simp only [spec_DiskOk.j2]
    rw [if_pos (by omega), if_pos (by omega), h1, hk1]
    simp only [spec_l1In_f, Option.bind_some]
    rw [w64 (x := (i : Int) + 1) (by omega) (by omega), show ((i : Int) + 1) = ((i + 1 : Nat) : Int) from by omega, hgo, diskFrom]
    unfold diskAt
    rw [h0]
    generalize l[i] = e
    generalize l.getD (i - 1) z45 = p at h2
    cases nameB e.f0.toList with
    | false => simp
    | true =>
      by_cases c1 : 0 ≤ e.f2 ∧ e.f2 ≤ (e.f1.size : Int)
      · by_cases c5 : i = 0
        · subst c5
          simp [c1]
        · have c6 : (i : Int) > 0 := by omega
          rw [h2 c5, if_pos (e1 c5), if_pos (e2 c5)]
          cases Go.Op.bytesLess p.f0.toList e.f0.toList <;> simp [c1, c5, c6]
      · simp [c1]
theorem spec_DiskOk_ev (l : List S45) (cap fuel : Int) (down : Bool) (hl : l.length ≤ 1048576) (hs : ∀ e ∈ l, smallF e) : Ev (fun k => spec_DiskOk.f k l cap fuel down) (diskOkB l cap fuel) := by
  obtain ⟨K, hK⟩ := evx (spec_DiskOk_l0 l cap fuel down hl hs l.length 0 rfl)
  obtain ⟨K2, hK2⟩ := evx (spec_l3Used_ev l cap fuel down hl hs)
  refine evi (K + K2 + 1) fun k hk => ?_
  obtain ⟨k, rfl⟩ : ∃ m, k = m + 1 := ⟨k - 1, by omega⟩
  have hgo := hK k (by omega)
  have hgo2 := hK2 (k + 1) (by omega)
  unfold spec_DiskOk.f diskOkB
  simp only [spec_l1In_f, Option.bind_some, spec_DiskOk.j0, hgo2]
  by_cases c1 : l.length ≤ 130
  · rw [if_neg (by omega), decide_eq_true c1]
    by_cases c2 : 0 ≤ cap ∧ cap ≤ 100000
    · by_cases c3 : -1 ≤ fuel ∧ fuel ≤ 100000
      · rw [if_pos (by simpa using c2), if_pos (by simpa using c3), decide_eq_true c2, decide_eq_true c3, Bool.true_and, Bool.true_and, Bool.true_and]
        by_cases c4 : (useN l l.length : Int) > cap
        · rw [if_pos (by simpa using c4), decide_eq_false (by omega), Bool.and_false]
        · rw [if_neg (by simpa using c4), decide_eq_true (by omega), Bool.and_true]
          exact hgo
      · rw [if_pos (by simpa using c2), if_neg (by simpa using c3), decide_eq_false c3]
        simp
    · rw [if_neg (by simpa using c2), decide_eq_false c2]
      simp
  · rw [if_pos (by omega), decide_eq_false c1]
    simp

theorem laws_markText_l0 (m : Nat) : ∀ (n : Nat) (s : ByteArray), n ≤ m → s.size + n ≤ 4611686018427387904 → ∃ r, Ev (fun k => laws_markText.l0 k (n : Int) s) r := by
  induction m using Nat.strongRecOn with
  | ind m ih =>
  intro n s hn hs
  by_cases h0 : n = 0
  · subst h0
    refine ⟨(⟨#[109]⟩ : ByteArray) ++ s, evi 1 (fun k hk => ?_)⟩
    obtain ⟨k, rfl⟩ : ∃ m, k = m + 1 := ⟨k - 1, by omega⟩
    simp only [laws_markText.l0]
    rw [if_neg (by omega), if_pos (by omega)]
  · obtain ⟨r, hr⟩ := ih (n / 10) (by omega) (n / 10) (strOfNums [(wrap64 (48 + (Int.tmod (n : Int) 10))) % 256] ++ s) (Nat.le_refl _) (by rw [ByteArray.size_append, strOfNums_size]; simp only [List.length_singleton]; omega)
    obtain ⟨K, hK⟩ := evx hr
    refine ⟨r, evi (K + 1) (fun k hk => ?_)⟩
    obtain ⟨k, rfl⟩ : ∃ m, k = m + 1 := ⟨k - 1, by omega⟩
    simp only [laws_markText.l0, Option.bind_some]
    rw [if_pos (by omega), if_pos (by rw [strOfNums_size]; simp only [List.length_singleton]; omega), tdivp (by omega), w64 (x := (n : Int) / 10) (by omega) (by omega), show ((n : Int) / 10) = ((n / 10 : Nat) : Int) from by omega]
    exact hK k (by omega)
theorem laws_markText_ex (a : Int) : ∃ r, a ≤ 4611686018427387904 → Ev (fun k => laws_markText.f k a) r := by
  by_cases h : a ≤ 0
  · exact ⟨_, fun _ => evi 0 (fun k _ => by unfold laws_markText.f; rw [if_pos h])⟩
  · by_cases h2 : a ≤ 4611686018427387904
    · obtain ⟨n, rfl⟩ := Int.eq_ofNat_of_zero_le (show 0 ≤ a by omega)
      obtain ⟨r, hr⟩ := laws_markText_l0 n n (⟨#[]⟩ : ByteArray) (Nat.le_refl _) (by show 0 + n ≤ _; omega)
      obtain ⟨K, hK⟩ := evx hr
      exact ⟨r, fun _ => evi K (fun k hk => by unfold laws_markText.f; rw [if_neg h]; exact hK k hk)⟩
    · exact ⟨(⟨#[]⟩ : ByteArray), fun hh => absurd hh h2⟩
noncomputable def markS (a : Int) : ByteArray := Classical.choose (laws_markText_ex a)
theorem markS_ev (a : Int) (h : a ≤ 4611686018427387904) : Ev (fun k => laws_markText.f k a) (markS a) := Classical.choose_spec (laws_markText_ex a) h
noncomputable def stepFile (a : Int) : S45 := ⟨markS (a), markS (a + 1), a + 1 + 1⟩
noncomputable def marksFile (n : Nat) (a : Int) : List S45 := (List.range n).map fun (j : Nat) => stepFile (a + 3 * (j : Int))
theorem marksFile_length (n : Nat) (a : Int) : (marksFile n a).length = n := by simp [marksFile]
theorem rd_T45_set (x : List S45) (i : Nat) (v : S45) (h : i < x.length) : rd_T45 (x.set i v) (i : Int) = v := by simp [rd_T45, h]
theorem laws_markFileS_l0 (n : Nat) (hn : n ≤ 2097152) (a0 : Int) (ha0 : 0 ≤ a0) (ha1 : a0 ≤ 1099511627776) (d : Nat) : ∀ (i : Nat) (x : List S45) (a : Int), d + i = n → x.length = n → a = a0 + 3 * (i : Int) → (∀ j, j < i → x[j]? = some (stepFile (a0 + 3 * (j : Int)))) →
    Ev (fun k => laws_markFileS.l0 k x a (i : Int)) (a0 + 3 * (n : Int), marksFile n a0) := by
  induction d with
  | zero =>
    intro i x a hi hx ha hj
    refine evi (1) fun k hk => ?_
    obtain ⟨k, rfl⟩ : ∃ m, k = m + 1 := ⟨k - 1, by omega⟩
    simp only [laws_markFileS.l0]
    rw [if_neg (by omega)]
    have e : x = marksFile n a0 := by
      apply List.ext_getElem?
      intro j
      by_cases hjn : j < n
      · rw [hj j (by omega)]
        simp [marksFile, hjn]
      · rw [List.getElem?_eq_none (by omega), List.getElem?_eq_none (by rw [marksFile_length]; omega)]
    rw [e, ha, show i = n from by omega]
  | succ d ih =>
    intro i x a hi hx ha hj
    have hlt : i < x.length := by omega
    obtain ⟨M0, hM0⟩ := evx (markS_ev (a) (by omega))
    obtain ⟨M1, hM1⟩ := evx (markS_ev (a + 1) (by omega))
    obtain ⟨K, hK⟩ := evx (ih (i + 1) (x.set i (stepFile a)) (a + 1 + 1 + 1) (by omega) (by rw [List.length_set]; exact hx) (by omega) (by
      intro j hji
      by_cases hij : j = i
      · rw [hij, List.getElem?_set_self hlt, ha]
      · rw [List.getElem?_set_ne (by omega)]
        exact hj j (by omega)))
    refine evi (K + M0 + M1 + 1) fun k hk => ?_
    obtain ⟨k, rfl⟩ : ∃ m, k = m + 1 := ⟨k - 1, by omega⟩
    simp only [laws_markFileS.l0]
    have e0 : (0 : Int) ≤ (i : Int) := by omega
    have e1 : (i : Int) < (x.length : Int) := by omega
    have hset : ∀ v : S45, rd_T45 (x.set i v) (i : Int) = v := fun v => rd_T45_set x i v hlt
    have hK' := hK k (by omega)
    have m0 := hM0 k (by omega)
    have m1 := hM1 k (by omega)
    have b0 : -9223372036854775808 ≤ (i : Int) + 1 ∧ (i : Int) + 1 ≤ 9223372036854775807 := by omega
    have b1 : -9223372036854775808 ≤ a + 1 ∧ a + 1 ≤ 9223372036854775807 := by omega
    have b2 : -9223372036854775808 ≤ a + 1 + 1 ∧ a + 1 + 1 ≤ 9223372036854775807 := by omega
    have b3 : -9223372036854775808 ≤ a + 1 + 1 + 1 ∧ a + 1 + 1 + 1 ≤ 9223372036854775807 := by omega
    have c0 : (i : Int) + 1 = ((i + 1 : Nat) : Int) := by omega
    have e2 : wrap64 ((i : Int) + 1) = ((i + 1 : Nat) : Int) := by rw [w64 b0.1 b0.2, c0]
    have w1 : wrap64 (a + 1) = a + 1 := w64 b1.1 b1.2
    have w2 : wrap64 (a + 1 + 1) = a + 1 + 1 := w64 b2.1 b2.2
    have w3 : wrap64 (a + 1 + 1 + 1) = a + 1 + 1 + 1 := w64 b3.1 b3.2
    simp only [w1, w2, w3, m0, m1, if_pos e0, if_pos e1, e2, Option.bind_some, Int.toNat_natCast, hset, List.set_set]
    exact hK'
theorem laws_markFileS_ev (l : List S45) (hn : l.length ≤ 2097152) (a : Int) (ha0 : 0 ≤ a) (ha1 : a ≤ 1099511627776) : Ev (fun k => laws_markFileS.f k l a) (a + 3 * (l.length : Int), marksFile l.length a) := by
  have := laws_markFileS_l0 l.length hn a ha0 ha1 l.length 0 l a rfl rfl (by omega) (fun j hj => by omega)
  exact this

theorem laws_heldFileS_l0 (n : Nat) (hn : n ≤ 2097152) (a0 : Int) (ha0 : 0 ≤ a0) (ha1 : a0 ≤ 1099511627776) (d : Nat) : ∀ (i : Nat) (a : Int), d + i = n → a = a0 + 3 * (i : Int) → Ev (fun k => laws_heldFileS.l0 k (marksFile n a0) a (i : Int)) (a0 + 3 * (n : Int)) := by
  induction d with
  | zero =>
    intro i a hi ha
    refine evi (1) fun k hk => ?_
    obtain ⟨k, rfl⟩ : ∃ m, k = m + 1 := ⟨k - 1, by omega⟩
    simp only [laws_heldFileS.l0]
    rw [if_neg (by rw [marksFile_length]; omega), ha, show i = n from by omega]
  | succ d ih =>
    intro i a hi ha
    obtain ⟨M0, hM0⟩ := evx (markS_ev (a) (by omega))
    obtain ⟨M1, hM1⟩ := evx (markS_ev (a + 1) (by omega))
    obtain ⟨K, hK⟩ := evx (ih (i + 1) (a + 1 + 1 + 1) (by omega) (by omega))
    refine evi (K + M0 + M1 + 1) fun k hk => ?_
    obtain ⟨k, rfl⟩ : ∃ m, k = m + 1 := ⟨k - 1, by omega⟩
    simp only [laws_heldFileS.l0]
    have e0 : (0 : Int) ≤ (i : Int) := by omega
    have e1 : (i : Int) < ((marksFile n a0).length : Int) := by rw [marksFile_length]; omega
    have hr : rd_T45 (marksFile n a0) (i : Int) = stepFile a := by
      have hin : i < n := by omega
      simp [rd_T45, marksFile, hin, ha]
    have hK' := hK k (by omega)
    have m0 := hM0 k (by omega)
    have m1 := hM1 k (by omega)
    have b0 : -9223372036854775808 ≤ (i : Int) + 1 ∧ (i : Int) + 1 ≤ 9223372036854775807 := by omega
    have b1 : -9223372036854775808 ≤ a + 1 ∧ a + 1 ≤ 9223372036854775807 := by omega
    have b2 : -9223372036854775808 ≤ a + 1 + 1 ∧ a + 1 + 1 ≤ 9223372036854775807 := by omega
    have b3 : -9223372036854775808 ≤ a + 1 + 1 + 1 ∧ a + 1 + 1 + 1 ≤ 9223372036854775807 := by omega
    have c0 : (i : Int) + 1 = ((i + 1 : Nat) : Int) := by omega
    have e2 : wrap64 ((i : Int) + 1) = ((i + 1 : Nat) : Int) := by rw [w64 b0.1 b0.2, c0]
    have w1 : wrap64 (a + 1) = a + 1 := w64 b1.1 b1.2
    have w2 : wrap64 (a + 1 + 1) = a + 1 + 1 := w64 b2.1 b2.2
    have w3 : wrap64 (a + 1 + 1 + 1) = a + 1 + 1 + 1 := w64 b3.1 b3.2
    simp only [w1, w2, w3, m0, m1, if_pos e0, if_pos e1, e2, Option.bind_some, hr, stepFile, if_true]
    exact hK'
theorem laws_heldFileS_ev (n : Nat) (hn : n ≤ 2097152) (a : Int) (ha0 : 0 ≤ a) (ha1 : a ≤ 1099511627776) : Ev (fun k => laws_heldFileS.f k (marksFile n a) a) (a + 3 * (n : Int)) := by
  have := laws_heldFileS_l0 n hn a ha0 ha1 n 0 a rfl (by omega)
  exact this

theorem laws_markDisk_ev (l : List S45) (a b : Int) (c : Bool) (hl : l.length ≤ 2097152) (x : Int) (h0 : 0 ≤ x) (h1 : x ≤ 1099511627776) : Ev (fun k => laws_markDisk.f k l a b c x) (x + 3 * (l.length : Int), marksFile l.length x) := by
  obtain ⟨K, hK⟩ := evx (laws_markFileS_ev l hl x h0 h1)
  refine evi (K) fun k hk => ?_
  unfold laws_markDisk.f
  rw [hK k hk]
  rfl
theorem laws_heldDisk_ev (n : Nat) (a b : Int) (c : Bool) (hl : n ≤ 2097152) (x : Int) (h0 : 0 ≤ x) (h1 : x ≤ 1099511627776) : Ev (fun k => laws_heldDisk.f k (marksFile n x) a b c x) (x + 3 * (n : Int)) := by
  obtain ⟨K, hK⟩ := evx (laws_heldFileS_ev n hl x h0 h1)
  refine evi (K) fun k hk => ?_
  unfold laws_heldDisk.f
  rw [hK k hk]
  simp only [Option.bind_some]
  rw [if_neg (by omega)]

def marksInt (n : Nat) (a : Int) : List Int := (List.range n).map fun (j : Nat) => a + (j : Int)
theorem marksInt_length (n : Nat) (a : Int) : (marksInt n a).length = n := by simp [marksInt]
theorem laws_markIntS_l0 (n : Nat) (hn : n ≤ 4194304) (a0 : Int) (ha0 : 0 ≤ a0) (ha1 : a0 ≤ 1099511627776) (d : Nat) : ∀ (i : Nat) (x : List Int) (a : Int), d + i = n → x.length = n → a = a0 + (i : Int) → (∀ j, j < i → x[j]? = some (a0 + (j : Int))) →
    Ev (fun k => laws_markIntS.l0 k x a (i : Int)) (a0 + (n : Int), marksInt n a0) := by
  induction d with
  | zero =>
    intro i x a hi hx ha hj
    refine evi (1) fun k hk => ?_
    obtain ⟨k, rfl⟩ : ∃ m, k = m + 1 := ⟨k - 1, by omega⟩
    simp only [laws_markIntS.l0]
    rw [if_neg (by omega)]
    have e : x = marksInt n a0 := by
      apply List.ext_getElem?
      intro j
      by_cases hjn : j < n
      · rw [hj j (by omega)]
        simp [marksInt, hjn]
      · rw [List.getElem?_eq_none (by omega), List.getElem?_eq_none (by rw [marksInt_length]; omega)]
    rw [e, ha, show i = n from by omega]
  | succ d ih =>
    intro i x a hi hx ha hj
    have hlt : i < x.length := by omega
    obtain ⟨K, hK⟩ := evx (ih (i + 1) (x.set i a) (a + 1) (by omega) (by rw [List.length_set]; exact hx) (by omega) (by
      intro j hji
      by_cases hij : j = i
      · rw [hij, List.getElem?_set_self hlt, ha]
      · rw [List.getElem?_set_ne (by omega)]
        exact hj j (by omega)))
    refine evi (K + 1) fun k hk => ?_
    obtain ⟨k, rfl⟩ : ∃ m, k = m + 1 := ⟨k - 1, by omega⟩
    simp only [laws_markIntS.l0]
    rw [if_pos (by omega), if_pos (by omega), Int.toNat_natCast, w64 (x := a + 1) (by omega) (by omega), w64 (x := (i : Int) + 1) (by omega) (by omega)]
    exact hK k (by omega)
theorem laws_markIntS_ev (l : List Int) (hn : l.length ≤ 4194304) (a : Int) (ha0 : 0 ≤ a) (ha1 : a ≤ 1099511627776) : Ev (fun k => laws_markIntS.f k l a) (a + (l.length : Int), marksInt l.length a) :=
  laws_markIntS_l0 l.length hn a ha0 ha1 l.length 0 l a rfl rfl (by omega) (fun j hj => by omega)
theorem impl_copyDisk_f (l : List S45) (cap fuel : Int) (down : Bool) (hl : l.length ≤ 1048576) : impl_copyDisk.f l cap fuel down = some (l, cap, fuel, down) := by
  unfold impl_copyDisk.f
  rw [if_pos (by simp only [List.length_nil]; omega), List.nil_append]
theorem spec_l3Copy_f (l : List S45) (cap fuel : Int) (down : Bool) (hl : l.length ≤ 1048576) : spec_l3Copy.f l cap fuel down = some (l, cap, fuel, down) := by
  unfold spec_l3Copy.f
  simp only [Option.bind_some]
  rw [if_pos (by simp only [List.length_nil]; omega), List.nil_append]

theorem rdFi (l : List S45) (i : Nat) : rd_T45 l (i : Int) = l.getD i z45 := by simp only [rd_T45, Int.toNat_natCast]
/-- What is kept of what is not safe. -/
def powK (ts : List Int) (i : Nat) (f : S45) : Int := if ts.length = 0 then 0 else if 0 ≤ ts.getD (i % ts.length) 0 then ts.getD (i % ts.length) 0 % ((f.f1.size : Int) - f.f2 + 1) else 0
def powF (ts : List Int) (i : Nat) (f : S45) : S45 := ⟨f.f0, f.f1.extract 0 (f.f2 + powK ts i f).toNat, f.f2 + powK ts i f⟩
def powFs (ts : List Int) (l : List S45) : List S45 := (List.range l.length).map fun i => powF ts i (l.getD i z45)
def powerO (l : List S45) (cap fuel : Int) (down : Bool) (ts : List Int) : List S45 × Int × Int × Bool := if diskOkB l cap fuel = true then (powFs ts l, cap, -1, false) else (l, cap, fuel, down)
theorem powFs_length (ts : List Int) (l : List S45) : (powFs ts l).length = l.length := by simp [powFs]
theorem powerO_len (l : List S45) (cap fuel : Int) (down : Bool) (ts : List Int) : (powerO l cap fuel down ts).1.length = l.length := by unfold powerO; split; exact powFs_length ts l; rfl
theorem powFs_get (ts : List Int) (l : List S45) (i : Nat) (h : i < l.length) : (powFs ts l)[i]'(by rw [powFs_length]; exact h) = powF ts i (l.getD i z45) := by simp [powFs]
def safeF (f : S45) : Prop := 0 ≤ f.f2 ∧ f.f2 ≤ (f.f1.size : Int)
theorem powK_range (ts : List Int) (i : Nat) (f : S45) (h : safeF f) : 0 ≤ powK ts i f ∧ powK ts i f ≤ (f.f1.size : Int) - f.f2 := by
  obtain ⟨h0, h1⟩ := h
  unfold powK
  split
  · omega
  · split
    · have a := Int.emod_nonneg (ts.getD (i % ts.length) 0) (show ((f.f1.size : Int) - f.f2 + 1) ≠ 0 by omega)
      have b := Int.emod_lt_of_pos (ts.getD (i % ts.length) 0) (show 0 < ((f.f1.size : Int) - f.f2 + 1) by omega)
      omega
    · omega
theorem pow_mid (ts : List Int) (l : List S45) (i : Nat) (h : i < l.length) : ((powFs ts l).take i ++ l.drop i).length = l.length ∧ ((powFs ts l).take i ++ l.drop i).getD i z45 = l.getD i z45 ∧ ((powFs ts l).take i ++ l.drop i).set i (powF ts i (l.getD i z45)) = (powFs ts l).take (i + 1) ++ l.drop (i + 1) := by
  have hlen := powFs_length ts l
  have ht : ((powFs ts l).take i).length = i := by rw [List.length_take]; omega
  refine ⟨by rw [List.length_append, ht, List.length_drop]; omega, ?_, ?_⟩
  · simp [List.getD, List.getElem?_append_right (show ((powFs ts l).take i).length ≤ i by omega), ht]
  · rw [List.set_append_right _ _ (by omega), ht, Nat.sub_self, List.drop_eq_getElem_cons h, List.set_cons_zero, List.take_succ_eq_append_getElem (show i < (powFs ts l).length by omega), List.append_assoc, powFs_get ts l i h]
    rfl
theorem mx0 (x : Int) : mx x 0 = if 0 ≤ x then x else 0 := by unfold mx; split <;> split <;> omega
theorem impl_Power_l0 (ts : List Int) (hts : ts.length ≤ 1048576) (l : List S45) (cap fuel : Int) (down : Bool) (hl : l.length ≤ 1048576) (hs : ∀ e ∈ l, smallF e) (hsafe : ∀ e ∈ l, safeF e) (d : Nat) : ∀ i : Nat, d + i = l.length → Ev (fun k => impl_Power.l0 k ts (l.length : Int) (i : Int) ((powFs ts l).take i ++ l.drop i) cap fuel down) (powFs ts l, cap, -1, false) := by
  induction d with
  | zero =>
    intro i hi
    refine evi 1 (fun k hk => ?_)
    obtain ⟨k, rfl⟩ : ∃ m, k = m + 1 := ⟨k - 1, by omega⟩
    rw [impl_Power.l0, if_neg (by omega), List.drop_of_length_le (by omega), List.append_nil, List.take_of_length_le (by rw [powFs_length]; omega)]
  | succ d ih =>
    intro i hi
    have hlt : i < l.length := by omega
    obtain ⟨K, hK⟩ := evx (ih (i + 1) (by omega))
    obtain ⟨m1, m2, m3⟩ := pow_mid ts l i hlt
    refine evi (K + 1) (fun k hk => ?_)
    obtain ⟨k, rfl⟩ : ∃ m, k = m + 1 := ⟨k - 1, by omega⟩
    have hgo := hK k (by omega)
    have hm : l.getD i z45 ∈ l := by rw [show l.getD i z45 = l[i] from by simp [hlt]]; exact List.getElem_mem _
    have hr := powK_range ts i (l.getD i z45) (hsafe _ hm)
    obtain ⟨s0, s1⟩ := hsafe _ hm
    have hsm := (hs _ hm).2
    rw [impl_Power.l0, if_pos (by omega), if_pos (by omega), if_pos (by omega), rdFi, m2, Int.toNat_natCast]
    rw [w64 (x := (i : Int) + 1) (by omega) (by omega), show ((i : Int) + 1) = ((i + 1 : Nat) : Int) from by omega]
    rw [← m3] at hgo
    generalize hX : (powFs ts l).take i ++ l.drop i = X at *
    generalize hf : l.getD i z45 = f at *
    have step : ∀ v : S45, rd_T45 (X.set i v) (i : Int) = v := fun v => by simp [rd_T45, show i < X.length by omega]
    have set2 : ∀ v u : S45, (X.set i v).set i u = X.set i u := fun v u => List.set_set ..
    have hsz : (f.f1.size : Int) - f.f2 + 1 > 0 := by omega
    have w1 : wrap64 (wrap64 ((f.f1.size : Int) - f.f2) + 1) = (f.f1.size : Int) - f.f2 + 1 := by rw [w64 (x := (f.f1.size : Int) - f.f2) (by omega) (by omega), w64 (by omega) (by omega)]
    by_cases ht : ts.length = 0
    · have hk0 : powK ts i f = 0 := by unfold powK; rw [if_pos ht]
      have e0 : wrap64 (f.f2 + 0) = f.f2 + powK ts i f := by rw [hk0, w64 (by omega) (by omega)]
      rw [if_neg (by omega), e0]
      simp only [Option.bind_some]
      rw [step]
      simp only
      rw [if_pos (by omega), if_pos (by omega), set2]
      exact hgo
    · have htm : Int.tmod (i : Int) (ts.length : Int) = ((i % ts.length : Nat) : Int) := by rw [tmodp (by omega)]; rfl
      have hlt2 : i % ts.length < ts.length := Nat.mod_lt _ (by omega)
      have hrd : rd ts ((i % ts.length : Nat) : Int) = ts.getD (i % ts.length) 0 := by unfold rd; rw [Int.toNat_natCast]
      have hk0 : mx (ts.getD (i % ts.length) 0) 0 % ((f.f1.size : Int) - f.f2 + 1) = powK ts i f := by
        unfold powK
        rw [if_neg ht, mx0]
        split
        · rfl
        · exact Int.zero_emod _
      rw [if_pos (by omega), if_neg (by omega), htm, if_pos (by omega), if_pos (by omega), w1, if_neg (by omega), hrd, hk0, w64 (x := f.f2 + powK ts i f) (by omega) (by omega)]
      simp only [Option.bind_some]
      rw [step]
      simp only
      rw [if_pos (by omega), if_pos (by omega), set2]
      exact hgo
theorem spec_Power_l0 (ts : List Int) (hts : ts.length ≤ 1048576) (l : List S45) (cap fuel : Int) (down : Bool) (hl : l.length ≤ 1048576) (hs : ∀ e ∈ l, smallF e) (hsafe : ∀ e ∈ l, safeF e) (d : Nat) : ∀ i : Nat, d + i = l.length → Ev (fun k => spec_Power.l0 k ts (i : Int) ((powFs ts l).take i ++ l.drop i) cap fuel down) (powFs ts l, cap, -1, false) := by
  induction d with
  | zero =>
    intro i hi
    refine evi 1 (fun k hk => ?_)
    obtain ⟨k, rfl⟩ : ∃ m, k = m + 1 := ⟨k - 1, by omega⟩
    have e : (powFs ts l).take i ++ l.drop i = powFs ts l := by rw [List.drop_of_length_le (by omega), List.append_nil, List.take_of_length_le (by rw [powFs_length]; omega)]
    rw [e, spec_Power.l0, if_neg (by rw [powFs_length]; omega)]
  | succ d ih =>
    intro i hi
    have hlt : i < l.length := by omega
    obtain ⟨K, hK⟩ := evx (ih (i + 1) (by omega))
    obtain ⟨m1, m2, m3⟩ := pow_mid ts l i hlt
    refine evi (K + 1) (fun k hk => ?_)
    obtain ⟨k, rfl⟩ : ∃ m, k = m + 1 := ⟨k - 1, by omega⟩
    have hgo := hK k (by omega)
    have hm : l.getD i z45 ∈ l := by rw [show l.getD i z45 = l[i] from by simp [hlt]]; exact List.getElem_mem _
    have hr := powK_range ts i (l.getD i z45) (hsafe _ hm)
    obtain ⟨s0, s1⟩ := hsafe _ hm
    have hsm := (hs _ hm).2
    rw [spec_Power.l0, if_pos (by omega), if_pos (by omega), rdFi, m2, Int.toNat_natCast]
    rw [w64 (x := (i : Int) + 1) (by omega) (by omega), show ((i : Int) + 1) = ((i + 1 : Nat) : Int) from by omega]
    rw [← m3] at hgo
    generalize hX : (powFs ts l).take i ++ l.drop i = X at *
    generalize hf : l.getD i z45 = f at *
    have hsz : (f.f1.size : Int) - f.f2 + 1 > 0 := by omega
    have w1 : wrap64 (wrap64 ((f.f1.size : Int) - f.f2) + 1) = (f.f1.size : Int) - f.f2 + 1 := by rw [w64 (x := (f.f1.size : Int) - f.f2) (by omega) (by omega), w64 (by omega) (by omega)]
    have hex : ((f.f1.extract 0 (f.f2 + powK ts i f).toNat).size : Int) = f.f2 + powK ts i f := by rw [ByteArray.size_extract]; omega
    have go' : spec_Power.l0 k ts ((i + 1 : Nat) : Int) (X.set i (⟨f.f0, f.f1.extract 0 (f.f2 + powK ts i f).toNat, ((f.f1.extract 0 (f.f2 + powK ts i f).toNat).size : Int)⟩ : S45)) cap fuel down = some (powFs ts l, cap, -1, false) := by rw [hex]; exact hgo
    have e0 : powK ts i f = 0 → wrap64 (f.f2 + 0) = f.f2 + powK ts i f := fun h => by rw [h, w64 (by omega) (by omega)]
    by_cases ht : ts.length = 0
    · have hk0 : powK ts i f = 0 := by unfold powK; rw [if_pos ht]
      rw [if_neg (by omega), e0 hk0, if_pos (by omega), if_pos (by omega)]
      exact go'
    · have htm : Int.tmod (i : Int) (ts.length : Int) = ((i % ts.length : Nat) : Int) := by rw [tmodp (by omega)]; rfl
      have hlt2 : i % ts.length < ts.length := Nat.mod_lt _ (by omega)
      have hrd : rd ts ((i % ts.length : Nat) : Int) = ts.getD (i % ts.length) 0 := by unfold rd; rw [Int.toNat_natCast]
      rw [if_pos (by omega), if_neg (by omega), htm, if_pos (by omega), if_pos (by omega), hrd]
      by_cases hp : 0 ≤ ts.getD (i % ts.length) 0
      · have hk0 : Int.tmod (ts.getD (i % ts.length) 0) ((f.f1.size : Int) - f.f2 + 1) = powK ts i f := by
          unfold powK
          rw [if_neg ht, if_pos hp, tmodp hp]
        rw [if_pos hp, w1, if_neg (by omega), hk0, w64 (x := f.f2 + powK ts i f) (by omega) (by omega), if_pos (by omega), if_pos (by omega)]
        exact go'
      · have hk0 : powK ts i f = 0 := by unfold powK; rw [if_neg ht, if_neg hp]
        rw [if_neg hp, e0 hk0, if_pos (by omega), if_pos (by omega)]
        exact go'
theorem diskFrom_iff (l : List S45) (d : Nat) : ∀ i, diskFrom l d i = true ↔ ∀ j, i ≤ j → j < i + d → diskAt l j = true := by
  induction d with
  | zero => intro i; simp only [diskFrom, true_iff]; intro j h1 h2; omega
  | succ d ih =>
    intro i
    rw [diskFrom, Bool.and_eq_true, ih]
    constructor
    · rintro ⟨h1, h2⟩ j h3 h4
      by_cases e : j = i
      · rw [e]; exact h1
      · exact h2 j (by omega) (by omega)
    · intro h
      exact ⟨h i (by omega) (by omega), fun j h1 h2 => h j (by omega) (by omega)⟩
theorem diskOkB_safe {l : List S45} {cap fuel : Int} (h : diskOkB l cap fuel = true) : ∀ e ∈ l, safeF e := by
  intro e he
  unfold diskOkB at h
  simp only [Bool.and_eq_true] at h
  obtain ⟨i, hi, rfl⟩ := List.getElem_of_mem he
  have := (diskFrom_iff l l.length 0).1 h.2.2.2.1 i (by omega) (by omega)
  unfold diskAt at this
  simp only [Bool.and_eq_true, decide_eq_true_eq] at this
  have e : l.getD i z45 = l[i] := by simp [hi]
  rw [e] at this
  exact this.2.1
theorem impl_Power_ev (l : List S45) (cap fuel : Int) (down : Bool) (ts : List Int) (hts : ts.length ≤ 1048576) (hl : l.length ≤ 1048576) (hs : ∀ e ∈ l, smallF e) : Ev (fun k => impl_Power.f k l cap fuel down ts) (powerO l cap fuel down ts) := by
  obtain ⟨K, hK⟩ := evx (impl_DiskOk_ev l cap fuel down hl hs)
  by_cases hd : diskOkB l cap fuel = true
  · obtain ⟨K2, h2⟩ := evx (impl_Power_l0 ts hts l cap fuel down hl hs (diskOkB_safe hd) l.length 0 rfl)
    refine evi (K + K2) (fun k hk => ?_)
    have h2' := h2 k (by omega)
    rw [List.take_zero, List.nil_append, List.drop_zero] at h2'
    unfold impl_Power.f powerO
    rw [impl_copyDisk_f l cap fuel down hl]
    simp only [Option.bind_some]
    rw [hK k (by omega)]
    simp only [Option.bind_some]
    rw [if_pos hd, if_pos hd]
    exact h2'
  · refine evi K (fun k hk => ?_)
    unfold impl_Power.f powerO
    rw [impl_copyDisk_f l cap fuel down hl]
    simp only [Option.bind_some]
    rw [hK k (by omega)]
    simp only [Option.bind_some]
    rw [if_neg hd, if_neg hd]
theorem spec_Power_ev (l : List S45) (cap fuel : Int) (down : Bool) (ts : List Int) (hts : ts.length ≤ 1048576) (hl : l.length ≤ 1048576) (hs : ∀ e ∈ l, smallF e) : Ev (fun k => spec_Power.f k l cap fuel down ts) (powerO l cap fuel down ts) := by
  obtain ⟨K, hK⟩ := evx (spec_DiskOk_ev l cap fuel down hl hs)
  by_cases hd : diskOkB l cap fuel = true
  · obtain ⟨K2, h2⟩ := evx (spec_Power_l0 ts hts l cap fuel down hl hs (diskOkB_safe hd) l.length 0 rfl)
    refine evi (K + K2) (fun k hk => ?_)
    have h2' := h2 k (by omega)
    rw [List.take_zero, List.nil_append, List.drop_zero] at h2'
    unfold spec_Power.f powerO
    rw [spec_l3Copy_f l cap fuel down hl]
    simp only [Option.bind_some]
    rw [hK k (by omega)]
    simp only [Option.bind_some]
    rw [if_pos hd, if_pos hd]
    exact h2'
  · refine evi K (fun k hk => ?_)
    unfold spec_Power.f powerO
    rw [spec_l3Copy_f l cap fuel down hl]
    simp only [Option.bind_some]
    rw [hK k (by omega)]
    simp only [Option.bind_some]
    rw [if_neg hd, if_neg hd]



/-! ### the law -/
theorem FnExactPower : laws_FnExactPower.Pure := by
  intro a cap fuel down ts ha hc hf hts0
  by_cases hbig : (ts.length : Int) > 1048576
  · exact ⟨0, by unfold laws_FnExactPower.f; rw [if_pos hbig]⟩
  have hts : ts.length ≤ 1048576 := by omega
  have big : ∀ e ∈ a, bigFile e := fun e he => ⟨(ha.2 e he).1, (ha.2 e he).2.1⟩
  obtain ⟨s, hs, hs1, hs2⟩ := laws_szDisk_ev a cap fuel down ha.1 big 1048576 (by omega) (by omega)
  obtain ⟨K1, h1⟩ := evx hs
  by_cases hn : s < 0
  · exact ⟨K1, by unfold laws_FnExactPower.f; rw [if_neg hbig, h1 _ (by omega)]; simp only [Option.bind_some]; rw [if_pos hn]⟩
  · have la : a.length ≤ 1048576 := by omega
    obtain ⟨K3, h3⟩ := evx (laws_toDisk_ev a cap fuel down la)
    have lb : (a.map convFile).length = a.length := List.length_map ..
    have sb := small_conv a (by rcases hs2 with h | h; exact absurd h hn; exact h.2.2)
    generalize a.map convFile = b at *
    obtain ⟨K4, h4⟩ := evx (laws_toIntS_ev ts hts)
    obtain ⟨K5, h5⟩ := evx (spec_Power_ev b cap fuel down ts hts (by omega) sb)
    obtain ⟨K6, h6⟩ := evx (impl_Power_ev b cap fuel down ts hts (by omega) sb)
    obtain ⟨K7, h7⟩ := evx (laws_eqDisk_ev b cap fuel down (by omega))
    obtain ⟨K7b, h7b⟩ := evx (laws_eqIntS_ev ts (by omega))
    have lc := powerO_len b cap fuel down ts
    generalize powerO b cap fuel down ts = c at *
    obtain ⟨c1, c2, c3, c4⟩ := c
    simp only at lc
    obtain ⟨K8, h8⟩ := evx (laws_eqDisk_ev c1 c2 c3 c4 (by omega))
    obtain ⟨K9, h9⟩ := evx (laws_markDisk_ev b cap fuel down (by omega) 1 (by omega) (by omega))
    obtain ⟨K9b, h9b⟩ := evx (laws_markIntS_ev ts (by omega) (1 + 3 * (b.length : Int)) (by omega) (by omega))
    obtain ⟨Ka, ha⟩ := evx (laws_markDisk_ev c1 c2 c3 c4 (by omega) 1 (by omega) (by omega))
    obtain ⟨Kb, hb⟩ := evx (laws_heldDisk_ev c1.length c2 c3 c4 (by omega) 1 (by omega) (by omega))
    generalize hK : K1 + K3 + K4 + K5 + K6 + K7 + K7b + K8 + K9 + K9b + Ka + Kb = K
    refine ⟨K + 1, ?_⟩
    have e0 : ¬ ((1 + 3 * (b.length : Int)) + (ts.length : Int) < 0) := by omega
    have e1 : ¬ (1 + 3 * (c1.length : Int) < 0) := by omega
    have a1 := h1 (K + 1) (by omega)
    have a3 := h3 (K + 1) (by omega)
    have a4 := h4 (K + 1) (by omega)
    have a5 := h5 (K + 1) (by omega)
    have a6 := h6 (K + 1) (by omega)
    have a7 := h7 (K + 1) (by omega)
    have a7b := h7b (K + 1) (by omega)
    have a8 := h8 (K + 1) (by omega)
    have a9 := h9 (K + 1) (by omega)
    have a9b := h9b (K + 1) (by omega)
    have b3 := h3 K (by omega)
    have b4 := h4 K (by omega)
    have b6 := h6 K (by omega)
    have b8 := h8 K (by omega)
    have ba := ha K (by omega)
    have bb := hb K (by omega)
    unfold laws_FnExactPower.f
    rw [if_neg hbig, a1]
    simp only [Option.bind_some]
    rw [if_neg hn, a3]
    simp only [Option.bind_some]
    rw [a4]
    simp only [Option.bind_some]
    rw [a5]
    simp only [Option.bind_some]
    rw [a6]
    simp only [Option.bind_some]
    rw [a8]
    simp only [Option.bind_some, if_true]
    rw [a7]
    simp only [Option.bind_some, if_true]
    rw [a7b]
    simp only [Option.bind_some, if_true]
    rw [a9]
    simp only [Option.bind_some]
    rw [a9b]
    simp only [Option.bind_some]
    rw [if_neg e0]
    simp only [laws_FnExactPower.j0, Bool.not_true, Bool.false_eq_true, if_false]
    rw [ba]
    simp only [Option.bind_some]
    rw [bb]
    simp only [Option.bind_some, if_neg e1, if_true]
    rw [b3]
    simp only [Option.bind_some]
    rw [b4]
    simp only [Option.bind_some]
    rw [b6]
    simp only [Option.bind_some]
    rw [b8]
    simp only [Option.bind_some, if_true]

end Go.Proofs.Ytigbekefjbfopaa.Pure
