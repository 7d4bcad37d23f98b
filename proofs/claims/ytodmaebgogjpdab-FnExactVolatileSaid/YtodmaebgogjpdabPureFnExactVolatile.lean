/- The pure statement of the law FnExactVolatile: for all arguments within the printed bounds the printed function of the law answers true. Conditions: only the bounds that the printed statement itself names. -/
import Derived.Test.YtodmaebgogjpdabPFnExactVolatilex6
namespace Go.Proofs.Ytodmaebgogjpdab.Pure
open Go.RowKit Go.Proofs.Ytodmaebgogjpdab.PFnExactVolatile Go.Proofs.YtodmaebgogjpdabW.PrintWords Go.Proofs.YtodmaebgogjpdabW.PrintLast
set_option linter.unusedVariables false
set_option linter.unusedSimpArgs false

/-- The string of a list of bytes. -/
def mkS (l : List UInt8) : ByteArray := ⟨l.toArray⟩
theorem exS (s : ByteArray) : ∃ l, s = mkS l := ⟨s.data.toList, by cases s; simp [mkS]⟩
theorem mkS_size (l : List UInt8) : (mkS l).size = l.length := by simp [mkS, ByteArray.size]
theorem toList_data (s : ByteArray) : s.toList = s.data.toList := by
  have key : ∀ (n i : Nat) (r : List UInt8), s.size - i = n → ByteArray.toList.loop s i r = r.reverse ++ s.data.toList.drop i := by
    intro n
    induction n with
    | zero =>
      intro i r h
      unfold ByteArray.toList.loop
      rw [if_neg (by omega), List.drop_of_length_le (by simp only [Array.length_toList]; have : s.size = s.data.size := rfl; omega), List.append_nil]
    | succ n ih =>
      intro i r h
      unfold ByteArray.toList.loop
      have hi : i < s.data.toList.length := by simp only [Array.length_toList]; have : s.size = s.data.size := rfl; omega
      rw [if_pos (by omega), ih (i + 1) _ (by omega), List.reverse_cons, List.append_assoc, List.drop_eq_getElem_cons hi]
      have : s.get! i = s.data.toList[i] := by
        show s.data[i]! = _
        rw [Array.getElem_toList]
        exact getElem!_pos s.data i (by simpa using hi)
      rw [this]
      rfl
  have := key _ 0 [] rfl
  simpa [ByteArray.toList] using this
theorem mkS_toList (l : List UInt8) : (mkS l).toList = l := by rw [toList_data]; simp [mkS]
theorem bt_mkS (l : List UInt8) (i : Nat) (h : i < l.length) : bt (mkS l) (i : Int) = ((l[i]).toNat : Int) := by
  unfold bt
  have h' : ((i : Int)).toNat < (mkS l).size := by rw [mkS_size]; simpa using h
  rw [dif_pos h']
  simp only [Int.toNat_natCast]
  rfl
theorem w64 {x : Int} (h0 : -9223372036854775808 ≤ x) (h1 : x ≤ 9223372036854775807) : wrap64 x = x := by unfold wrap64; omega
theorem evx {α : Type} {g : Nat → Option α} {r : α} (h : Ev g r) : ∃ K, ∀ k, K ≤ k → g k = some r := h
theorem evi {α : Type} {g : Nat → Option α} {r : α} (K : Nat) (h : ∀ k, K ≤ k → g k = some r) : Ev g r := ⟨K, h⟩

theorem fill_step {α : Type} (m : List α) (z : α) (i n : Nat) (x : α) (hn : m.length = n) (h : i < n) (hx : m[i]? = some x) : (m.take i ++ List.replicate (n - i) z).set i x = m.take (i + 1) ++ List.replicate (n - (i + 1)) z := by
  subst hn
  have hl : (m.take i).length = i := by rw [List.length_take]; omega
  have e : m.length - i = (m.length - (i + 1)) + 1 := by omega
  have ex : m[i] = x := by rw [List.getElem?_eq_getElem h] at hx; exact Option.some.inj hx
  rw [e, List.replicate_succ, List.set_append_right _ _ (by omega), hl, Nat.sub_self, List.set_cons_zero, List.take_succ_eq_append_getElem h, List.append_assoc, ex]
  rfl

theorem impl_in_f (a b c : Int) : impl_in.f a b c = some (decide (b ≤ a ∧ a ≤ c)) := by
  unfold impl_in.f
  by_cases h : a ≥ b
  · rw [if_pos h]; congr 1; simp [h]
  · rw [if_neg h]; congr 1; simp; omega

theorem spec_l1In_f (a b c : Int) : spec_l1In.f a b c = some (decide (b ≤ a ∧ a ≤ c)) := by
  unfold spec_l1In.f
  by_cases h : a ≥ b
  · rw [if_pos h]; congr 1; simp [h]
  · rw [if_neg h]; congr 1; simp; omega

def nameC (b : UInt8) : Bool := decide (97 ≤ b.toNat ∧ b.toNat ≤ 122 ∨ 48 ≤ b.toNat ∧ b.toNat ≤ 57)
def nameB (l : List UInt8) : Bool := l.all nameC && decide (1 ≤ l.length ∧ l.length ≤ 12)

theorem impl_NameOk_l0 (l : List UInt8) (hl : l.length ≤ 9000000000000000000) (d : Nat) : ∀ (i : Nat), d + i = l.length → Ev (fun k => impl_NameOk.l0 k (mkS l) (i : Int)) ((l.drop i).all nameC && decide (1 ≤ l.length ∧ l.length ≤ 12)) := by
  induction d with
  | zero =>
    intro i hi
    refine evi (1) fun k hk => ?_
    obtain ⟨k, rfl⟩ : ∃ m, k = m + 1 := ⟨k - 1, by omega⟩
    simp only [impl_NameOk.l0]
    rw [if_neg (by rw [mkS_size]; omega), impl_in_f, List.drop_of_length_le (by omega), mkS_size]
    simp only [Option.bind_some, List.all_nil, Bool.true_and]
    congr 1
    apply decide_eq_decide.2
    omega
  | succ d ih =>
    intro i hi
    have hlt : i < l.length := by omega
    obtain ⟨K, hK⟩ := evx (ih (i + 1) (by omega))
    refine evi (K + 2) fun k hk => ?_
    obtain ⟨k, rfl⟩ : ∃ m, k = m + 2 := ⟨k - 2, by omega⟩
    have hgo := hK k (by omega)
    rw [show k + 2 = (k + 1) + 1 from rfl, impl_NameOk.l0]
    simp only [impl_NameOk.j1]
    rw [if_pos (by rw [mkS_size]; omega), if_pos (by omega), bt_mkS l i hlt, w64 (by omega) (by omega), List.drop_eq_getElem_cons hlt, List.all_cons]
    rw [show ((i : Int) + 1) = ((i + 1 : Nat) : Int) from by omega, hgo]
    by_cases h : 97 ≤ l[i].toNat ∧ l[i].toNat ≤ 122 ∨ 48 ≤ l[i].toNat ∧ l[i].toNat ≤ 57
    · have : nameC l[i] = true := by simpa [nameC] using h
      rw [this, Bool.true_and]
      repeat' split
      all_goals first | rfl | (exfalso; omega) | (exfalso; simp_all; omega) | (simp_all; done)
    · have : nameC l[i] = false := by simpa [nameC] using h
      rw [this, Bool.false_and, Bool.false_and]
      repeat' split
      all_goals first | rfl | (exfalso; omega) | (exfalso; simp_all; omega) | (simp_all; done)
theorem impl_NameOk_ev (l : List UInt8) (hl : l.length ≤ 9000000000000000000) : Ev (fun k => impl_NameOk.f k (mkS l)) (nameB l) := by
  have := impl_NameOk_l0 l hl l.length 0 rfl
  exact this

theorem spec_NameOk_l0 (l : List UInt8) (hl : l.length ≤ 9000000000000000000) (d : Nat) : ∀ (i : Nat), d + i = l.length → Ev (fun k => spec_NameOk.l0 k (mkS l) (i : Int)) ((l.drop i).all nameC && decide (1 ≤ l.length ∧ l.length ≤ 12)) := by
  induction d with
  | zero =>
    intro i hi
    refine evi (1) fun k hk => ?_
    obtain ⟨k, rfl⟩ : ∃ m, k = m + 1 := ⟨k - 1, by omega⟩
    simp only [spec_NameOk.l0]
    rw [if_neg (by rw [mkS_size]; omega), spec_l1In_f, List.drop_of_length_le (by omega), mkS_size]
    simp only [Option.bind_some, List.all_nil, Bool.true_and]
    congr 1
    apply decide_eq_decide.2
    omega
  | succ d ih =>
    intro i hi
    have hlt : i < l.length := by omega
    obtain ⟨K, hK⟩ := evx (ih (i + 1) (by omega))
    refine evi (K + 2) fun k hk => ?_
    obtain ⟨k, rfl⟩ : ∃ m, k = m + 2 := ⟨k - 2, by omega⟩
    have hgo := hK k (by omega)
    rw [show k + 2 = (k + 1) + 1 from rfl, spec_NameOk.l0]
    simp only [spec_NameOk.j1]
    rw [if_pos (by rw [mkS_size]; omega), if_pos (by omega), bt_mkS l i hlt, w64 (by omega) (by omega), List.drop_eq_getElem_cons hlt, List.all_cons]
    rw [show ((i : Int) + 1) = ((i + 1 : Nat) : Int) from by omega, hgo]
    by_cases h : 97 ≤ l[i].toNat ∧ l[i].toNat ≤ 122 ∨ 48 ≤ l[i].toNat ∧ l[i].toNat ≤ 57
    · have : nameC l[i] = true := by simpa [nameC] using h
      rw [this, Bool.true_and]
      repeat' split
      all_goals first | rfl | (exfalso; omega) | (exfalso; simp_all; omega) | (simp_all; done)
    · have : nameC l[i] = false := by simpa [nameC] using h
      rw [this, Bool.false_and, Bool.false_and]
      repeat' split
      all_goals first | rfl | (exfalso; omega) | (exfalso; simp_all; omega) | (simp_all; done)
theorem spec_NameOk_ev (l : List UInt8) (hl : l.length ≤ 9000000000000000000) : Ev (fun k => spec_NameOk.f k (mkS l)) (nameB l) := by
  have := spec_NameOk_l0 l hl l.length 0 rfl
  exact this

def bigFile (e : S119) : Prop := e.f0.size ≤ maxLen ∧ e.f1.size ≤ maxLen
def smallFile (e : S119) : Prop := e.f0.size ≤ 1048576 ∧ e.f1.size ≤ 1048576
theorem laws_szFile_f (e : S119) (h : bigFile e) (a : Int) (h0 : 0 ≤ a) (h1 : a ≤ 1048576) : ∃ s, laws_szFile.f e.f0 e.f1 e.f2 a = some s ∧ s ≤ a ∧ (s < 0 ∨ 0 ≤ s ∧ smallFile e) := by
  have hmax : maxLen = 9223372036854775807 := rfl
  unfold bigFile at h
  unfold laws_szFile.f smallFile wrap64
  repeat' split
  all_goals refine ⟨_, rfl, by omega, by omega⟩
theorem laws_szFileS_l0 (l : List S119) (hl : l.length ≤ 4611686018427387904) (hb : ∀ e ∈ l, bigFile e) (d : Nat) : ∀ (i : Nat) (a : Int), d + i = l.length → 0 ≤ a → a ≤ 1048576 →
    ∃ s, Ev (fun k => laws_szFileS.l0 k l a (i : Int)) s ∧ s ≤ a ∧ (s < 0 ∨ 0 ≤ s ∧ ∀ e ∈ l.drop i, smallFile e) := by
  induction d with
  | zero =>
    intro i a hi h0 h1
    refine ⟨a, evi (1) (fun k hk => ?_), by omega, .inr ⟨h0, fun e he => by rw [List.drop_of_length_le (by omega)] at he; cases he⟩⟩
    obtain ⟨k, rfl⟩ : ∃ m, k = m + 1 := ⟨k - 1, by omega⟩
    simp only [laws_szFileS.l0]
    rw [if_neg (by omega)]
  | succ d ih =>
    intro i a hi h0 h1
    have hlt : i < l.length := by omega
    have hrd : rd_T119 l (i : Int) = l[i] := by simp [rd_T119, hlt]
    obtain ⟨s, hs, hsa, hs0⟩ := laws_szFile_f l[i] (hb _ (List.getElem_mem hlt)) a h0 h1
    by_cases hn : s < 0
    · refine ⟨-1, evi (1) (fun k hk => ?_), by omega, .inl (by omega)⟩
      obtain ⟨k, rfl⟩ : ∃ m, k = m + 1 := ⟨k - 1, by omega⟩
      simp only [laws_szFileS.l0]
      rw [if_pos (by omega), if_pos (by omega), hrd, hs]
      simp only [Option.bind_some]
      rw [if_pos hn]
    · obtain ⟨r, hr, hra, hr0⟩ := ih (i + 1) s (by omega) (by omega) (by omega)
      obtain ⟨K, hK⟩ := evx hr
      refine ⟨r, evi (K + 1) (fun k hk => ?_), by omega, ?_⟩
      · obtain ⟨k, rfl⟩ : ∃ m, k = m + 1 := ⟨k - 1, by omega⟩
        simp only [laws_szFileS.l0]
        rw [if_pos (by omega), if_pos (by omega), hrd, hs]
        simp only [Option.bind_some]
        rw [if_neg hn, w64 (by omega) (by omega)]
        exact hK k (by omega)
      · rcases hr0 with hr0 | ⟨hr0, hr1⟩
        · exact .inl hr0
        · refine .inr ⟨hr0, fun e he => ?_⟩
          rw [List.drop_eq_getElem_cons hlt] at he
          rcases List.mem_cons.1 he with rfl | he
          · rcases hs0 with hs0 | ⟨_, hs0⟩
            · exact absurd hs0 hn
            · exact hs0
          · exact hr1 e he
theorem laws_szFileS_ev (l : List S119) (hl : l.length ≤ maxLen) (hb : ∀ e ∈ l, bigFile e) (a : Int) (h0 : 0 ≤ a) (h1 : a ≤ 1048576) :
    ∃ s, Ev (fun k => laws_szFileS.f k l a) s ∧ s ≤ a ∧ (s < 0 ∨ 0 ≤ s ∧ l.length ≤ 1048576 ∧ ∀ e ∈ l, smallFile e) := by
  have hmax : maxLen = 9223372036854775807 := rfl
  by_cases hn : wrap64 (a - (l.length : Int)) < 0
  · refine ⟨-1, evi (0) (fun k hk => ?_), by omega, .inl (by omega)⟩
    unfold laws_szFileS.f
    rw [if_pos hn]
  · have hle : (l.length : Int) ≤ a := by unfold wrap64 at hn; omega
    rw [w64 (by omega) (by omega)] at hn
    obtain ⟨s, hs, hsa, hs0⟩ := laws_szFileS_l0 l (by omega) hb l.length 0 (a - (l.length : Int)) rfl (by omega) (by omega)
    obtain ⟨K, hK⟩ := evx hs
    refine ⟨s, evi (K) (fun k hk => ?_), by omega, ?_⟩
    · unfold laws_szFileS.f
      rw [w64 (x := a - (l.length : Int)) (by omega) (by omega), if_neg hn]
      exact hK k hk
    · rcases hs0 with hs0 | ⟨hs0, hs1⟩
      · exact .inl hs0
      · exact .inr ⟨hs0, by omega, by simpa using hs1⟩

def convFile (e : S119) : S95 := ⟨e.f0, e.f1, e.f2⟩
theorem laws_toFileS_l0 (l : List S119) (hl : l.length ≤ 4611686018427387904) (d : Nat) : ∀ (i : Nat), d + i = l.length → Ev (fun k => laws_toFileS.l0 k l ((l.map convFile).take i ++ List.replicate (l.length - i) z95) (i : Int)) (l.map convFile) := by
  induction d with
  | zero =>
    intro i hi
    refine evi (1) fun k hk => ?_
    obtain ⟨k, rfl⟩ : ∃ m, k = m + 1 := ⟨k - 1, by omega⟩
    simp only [laws_toFileS.l0]
    rw [if_neg (by omega), List.take_of_length_le (by rw [List.length_map]; omega), show l.length - i = 0 from by omega, List.replicate_zero, List.append_nil]
  | succ d ih =>
    intro i hi
    have hlt : i < l.length := by omega
    have hrd : rd_T119 l (i : Int) = l[i] := by simp [rd_T119, hlt]
    obtain ⟨K, hK⟩ := evx (ih (i + 1) (by omega))
    refine evi (K + 1) fun k hk => ?_
    obtain ⟨k, rfl⟩ : ∃ m, k = m + 1 := ⟨k - 1, by omega⟩
    simp only [laws_toFileS.l0, laws_toFile.f, Option.bind_some]
    rw [if_pos (by omega), if_pos (by omega), if_pos (by rw [List.length_append, List.length_take, List.length_replicate, List.length_map]; omega), hrd, Int.toNat_natCast, w64 (by omega) (by omega)]
    have e : (⟨l[i].f0, l[i].f1, l[i].f2⟩ : S95) = convFile l[i] := rfl
    rw [e, fill_step (l.map convFile) z95 i l.length (convFile l[i]) (List.length_map ..) hlt (by rw [List.getElem?_map, List.getElem?_eq_getElem hlt]; rfl)]
    exact hK k (by omega)
theorem laws_toFileS_ev (l : List S119) (hl : l.length ≤ 1048576) : Ev (fun k => laws_toFileS.f k l) (l.map convFile) := by
  obtain ⟨K, hK⟩ := evx (laws_toFileS_l0 l (by omega) l.length 0 rfl)
  refine evi (K) fun k hk => ?_
  unfold laws_toFileS.f
  rw [if_pos (by omega), if_pos (by omega), Int.toNat_natCast]
  have := hK k hk
  rw [List.take_zero, List.nil_append, Nat.sub_zero] at this
  exact this

theorem laws_eqFile_self (e : S95) : laws_eqFile.f e.f0 e.f1 e.f2 e.f0 e.f1 e.f2 = some true := by
  unfold laws_eqFile.f
  simp
theorem laws_eqFileS_l0 (l : List S95) (hl : l.length ≤ 4611686018427387904) (d : Nat) : ∀ (i : Nat), d + i = l.length → Ev (fun k => laws_eqFileS.l0 k l l (i : Int)) true := by
  induction d with
  | zero =>
    intro i hi
    refine evi (1) fun k hk => ?_
    obtain ⟨k, rfl⟩ : ∃ m, k = m + 1 := ⟨k - 1, by omega⟩
    simp only [laws_eqFileS.l0]
    rw [if_neg (by omega)]
  | succ d ih =>
    intro i hi
    obtain ⟨K, hK⟩ := evx (ih (i + 1) (by omega))
    refine evi (K + 1) fun k hk => ?_
    obtain ⟨k, rfl⟩ : ∃ m, k = m + 1 := ⟨k - 1, by omega⟩
    simp only [laws_eqFileS.l0]
    rw [if_pos (by omega), if_pos (by omega), if_pos (by omega), laws_eqFile_self]
    simp only [Option.bind_some]
    rw [if_pos trivial, w64 (by omega) (by omega)]
    exact hK k (by omega)
theorem laws_eqFileS_ev (l : List S95) (hl : l.length ≤ 4611686018427387904) : Ev (fun k => laws_eqFileS.f k l l) true := by
  obtain ⟨K, hK⟩ := evx (laws_eqFileS_l0 l hl l.length 0 rfl)
  refine evi (K) fun k hk => ?_
  unfold laws_eqFileS.f
  rw [if_pos rfl]
  exact hK k hk

theorem laws_eqDisk_ev (l : List S95) (a b : Int) (c : Bool) (hl : l.length ≤ 4611686018427387904) : Ev (fun k => laws_eqDisk.f k l a b c l a b c) true := by
  obtain ⟨K, hK⟩ := evx (laws_eqFileS_ev l hl)
  refine evi (K) fun k hk => ?_
  unfold laws_eqDisk.f
  rw [hK k hk]
  simp

def smallF (e : S95) : Prop := e.f0.size ≤ 1048576 ∧ e.f1.size ≤ 1048576
def useN (l : List S95) (i : Nat) : Nat := ((l.take i).map fun e => e.f1.size).sum
theorem useN_zero (l : List S95) : useN l 0 = 0 := by simp [useN]
theorem useN_succ (l : List S95) (i : Nat) (h : i < l.length) : useN l (i + 1) = useN l i + l[i].f1.size := by
  unfold useN
  rw [List.take_succ_eq_append_getElem h, List.map_append, List.sum_append]
  simp
theorem useN_le (l : List S95) (hs : ∀ e ∈ l, smallF e) (i : Nat) (hi : i ≤ l.length) : useN l i ≤ i * 1048576 := by
  induction i with
  | zero => simp [useN_zero]
  | succ i ih =>
    have := (hs _ (List.getElem_mem (show i < l.length by omega))).2
    rw [useN_succ l i (by omega)]
    have := ih (by omega)
    omega
def diskAt (l : List S95) (i : Nat) : Bool :=
  nameB (l.getD i z95).f0.toList && (decide (0 ≤ (l.getD i z95).f2 ∧ (l.getD i z95).f2 ≤ ((l.getD i z95).f1.size : Int)) && (decide (i = 0) || Go.Op.bytesLess (l.getD (i - 1) z95).f0.toList (l.getD i z95).f0.toList))
def diskFrom (l : List S95) : Nat → Nat → Bool
  | 0, _ => true
  | d + 1, i => diskAt l i && diskFrom l d (i + 1)
def diskOkB (l : List S95) (cap fuel : Int) : Bool := decide (l.length ≤ 130) && (decide (0 ≤ cap ∧ cap ≤ 100000) && (decide (-1 ≤ fuel ∧ fuel ≤ 100000) && (diskFrom l l.length 0 && decide ((useN l l.length : Int) ≤ cap))))

theorem laws_szDisk_ev (l : List S119) (cap fuel : Int) (down : Bool) (hl : l.length ≤ maxLen) (hb : ∀ e ∈ l, bigFile e) (a : Int) (h0 : 0 ≤ a) (h1 : a ≤ 1048576) :
    ∃ s, Ev (fun k => laws_szDisk.f k l cap fuel down a) s ∧ s ≤ a ∧ (s < 0 ∨ 0 ≤ s ∧ l.length ≤ 1048576 ∧ ∀ e ∈ l, smallFile e) := by
  obtain ⟨s, hs, hs1, hs2⟩ := laws_szFileS_ev l hl hb a h0 h1
  obtain ⟨K, hK⟩ := evx hs
  by_cases hn : s < 0
  · refine ⟨-1, evi (K) (fun k hk => ?_), by omega, .inl (by omega)⟩
    unfold laws_szDisk.f
    rw [hK k hk]
    simp only [Option.bind_some]
    rw [if_pos hn]
  · refine ⟨s, evi (K) (fun k hk => ?_), hs1, hs2⟩
    unfold laws_szDisk.f
    rw [hK k hk]
    simp only [Option.bind_some]
    rw [if_neg hn]
theorem laws_toDisk_ev (l : List S119) (cap fuel : Int) (down : Bool) (hl : l.length ≤ 1048576) : Ev (fun k => laws_toDisk.f k l cap fuel down) (l.map convFile, cap, fuel, down) := by
  obtain ⟨K, hK⟩ := evx (laws_toFileS_ev l hl)
  refine evi (K) fun k hk => ?_
  unfold laws_toDisk.f
  rw [hK k hk]
  rfl
theorem small_conv (l : List S119) (h : ∀ e ∈ l, smallFile e) : ∀ e ∈ l.map convFile, smallF e := by
  intro e he
  obtain ⟨x, hx, rfl⟩ := List.mem_map.1 he
  exact h x hx

theorem impl_NameOk_s (s : ByteArray) (h : s.size ≤ 1048576) : Ev (fun k => impl_NameOk.f k s) (nameB s.toList) := by
  obtain ⟨l, rfl⟩ := exS s
  rw [mkS_size] at h
  rw [mkS_toList]
  exact impl_NameOk_ev l (by omega)
theorem impl_DiskOk_l0 (l : List S95) (cap fuel : Int) (down : Bool) (hl : l.length ≤ 1048576) (hs : ∀ e ∈ l, smallF e) (d : Nat) : ∀ (i : Nat), d + i = l.length → Ev (fun k => impl_DiskOk.l0 k (useN l i : Int) l (l.length : Int) (i : Int) l cap fuel down) (diskFrom l d i && decide ((useN l l.length : Int) ≤ cap)) := by
  induction d with
  | zero =>
    intro i hi
    refine evi (1) fun k hk => ?_
    obtain ⟨k, rfl⟩ : ∃ m, k = m + 1 := ⟨k - 1, by omega⟩
    simp only [impl_DiskOk.l0]
    rw [if_neg (by omega), diskFrom, Bool.true_and, show i = l.length from by omega]
  | succ d ih =>
    intro i hi
    have hlt : i < l.length := by omega
    have hsi := hs _ (List.getElem_mem hlt)
    have hu := useN_le l hs (i + 1) (by omega)
    have hu1 := useN_succ l i hlt
    have h0 : l.getD i z95 = l[i] := by simp [hlt]
    have h1 : rd_T95 l (i : Int) = l[i] := by simp [rd_T95, hlt]
    obtain ⟨K1, hK1⟩ := evx (impl_NameOk_s l[i].f0 hsi.1)
    obtain ⟨K, hK⟩ := evx (ih (i + 1) (by omega))
    refine evi (K + K1 + 2) fun k hk => ?_
    obtain ⟨k, rfl⟩ : ∃ m, k = m + 2 := ⟨k - 2, by omega⟩
    have hgo := hK k (by omega)
    have hk1 := hK1 (k + 1) (by omega)
    have h2 : i ≠ 0 → rd_T95 l (wrap64 ((i : Int) - 1)) = l.getD (i - 1) z95 := fun hi0 => by
      rw [w64 (by omega) (by omega), show ((i : Int) - 1) = ((i - 1 : Nat) : Int) from by omega]
      simp [rd_T95]
    have e1 : i ≠ 0 → 0 ≤ wrap64 ((i : Int) - 1) := fun hi0 => by rw [w64 (by omega) (by omega)]; omega
    have e2 : i ≠ 0 → wrap64 ((i : Int) - 1) < (l.length : Int) := fun hi0 => by rw [w64 (by omega) (by omega)]; omega
    rw [show k + 2 = (k + 1) + 1 from rfl, impl_DiskOk.l0]
    simp only [impl_DiskOk.j2]
    rw [if_pos (by omega), if_pos (by omega), if_pos (by omega), h1, hk1]
    simp only [impl_in_f, Option.bind_some]
    rw [w64 (x := (i : Int) + 1) (by omega) (by omega), w64 (x := (useN l i : Int) + (l[i].f1.size : Int)) (by omega) (by omega), show ((i : Int) + 1) = ((i + 1 : Nat) : Int) from by omega, show ((useN l i : Int) + (l[i].f1.size : Int)) = (useN l (i + 1) : Int) from by omega, hgo, diskFrom]
    unfold diskAt
    rw [h0]
    generalize l[i] = e
    generalize l.getD (i - 1) z95 = p at h2
    cases nameB e.f0.toList with
    | false => simp
    | true =>
      by_cases c1 : 0 ≤ e.f2 ∧ e.f2 ≤ (e.f1.size : Int)
      · by_cases c5 : i = 0
        · subst c5
          simp [c1]
        · have c6 : (i : Int) > 0 := by omega
          rw [h2 c5, if_pos (e1 c5), if_pos (e2 c5)]
          cases Go.Op.bytesLess p.f0.toList e.f0.toList <;> simp [c1, c5, c6]
      · simp [c1]
theorem impl_DiskOk_ev (l : List S95) (cap fuel : Int) (down : Bool) (hl : l.length ≤ 1048576) (hs : ∀ e ∈ l, smallF e) : Ev (fun k => impl_DiskOk.f k l cap fuel down) (diskOkB l cap fuel) := by
  obtain ⟨K, hK⟩ := evx (impl_DiskOk_l0 l cap fuel down hl hs l.length 0 rfl)
  rw [useN_zero] at hK
  refine evi (K + 1) fun k hk => ?_
  obtain ⟨k, rfl⟩ : ∃ m, k = m + 1 := ⟨k - 1, by omega⟩
  have hgo := hK k (by omega)
  unfold impl_DiskOk.f diskOkB
  simp only [impl_in_f, Option.bind_some, impl_DiskOk.j0]
  by_cases c1 : l.length ≤ 130
  · rw [if_neg (by omega), decide_eq_true c1]
    by_cases c2 : 0 ≤ cap ∧ cap ≤ 100000
    · by_cases c3 : -1 ≤ fuel ∧ fuel ≤ 100000
      · rw [if_pos (by simpa using c2), if_neg (by simpa using c3), decide_eq_true c2, decide_eq_true c3, Bool.true_and, Bool.true_and, Bool.true_and]
        exact hgo
      · rw [if_pos (by simpa using c2), decide_eq_false c3, if_pos (by decide)]
        simp
    · rw [if_neg (by simpa using c2), decide_eq_false c2]
      simp
  · rw [if_pos (by omega), decide_eq_false c1]
    simp

theorem spec_NameOk_s (s : ByteArray) (h : s.size ≤ 1048576) : Ev (fun k => spec_NameOk.f k s) (nameB s.toList) := by
  obtain ⟨l, rfl⟩ := exS s
  rw [mkS_size] at h
  rw [mkS_toList]
  exact spec_NameOk_ev l (by omega)
theorem spec_l3Used_l0 (l : List S95) (cap fuel : Int) (down : Bool) (hl : l.length ≤ 1048576) (hs : ∀ e ∈ l, smallF e) (d : Nat) : ∀ (i : Nat), d + i = l.length → Ev (fun k => spec_l3Used.l0 k (useN l i : Int) (i : Int) l cap fuel down) (useN l l.length : Int) := by
  induction d with
  | zero =>
    intro i hi
    refine evi (1) fun k hk => ?_
    obtain ⟨k, rfl⟩ : ∃ m, k = m + 1 := ⟨k - 1, by omega⟩
    simp only [spec_l3Used.l0]
    rw [if_neg (by omega), show i = l.length from by omega]
  | succ d ih =>
    intro i hi
    have hlt : i < l.length := by omega
    have hsi := hs _ (List.getElem_mem hlt)
    have hu := useN_le l hs (i + 1) (by omega)
    have hu1 := useN_succ l i hlt
    have h1 : rd_T95 l (i : Int) = l[i] := by simp [rd_T95, hlt]
    obtain ⟨K, hK⟩ := evx (ih (i + 1) (by omega))
    refine evi (K + 1) fun k hk => ?_
    obtain ⟨k, rfl⟩ : ∃ m, k = m + 1 := ⟨k - 1, by omega⟩
    have hgo := hK k (by omega)
    simp only [spec_l3Used.l0]
    rw [if_pos (by omega), if_pos (by omega), h1, w64 (x := (i : Int) + 1) (by omega) (by omega), w64 (x := (useN l i : Int) + (l[i].f1.size : Int)) (by omega) (by omega), show ((i : Int) + 1) = ((i + 1 : Nat) : Int) from by omega, show ((useN l i : Int) + (l[i].f1.size : Int)) = (useN l (i + 1) : Int) from by omega]
    exact hgo
theorem spec_l3Used_ev (l : List S95) (cap fuel : Int) (down : Bool) (hl : l.length ≤ 1048576) (hs : ∀ e ∈ l, smallF e) : Ev (fun k => spec_l3Used.f k l cap fuel down) (useN l l.length : Int) := by
  have := spec_l3Used_l0 l cap fuel down hl hs l.length 0 rfl
  rw [useN_zero] at this
  exact this
theorem spec_DiskOk_l0 (l : List S95) (cap fuel : Int) (down : Bool) (hl : l.length ≤ 1048576) (hs : ∀ e ∈ l, smallF e) (d : Nat) : ∀ (i : Nat), d + i = l.length → Ev (fun k => spec_DiskOk.l0 k (i : Int) l cap fuel down) (diskFrom l d i) := by
  induction d with
  | zero =>
    intro i hi
    refine evi (1) fun k hk => ?_
    obtain ⟨k, rfl⟩ : ∃ m, k = m + 1 := ⟨k - 1, by omega⟩
    simp only [spec_DiskOk.l0]
    rw [if_neg (by omega), diskFrom]
  | succ d ih =>
    intro i hi
    have hlt : i < l.length := by omega
    have hsi := hs _ (List.getElem_mem hlt)
    have h0 : l.getD i z95 = l[i] := by simp [hlt]
    have h1 : rd_T95 l (i : Int) = l[i] := by simp [rd_T95, hlt]
    obtain ⟨K1, hK1⟩ := evx (spec_NameOk_s l[i].f0 hsi.1)
    obtain ⟨K, hK⟩ := evx (ih (i + 1) (by omega))
    refine evi (K + K1 + 2) fun k hk => ?_
    obtain ⟨k, rfl⟩ : ∃ m, k = m + 2 := ⟨k - 2, by omega⟩
    have hgo := hK k (by omega)
    have hk1 := hK1 (k + 1) (by omega)
    have h2 : i ≠ 0 → rd_T95 l (wrap64 ((i : Int) - 1)) = l.getD (i - 1) z95 := fun hi0 => by
      rw [w64 (by omega) (by omega), show ((i : Int) - 1) = ((i - 1 : Nat) : Int) from by omega]
      simp [rd_T95]
    have e1 : i ≠ 0 → 0 ≤ wrap64 ((i : Int) - 1) := fun hi0 => by rw [w64 (by omega) (by omega)]; omega
    have e2 : i ≠ 0 → wrap64 ((i : Int) - 1) < (l.length : Int) := fun hi0 => by rw [w64 (by omega) (by omega)]; omega
    rw [show k + 2 = (k + 1) + 1 from rfl, spec_DiskOk.l0]
    simp only [spec_DiskOk.j2]
    rw [if_pos (by omega), if_pos (by omega), h1, hk1]
    simp only [spec_l1In_f, Option.bind_some]
    rw [w64 (x := (i : Int) + 1) (by omega) (by omega), show ((i : Int) + 1) = ((i + 1 : Nat) : Int) from by omega, hgo, diskFrom]
    unfold diskAt
    rw [h0]
    generalize l[i] = e
    generalize l.getD (i - 1) z95 = p at h2
    cases nameB e.f0.toList with
    | false => simp
    | true =>
      by_cases c1 : 0 ≤ e.f2 ∧ e.f2 ≤ (e.f1.size : Int)
      · by_cases c5 : i = 0
        · subst c5
          simp [c1]
        · have c6 : (i : Int) > 0 := by omega
          rw [h2 c5, if_pos (e1 c5), if_pos (e2 c5)]
          cases Go.Op.bytesLess p.f0.toList e.f0.toList <;> simp [c1, c5, c6]
      · simp [c1]
theorem spec_DiskOk_ev (l : List S95) (cap fuel : Int) (down : Bool) (hl : l.length ≤ 1048576) (hs : ∀ e ∈ l, smallF e) : Ev (fun k => spec_DiskOk.f k l cap fuel down) (diskOkB l cap fuel) := by
  obtain ⟨K, hK⟩ := evx (spec_DiskOk_l0 l cap fuel down hl hs l.length 0 rfl)
  obtain ⟨K2, hK2⟩ := evx (spec_l3Used_ev l cap fuel down hl hs)
  refine evi (K + K2 + 1) fun k hk => ?_
  obtain ⟨k, rfl⟩ : ∃ m, k = m + 1 := ⟨k - 1, by omega⟩
  have hgo := hK k (by omega)
  have hgo2 := hK2 (k + 1) (by omega)
  unfold spec_DiskOk.f diskOkB
  simp only [spec_l1In_f, Option.bind_some, spec_DiskOk.j0, hgo2]
  by_cases c1 : l.length ≤ 130
  · rw [if_neg (by omega), decide_eq_true c1]
    by_cases c2 : 0 ≤ cap ∧ cap ≤ 100000
    · by_cases c3 : -1 ≤ fuel ∧ fuel ≤ 100000
      · rw [if_pos (by simpa using c2), if_pos (by simpa using c3), decide_eq_true c2, decide_eq_true c3, Bool.true_and, Bool.true_and, Bool.true_and]
        by_cases c4 : (useN l l.length : Int) > cap
        · rw [if_pos (by simpa using c4), decide_eq_false (by omega), Bool.and_false]
        · rw [if_neg (by simpa using c4), decide_eq_true (by omega), Bool.and_true]
          exact hgo
      · rw [if_pos (by simpa using c2), if_neg (by simpa using c3), decide_eq_false c3]
        simp
    · rw [if_neg (by simpa using c2), decide_eq_false c2]
      simp
  · rw [if_pos (by omega), decide_eq_false c1]
    simp

def volW (l : List S95) : Nat → Int
  | 0 => 0
  | i + 1 => wrap64 (volW l i + ((l.getD i z95).f1.size : Int) - (l.getD i z95).f2)
def volV (l : List S95) (cap fuel : Int) : Int := if diskOkB l cap fuel = true then volW l l.length else 0
theorem wrap_sub (a b : Int) : wrap64 (wrap64 a - b) = wrap64 (a - b) := by unfold wrap64; omega
theorem wrap_add (a b : Int) : wrap64 (a + wrap64 b) = wrap64 (a + b) := by unfold wrap64; omega
theorem impl_Volatile_l0 (l : List S95) (hl : l.length ≤ 1048576) (d : Nat) : ∀ (i : Nat), d + i = l.length → Ev (fun k => impl_Volatile.l0 k (volW l i) l (l.length : Int) (i : Int)) (volW l l.length) := by
  induction d with
  | zero =>
    intro i hi
    refine evi (1) fun k hk => ?_
    obtain ⟨k, rfl⟩ : ∃ m, k = m + 1 := ⟨k - 1, by omega⟩
    simp only [impl_Volatile.l0]
    rw [if_neg (by omega), show i = l.length from by omega]
  | succ d ih =>
    intro i hi
    have h1 : rd_T95 l (i : Int) = l.getD i z95 := by simp [rd_T95]
    obtain ⟨K, hK⟩ := evx (ih (i + 1) (by omega))
    refine evi (K + 1) fun k hk => ?_
    obtain ⟨k, rfl⟩ : ∃ m, k = m + 1 := ⟨k - 1, by omega⟩
    have hgo := hK k (by omega)
    simp only [impl_Volatile.l0]
    rw [if_pos (by omega), if_pos (by omega), if_pos (by omega), h1, w64 (x := (i : Int) + 1) (by omega) (by omega), show ((i : Int) + 1) = ((i + 1 : Nat) : Int) from by omega, wrap_add, ← Int.add_sub_assoc]
    exact hgo
theorem spec_Volatile_l0 (l : List S95) (cap fuel : Int) (down : Bool) (hl : l.length ≤ 1048576) (d : Nat) : ∀ (i : Nat), d + i = l.length → Ev (fun k => spec_Volatile.l0 k (volW l i) (i : Int) l cap fuel down) (volW l l.length) := by
  induction d with
  | zero =>
    intro i hi
    refine evi (1) fun k hk => ?_
    obtain ⟨k, rfl⟩ : ∃ m, k = m + 1 := ⟨k - 1, by omega⟩
    simp only [spec_Volatile.l0]
    rw [if_neg (by omega), show i = l.length from by omega]
  | succ d ih =>
    intro i hi
    have h1 : rd_T95 l (i : Int) = l.getD i z95 := by simp [rd_T95]
    obtain ⟨K, hK⟩ := evx (ih (i + 1) (by omega))
    refine evi (K + 1) fun k hk => ?_
    obtain ⟨k, rfl⟩ : ∃ m, k = m + 1 := ⟨k - 1, by omega⟩
    have hgo := hK k (by omega)
    simp only [spec_Volatile.l0]
    rw [if_pos (by omega), if_pos (by omega), h1, w64 (x := (i : Int) + 1) (by omega) (by omega), show ((i : Int) + 1) = ((i + 1 : Nat) : Int) from by omega, wrap_sub]
    exact hgo
theorem impl_Volatile_ev (l : List S95) (cap fuel : Int) (down : Bool) (hl : l.length ≤ 1048576) (hs : ∀ e ∈ l, smallF e) : Ev (fun k => impl_Volatile.f k l cap fuel down) (volV l cap fuel) := by
  obtain ⟨K1, h1⟩ := evx (impl_DiskOk_ev l cap fuel down hl hs)
  obtain ⟨K2, h2⟩ := evx (impl_Volatile_l0 l hl l.length 0 rfl)
  refine evi (K1 + K2) fun k hk => ?_
  have hgo := h2 k (by omega)
  unfold impl_Volatile.f volV
  rw [h1 k (by omega)]
  simp only [Option.bind_some]
  split
  · exact hgo
  · rfl
theorem spec_Volatile_ev (l : List S95) (cap fuel : Int) (down : Bool) (hl : l.length ≤ 1048576) (hs : ∀ e ∈ l, smallF e) : Ev (fun k => spec_Volatile.f k l cap fuel down) (volV l cap fuel) := by
  obtain ⟨K1, h1⟩ := evx (spec_DiskOk_ev l cap fuel down hl hs)
  obtain ⟨K2, h2⟩ := evx (spec_Volatile_l0 l cap fuel down hl l.length 0 rfl)
  refine evi (K1 + K2) fun k hk => ?_
  have hgo := h2 k (by omega)
  unfold spec_Volatile.f volV
  rw [h1 k (by omega)]
  simp only [Option.bind_some]
  split
  · exact hgo
  · rfl



/-! ### the law -/
theorem FnExactVolatile : laws_FnExactVolatile.Pure := by
  intro a cap fuel down ha hc hf
  have big : ∀ e ∈ a, bigFile e := fun e he => ⟨(ha.2 e he).1, (ha.2 e he).2.1⟩
  obtain ⟨s, hs, hs1, hs2⟩ := laws_szDisk_ev a cap fuel down ha.1 big 1048576 (by omega) (by omega)
  obtain ⟨K1, h1⟩ := evx hs
  by_cases hn : s < 0
  · exact ⟨K1, by unfold laws_FnExactVolatile.f; rw [h1 _ (by omega)]; simp only [Option.bind_some]; rw [if_pos hn]⟩
  · have la : a.length ≤ 1048576 := by omega
    obtain ⟨K3, h3⟩ := evx (laws_toDisk_ev a cap fuel down la)
    have lb : (a.map convFile).length = a.length := List.length_map ..
    have sb := small_conv a (by rcases hs2 with h | h; exact absurd h hn; exact h.2.2)
    generalize a.map convFile = b at *
    obtain ⟨K7, h7⟩ := evx (laws_eqDisk_ev b cap fuel down (by omega))
    obtain ⟨K5, h5⟩ := evx (spec_Volatile_ev b cap fuel down (by omega) sb)
    obtain ⟨K6, h6⟩ := evx (impl_Volatile_ev b cap fuel down (by omega) sb)
    refine ⟨K1 + K3 + K5 + K6 + K7 + 1, ?_⟩
    unfold laws_FnExactVolatile.f
    skip
    try rw [h1 _ (by omega)]
    try simp only [Option.bind_some]
    try rw [if_neg hn]
    try rw [h3 _ (by omega)]
    try simp only [Option.bind_some]
    try rw [h5 _ (by omega)]
    try simp only [Option.bind_some]
    try rw [h3 _ (by omega)]
    try simp only [Option.bind_some]
    try rw [h6 _ (by omega)]
    try simp only [Option.bind_some]
    try rw [if_pos trivial]
    try rw [h3 _ (by omega)]
    try simp only [Option.bind_some]
    try rw [h7 _ (by omega)]
    try simp only [Option.bind_some]
    try rw [if_pos trivial]

end Go.Proofs.Ytodmaebgogjpdab.Pure
