/- The pure statement of the law FnPower: for all arguments within the printed bounds the printed function of the law answers true. Conditions: only the bounds that the printed statement itself names. -/
import Derived.Test.YtigbekefjbfopaaPFnPowerx15
namespace Go.Proofs.Ytigbekefjbfopaa.Pure
open Go.RowKit Go.Proofs.Ytigbekefjbfopaa.PFnPower Go.Proofs.YtigbekefjbfopaaW.PrintWords Go.Proofs.YtigbekefjbfopaaW.PrintLast
set_option linter.unusedVariables false
set_option linter.unusedSimpArgs false

/-- The string of a list of bytes. -/
def mkS (l : List UInt8) : ByteArray := ⟨l.toArray⟩
theorem exS (s : ByteArray) : ∃ l, s = mkS l := ⟨s.data.toList, by cases s; simp [mkS]⟩
theorem mkS_size (l : List UInt8) : (mkS l).size = l.length := by simp [mkS, ByteArray.size]
theorem toList_data (s : ByteArray) : s.toList = s.data.toList := by
  have key : ∀ (n i : Nat) (r : List UInt8), s.size - i = n → ByteArray.toList.loop s i r = r.reverse ++ s.data.toList.drop i := by
    intro n
    induction n with
    | zero =>
      intro i r h
      unfold ByteArray.toList.loop
      rw [if_neg (by omega), List.drop_of_length_le (by simp only [Array.length_toList]; have : s.size = s.data.size := rfl; omega), List.append_nil]
    | succ n ih =>
      intro i r h
      unfold ByteArray.toList.loop
      have hi : i < s.data.toList.length := by simp only [Array.length_toList]; have : s.size = s.data.size := rfl; omega
      rw [if_pos (by omega), ih (i + 1) _ (by omega), List.reverse_cons, List.append_assoc, List.drop_eq_getElem_cons hi]
      have : s.get! i = s.data.toList[i] := by
        show s.data[i]! = _
        rw [Array.getElem_toList]
        exact getElem!_pos s.data i (by simpa using hi)
      rw [this]
      rfl
  have := key _ 0 [] rfl
  simpa [ByteArray.toList] using this
theorem mkS_toList (l : List UInt8) : (mkS l).toList = l := by rw [toList_data]; simp [mkS]
theorem mkS_extract (l : List UInt8) (i j : Nat) : (mkS l).extract i j = mkS ((l.drop i).take (j - i)) := by
  apply ByteArray.ext
  rw [ByteArray.data_extract]
  simp only [mkS]
  apply Array.ext'
  rw [Array.toList_extract]
  try simp [List.extract_eq_drop_take]
theorem bt_mkS (l : List UInt8) (i : Nat) (h : i < l.length) : bt (mkS l) (i : Int) = ((l[i]).toNat : Int) := by
  unfold bt
  have h' : ((i : Int)).toNat < (mkS l).size := by rw [mkS_size]; simpa using h
  rw [dif_pos h']
  simp only [Int.toNat_natCast]
  rfl
theorem w64 {x : Int} (h0 : -9223372036854775808 ≤ x) (h1 : x ≤ 9223372036854775807) : wrap64 x = x := by unfold wrap64; omega
theorem tdivp {x y : Int} (h : 0 ≤ x) : Int.tdiv x y = x / y := Int.tdiv_eq_ediv_of_nonneg h
theorem tmodp {x y : Int} (h : 0 ≤ x) : Int.tmod x y = x % y := Int.tmod_eq_emod_of_nonneg h
theorem evx {α : Type} {g : Nat → Option α} {r : α} (h : Ev g r) : ∃ K, ∀ k, K ≤ k → g k = some r := h
theorem evi {α : Type} {g : Nat → Option α} {r : α} (K : Nat) (h : ∀ k, K ≤ k → g k = some r) : Ev g r := ⟨K, h⟩

theorem impl_in_f (a b c : Int) : impl_in.f a b c = some (decide (b ≤ a ∧ a ≤ c)) := by
  unfold impl_in.f
  by_cases h : a ≥ b
  · rw [if_pos h]; congr 1; simp [h]
  · rw [if_neg h]; congr 1; simp; omega

theorem spec_l1In_f (a b c : Int) : spec_l1In.f a b c = some (decide (b ≤ a ∧ a ≤ c)) := by
  unfold spec_l1In.f
  by_cases h : a ≥ b
  · rw [if_pos h]; congr 1; simp [h]
  · rw [if_neg h]; congr 1; simp; omega

def nameC (b : UInt8) : Bool := decide (97 ≤ b.toNat ∧ b.toNat ≤ 122 ∨ 48 ≤ b.toNat ∧ b.toNat ≤ 57)
def nameB (l : List UInt8) : Bool := l.all nameC && decide (1 ≤ l.length ∧ l.length ≤ 12)

theorem impl_NameOk_l0 (l : List UInt8) (hl : l.length ≤ 9000000000000000000) (d : Nat) : ∀ (i : Nat), d + i = l.length → Ev (fun k => impl_NameOk.l0 k (mkS l) (i : Int)) ((l.drop i).all nameC && decide (1 ≤ l.length ∧ l.length ≤ 12)) := by
  induction d with
  | zero =>
    intro i hi
    refine evi (1) fun k hk => ?_
    obtain ⟨k, rfl⟩ : ∃ m, k = m + 1 := ⟨k - 1, by omega⟩
    simp only [impl_NameOk.l0]
    rw [if_neg (by rw [mkS_size]; omega), impl_in_f, List.drop_of_length_le (by omega), mkS_size]
    simp only [Option.bind_some, List.all_nil, Bool.true_and]
    congr 1
    apply decide_eq_decide.2
    omega
  | succ d ih =>
    intro i hi
    have hlt : i < l.length := by omega
    obtain ⟨K, hK⟩ := evx (ih (i + 1) (by omega))
    refine evi (K + 2) fun k hk => ?_
    obtain ⟨k, rfl⟩ : ∃ m, k = m + 2 := ⟨k - 2, by omega⟩
    have hgo := hK k (by omega)
    rw [show k + 2 = (k + 1) + 1 from rfl, impl_NameOk.l0]
    simp only [impl_NameOk.j1]
    rw [if_pos (by rw [mkS_size]; omega), if_pos (by omega), bt_mkS l i hlt, w64 (by omega) (by omega), List.drop_eq_getElem_cons hlt, List.all_cons]
    rw [show ((i : Int) + 1) = ((i + 1 : Nat) : Int) from by omega, hgo]
    by_cases h : 97 ≤ l[i].toNat ∧ l[i].toNat ≤ 122 ∨ 48 ≤ l[i].toNat ∧ l[i].toNat ≤ 57
    · have : nameC l[i] = true := by simpa [nameC] using h
      rw [this, Bool.true_and]
      repeat' split
      all_goals first | rfl | (exfalso; omega) | (exfalso; simp_all; omega) | (simp_all; done)
    · have : nameC l[i] = false := by simpa [nameC] using h
      rw [this, Bool.false_and, Bool.false_and]
      repeat' split
      all_goals first | rfl | (exfalso; omega) | (exfalso; simp_all; omega) | (simp_all; done)
theorem impl_NameOk_ev (l : List UInt8) (hl : l.length ≤ 9000000000000000000) : Ev (fun k => impl_NameOk.f k (mkS l)) (nameB l) := by
  have := impl_NameOk_l0 l hl l.length 0 rfl
  exact this

theorem spec_NameOk_l0 (l : List UInt8) (hl : l.length ≤ 9000000000000000000) (d : Nat) : ∀ (i : Nat), d + i = l.length → Ev (fun k => spec_NameOk.l0 k (mkS l) (i : Int)) ((l.drop i).all nameC && decide (1 ≤ l.length ∧ l.length ≤ 12)) := by
  induction d with
  | zero =>
    intro i hi
    refine evi (1) fun k hk => ?_
    obtain ⟨k, rfl⟩ : ∃ m, k = m + 1 := ⟨k - 1, by omega⟩
    simp only [spec_NameOk.l0]
    rw [if_neg (by rw [mkS_size]; omega), spec_l1In_f, List.drop_of_length_le (by omega), mkS_size]
    simp only [Option.bind_some, List.all_nil, Bool.true_and]
    congr 1
    apply decide_eq_decide.2
    omega
  | succ d ih =>
    intro i hi
    have hlt : i < l.length := by omega
    obtain ⟨K, hK⟩ := evx (ih (i + 1) (by omega))
    refine evi (K + 2) fun k hk => ?_
    obtain ⟨k, rfl⟩ : ∃ m, k = m + 2 := ⟨k - 2, by omega⟩
    have hgo := hK k (by omega)
    rw [show k + 2 = (k + 1) + 1 from rfl, spec_NameOk.l0]
    simp only [spec_NameOk.j1]
    rw [if_pos (by rw [mkS_size]; omega), if_pos (by omega), bt_mkS l i hlt, w64 (by omega) (by omega), List.drop_eq_getElem_cons hlt, List.all_cons]
    rw [show ((i : Int) + 1) = ((i + 1 : Nat) : Int) from by omega, hgo]
    by_cases h : 97 ≤ l[i].toNat ∧ l[i].toNat ≤ 122 ∨ 48 ≤ l[i].toNat ∧ l[i].toNat ≤ 57
    · have : nameC l[i] = true := by simpa [nameC] using h
      rw [this, Bool.true_and]
      repeat' split
      all_goals first | rfl | (exfalso; omega) | (exfalso; simp_all; omega) | (simp_all; done)
    · have : nameC l[i] = false := by simpa [nameC] using h
      rw [this, Bool.false_and, Bool.false_and]
      repeat' split
      all_goals first | rfl | (exfalso; omega) | (exfalso; simp_all; omega) | (simp_all; done)
theorem spec_NameOk_ev (l : List UInt8) (hl : l.length ≤ 9000000000000000000) : Ev (fun k => spec_NameOk.f k (mkS l)) (nameB l) := by
  have := spec_NameOk_l0 l hl l.length 0 rfl
  exact this

def smallF (e : S45) : Prop := e.f0.size ≤ 1048576 ∧ e.f1.size ≤ 1048576
def useN (l : List S45) (i : Nat) : Nat := ((l.take i).map fun e => e.f1.size).sum
theorem useN_zero (l : List S45) : useN l 0 = 0 := by simp [useN]
theorem useN_succ (l : List S45) (i : Nat) (h : i < l.length) : useN l (i + 1) = useN l i + l[i].f1.size := by
  unfold useN
  rw [List.take_succ_eq_append_getElem h, List.map_append, List.sum_append]
  simp
theorem useN_le (l : List S45) (hs : ∀ e ∈ l, smallF e) (i : Nat) (hi : i ≤ l.length) : useN l i ≤ i * 1048576 := by
  induction i with
  | zero => simp [useN_zero]
  | succ i ih =>
    have := (hs _ (List.getElem_mem (show i < l.length by omega))).2
    rw [useN_succ l i (by omega)]
    have := ih (by omega)
    omega
def diskAt (l : List S45) (i : Nat) : Bool :=
  nameB (l.getD i z45).f0.toList && (decide (0 ≤ (l.getD i z45).f2 ∧ (l.getD i z45).f2 ≤ ((l.getD i z45).f1.size : Int)) && (decide (i = 0) || Go.Op.bytesLess (l.getD (i - 1) z45).f0.toList (l.getD i z45).f0.toList))
def diskFrom (l : List S45) : Nat → Nat → Bool
  | 0, _ => true
  | d + 1, i => diskAt l i && diskFrom l d (i + 1)
def diskOkB (l : List S45) (cap fuel : Int) : Bool := decide (l.length ≤ 130) && (decide (0 ≤ cap ∧ cap ≤ 100000) && (decide (-1 ≤ fuel ∧ fuel ≤ 100000) && (diskFrom l l.length 0 && decide ((useN l l.length : Int) ≤ cap))))

theorem impl_NameOk_s (s : ByteArray) (h : s.size ≤ 1048576) : Ev (fun k => impl_NameOk.f k s) (nameB s.toList) := by
  obtain ⟨l, rfl⟩ := exS s
  rw [mkS_size] at h
  rw [mkS_toList]
  exact impl_NameOk_ev l (by omega)
theorem impl_DiskOk_l0 (l : List S45) (cap fuel : Int) (down : Bool) (hl : l.length ≤ 1048576) (hs : ∀ e ∈ l, smallF e) (d : Nat) : ∀ (i : Nat), d + i = l.length → Ev (fun k => impl_DiskOk.l0 k (useN l i : Int) l (l.length : Int) (i : Int) l cap fuel down) (diskFrom l d i && decide ((useN l l.length : Int) ≤ cap)) := by
  induction d with
  | zero =>
    intro i hi
    refine evi (1) fun k hk => ?_
    obtain ⟨k, rfl⟩ : ∃ m, k = m + 1 := ⟨k - 1, by omega⟩
    simp only [impl_DiskOk.l0]
    rw [if_neg (by omega), diskFrom, Bool.true_and, show i = l.length from by omega]
  | succ d ih =>
    intro i hi
    have hlt : i < l.length := by omega
    have hsi := hs _ (List.getElem_mem hlt)
    have hu := useN_le l hs (i + 1) (by omega)
    have hu1 := useN_succ l i hlt
    have h0 : l.getD i z45 = l[i] := by simp [hlt]
    have h1 : rd_T45 l (i : Int) = l[i] := by simp [rd_T45, hlt]
    obtain ⟨K1, hK1⟩ := evx (impl_NameOk_s l[i].f0 hsi.1)
    obtain ⟨K, hK⟩ := evx (ih (i + 1) (by omega))
    refine evi (K + K1 + 2) fun k hk => ?_
    obtain ⟨k, rfl⟩ : ∃ m, k = m + 2 := ⟨k - 2, by omega⟩
    have hgo := hK k (by omega)
    have hk1 := hK1 (k + 1) (by omega)
    have h2 : i ≠ 0 → rd_T45 l (wrap64 ((i : Int) - 1)) = l.getD (i - 1) z45 := fun hi0 => by
      rw [w64 (by omega) (by omega), show ((i : Int) - 1) = ((i - 1 : Nat) : Int) from by omega]
      simp [rd_T45]
    have e1 : i ≠ 0 → 0 ≤ wrap64 ((i : Int) - 1) := fun hi0 => by rw [w64 (by omega) (by omega)]; omega
    have e2 : i ≠ 0 → wrap64 ((i : Int) - 1) < (l.length : Int) := fun hi0 => by rw [w64 (by omega) (by omega)]; omega
    rw [show k + 2 = (k + 1) + 1 from rfl, impl_DiskOk.l0]
    simp only [impl_DiskOk.j2]
    rw [if_pos (by omega), if_pos (by omega), if_pos (by omega), h1, hk1]
    simp only [impl_in_f, Option.bind_some]
    rw [w64 (x := (i : Int) + 1) (by omega) (by omega), w64 (x := (useN l i : Int) + (l[i].f1.size : Int)) (by omega) (by omega), show ((i : Int) + 1) = ((i + 1 : Nat) : Int) from by omega, show ((useN l i : Int) + (l[i].f1.size : Int)) = (useN l (i + 1) : Int) from by omega, hgo, diskFrom]
    unfold diskAt
    rw [h0]
    generalize l[i] = e
    generalize l.getD (i - 1) z45 = p at h2
    cases nameB e.f0.toList with
    | false => simp
    | true =>
      by_cases c1 : 0 ≤ e.f2 ∧ e.f2 ≤ (e.f1.size : Int)
      · by_cases c5 : i = 0
        · subst c5
          simp [c1]
        · have c6 : (i : Int) > 0 := by omega
          rw [h2 c5, if_pos (e1 c5), if_pos (e2 c5)]
          cases Go.Op.bytesLess p.f0.toList e.f0.toList <;> simp [c1, c5, c6]
      · simp [c1]
theorem impl_DiskOk_ev (l : List S45) (cap fuel : Int) (down : Bool) (hl : l.length ≤ 1048576) (hs : ∀ e ∈ l, smallF e) : Ev (fun k => impl_DiskOk.f k l cap fuel down) (diskOkB l cap fuel) := by
  obtain ⟨K, hK⟩ := evx (impl_DiskOk_l0 l cap fuel down hl hs l.length 0 rfl)
  rw [useN_zero] at hK
  refine evi (K + 1) fun k hk => ?_
  obtain ⟨k, rfl⟩ : ∃ m, k = m + 1 := ⟨k - 1, by omega⟩
  have hgo := hK k (by omega)
  unfold impl_DiskOk.f diskOkB
  simp only [impl_in_f, Option.bind_some, impl_DiskOk.j0]
  by_cases c1 : l.length ≤ 130
  · rw [if_neg (by omega), decide_eq_true c1]
    by_cases c2 : 0 ≤ cap ∧ cap ≤ 100000
    · by_cases c3 : -1 ≤ fuel ∧ fuel ≤ 100000
      · rw [if_pos (by simpa using c2), if_neg (by simpa using c3), decide_eq_true c2, decide_eq_true c3, Bool.true_and, Bool.true_and, Bool.true_and]
        exact hgo
      · rw [if_pos (by simpa using c2), decide_eq_false c3, if_pos (by decide)]
        simp
    · rw [if_neg (by simpa using c2), decide_eq_false c2]
      simp
  · rw [if_pos (by omega), decide_eq_false c1]
    simp

theorem spec_NameOk_s (s : ByteArray) (h : s.size ≤ 1048576) : Ev (fun k => spec_NameOk.f k s) (nameB s.toList) := by
  obtain ⟨l, rfl⟩ := exS s
  rw [mkS_size] at h
  rw [mkS_toList]
  exact spec_NameOk_ev l (by omega)
theorem spec_l3Used_l0 (l : List S45) (cap fuel : Int) (down : Bool) (hl : l.length ≤ 1048576) (hs : ∀ e ∈ l, smallF e) (d : Nat) : ∀ (i : Nat), d + i = l.length → Ev (fun k => spec_l3Used.l0 k (useN l i : Int) (i : Int) l cap fuel down) (useN l l.length : Int) := by
  induction d with
  | zero =>
    intro i hi
    refine evi (1) fun k hk => ?_
    obtain ⟨k, rfl⟩ : ∃ m, k = m + 1 := ⟨k - 1, by omega⟩
    simp only [spec_l3Used.l0]
    rw [if_neg (by omega), show i = l.length from by omega]
  | succ d ih =>
    intro i hi
    have hlt : i < l.length := by omega
    have hsi := hs _ (List.getElem_mem hlt)
    have hu := useN_le l hs (i + 1) (by omega)
    have hu1 := useN_succ l i hlt
    have h1 : rd_T45 l (i : Int) = l[i] := by simp [rd_T45, hlt]
    obtain ⟨K, hK⟩ := evx (ih (i + 1) (by omega))
    refine evi (K + 1) fun k hk => ?_
    obtain ⟨k, rfl⟩ : ∃ m, k = m + 1 := ⟨k - 1, by omega⟩
    have hgo := hK k (by omega)
    simp only [spec_l3Used.l0]
    rw [if_pos (by omega), if_pos (by omega), h1, w64 (x := (i : Int) + 1) (by omega) (by omega), w64 (x := (useN l i : Int) + (l[i].f1.size : Int)) (by omega) (by omega), show ((i : Int) + 1) = ((i + 1 : Nat) : Int) from by omega, show ((useN l i : Int) + (l[i].f1.size : Int)) = (useN l (i + 1) : Int) from by omega]
    exact hgo
theorem spec_l3Used_ev (l : List S45) (cap fuel : Int) (down : Bool) (hl : l.length ≤ 1048576) (hs : ∀ e ∈ l, smallF e) : Ev (fun k => spec_l3Used.f k l cap fuel down) (useN l l.length : Int) := by
  have := spec_l3Used_l0 l cap fuel down hl hs l.length 0 rfl
  rw [useN_zero] at this
  exact this
theorem spec_DiskOk_l0 (l : List S45) (cap fuel : Int) (down : Bool) (hl : l.length ≤ 1048576) (hs : ∀ e ∈ l, smallF e) (d : Nat) : ∀ (i : Nat), d + i = l.length → Ev (fun k => spec_DiskOk.l0 k (i : Int) l cap fuel down) (diskFrom l d i) := by
  induction d with
  | zero =>
    intro i hi
    refine evi (1) fun k hk => ?_
    obtain ⟨k, rfl⟩ : ∃ m, k = m + 1 := ⟨k - 1, by omega⟩
    simp only [spec_DiskOk.l0]
    rw [if_neg (by omega), diskFrom]
  | succ d ih =>
    intro i hi
    have hlt : i < l.length := by omega
    have hsi := hs _ (List.getElem_mem hlt)
    have h0 : l.getD i z45 = l[i] := by simp [hlt]
    have h1 : rd_T45 l (i : Int) = l[i] := by simp [rd_T45, hlt]
    obtain ⟨K1, hK1⟩ := evx (spec_NameOk_s l[i].f0 hsi.1)
    obtain ⟨K, hK⟩ := evx (ih (i + 1) (by omega))
    refine evi (K + K1 + 2) fun k hk => ?_
    obtain ⟨k, rfl⟩ : ∃ m, k = m + 2 := ⟨k - 2, by omega⟩
    have hgo := hK k (by omega)
    have hk1 := hK1 (k + 1) (by omega)
    have h2 : i ≠ 0 → rd_T45 l (wrap64 ((i : Int) - 1)) = l.getD (i - 1) z45 := fun hi0 => by
      rw [w64 (by omega) (by omega), show ((i : Int) - 1) = ((i - 1 : Nat) : Int) from by omega]
      simp [rd_T45]
    have e1 : i ≠ 0 → 0 ≤ wrap64 ((i : Int) - 1) := fun hi0 => by rw [w64 (by omega) (by omega)]; omega
    have e2 : i ≠ 0 → wrap64 ((i : Int) - 1) < (l.length : Int) := fun hi0 => by rw [w64 (by omega) (by omega)]; omega
    rw [show k + 2 = (k + 1) + 1 from rfl, spec_DiskOk.l0]
    simp only [spec_DiskOk.j2]
    rw [if_pos (by omega), if_pos (by omega), h1, hk1]
    simp only [spec_l1In_f, Option.bind_some]
    rw [w64 (x := (i : Int) + 1) (by omega) (by omega), show ((i : Int) + 1) = ((i + 1 : Nat) : Int) from by omega, hgo, diskFrom]
    unfold diskAt
    rw [h0]
    generalize l[i] = e
    generalize l.getD (i - 1) z45 = p at h2
    cases nameB e.f0.toList with
    | false => simp
    | true =>
      by_cases c1 : 0 ≤ e.f2 ∧ e.f2 ≤ (e.f1.size : Int)
      · by_cases c5 : i = 0
        · subst c5
          simp [c1]
        · have c6 : (i : Int) > 0 := by omega
          rw [h2 c5, if_pos (e1 c5), if_pos (e2 c5)]
          cases Go.Op.bytesLess p.f0.toList e.f0.toList <;> simp [c1, c5, c6]
      · simp [c1]
theorem spec_DiskOk_ev (l : List S45) (cap fuel : Int) (down : Bool) (hl : l.length ≤ 1048576) (hs : ∀ e ∈ l, smallF e) : Ev (fun k => spec_DiskOk.f k l cap fuel down) (diskOkB l cap fuel) := by
  obtain ⟨K, hK⟩ := evx (spec_DiskOk_l0 l cap fuel down hl hs l.length 0 rfl)
  obtain ⟨K2, hK2⟩ := evx (spec_l3Used_ev l cap fuel down hl hs)
  refine evi (K + K2 + 1) fun k hk => ?_
  obtain ⟨k, rfl⟩ : ∃ m, k = m + 1 := ⟨k - 1, by omega⟩
  have hgo := hK k (by omega)
  have hgo2 := hK2 (k + 1) (by omega)
  unfold spec_DiskOk.f diskOkB
  simp only [spec_l1In_f, Option.bind_some, spec_DiskOk.j0, hgo2]
  by_cases c1 : l.length ≤ 130
  · rw [if_neg (by omega), decide_eq_true c1]
    by_cases c2 : 0 ≤ cap ∧ cap ≤ 100000
    · by_cases c3 : -1 ≤ fuel ∧ fuel ≤ 100000
      · rw [if_pos (by simpa using c2), if_pos (by simpa using c3), decide_eq_true c2, decide_eq_true c3, Bool.true_and, Bool.true_and, Bool.true_and]
        by_cases c4 : (useN l l.length : Int) > cap
        · rw [if_pos (by simpa using c4), decide_eq_false (by omega), Bool.and_false]
        · rw [if_neg (by simpa using c4), decide_eq_true (by omega), Bool.and_true]
          exact hgo
      · rw [if_pos (by simpa using c2), if_neg (by simpa using c3), decide_eq_false c3]
        simp
    · rw [if_neg (by simpa using c2), decide_eq_false c2]
      simp
  · rw [if_pos (by omega), decide_eq_false c1]
    simp

theorem impl_copyDisk_f (l : List S45) (cap fuel : Int) (down : Bool) (hl : l.length ≤ 1048576) : impl_copyDisk.f l cap fuel down = some (l, cap, fuel, down) := by
  unfold impl_copyDisk.f
  rw [if_pos (by simp only [List.length_nil]; omega), List.nil_append]
theorem spec_l3Copy_f (l : List S45) (cap fuel : Int) (down : Bool) (hl : l.length ≤ 1048576) : spec_l3Copy.f l cap fuel down = some (l, cap, fuel, down) := by
  unfold spec_l3Copy.f
  simp only [Option.bind_some]
  rw [if_pos (by simp only [List.length_nil]; omega), List.nil_append]

theorem rdFi (l : List S45) (i : Nat) : rd_T45 l (i : Int) = l.getD i z45 := by simp only [rd_T45, Int.toNat_natCast]
/-- What is kept of what is not safe. -/
def powK (ts : List Int) (i : Nat) (f : S45) : Int := if ts.length = 0 then 0 else if 0 ≤ ts.getD (i % ts.length) 0 then ts.getD (i % ts.length) 0 % ((f.f1.size : Int) - f.f2 + 1) else 0
def powF (ts : List Int) (i : Nat) (f : S45) : S45 := ⟨f.f0, f.f1.extract 0 (f.f2 + powK ts i f).toNat, f.f2 + powK ts i f⟩
def powFs (ts : List Int) (l : List S45) : List S45 := (List.range l.length).map fun i => powF ts i (l.getD i z45)
def powerO (l : List S45) (cap fuel : Int) (down : Bool) (ts : List Int) : List S45 × Int × Int × Bool := if diskOkB l cap fuel = true then (powFs ts l, cap, -1, false) else (l, cap, fuel, down)
theorem powFs_length (ts : List Int) (l : List S45) : (powFs ts l).length = l.length := by simp [powFs]
theorem powFs_get (ts : List Int) (l : List S45) (i : Nat) (h : i < l.length) : (powFs ts l)[i]'(by rw [powFs_length]; exact h) = powF ts i (l.getD i z45) := by simp [powFs]
def safeF (f : S45) : Prop := 0 ≤ f.f2 ∧ f.f2 ≤ (f.f1.size : Int)
theorem powK_range (ts : List Int) (i : Nat) (f : S45) (h : safeF f) : 0 ≤ powK ts i f ∧ powK ts i f ≤ (f.f1.size : Int) - f.f2 := by
  obtain ⟨h0, h1⟩ := h
  unfold powK
  split
  · omega
  · split
    · have a := Int.emod_nonneg (ts.getD (i % ts.length) 0) (show ((f.f1.size : Int) - f.f2 + 1) ≠ 0 by omega)
      have b := Int.emod_lt_of_pos (ts.getD (i % ts.length) 0) (show 0 < ((f.f1.size : Int) - f.f2 + 1) by omega)
      omega
    · omega
theorem pow_mid (ts : List Int) (l : List S45) (i : Nat) (h : i < l.length) : ((powFs ts l).take i ++ l.drop i).length = l.length ∧ ((powFs ts l).take i ++ l.drop i).getD i z45 = l.getD i z45 ∧ ((powFs ts l).take i ++ l.drop i).set i (powF ts i (l.getD i z45)) = (powFs ts l).take (i + 1) ++ l.drop (i + 1) := by
  have hlen := powFs_length ts l
  have ht : ((powFs ts l).take i).length = i := by rw [List.length_take]; omega
  refine ⟨by rw [List.length_append, ht, List.length_drop]; omega, ?_, ?_⟩
  · simp [List.getD, List.getElem?_append_right (show ((powFs ts l).take i).length ≤ i by omega), ht]
  · rw [List.set_append_right _ _ (by omega), ht, Nat.sub_self, List.drop_eq_getElem_cons h, List.set_cons_zero, List.take_succ_eq_append_getElem (show i < (powFs ts l).length by omega), List.append_assoc, powFs_get ts l i h]
    rfl
theorem mx0 (x : Int) : mx x 0 = if 0 ≤ x then x else 0 := by unfold mx; split <;> split <;> omega
theorem impl_Power_l0 (ts : List Int) (hts : ts.length ≤ 1048576) (l : List S45) (cap fuel : Int) (down : Bool) (hl : l.length ≤ 1048576) (hs : ∀ e ∈ l, smallF e) (hsafe : ∀ e ∈ l, safeF e) (d : Nat) : ∀ i : Nat, d + i = l.length → Ev (fun k => impl_Power.l0 k ts (l.length : Int) (i : Int) ((powFs ts l).take i ++ l.drop i) cap fuel down) (powFs ts l, cap, -1, false) := by
  induction d with
  | zero =>
    intro i hi
    refine evi 1 (fun k hk => ?_)
    obtain ⟨k, rfl⟩ : ∃ m, k = m + 1 := ⟨k - 1, by omega⟩
    rw [impl_Power.l0, if_neg (by omega), List.drop_of_length_le (by omega), List.append_nil, List.take_of_length_le (by rw [powFs_length]; omega)]
  | succ d ih =>
    intro i hi
    have hlt : i < l.length := by omega
    obtain ⟨K, hK⟩ := evx (ih (i + 1) (by omega))
    obtain ⟨m1, m2, m3⟩ := pow_mid ts l i hlt
    refine evi (K + 1) (fun k hk => ?_)
    obtain ⟨k, rfl⟩ : ∃ m, k = m + 1 := ⟨k - 1, by omega⟩
    have hgo := hK k (by omega)
    have hm : l.getD i z45 ∈ l := by rw [show l.getD i z45 = l[i] from by simp [hlt]]; exact List.getElem_mem _
    have hr := powK_range ts i (l.getD i z45) (hsafe _ hm)
    obtain ⟨s0, s1⟩ := hsafe _ hm
    have hsm := (hs _ hm).2
    rw [impl_Power.l0, if_pos (by omega), if_pos (by omega), if_pos (by omega), rdFi, m2, Int.toNat_natCast]
    rw [w64 (x := (i : Int) + 1) (by omega) (by omega), show ((i : Int) + 1) = ((i + 1 : Nat) : Int) from by omega]
    rw [← m3] at hgo
    generalize hX : (powFs ts l).take i ++ l.drop i = X at *
    generalize hf : l.getD i z45 = f at *
    have step : ∀ v : S45, rd_T45 (X.set i v) (i : Int) = v := fun v => by simp [rd_T45, show i < X.length by omega]
    have set2 : ∀ v u : S45, (X.set i v).set i u = X.set i u := fun v u => List.set_set ..
    have hsz : (f.f1.size : Int) - f.f2 + 1 > 0 := by omega
    have w1 : wrap64 (wrap64 ((f.f1.size : Int) - f.f2) + 1) = (f.f1.size : Int) - f.f2 + 1 := by rw [w64 (x := (f.f1.size : Int) - f.f2) (by omega) (by omega), w64 (by omega) (by omega)]
    by_cases ht : ts.length = 0
    · have hk0 : powK ts i f = 0 := by unfold powK; rw [if_pos ht]
      have e0 : wrap64 (f.f2 + 0) = f.f2 + powK ts i f := by rw [hk0, w64 (by omega) (by omega)]
      rw [if_neg (by omega), e0]
      simp only [Option.bind_some]
      rw [step]
      simp only
      rw [if_pos (by omega), if_pos (by omega), set2]
      exact hgo
    · have htm : Int.tmod (i : Int) (ts.length : Int) = ((i % ts.length : Nat) : Int) := by rw [tmodp (by omega)]; rfl
      have hlt2 : i % ts.length < ts.length := Nat.mod_lt _ (by omega)
      have hrd : rd ts ((i % ts.length : Nat) : Int) = ts.getD (i % ts.length) 0 := by unfold rd; rw [Int.toNat_natCast]
      have hk0 : mx (ts.getD (i % ts.length) 0) 0 % ((f.f1.size : Int) - f.f2 + 1) = powK ts i f := by
        unfold powK
        rw [if_neg ht, mx0]
        split
        · rfl
        · exact Int.zero_emod _
      rw [if_pos (by omega), if_neg (by omega), htm, if_pos (by omega), if_pos (by omega), w1, if_neg (by omega), hrd, hk0, w64 (x := f.f2 + powK ts i f) (by omega) (by omega)]
      simp only [Option.bind_some]
      rw [step]
      simp only
      rw [if_pos (by omega), if_pos (by omega), set2]
      exact hgo
theorem diskFrom_iff (l : List S45) (d : Nat) : ∀ i, diskFrom l d i = true ↔ ∀ j, i ≤ j → j < i + d → diskAt l j = true := by
  induction d with
  | zero => intro i; simp only [diskFrom, true_iff]; intro j h1 h2; omega
  | succ d ih =>
    intro i
    rw [diskFrom, Bool.and_eq_true, ih]
    constructor
    · rintro ⟨h1, h2⟩ j h3 h4
      by_cases e : j = i
      · rw [e]; exact h1
      · exact h2 j (by omega) (by omega)
    · intro h
      exact ⟨h i (by omega) (by omega), fun j h1 h2 => h j (by omega) (by omega)⟩
theorem diskOkB_safe {l : List S45} {cap fuel : Int} (h : diskOkB l cap fuel = true) : ∀ e ∈ l, safeF e := by
  intro e he
  unfold diskOkB at h
  simp only [Bool.and_eq_true] at h
  obtain ⟨i, hi, rfl⟩ := List.getElem_of_mem he
  have := (diskFrom_iff l l.length 0).1 h.2.2.2.1 i (by omega) (by omega)
  unfold diskAt at this
  simp only [Bool.and_eq_true, decide_eq_true_eq] at this
  have e : l.getD i z45 = l[i] := by simp [hi]
  rw [e] at this
  exact this.2.1
theorem impl_Power_ev (l : List S45) (cap fuel : Int) (down : Bool) (ts : List Int) (hts : ts.length ≤ 1048576) (hl : l.length ≤ 1048576) (hs : ∀ e ∈ l, smallF e) : Ev (fun k => impl_Power.f k l cap fuel down ts) (powerO l cap fuel down ts) := by
  obtain ⟨K, hK⟩ := evx (impl_DiskOk_ev l cap fuel down hl hs)
  by_cases hd : diskOkB l cap fuel = true
  · obtain ⟨K2, h2⟩ := evx (impl_Power_l0 ts hts l cap fuel down hl hs (diskOkB_safe hd) l.length 0 rfl)
    refine evi (K + K2) (fun k hk => ?_)
    have h2' := h2 k (by omega)
    rw [List.take_zero, List.nil_append, List.drop_zero] at h2'
    unfold impl_Power.f powerO
    rw [impl_copyDisk_f l cap fuel down hl]
    simp only [Option.bind_some]
    rw [hK k (by omega)]
    simp only [Option.bind_some]
    rw [if_pos hd, if_pos hd]
    exact h2'
  · refine evi K (fun k hk => ?_)
    unfold impl_Power.f powerO
    rw [impl_copyDisk_f l cap fuel down hl]
    simp only [Option.bind_some]
    rw [hK k (by omega)]
    simp only [Option.bind_some]
    rw [if_neg hd, if_neg hd]
def volW (l : List S45) : Nat → Int
  | 0 => 0
  | i + 1 => wrap64 (volW l i + ((l.getD i z45).f1.size : Int) - (l.getD i z45).f2)
def volV (l : List S45) (cap fuel : Int) : Int := if diskOkB l cap fuel = true then volW l l.length else 0
theorem wrap_add (a b : Int) : wrap64 (a + wrap64 b) = wrap64 (a + b) := by unfold wrap64; omega
theorem impl_Volatile_l0 (l : List S45) (hl : l.length ≤ 1048576) (d : Nat) : ∀ (i : Nat), d + i = l.length → Ev (fun k => impl_Volatile.l0 k (volW l i) l (l.length : Int) (i : Int)) (volW l l.length) := by
  induction d with
  | zero =>
    intro i hi
    refine evi (1) fun k hk => ?_
    obtain ⟨k, rfl⟩ : ∃ m, k = m + 1 := ⟨k - 1, by omega⟩
    simp only [impl_Volatile.l0]
    rw [if_neg (by omega), show i = l.length from by omega]
  | succ d ih =>
    intro i hi
    have h1 : rd_T45 l (i : Int) = l.getD i z45 := by simp [rd_T45]
    obtain ⟨K, hK⟩ := evx (ih (i + 1) (by omega))
    refine evi (K + 1) fun k hk => ?_
    obtain ⟨k, rfl⟩ : ∃ m, k = m + 1 := ⟨k - 1, by omega⟩
    have hgo := hK k (by omega)
    simp only [impl_Volatile.l0]
    rw [if_pos (by omega), if_pos (by omega), if_pos (by omega), h1, w64 (x := (i : Int) + 1) (by omega) (by omega), show ((i : Int) + 1) = ((i + 1 : Nat) : Int) from by omega, wrap_add, ← Int.add_sub_assoc]
    exact hgo
theorem impl_Volatile_ev (l : List S45) (cap fuel : Int) (down : Bool) (hl : l.length ≤ 1048576) (hs : ∀ e ∈ l, smallF e) : Ev (fun k => impl_Volatile.f k l cap fuel down) (volV l cap fuel) := by
  obtain ⟨K1, h1⟩ := evx (impl_DiskOk_ev l cap fuel down hl hs)
  obtain ⟨K2, h2⟩ := evx (impl_Volatile_l0 l hl l.length 0 rfl)
  refine evi (K1 + K2) fun k hk => ?_
  have hgo := h2 k (by omega)
  unfold impl_Volatile.f volV
  rw [h1 k (by omega)]
  simp only [Option.bind_some]
  split
  · exact hgo
  · rfl
def settledB (l : List S45) (cap fuel : Int) : Bool := diskOkB l cap fuel && (volV l cap fuel == 0)
theorem impl_Settled_ev (l : List S45) (cap fuel : Int) (down : Bool) (hl : l.length ≤ 1048576) (hs : ∀ e ∈ l, smallF e) : Ev (fun k => impl_Settled.f k l cap fuel down) (settledB l cap fuel) := by
  obtain ⟨K1, h1⟩ := evx (impl_DiskOk_ev l cap fuel down hl hs)
  obtain ⟨K2, h2⟩ := evx (impl_Volatile_ev l cap fuel down hl hs)
  refine evi (K1 + K2) fun k hk => ?_
  unfold impl_Settled.f settledB
  rw [h1 k (by omega), h2 k (by omega)]
  simp only [Option.bind_some]
  cases diskOkB l cap fuel <;> rfl
def usedV (l : List S45) (cap fuel : Int) : Int := if diskOkB l cap fuel = true then (useN l l.length : Int) else 0
theorem impl_used_l0 (l : List S45) (hl : l.length ≤ 1048576) (hs : ∀ e ∈ l, smallF e) (d : Nat) : ∀ (i : Nat), d + i = l.length → Ev (fun k => impl_used.l0 k (useN l i : Int) l (l.length : Int) (i : Int)) (useN l l.length : Int) := by
  induction d with
  | zero =>
    intro i hi
    refine evi (1) fun k hk => ?_
    obtain ⟨k, rfl⟩ : ∃ m, k = m + 1 := ⟨k - 1, by omega⟩
    simp only [impl_used.l0]
    rw [if_neg (by omega), show i = l.length from by omega]
  | succ d ih =>
    intro i hi
    have hlt : i < l.length := by omega
    have hsi := hs _ (List.getElem_mem hlt)
    have hu := useN_le l hs (i + 1) (by omega)
    have hu1 := useN_succ l i hlt
    have h1 : rd_T45 l (i : Int) = l[i] := by simp [rd_T45, hlt]
    obtain ⟨K, hK⟩ := evx (ih (i + 1) (by omega))
    refine evi (K + 1) fun k hk => ?_
    obtain ⟨k, rfl⟩ : ∃ m, k = m + 1 := ⟨k - 1, by omega⟩
    have hgo := hK k (by omega)
    simp only [impl_used.l0]
    rw [if_pos (by omega), if_pos (by omega), if_pos (by omega), h1, w64 (x := (i : Int) + 1) (by omega) (by omega), w64 (x := (useN l i : Int) + (l[i].f1.size : Int)) (by omega) (by omega), show ((i : Int) + 1) = ((i + 1 : Nat) : Int) from by omega, show ((useN l i : Int) + (l[i].f1.size : Int)) = (useN l (i + 1) : Int) from by omega]
    exact hgo
theorem impl_used_ev (l : List S45) (cap fuel : Int) (down : Bool) (hl : l.length ≤ 1048576) (hs : ∀ e ∈ l, smallF e) : Ev (fun k => impl_used.f k l cap fuel down) (useN l l.length : Int) := by
  have := impl_used_l0 l hl hs l.length 0 rfl
  rw [useN_zero] at this
  exact this
theorem impl_Used_ev (l : List S45) (cap fuel : Int) (down : Bool) (hl : l.length ≤ 1048576) (hs : ∀ e ∈ l, smallF e) : Ev (fun k => impl_Used.f k l cap fuel down) (usedV l cap fuel) := by
  obtain ⟨K1, h1⟩ := evx (impl_DiskOk_ev l cap fuel down hl hs)
  obtain ⟨K2, h2⟩ := evx (impl_used_ev l cap fuel down hl hs)
  refine evi (K1 + K2) fun k hk => ?_
  unfold impl_Used.f usedV
  rw [h1 k (by omega), h2 k (by omega)]
  simp only [Option.bind_some]
  split <;> rfl
def filEq (a b : S45) : Bool := (a.f0.toList == b.f0.toList) && ((a.f1.toList == b.f1.toList) && (a.f2 == b.f2))
def filsEq (a b : List S45) : Nat → Nat → Bool
  | 0, _ => true
  | d + 1, i => filEq (a.getD i z45) (b.getD i z45) && filsEq a b d (i + 1)
theorem filNe (a b : S45) : (!(a.f0.toList == b.f0.toList) || (!(a.f1.toList == b.f1.toList) || (!(a.f2 == b.f2)))) = !filEq a b := by
  unfold filEq
  simp [Bool.not_and]
def sameDiskB (a : List S45) (c f : Int) (d : Bool) (a' : List S45) (c' f' : Int) (d' : Bool) : Bool := decide (a.length = a'.length) && (decide (c = c') && (decide (f = f') && ((d == d') && filsEq a a' a.length 0)))
theorem spec_SameDisk_l0 (a b : List S45) (c f : Int) (dn : Bool) (c' f' : Int) (dn' : Bool) (hab : a.length = b.length) (hl : a.length ≤ 4611686018427387904) (d : Nat) : ∀ (i : Nat), d + i = a.length → Ev (fun k => spec_SameDisk.l0 k (i : Int) a c f dn b c' f' dn') (filsEq a b d i) := by
  induction d with
  | zero =>
    intro i hi
    refine evi (1) fun k hk => ?_
    obtain ⟨k, rfl⟩ : ∃ m, k = m + 1 := ⟨k - 1, by omega⟩
    simp only [spec_SameDisk.l0]
    rw [if_neg (by omega)]
    rfl
  | succ d ih =>
    intro i hi
    obtain ⟨K, hK⟩ := evx (ih (i + 1) (by omega))
    refine evi (K + 1) fun k hk => ?_
    obtain ⟨k, rfl⟩ : ∃ m, k = m + 1 := ⟨k - 1, by omega⟩
    simp only [spec_SameDisk.l0]
    have h1 : rd_T45 a (i : Int) = a.getD i z45 := by simp [rd_T45]
    have h2 : rd_T45 b (i : Int) = b.getD i z45 := by simp [rd_T45]
    rw [if_pos (by omega), if_pos (by omega), if_pos (by omega), h1, h2, filNe, filsEq]
    cases filEq (a.getD i z45) (b.getD i z45) with
    | false => rfl
    | true =>
      rw [if_neg (by decide), w64 (by omega) (by omega)]
      exact hK k (by omega)
theorem spec_SameDisk_ev (a b : List S45) (c f : Int) (dn : Bool) (c' f' : Int) (dn' : Bool) (hl : a.length ≤ 4611686018427387904) : Ev (fun k => spec_SameDisk.f k a c f dn b c' f' dn') (sameDiskB a c f dn b c' f' dn') := by
  unfold sameDiskB
  by_cases h : a.length = b.length
  · obtain ⟨K, hK⟩ := evx (spec_SameDisk_l0 a b c f dn c' f' dn' h hl a.length 0 rfl)
    refine evi (K + 1) fun k hk => ?_
    obtain ⟨k, rfl⟩ : ∃ m, k = m + 1 := ⟨k - 1, by omega⟩
    have hgo := hK k (by omega)
    have hgo' : spec_SameDisk.l0 k 0 a c f dn b c' f' dn' = some (filsEq a b a.length 0) := hgo
    have hi : (a.length : Int) = (b.length : Int) := by omega
    unfold spec_SameDisk.f
    simp only [spec_SameDisk.j0, hgo', if_pos hi, decide_eq_true h]
    by_cases h1 : c = c' <;> by_cases h2 : f = f' <;> cases dn <;> cases dn' <;> simp [h1, h2]
  · refine evi (1) fun k hk => ?_
    obtain ⟨k, rfl⟩ : ∃ m, k = m + 1 := ⟨k - 1, by omega⟩
    have hi : ¬ ((a.length : Int) = (b.length : Int)) := by omega
    unfold spec_SameDisk.f
    simp only [spec_SameDisk.j0, if_neg hi, decide_eq_false h]
    simp
theorem extract_all (s : ByteArray) : s.extract 0 s.size = s := by
  obtain ⟨l, rfl⟩ := exS s
  rw [mkS_size, mkS_extract, List.drop_zero, Nat.sub_zero, List.take_of_length_le (by omega)]
theorem powF_size (ts : List Int) (i : Nat) (f : S45) (h : safeF f) : ((powF ts i f).f1.size : Int) = (powF ts i f).f2 ∧ f.f2 ≤ (powF ts i f).f2 ∧ (powF ts i f).f2 ≤ (f.f1.size : Int) := by
  have hr := powK_range ts i f h
  obtain ⟨h0, h1⟩ := h
  refine ⟨?_, ?_, ?_⟩
  · show ((f.f1.extract 0 (f.f2 + powK ts i f).toNat).size : Int) = f.f2 + powK ts i f
    rw [ByteArray.size_extract]; omega
  · show f.f2 ≤ f.f2 + powK ts i f; omega
  · show f.f2 + powK ts i f ≤ (f.f1.size : Int); omega
theorem powF_again (ts : List Int) (i : Nat) (f : S45) (h : ((f.f1.size : Int)) = f.f2) : powF ts i f = f := by
  have hk : powK ts i f = 0 := by
    unfold powK
    rw [show (f.f1.size : Int) - f.f2 + 1 = 1 from by omega]
    split
    · rfl
    · split
      · exact Int.emod_one _
      · rfl
  obtain ⟨a, b, c⟩ := f
  simp only at h
  unfold powF
  rw [hk]
  simp only
  rw [show (c + 0).toNat = b.size from by omega, extract_all, Int.add_zero]
theorem getD_pow (ts : List Int) (l : List S45) (i : Nat) (h : i < l.length) : (powFs ts l).getD i z45 = powF ts i (l.getD i z45) := by
  have := powFs_get ts l i h
  simp only [List.getD_eq_getElem?_getD, List.getElem?_eq_getElem (show i < (powFs ts l).length by rw [powFs_length]; exact h), Option.getD_some]
  rw [this, List.getD_eq_getElem?_getD]
theorem powFs_again (ts : List Int) (l : List S45) (h : ∀ e ∈ l, ((e.f1.size : Int)) = e.f2) : powFs ts l = l := by
  apply List.ext_getElem (powFs_length ts l)
  intro i h1 h2
  rw [powFs_get ts l i h2]
  have e : l.getD i z45 = l[i] := by simp [h2]
  rw [e]
  exact powF_again ts i _ (h _ (List.getElem_mem _))
theorem powFs_mem (ts : List Int) (l : List S45) {e : S45} (h : e ∈ powFs ts l) : ∃ i, i < l.length ∧ e = powF ts i (l.getD i z45) := by
  unfold powFs at h
  obtain ⟨i, hi, rfl⟩ := List.mem_map.1 h
  exact ⟨i, List.mem_range.1 hi, rfl⟩
theorem getD_mem (l : List S45) (i : Nat) (h : i < l.length) : l.getD i z45 ∈ l := by
  rw [show l.getD i z45 = l[i] from by simp [h]]
  exact List.getElem_mem _
theorem useN_pow (ts : List Int) (l : List S45) (hs : ∀ e ∈ l, safeF e) (i : Nat) (hi : i ≤ l.length) : useN (powFs ts l) i ≤ useN l i := by
  induction i with
  | zero => rw [useN_zero, useN_zero]; omega
  | succ i ih =>
    have := ih (by omega)
    have h2 := powF_size ts i (l.getD i z45) (hs _ (getD_mem l i (by omega)))
    have e : l.getD i z45 = l[i] := by simp [show i < l.length by omega]
    rw [useN_succ l i (by omega), useN_succ (powFs ts l) i (by rw [powFs_length]; omega), powFs_get ts l i (by omega)]
    rw [e] at h2 ⊢
    omega
theorem volW_le (ts : List Int) (l : List S45) (hl : l.length ≤ 1000000) (hs : ∀ e ∈ l, safeF e) (hm : ∀ e ∈ l, smallF e) (i : Nat) (hi : i ≤ l.length) : (useN l i : Int) - (useN (powFs ts l) i : Int) ≤ volW l i ∧ 0 ≤ volW l i ∧ volW l i ≤ (i : Int) * 1048576 := by
  induction i with
  | zero => rw [useN_zero, useN_zero]; simp [volW]
  | succ i ih =>
    obtain ⟨h1, h2, h3⟩ := ih (by omega)
    have hmem := getD_mem l i (by omega)
    have h4 := powF_size ts i (l.getD i z45) (hs _ hmem)
    obtain ⟨h5, h6⟩ := hs _ hmem
    have h7 := (hm _ hmem).2
    have e : l.getD i z45 = l[i] := by simp [show i < l.length by omega]
    rw [useN_succ l i (by omega), useN_succ (powFs ts l) i (by rw [powFs_length]; omega), powFs_get ts l i (by omega), volW]
    have hw : wrap64 (volW l i + ((l.getD i z45).f1.size : Int) - (l.getD i z45).f2) = volW l i + ((l.getD i z45).f1.size : Int) - (l.getD i z45).f2 := w64 (by omega) (by omega)
    rw [hw]
    rw [e] at h4 h5 h6 h7 ⊢
    omega
theorem volW_settled (l : List S45) (h : ∀ e ∈ l, ((e.f1.size : Int)) = e.f2) (i : Nat) (hi : i ≤ l.length) : volW l i = 0 := by
  induction i with
  | zero => rfl
  | succ i ih =>
    have := h _ (getD_mem l i (by omega))
    rw [volW, ih (by omega), show (0 : Int) + ((l.getD i z45).f1.size : Int) - (l.getD i z45).f2 = 0 from by omega]
    exact w64 (by omega) (by omega)
theorem diskOkB_iff (l : List S45) (cap fuel : Int) : diskOkB l cap fuel = true ↔ l.length ≤ 130 ∧ (0 ≤ cap ∧ cap ≤ 100000) ∧ (-1 ≤ fuel ∧ fuel ≤ 100000) ∧ (∀ i, i < l.length → diskAt l i = true) ∧ (useN l l.length : Int) ≤ cap := by
  unfold diskOkB
  simp only [Bool.and_eq_true, decide_eq_true_eq, diskFrom_iff]
  constructor
  · rintro ⟨a, b, c, d, e⟩
    exact ⟨a, b, c, fun i hi => d i (by omega) (by omega), e⟩
  · rintro ⟨a, b, c, d, e⟩
    exact ⟨a, b, c, fun i _ hi => d i (by omega), e⟩
theorem diskOkB_pow (ts : List Int) {l : List S45} {cap fuel : Int} (h : diskOkB l cap fuel = true) : diskOkB (powFs ts l) cap (-1) = true := by
  have hs := diskOkB_safe h
  obtain ⟨a, b, c, d, e⟩ := (diskOkB_iff l cap fuel).1 h
  refine (diskOkB_iff _ _ _).2 ⟨by rw [powFs_length]; exact a, b, by omega, fun i hi => ?_, ?_⟩
  · rw [powFs_length] at hi
    have hd := d i hi
    have h4 := powF_size ts i (l.getD i z45) (hs _ (getD_mem l i hi))
    obtain ⟨h5, h6⟩ := hs _ (getD_mem l i hi)
    unfold diskAt at hd ⊢
    simp only [Bool.and_eq_true, Bool.or_eq_true, decide_eq_true_eq] at hd ⊢
    rw [getD_pow ts l i hi]
    refine ⟨hd.1, by omega, ?_⟩
    rcases hd.2.2 with h0 | h0
    · exact Or.inl h0
    · by_cases hz : i = 0
      · exact Or.inl hz
      · rw [getD_pow ts l (i - 1) (by omega)]
        exact Or.inr h0
  · have := useN_pow ts l hs l.length (by omega)
    rw [powFs_length]
    omega
theorem filEq_self (a : S45) : filEq a a = true := by simp [filEq]
theorem filsEq_self (a : List S45) (d : Nat) : ∀ i, filsEq a a d i = true := by
  induction d with
  | zero => intro i; rfl
  | succ d ih => intro i; simp [filsEq, filEq_self, ih]
theorem sameDiskB_self (a : List S45) (c f : Int) (d : Bool) : sameDiskB a c f d a c f d = true := by simp [sameDiskB, filsEq_self]

theorem and255 (x : Int) : 0 ≤ Go.bits .and .i64 x 255 ∧ Go.bits .and .i64 x 255 ≤ 255 := by
  have hb : (BitVec.ofInt 64 x &&& BitVec.ofInt 64 255).toNat ≤ 255 := by
    rw [BitVec.toNat_and]; exact Nat.le_trans Nat.and_le_right (by decide)
  have e : Go.bits .and .i64 x 255 = IntKind.i64.wrap (((BitVec.ofInt 64 x &&& BitVec.ofInt 64 255).toNat : Nat) : Int) := rfl
  rw [e, IntKind.wrap_i64]
  omega
def okP (c : List Int) (p : Int) : Prop := 0 ≤ p ∧ p ≤ (c.length : Int)
theorem byte_ex (c : List Int) (hc : c.length ≤ 1048576) (p s : Int) (hp : okP c p) : ∃ v p' s', spec_l1Byte.f c p s = some (v, p', s') ∧ (0 ≤ v ∧ v ≤ 255) ∧ okP c p' := by
  unfold okP at *
  unfold spec_l1Byte.f
  by_cases h : p < (c.length : Int)
  · rw [if_pos h, if_pos hp.1]
    refine ⟨_, _, _, rfl, and255 _, ?_⟩
    rw [w64 (by omega) (by omega)]
    omega
  · rw [if_neg h]
    exact ⟨_, _, _, rfl, and255 _, hp⟩
theorem below_ex (c : List Int) (hc : c.length ≤ 1048576) (p s : Int) (hp : okP c p) (a : Int) : ∃ v p' s', spec_l1Below.f c p s a = some (v, p', s') ∧ 0 ≤ v ∧ (0 < a → v < a) ∧ (a ≤ 0 → v = 0) ∧ okP c p' := by
  unfold spec_l1Below.f
  by_cases h0 : a ≤ 0
  · rw [if_pos h0]
    exact ⟨_, _, _, rfl, by omega, by omega, fun _ => rfl, hp⟩
  · rw [if_neg h0]
    by_cases h1 : a ≤ 256
    · rw [if_pos h1]
      obtain ⟨v, p1, s1, e1, hv, hp1⟩ := byte_ex c hc p s hp
      rw [e1]
      simp only [Option.bind_some]
      rw [if_neg (by omega)]
      refine ⟨_, _, _, rfl, ?_, fun _ => ?_, by omega, hp1⟩
      · exact Int.tmod_nonneg _ hv.1
      · exact Int.tmod_lt_of_pos _ (by omega)
    · rw [if_neg h1]
      obtain ⟨v1, p1, s1, e1, hv1, hp1⟩ := byte_ex c hc p s hp
      obtain ⟨v2, p2, s2, e2, hv2, hp2⟩ := byte_ex c hc p1 s1 hp1
      obtain ⟨v3, p3, s3, e3, hv3, hp3⟩ := byte_ex c hc p2 s2 hp2
      obtain ⟨v4, p4, s4, e4, hv4, hp4⟩ := byte_ex c hc p3 s3 hp3
      rw [e1]
      simp only [Option.bind_some]
      rw [e2]
      simp only [Option.bind_some]
      rw [e3]
      simp only [Option.bind_some]
      rw [e4]
      simp only [Option.bind_some]
      rw [if_neg (by omega)]
      refine ⟨_, _, _, rfl, ?_, fun _ => ?_, by omega, hp4⟩
      · apply Int.tmod_nonneg
        rw [w64 (x := v1 * 16777216) (by omega) (by omega), w64 (x := v2 * 65536) (by omega) (by omega), w64 (x := v1 * 16777216 + v2 * 65536) (by omega) (by omega), w64 (x := v3 * 256) (by omega) (by omega), w64 (x := v1 * 16777216 + v2 * 65536 + v3 * 256) (by omega) (by omega), w64 (by omega) (by omega)]
        omega
      · exact Int.tmod_lt_of_pos _ (by omega)
theorem text_l0 (c : List Int) (hc : c.length ≤ 1048576) (x : Int) (d : Nat) : ∀ (acc : List Int) (p s : Int), okP c p → acc.length + d ≤ 1000000 → ∃ r p' s', Ev (fun k => spec_l1Text.l0 k acc x (d : Int) c p s) (r, p', s') ∧ r.size ≤ acc.length + d ∧ okP c p' := by
  induction d with
  | zero =>
    intro acc p s hp ha
    refine ⟨strOfNums acc, p, s, evi 1 (fun k hk => ?_), by rw [strOfNums_size]; omega, hp⟩
    obtain ⟨k, rfl⟩ : ∃ m, k = m + 1 := ⟨k - 1, by omega⟩
    rw [spec_l1Text.l0, if_neg (by omega)]
  | succ d ih =>
    intro acc p s hp ha
    obtain ⟨v, p1, s1, e1, hv, hp1⟩ := byte_ex c hc p s hp
    have key : ∀ v' : Int, ∃ r p' s', Ev (fun k => spec_l1Text.j1 k acc x ((d + 1 : Nat) : Int) v' c p1 s1) (r, p', s') ∧ r.size ≤ acc.length + (d + 1) ∧ okP c p' := by
      intro v'
      have hd : wrap64 (((d + 1 : Nat) : Int) - 1) = (d : Int) := by rw [w64 (by omega) (by omega)]; omega
      by_cases hx : x = 2
      · obtain ⟨r, p', s', hE, hr, hp'⟩ := ih (acc ++ [(wrap64 (97 + (Int.tmod v' 4))) % 256]) p1 s1 hp1 (by rw [List.length_append, List.length_singleton]; omega)
        obtain ⟨K, hK⟩ := evx hE
        refine ⟨r, p', s', evi (K + 1) (fun k hk => ?_), by rw [List.length_append, List.length_singleton] at hr; omega, hp'⟩
        obtain ⟨k, rfl⟩ : ∃ m, k = m + 1 := ⟨k - 1, by omega⟩
        rw [spec_l1Text.j1, if_pos hx, if_pos (by omega), hd]
        exact hK k (by omega)
      · obtain ⟨r, p', s', hE, hr, hp'⟩ := ih (acc ++ [v' % 256]) p1 s1 hp1 (by rw [List.length_append, List.length_singleton]; omega)
        obtain ⟨K, hK⟩ := evx hE
        refine ⟨r, p', s', evi (K + 1) (fun k hk => ?_), by rw [List.length_append, List.length_singleton] at hr; omega, hp'⟩
        obtain ⟨k, rfl⟩ : ∃ m, k = m + 1 := ⟨k - 1, by omega⟩
        rw [spec_l1Text.j1, if_neg hx, if_pos (by omega), hd]
        exact hK k (by omega)
    by_cases h1 : x = 1
    · obtain ⟨r, p', s', hE, hr, hp'⟩ := key (Int.tmod v 2)
      obtain ⟨K, hK⟩ := evx hE
      refine ⟨r, p', s', evi (K + 1) (fun k hk => ?_), hr, hp'⟩
      obtain ⟨k, rfl⟩ : ∃ m, k = m + 1 := ⟨k - 1, by omega⟩
      rw [spec_l1Text.l0, if_pos (by omega), e1]
      simp only [Option.bind_some]
      rw [if_pos h1]
      exact hK k (by omega)
    · obtain ⟨r, p', s', hE, hr, hp'⟩ := key v
      obtain ⟨K, hK⟩ := evx hE
      refine ⟨r, p', s', evi (K + 1) (fun k hk => ?_), hr, hp'⟩
      obtain ⟨k, rfl⟩ : ∃ m, k = m + 1 := ⟨k - 1, by omega⟩
      rw [spec_l1Text.l0, if_pos (by omega), e1]
      simp only [Option.bind_some]
      rw [if_neg h1]
      exact hK k (by omega)
theorem text_f {c : List Int} {p s a v1 p1 s1 v2 p2 s2 : Int} (h1 : spec_l1Below.f c p s 4 = some (v1, p1, s1)) (h2 : spec_l1Below.f c p1 s1 (wrap64 (a + 1)) = some (v2, p2, s2)) (k : Nat) : spec_l1Text.f k c p s a = spec_l1Text.l0 k ([] : List Int) v1 v2 c p2 s2 := by
  unfold spec_l1Text.f
  rw [h1]
  simp only [Option.bind_some]
  rw [h2]
  simp only [Option.bind_some]
theorem text_ex (c : List Int) (hc : c.length ≤ 1048576) (p s : Int) (hp : okP c p) (a : Nat) (ha : a ≤ 1000) : ∃ r p' s', Ev (fun k => spec_l1Text.f k c p s (a : Int)) (r, p', s') ∧ r.size ≤ a ∧ okP c p' := by
  obtain ⟨v1, p1, s1, e1, hv1, _, _, hp1⟩ := below_ex c hc p s hp 4
  obtain ⟨v2, p2, s2, e2, hv2, hv2', _, hp2⟩ := below_ex c hc p1 s1 hp1 (wrap64 ((a : Int) + 1))
  have hw : wrap64 ((a : Int) + 1) = (a : Int) + 1 := w64 (by omega) (by omega)
  rw [hw] at hv2'
  have := hv2' (by omega)
  obtain ⟨n, rfl⟩ := Int.eq_ofNat_of_zero_le hv2
  obtain ⟨r, p', s', hE, hr, hp'⟩ := text_l0 c hc v1 n [] p2 s2 hp2 (by simp only [List.length_nil]; omega)
  obtain ⟨K, hK⟩ := evx hE
  refine ⟨r, p', s', evi K (fun k hk => ?_), by simp only [List.length_nil] at hr; omega, hp'⟩
  have e := text_f e1 e2 k
  rw [e]
  exact hK k hk
theorem pickInt_ex (c : List Int) (hc : c.length ≤ 1048576) (p s : Int) (hp : okP c p) (l : List Int) (hl : 0 < l.length) : ∃ v p' s', spec_l1PickInt.f c p s l = some (v, p', s') ∧ okP c p' := by
  obtain ⟨v1, p1, s1, e1, hv1, hv1', _, hp1⟩ := below_ex c hc p s hp (l.length : Int)
  have := hv1' (by omega)
  unfold spec_l1PickInt.f
  rw [e1]
  simp only [Option.bind_some]
  rw [if_pos hv1, if_pos this]
  exact ⟨_, _, _, rfl, hp1⟩
theorem new_ex (c : List Int) (hc : c.length ≤ 1048576) : ∃ s, Ev (fun k => spec_l1New.f k c) (c, 0, s) := by
  have key : ∀ (d i : Nat) (h : Int), d + i = c.length → ∃ s, Ev (fun k => spec_l1New.l0 k c h (i : Int)) (c, 0, s) := by
    intro d
    induction d with
    | zero =>
      intro i h hi
      refine ⟨h, evi 1 (fun k hk => ?_)⟩
      obtain ⟨k, rfl⟩ : ∃ m, k = m + 1 := ⟨k - 1, by omega⟩
      rw [spec_l1New.l0, if_neg (by omega)]
    | succ d ih =>
      intro i h hi
      by_cases h4 : (i : Int) < 4000
      · obtain ⟨s, hs⟩ := ih (i + 1) (Go.bits .and .i64 (wrap64 ((wrap64 ((wrap64 (h * 131)) + (wrap64 (rd c (i : Int))))) + 7)) 1073741823) (by omega)
        obtain ⟨K, hK⟩ := evx hs
        refine ⟨s, evi (K + 1) (fun k hk => ?_)⟩
        obtain ⟨k, rfl⟩ : ∃ m, k = m + 1 := ⟨k - 1, by omega⟩
        have hgo := hK k (by omega)
        have e2 : wrap64 ((i : Int) + 1) = ((i + 1 : Nat) : Int) := by rw [w64 (by omega) (by omega)]; omega
        rw [spec_l1New.l0, if_pos (by omega), if_pos h4, if_pos (by omega), e2]
        exact hgo
      · refine ⟨h, evi 1 (fun k hk => ?_)⟩
        obtain ⟨k, rfl⟩ : ∃ m, k = m + 1 := ⟨k - 1, by omega⟩
        rw [spec_l1New.l0, if_pos (by omega), if_neg h4]
  obtain ⟨s, hs⟩ := key c.length 0 (wrap64 (10101 + (c.length : Int))) rfl
  exact ⟨s, hs⟩
theorem spec_DecN_l0 (m : Nat) : ∀ (u : Nat) (acc : ByteArray), u ≤ m → acc.size + u ≤ 1000000 → ∃ t, Ev (fun k => spec_Dec.l0 k (u : Int) acc false) t ∧ t.size ≤ acc.size + u := by
  induction m with
  | zero =>
    intro u acc hu ha
    refine ⟨acc, evi 1 fun k hk => ?_, by omega⟩
    obtain ⟨k, rfl⟩ : ∃ m, k = m + 1 := ⟨k - 1, by omega⟩
    rw [spec_Dec.l0, if_pos (by omega), if_neg (by simp)]
  | succ m ih =>
    intro u acc hu ha
    by_cases h0 : u = 0
    · refine ⟨acc, evi 1 fun k hk => ?_, by omega⟩
      obtain ⟨k, rfl⟩ : ∃ m, k = m + 1 := ⟨k - 1, by omega⟩
      rw [spec_Dec.l0, if_pos (by omega), if_neg (by simp)]
    · have hs : (strOfNums [(wrap64 (48 + (Int.tmod (u : Int) 10))) % 256]).size = 1 := by rw [strOfNums_size]; rfl
      obtain ⟨t, hE, ht⟩ := ih (u / 10) (strOfNums [(wrap64 (48 + (Int.tmod (u : Int) 10))) % 256] ++ acc) (by omega) (by rw [ByteArray.size_append, hs]; omega)
      rw [ByteArray.size_append, hs] at ht
      obtain ⟨K, hK⟩ := evx hE
      refine ⟨t, evi (K + 1) fun k hk => ?_, by omega⟩
      obtain ⟨k, rfl⟩ : ∃ m, k = m + 1 := ⟨k - 1, by omega⟩
      have hm : Int.tmod (u : Int) 10 = ((u % 10 : Nat) : Int) := by rw [tmodp (by omega)]; omega
      have hd : wrap64 (Int.tdiv (u : Int) 10) = ((u / 10 : Nat) : Int) := by rw [tdivp (by omega), w64 (by omega) (by omega)]; omega
      rw [spec_Dec.l0, if_neg (by omega), if_neg (by rw [hm]; omega)]
      simp only [Option.bind_some]
      rw [if_pos (by rw [hs]; omega), hd]
      exact hK k (by omega)
def dOk (n m : Nat) (l : List S45) : Prop := l.length ≤ n ∧ ∀ e ∈ l, e.f0.size ≤ 1000 ∧ e.f1.size ≤ m
theorem dOk_small {n m : Nat} {l : List S45} (h : dOk n m l) (hm : m ≤ 1000000) : ∀ e ∈ l, smallF e := fun e he => by
  have := h.2 e he
  exact ⟨by omega, by omega⟩
theorem dOk_mono {n m n' m' : Nat} {l : List S45} (h : dOk n m l) (hn : n ≤ n') (hm : m ≤ m') : dOk n' m' l := ⟨by have := h.1; omega, fun e he => by have := h.2 e he; omega⟩
theorem begin_ex (l : List S45) (cap fuel : Int) (down : Bool) (n m : Nat) (h : dOk n m l) (hn : n ≤ 1000) (hm : m ≤ 1000000) : ∃ fuel' down' code, Ev (fun k => spec_l3Begin.f k l cap fuel down) (l, cap, fuel', down', code) := by
  have hl : l.length ≤ 1048576 := by have := h.1; omega
  obtain ⟨K, hK⟩ := evx (spec_DiskOk_ev l cap fuel down hl (dOk_small h hm))
  have j0 : ∀ b : Bool, ∃ fuel' down' code, Ev (fun k => spec_l3Begin.j0 k b l cap fuel down l cap fuel down) (l, cap, fuel', down', code) := by
    intro b
    cases b with
    | true =>
      refine ⟨fuel, true, 1, evi 1 (fun k hk => ?_)⟩
      obtain ⟨k, rfl⟩ : ∃ m, k = m + 1 := ⟨k - 1, by omega⟩
      rw [spec_l3Begin.j0, if_pos rfl]
    | false =>
      by_cases hf : fuel > 0
      · refine ⟨wrap64 (fuel - 1), down, 0, evi 1 (fun k hk => ?_)⟩
        obtain ⟨k, rfl⟩ : ∃ m, k = m + 1 := ⟨k - 1, by omega⟩
        rw [spec_l3Begin.j0, if_neg (by simp), if_pos hf]
      · refine ⟨fuel, down, 0, evi 1 (fun k hk => ?_)⟩
        obtain ⟨k, rfl⟩ : ∃ m, k = m + 1 := ⟨k - 1, by omega⟩
        rw [spec_l3Begin.j0, if_neg (by simp), if_neg hf]
  by_cases hd : diskOkB l cap fuel = true
  · by_cases hdn : down = true
    · obtain ⟨f', d', c', hE⟩ := j0 true
      obtain ⟨K2, h2⟩ := evx hE
      refine ⟨f', d', c', evi (K + K2) (fun k hk => ?_)⟩
      unfold spec_l3Begin.f
      rw [spec_l3Copy_f l cap fuel down hl]
      simp only [Option.bind_some]
      rw [hK k (by omega)]
      simp only [Option.bind_some]
      rw [if_pos hd, if_pos hdn]
      exact h2 k (by omega)
    · obtain ⟨f', d', c', hE⟩ := j0 (fuel == 0)
      obtain ⟨K2, h2⟩ := evx hE
      refine ⟨f', d', c', evi (K + K2) (fun k hk => ?_)⟩
      unfold spec_l3Begin.f
      rw [spec_l3Copy_f l cap fuel down hl]
      simp only [Option.bind_some]
      rw [hK k (by omega)]
      simp only [Option.bind_some]
      rw [if_pos hd, if_neg hdn]
      exact h2 k (by omega)
  · refine ⟨fuel, down, 5, evi K (fun k hk => ?_)⟩
    unfold spec_l3Begin.f
    rw [spec_l3Copy_f l cap fuel down hl]
    simp only [Option.bind_some]
    rw [hK k (by omega)]
    simp only [Option.bind_some]
    rw [if_neg hd]
theorem find_ex (l : List S45) (cap fuel : Int) (down : Bool) (name : ByteArray) (hl : l.length ≤ 1048576) : ∃ t, Ev (fun k => spec_l3Find.f k l cap fuel down name) t ∧ -1 ≤ t ∧ t < (l.length : Int) := by
  have key : ∀ (d i : Nat), d + i = l.length → ∃ t, Ev (fun k => spec_l3Find.l0 k name (i : Int) l cap fuel down) t ∧ -1 ≤ t ∧ t < (l.length : Int) := by
    intro d
    induction d with
    | zero =>
      intro i hi
      refine ⟨-1, evi 1 (fun k hk => ?_), by omega, by omega⟩
      obtain ⟨k, rfl⟩ : ∃ m, k = m + 1 := ⟨k - 1, by omega⟩
      rw [spec_l3Find.l0, if_neg (by omega)]
    | succ d ih =>
      intro i hi
      by_cases h : (rd_T45 l (i : Int)).f0.toList = name.toList
      · refine ⟨(i : Int), evi 1 (fun k hk => ?_), by omega, by omega⟩
        obtain ⟨k, rfl⟩ : ∃ m, k = m + 1 := ⟨k - 1, by omega⟩
        rw [spec_l3Find.l0, if_pos (by omega), if_pos (by omega), if_pos h]
      · obtain ⟨t, hE, h1, h2⟩ := ih (i + 1) (by omega)
        obtain ⟨K, hK⟩ := evx hE
        refine ⟨t, evi (K + 1) (fun k hk => ?_), h1, h2⟩
        obtain ⟨k, rfl⟩ : ∃ m, k = m + 1 := ⟨k - 1, by omega⟩
        rw [spec_l3Find.l0, if_pos (by omega), if_pos (by omega), if_neg h, w64 (by omega) (by omega), show ((i : Int) + 1) = ((i + 1 : Nat) : Int) from by omega]
        exact hK k (by omega)
  exact key l.length 0 rfl
theorem insert_ex (l : List S45) (f : S45) (hl : l.length ≤ 1000) : ∃ l', Ev (fun k => spec_l3Insert.f k l f.f0 f.f1 f.f2) l' ∧ l'.length ≤ l.length + 1 ∧ ∀ e ∈ l', e ∈ l ∨ e = f := by
  have key : ∀ (d i : Nat) (acc : List S45) (dn : Bool), d + i = l.length → acc.length ≤ i + (if dn = true then 1 else 0) → (∀ e ∈ acc, e ∈ l ∨ e = f) → ∃ l', Ev (fun k => spec_l3Insert.l0 k l acc dn (i : Int) f.f0 f.f1 f.f2) l' ∧ l'.length ≤ l.length + 1 ∧ ∀ e ∈ l', e ∈ l ∨ e = f := by
    intro d
    induction d with
    | zero =>
      intro i acc dn hi ha hm
      cases dn with
      | true =>
        refine ⟨acc, evi 1 (fun k hk => ?_), by rw [if_pos rfl] at ha; omega, hm⟩
        obtain ⟨k, rfl⟩ : ∃ m, k = m + 1 := ⟨k - 1, by omega⟩
        rw [spec_l3Insert.l0, if_neg (by omega), if_pos rfl]
      | false =>
        rw [if_neg (by simp)] at ha
        refine ⟨acc ++ [f], evi 1 (fun k hk => ?_), by rw [List.length_append, List.length_singleton]; omega, fun e he => ?_⟩
        · obtain ⟨k, rfl⟩ : ∃ m, k = m + 1 := ⟨k - 1, by omega⟩
          rw [spec_l3Insert.l0, if_neg (by omega), if_neg (by simp), if_pos (by omega)]
        · rcases List.mem_append.1 he with h | h
          · exact hm e h
          · exact Or.inr (List.mem_singleton.1 h)
    | succ d ih =>
      intro i acc dn hi ha hm
      have hlt : i < l.length := by omega
      have h1 : rd_T45 l (i : Int) = l[i] := by simp [rd_T45, hlt]
      have hmem : ∀ a : List S45, (∀ e ∈ a, e ∈ l ∨ e = f) → ∀ e ∈ a ++ [l[i]], e ∈ l ∨ e = f := fun a h e he => by
        rcases List.mem_append.1 he with h' | h'
        · exact h e h'
        · rw [List.mem_singleton.1 h']; exact Or.inl (List.getElem_mem _)
      have hw : wrap64 ((i : Int) + 1) = ((i + 1 : Nat) : Int) := by rw [w64 (by omega) (by omega)]; omega
      cases dn with
      | true =>
        rw [if_pos rfl] at ha
        obtain ⟨l', hE, h2, h3⟩ := ih (i + 1) (acc ++ [l[i]]) true (by omega) (by rw [List.length_append, List.length_singleton, if_pos rfl]; omega) (hmem acc hm)
        obtain ⟨K, hK⟩ := evx hE
        refine ⟨l', evi (K + 1) (fun k hk => ?_), h2, h3⟩
        obtain ⟨k, rfl⟩ : ∃ m, k = m + 1 := ⟨k - 1, by omega⟩
        have c1 : (i : Int) < (l.length : Int) := by clear hw; omega
        have c2 : (0 : Int) ≤ (i : Int) := by clear hw; omega
        have c3 : acc.length < 3518437208883 := by clear hw; omega
        rw [spec_l3Insert.l0, if_pos c1, if_pos rfl, if_pos c2, if_pos c3, h1, hw]
        exact hK k (by clear hw; omega)
      | false =>
        rw [if_neg (by simp)] at ha
        by_cases hb : Op.bytesLess f.f0.toList l[i].f0.toList = true
        · obtain ⟨l', hE, h2, h3⟩ := ih (i + 1) ((acc ++ [f]) ++ [l[i]]) true (by omega) (by rw [List.length_append, List.length_append, List.length_singleton, List.length_singleton, if_pos rfl]; omega) (hmem _ (fun e he => by
            rcases List.mem_append.1 he with h | h
            · exact hm e h
            · exact Or.inr (List.mem_singleton.1 h)))
          obtain ⟨K, hK⟩ := evx hE
          refine ⟨l', evi (K + 1) (fun k hk => ?_), h2, h3⟩
          obtain ⟨k, rfl⟩ : ∃ m, k = m + 1 := ⟨k - 1, by omega⟩
          have c1 : (i : Int) < (l.length : Int) := by clear hw; omega
          have c2 : (0 : Int) ≤ (i : Int) := by clear hw; omega
          have c3 : acc.length < 3518437208883 := by clear hw; omega
          have c4 : (acc ++ [f]).length < 3518437208883 := by rw [List.length_append, List.length_singleton]; clear hw; omega
          rw [spec_l3Insert.l0, if_pos c1, if_neg (by simp), if_pos c2, h1, if_pos hb, if_pos c3]
          simp only [Option.bind_some]
          refine (if_pos c4).trans ?_
          rw [hw]
          exact hK k (by clear hw; omega)
        · obtain ⟨l', hE, h2, h3⟩ := ih (i + 1) (acc ++ [l[i]]) false (by omega) (by rw [List.length_append, List.length_singleton, if_neg (by simp)]; omega) (hmem acc hm)
          obtain ⟨K, hK⟩ := evx hE
          refine ⟨l', evi (K + 1) (fun k hk => ?_), h2, h3⟩
          obtain ⟨k, rfl⟩ : ∃ m, k = m + 1 := ⟨k - 1, by omega⟩
          have c1 : (i : Int) < (l.length : Int) := by clear hw; omega
          have c2 : (0 : Int) ≤ (i : Int) := by clear hw; omega
          have c3 : acc.length < 3518437208883 := by clear hw; omega
          rw [spec_l3Insert.l0, if_pos c1, if_neg (by simp), if_pos c2, h1, if_neg hb, if_pos c3, hw]
          exact hK k (by clear hw; omega)
  exact key l.length 0 [] false rfl (by simp) (fun e he => by cases he)
theorem without_ex (l : List S45) (t : Int) (h0 : 0 ≤ t) (h1 : t < (l.length : Int)) (hl : l.length ≤ 1000) : ∃ l', spec_l3Without.f l t = some l' ∧ l'.length ≤ l.length ∧ ∀ e ∈ l', e ∈ l := by
  obtain ⟨i, rfl⟩ := Int.eq_ofNat_of_zero_le h0
  have hw : wrap64 ((i : Int) + 1) = ((i + 1 : Nat) : Int) := by rw [w64 (by omega) (by omega)]; omega
  have c1 : ([] : List S45).length + (l.take i).length < 3518437208883 := by rw [List.length_take, List.length_nil]; clear hw; omega
  have c2 : (([] : List S45) ++ l.take i).length + (l.drop (i + 1)).length < 3518437208883 := by rw [List.nil_append, List.length_take, List.length_drop]; clear hw; omega
  have d1 : (i : Int) ≤ (l.length : Int) := by clear hw; omega
  have d2 : (0 : Int) ≤ ((i + 1 : Nat) : Int) := by clear hw; omega
  have d3 : ((i + 1 : Nat) : Int) ≤ (l.length : Int) := by clear hw; omega
  refine ⟨([] ++ l.take i) ++ l.drop (i + 1), ?_, by rw [List.nil_append, List.length_append, List.length_take, List.length_drop]; clear hw; omega, fun e he => ?_⟩
  · unfold spec_l3Without.f
    simp only [Option.bind_some, if_pos h0, if_pos d1, Int.toNat_natCast, if_pos c1, hw, if_pos d2, if_pos d3, if_pos c2]
  · rw [List.nil_append] at he
    rcases List.mem_append.1 he with h | h
    · exact List.mem_of_mem_take h
    · exact List.mem_of_mem_drop h
theorem rdFi_mem (l : List S45) (t : Int) (h0 : 0 ≤ t) (h1 : t < (l.length : Int)) : rd_T45 l t ∈ l := by
  obtain ⟨i, rfl⟩ := Int.eq_ofNat_of_zero_le h0
  have hlt : i < l.length := by omega
  have : rd_T45 l (i : Int) = l[i] := by simp [rd_T45, hlt]
  rw [this]
  exact List.getElem_mem _
theorem dOk_set {n m : Nat} {l : List S45} (h : dOk n m l) (i : Nat) (f : S45) (hf : f.f0.size ≤ 1000 ∧ f.f1.size ≤ m) : dOk n m (l.set i f) := by
  refine ⟨by rw [List.length_set]; exact h.1, fun e he => ?_⟩
  rcases List.mem_or_eq_of_mem_set he with h' | h'
  · exact h.2 e h'
  · rw [h']; exact hf
abbrev DiskR := List S45 × Int × Int × Bool × Int
theorem create_ex (l : List S45) (cap fuel : Int) (down : Bool) (name : ByteArray) (n m : Nat) (h : dOk n m l) (hn : n ≤ 100) (hm : m ≤ 100000) (hs : name.size ≤ 1000) : ∃ r : DiskR, Ev (fun k => spec_Create.f k l cap fuel down name) r ∧ dOk (n + 1) m r.1 := by
  have hl : l.length ≤ 1000 := by have := h.1; omega
  obtain ⟨f', d', c', hB⟩ := begin_ex l cap fuel down n m h (by omega) (by omega)
  obtain ⟨K1, h1⟩ := evx hB
  obtain ⟨K2, h2⟩ := evx (spec_NameOk_s name (by omega))
  obtain ⟨t, hF, t0, t1⟩ := find_ex l cap fuel down name (by omega)
  obtain ⟨K3, h3⟩ := evx hF
  obtain ⟨l', hI, i1, i2⟩ := insert_ex l (⟨name, (⟨#[]⟩ : ByteArray), 0⟩ : S45) hl
  obtain ⟨K4, h4⟩ := evx hI
  have hz : (⟨#[]⟩ : ByteArray).size = 0 := rfl
  have pre : ∀ k, K1 + K2 + K3 + K4 ≤ k → spec_Create.f k l cap fuel down name = if c' = 0 then (if nameB name.toList = true then (if t ≥ 0 then (some (l, cap, f', d', 4)) else (if (l.length : Int) ≥ 130 then (some (l, cap, f', d', 2)) else (some (l', cap, f', d', 0)))) else (some (l, cap, f', d', 5))) else (some (l, cap, f', d', c')) := by
    intro k hk
    have h4' : spec_l3Insert.f k l name (⟨#[]⟩ : ByteArray) 0 = some l' := h4 k (by omega)
    unfold spec_Create.f
    rw [h1 k (by omega)]
    simp only [Option.bind_some]
    rw [h2 k (by omega)]
    simp only [Option.bind_some]
    rw [h3 k (by omega)]
    simp only [Option.bind_some]
    rw [h4']
    simp only [Option.bind_some]
  have keep : ∀ c, (∀ k, K1 + K2 + K3 + K4 ≤ k → spec_Create.f k l cap fuel down name = some (l, cap, f', d', c)) → ∃ r : DiskR, Ev (fun k => spec_Create.f k l cap fuel down name) r ∧ dOk (n + 1) m r.1 := fun c hc => ⟨_, evi _ hc, dOk_mono h (by omega) (by omega)⟩
  by_cases c0 : c' = 0
  · by_cases c1 : nameB name.toList = true
    · by_cases c2 : t ≥ 0
      · exact keep 4 fun k hk => by rw [pre k hk, if_pos c0, if_pos c1, if_pos c2]
      · by_cases c3 : (l.length : Int) ≥ 130
        · exact keep 2 fun k hk => by rw [pre k hk, if_pos c0, if_pos c1, if_neg c2, if_pos c3]
        · refine ⟨(l', cap, f', d', 0), evi _ fun k hk => by rw [pre k hk, if_pos c0, if_pos c1, if_neg c2, if_neg c3], ⟨by have := h.1; show l'.length ≤ n + 1; omega, fun e he => ?_⟩⟩
          rcases i2 e he with h' | h'
          · exact h.2 e h'
          · rw [h']; exact ⟨hs, by rw [hz]; omega⟩
    · exact keep 5 fun k hk => by rw [pre k hk, if_pos c0, if_neg c1]
  · exact keep c' fun k hk => by rw [pre k hk, if_neg c0]
theorem append_ex (l : List S45) (cap fuel : Int) (down : Bool) (name text : ByteArray) (n m : Nat) (h : dOk n m l) (hn : n ≤ 100) (hm : m ≤ 100000) (hs : text.size ≤ 9) : ∃ r : DiskR, Ev (fun k => spec_Append.f k l cap fuel down name text) r ∧ dOk (n + 1) (m + 9) r.1 := by
  have hl : l.length ≤ 1000 := by have := h.1; omega
  obtain ⟨f', d', c', hB⟩ := begin_ex l cap fuel down n m h (by omega) (by omega)
  obtain ⟨K1, h1⟩ := evx hB
  obtain ⟨t, hF, t0, t1⟩ := find_ex l cap fuel down name (by omega)
  obtain ⟨K3, h3⟩ := evx hF
  obtain ⟨K4, h4⟩ := evx (spec_l3Used_ev l cap fuel down (by omega) (dOk_small h (by omega)))
  have keep : ∀ c, (∀ k, K1 + K3 + K4 ≤ k → spec_Append.f k l cap fuel down name text = some (l, cap, f', d', c)) → ∃ r : DiskR, Ev (fun k => spec_Append.f k l cap fuel down name text) r ∧ dOk (n + 1) (m + 9) r.1 := fun c hc => ⟨_, evi _ hc, dOk_mono h (by omega) (by omega)⟩
  by_cases c0 : c' = 0
  · by_cases c1 : t < 0
    · refine keep 3 fun k hk => ?_
      unfold spec_Append.f
      rw [h1 k (by omega)]
      simp only [Option.bind_some]
      rw [if_pos c0, h3 k (by omega)]
      simp only [Option.bind_some]
      rw [if_pos c1]
    · by_cases c2 : (text.size : Int) > wrap64 (cap - (useN l l.length : Int))
      · refine keep 2 fun k hk => ?_
        unfold spec_Append.f
        rw [h1 k (by omega)]
        simp only [Option.bind_some]
        rw [if_pos c0, h3 k (by omega)]
        simp only [Option.bind_some]
        rw [if_neg c1, h4 k (by omega)]
        simp only [Option.bind_some]
        rw [if_pos c2]
      · have hm1 := rdFi_mem l t (by omega) t1
        have hm2 := h.2 _ hm1
        refine ⟨(l.set t.toNat (⟨(rd_T45 l t).f0, (rd_T45 l t).f1 ++ text, (rd_T45 l t).f2⟩ : S45), cap, f', d', 0), evi (K1 + K3 + K4) fun k hk => ?_, dOk_set (dOk_mono h (by omega) (by omega)) _ _ ⟨hm2.1, by rw [ByteArray.size_append]; omega⟩⟩
        unfold spec_Append.f
        rw [h1 k (by omega)]
        simp only [Option.bind_some]
        rw [if_pos c0, h3 k (by omega)]
        simp only [Option.bind_some]
        rw [if_neg c1, h4 k (by omega)]
        simp only [Option.bind_some]
        rw [if_neg c2, if_pos (by omega), if_pos t1, if_pos (by omega), if_pos t1]
  · refine keep c' fun k hk => ?_
    unfold spec_Append.f
    rw [h1 k (by omega)]
    simp only [Option.bind_some]
    rw [if_neg c0]
theorem sync_ex (l : List S45) (cap fuel : Int) (down : Bool) (name : ByteArray) (n m : Nat) (h : dOk n m l) (hn : n ≤ 100) (hm : m ≤ 100000) : ∃ r : DiskR, Ev (fun k => spec_Sync.f k l cap fuel down name) r ∧ dOk (n + 1) (m + 9) r.1 := by
  have hl : l.length ≤ 1000 := by have := h.1; omega
  obtain ⟨f', d', c', hB⟩ := begin_ex l cap fuel down n m h (by omega) (by omega)
  obtain ⟨K1, h1⟩ := evx hB
  obtain ⟨t, hF, t0, t1⟩ := find_ex l cap fuel down name (by omega)
  obtain ⟨K3, h3⟩ := evx hF
  have keep : ∀ c, (∀ k, K1 + K3 ≤ k → spec_Sync.f k l cap fuel down name = some (l, cap, f', d', c)) → ∃ r : DiskR, Ev (fun k => spec_Sync.f k l cap fuel down name) r ∧ dOk (n + 1) (m + 9) r.1 := fun c hc => ⟨_, evi _ hc, dOk_mono h (by omega) (by omega)⟩
  by_cases c0 : c' = 0
  · by_cases c1 : t < 0
    · refine keep 3 fun k hk => ?_
      unfold spec_Sync.f
      rw [h1 k (by omega)]
      simp only [Option.bind_some]
      rw [if_pos c0, h3 k (by omega)]
      simp only [Option.bind_some]
      rw [if_pos c1]
    · have hm1 := rdFi_mem l t (by omega) t1
      have hm2 := h.2 _ hm1
      refine ⟨(l.set t.toNat (⟨(rd_T45 l t).f0, (rd_T45 l t).f1, ((rd_T45 l t).f1.size : Int)⟩ : S45), cap, f', d', 0), evi (K1 + K3) fun k hk => ?_, dOk_set (dOk_mono h (by omega) (by omega)) _ _ ⟨hm2.1, by show (rd_T45 l t).f1.size ≤ m + 9; omega⟩⟩
      unfold spec_Sync.f
      rw [h1 k (by omega)]
      simp only [Option.bind_some]
      rw [if_pos c0, h3 k (by omega)]
      simp only [Option.bind_some]
      rw [if_neg c1, if_pos (by omega), if_pos t1, if_pos t1]
  · refine keep c' fun k hk => ?_
    unfold spec_Sync.f
    rw [h1 k (by omega)]
    simp only [Option.bind_some]
    rw [if_neg c0]
theorem rename_ex (l : List S45) (cap fuel : Int) (down : Bool) (name to_ : ByteArray) (n m : Nat) (h : dOk n m l) (hn : n ≤ 100) (hm : m ≤ 100000) (hs : to_.size ≤ 1000) : ∃ r : DiskR, Ev (fun k => spec_Rename.f k l cap fuel down name to_) r ∧ dOk (n + 1) (m + 9) r.1 := by
  have hl : l.length ≤ 1000 := by have := h.1; omega
  obtain ⟨f', d', c', hB⟩ := begin_ex l cap fuel down n m h (by omega) (by omega)
  obtain ⟨K1, h1⟩ := evx hB
  obtain ⟨K2, h2⟩ := evx (spec_NameOk_s to_ (by omega))
  obtain ⟨t, hF, t0, t1⟩ := find_ex l cap fuel down name (by omega)
  obtain ⟨K3, h3⟩ := evx hF
  have keep : ∀ (K : Nat) (c : Int), (∀ k, K ≤ k → spec_Rename.f k l cap fuel down name to_ = some (l, cap, f', d', c)) → ∃ r : DiskR, Ev (fun k => spec_Rename.f k l cap fuel down name to_) r ∧ dOk (n + 1) (m + 9) r.1 := fun K c hc => ⟨_, evi _ hc, dOk_mono h (by omega) (by omega)⟩
  by_cases c0 : c' = 0
  · by_cases c1 : nameB to_.toList = true
    · have pre : ∀ k, K1 + K2 + K3 ≤ k → spec_Rename.f k l cap fuel down name to_ = (if t < 0 then (some (l, cap, f', d', 3)) else (if name.toList = to_.toList then (some (l, cap, f', d', 0)) else (if 0 ≤ t then (if t < (l.length : Int) then ((spec_l3Without.f l t).bind fun t309 => ((spec_l3Find.f k t309 cap f' d' to_).bind fun t312 => (if t312 ≥ 0 then ((spec_l3Without.f t309 t312).bind fun t313 => ((spec_l3Insert.f k t313 to_ ((rd_T45 l t).f1) ((rd_T45 l t).f2)).bind fun t316 => (some (t316, cap, f', d', 0)))) else ((spec_l3Insert.f k t309 to_ ((rd_T45 l t).f1) ((rd_T45 l t).f2)).bind fun t319 => (some (t319, cap, f', d', 0)))))) else (none)) else (none)))) := by
        intro k hk
        unfold spec_Rename.f
        rw [h1 k (by omega)]
        simp only [Option.bind_some]
        rw [if_pos c0, h2 k (by omega)]
        simp only [Option.bind_some]
        rw [if_pos c1, h3 k (by omega)]
        simp only [Option.bind_some]
      by_cases c2 : t < 0
      · exact keep (K1 + K2 + K3) 3 fun k hk => by rw [pre k hk, if_pos c2]
      by_cases c3 : name.toList = to_.toList
      · exact keep (K1 + K2 + K3) 0 fun k hk => by rw [pre k hk, if_neg c2, if_pos c3]
      have hm2 := h.2 _ (rdFi_mem l t (by omega) t1)
      obtain ⟨la, w1, w2, w3⟩ := without_ex l t (by omega) t1 hl
      obtain ⟨u, hF2, u0, u1⟩ := find_ex la cap f' d' to_ (by omega)
      obtain ⟨K4, h4⟩ := evx hF2
      have fin : ∀ lb : List S45, lb.length ≤ l.length → (∀ e ∈ lb, e ∈ l) → ∀ lc : List S45, lc.length ≤ lb.length + 1 → (∀ e ∈ lc, e ∈ lb ∨ e = (⟨to_, (rd_T45 l t).f1, (rd_T45 l t).f2⟩ : S45)) → dOk (n + 1) (m + 9) lc := by
        intro lb b1 b2 lc q1 q2
        refine ⟨by have := h.1; omega, fun e he => ?_⟩
        rcases q2 e he with h' | h'
        · have := h.2 e (b2 e h'); omega
        · rw [h']; exact ⟨hs, by show (rd_T45 l t).f1.size ≤ m + 9; omega⟩
      by_cases c4 : u ≥ 0
      · obtain ⟨lb, x1, x2, x3⟩ := without_ex la u c4 u1 (by omega)
        obtain ⟨lc, hI, i1, i2⟩ := insert_ex lb (⟨to_, (rd_T45 l t).f1, (rd_T45 l t).f2⟩ : S45) (by omega)
        obtain ⟨K5, h5⟩ := evx hI
        refine ⟨(lc, cap, f', d', 0), evi (K1 + K2 + K3 + K4 + K5) fun k hk => ?_, fin lb (by omega) (fun e he => w3 e (x3 e he)) lc i1 i2⟩
        have h5' : spec_l3Insert.f k lb to_ (rd_T45 l t).f1 (rd_T45 l t).f2 = some lc := h5 k (by omega)
        rw [pre k (by omega), if_neg c2, if_neg c3, if_pos (by omega), if_pos t1, w1]
        simp only [Option.bind_some]
        rw [h4 k (by omega)]
        simp only [Option.bind_some]
        rw [if_pos c4, x1]
        simp only [Option.bind_some]
        rw [h5']
        rfl
      · obtain ⟨lc, hI, i1, i2⟩ := insert_ex la (⟨to_, (rd_T45 l t).f1, (rd_T45 l t).f2⟩ : S45) (by omega)
        obtain ⟨K5, h5⟩ := evx hI
        refine ⟨(lc, cap, f', d', 0), evi (K1 + K2 + K3 + K4 + K5) fun k hk => ?_, fin la w2 w3 lc i1 i2⟩
        have h5' : spec_l3Insert.f k la to_ (rd_T45 l t).f1 (rd_T45 l t).f2 = some lc := h5 k (by omega)
        rw [pre k (by omega), if_neg c2, if_neg c3, if_pos (by omega), if_pos t1, w1]
        simp only [Option.bind_some]
        rw [h4 k (by omega)]
        simp only [Option.bind_some]
        rw [if_neg c4, h5']
        rfl
    · refine keep (K1 + K2 + K3) 5 fun k hk => ?_
      unfold spec_Rename.f
      rw [h1 k (by omega)]
      simp only [Option.bind_some]
      rw [if_pos c0, h2 k (by omega)]
      simp only [Option.bind_some]
      rw [if_neg c1]
  · refine keep (K1 + K2 + K3) c' fun k hk => ?_
    unfold spec_Rename.f
    rw [h1 k (by omega)]
    simp only [Option.bind_some]
    rw [if_neg c0]
theorem name_ex (c : List Int) (hc : c.length ≤ 1048576) (p s : Int) (hp : okP c p) : ∃ v p' s', spec_l3Name.f c p s = some (v, p', s') ∧ v.size ≤ 1000 ∧ okP c p' := by
  obtain ⟨v1, p1, s1, e1, hv1, hv1', _, hp1⟩ := below_ex c hc p s hp 8
  have hlt := hv1' (by omega)
  unfold spec_l3Name.f spec_l1Pick.f
  have e1' : spec_l1Below.f c p s (([(⟨#[108, 105, 118, 101]⟩ : ByteArray), (⟨#[115, 101, 103, 49]⟩ : ByteArray), (⟨#[115, 101, 103, 50]⟩ : ByteArray), (⟨#[115, 101, 103, 51]⟩ : ByteArray), (⟨#[116, 101, 109, 112]⟩ : ByteArray), (⟨#[104, 105, 110, 116, 49]⟩ : ByteArray), (⟨#[120]⟩ : ByteArray), (⟨#[97, 57]⟩ : ByteArray)] : List ByteArray).length : Int) = some (v1, p1, s1) := e1
  rw [e1']
  simp only [Option.bind_some]
  rw [if_pos hv1, if_pos (by simp only [List.length_cons, List.length_nil]; omega)]
  simp only [Option.bind_some]
  refine ⟨_, _, _, rfl, ?_, hp1⟩
  obtain ⟨i, rfl⟩ := Int.eq_ofNat_of_zero_le hv1
  have hi : i < 8 := by omega
  rcases (show i = 0 ∨ i = 1 ∨ i = 2 ∨ i = 3 ∨ i = 4 ∨ i = 5 ∨ i = 6 ∨ i = 7 from by omega) with rfl | rfl | rfl | rfl | rfl | rfl | rfl | rfl <;> decide
theorem disk_l0 (c : List Int) (hc : c.length ≤ 1048576) (d : Nat) : ∀ (n : Nat) (l : List S45) (cap fuel : Int) (down : Bool) (p s : Int), okP c p → dOk n (9 * n) l → n + d ≤ 90 → ∃ l' cap' fuel' down' p' s', Ev (fun k => spec_l3Disk.l0 k (d : Int) c p s l cap fuel down) (l', cap', fuel', down', p', s') ∧ dOk 90 810 l' ∧ okP c p' := by
  induction d with
  | zero =>
    intro n l cap fuel down p s hp h hn
    refine ⟨l, cap, fuel, down, p, s, evi 1 (fun k hk => ?_), dOk_mono h (by omega) (by omega), hp⟩
    obtain ⟨k, rfl⟩ : ∃ m, k = m + 1 := ⟨k - 1, by omega⟩
    rw [spec_l3Disk.l0, if_neg (by omega)]
  | succ d ih =>
    intro n l cap fuel down p s hp h hn
    have hw : wrap64 (((d + 1 : Nat) : Int) - 1) = (d : Int) := by rw [w64 (by omega) (by omega)]; omega
    obtain ⟨nm, p1, s1, e1, hs1, hp1⟩ := name_ex c hc p s hp
    obtain ⟨v, p2, s2, e2, _, _, _, hp2⟩ := below_ex c hc p1 s1 hp1 6
    have j2 : ∀ b : Bool, ∃ l' cap' fuel' down' p' s', Ev (fun k => spec_l3Disk.j2 k ((d + 1 : Nat) : Int) nm v b c p2 s2 l cap fuel down) (l', cap', fuel', down', p', s') ∧ dOk 90 810 l' ∧ okP c p' := by
      intro b
      cases b with
      | true =>
        obtain ⟨tx, p3, s3, hE, ht, hp3⟩ := text_ex c hc p2 s2 hp2 9 (by omega)
        obtain ⟨K1, h1⟩ := evx hE
        obtain ⟨⟨l3, cap3, f3, d3, c3⟩, hA, h3⟩ := append_ex l cap fuel down nm tx n (9 * n) h (by omega) (by omega) ht
        obtain ⟨K2, h2⟩ := evx hA
        obtain ⟨l', cap', fuel', down', p', s', hE2, hd, hp'⟩ := ih (n + 1) l3 cap3 f3 d3 p3 s3 hp3 (dOk_mono h3 (by omega) (by omega)) (by omega)
        obtain ⟨K3, h4⟩ := evx hE2
        refine ⟨l', cap', fuel', down', p', s', evi (K1 + K2 + K3 + 1) (fun k hk => ?_), hd, hp'⟩
        obtain ⟨k, rfl⟩ : ∃ m, k = m + 1 := ⟨k - 1, by omega⟩
        have h1' : spec_l1Text.f k c p2 s2 9 = some (tx, p3, s3) := h1 k (by omega)
        rw [spec_l3Disk.j2, if_pos rfl, h1']
        simp only [Option.bind_some]
        rw [h2 k (by omega)]
        simp only [Option.bind_some]
        rw [hw]
        exact h4 k (by omega)
      | false =>
        by_cases c4 : v = 4
        · obtain ⟨⟨l3, cap3, f3, d3, c3⟩, hA, h3⟩ := sync_ex l cap fuel down nm n (9 * n) h (by omega) (by omega)
          obtain ⟨K2, h2⟩ := evx hA
          obtain ⟨l', cap', fuel', down', p', s', hE2, hd, hp'⟩ := ih (n + 1) l3 cap3 f3 d3 p2 s2 hp2 (dOk_mono h3 (by omega) (by omega)) (by omega)
          obtain ⟨K3, h4⟩ := evx hE2
          refine ⟨l', cap', fuel', down', p', s', evi (K2 + K3 + 1) (fun k hk => ?_), hd, hp'⟩
          obtain ⟨k, rfl⟩ : ∃ m, k = m + 1 := ⟨k - 1, by omega⟩
          rw [spec_l3Disk.j2, if_neg (by simp), if_pos c4, h2 k (by omega)]
          simp only [Option.bind_some]
          rw [hw]
          exact h4 k (by omega)
        · obtain ⟨to_, p3, s3, e3, hs3, hp3⟩ := name_ex c hc p2 s2 hp2
          obtain ⟨⟨l3, cap3, f3, d3, c3⟩, hA, h3⟩ := rename_ex l cap fuel down nm to_ n (9 * n) h (by omega) (by omega) hs3
          obtain ⟨K2, h2⟩ := evx hA
          obtain ⟨l', cap', fuel', down', p', s', hE2, hd, hp'⟩ := ih (n + 1) l3 cap3 f3 d3 p3 s3 hp3 (dOk_mono h3 (by omega) (by omega)) (by omega)
          obtain ⟨K3, h4⟩ := evx hE2
          refine ⟨l', cap', fuel', down', p', s', evi (K2 + K3 + 1) (fun k hk => ?_), hd, hp'⟩
          obtain ⟨k, rfl⟩ : ∃ m, k = m + 1 := ⟨k - 1, by omega⟩
          rw [spec_l3Disk.j2, if_neg (by simp), if_neg c4, e3]
          simp only [Option.bind_some]
          rw [h2 k (by omega)]
          simp only [Option.bind_some]
          rw [hw]
          exact h4 k (by omega)
    have j1 : ∀ b : Bool, ∃ l' cap' fuel' down' p' s', Ev (fun k => spec_l3Disk.j1 k ((d + 1 : Nat) : Int) nm v b c p2 s2 l cap fuel down) (l', cap', fuel', down', p', s') ∧ dOk 90 810 l' ∧ okP c p' := by
      intro b
      cases b with
      | true =>
        obtain ⟨⟨l3, cap3, f3, d3, c3⟩, hA, h3⟩ := create_ex l cap fuel down nm n (9 * n) h (by omega) (by omega) hs1
        obtain ⟨K2, h2⟩ := evx hA
        obtain ⟨l', cap', fuel', down', p', s', hE2, hd, hp'⟩ := ih (n + 1) l3 cap3 f3 d3 p2 s2 hp2 (dOk_mono h3 (by omega) (by omega)) (by omega)
        obtain ⟨K3, h4⟩ := evx hE2
        refine ⟨l', cap', fuel', down', p', s', evi (K2 + K3 + 1) (fun k hk => ?_), hd, hp'⟩
        obtain ⟨k, rfl⟩ : ∃ m, k = m + 1 := ⟨k - 1, by omega⟩
        rw [spec_l3Disk.j1, if_pos rfl, h2 k (by omega)]
        simp only [Option.bind_some]
        rw [hw]
        exact h4 k (by omega)
      | false =>
        by_cases c2 : v = 2
        · obtain ⟨l', cap', fuel', down', p', s', hE2, hd, hp'⟩ := j2 (v == 2)
          obtain ⟨K3, h4⟩ := evx hE2
          refine ⟨l', cap', fuel', down', p', s', evi (K3 + 1) (fun k hk => ?_), hd, hp'⟩
          obtain ⟨k, rfl⟩ : ∃ m, k = m + 1 := ⟨k - 1, by omega⟩
          rw [spec_l3Disk.j1, if_neg (by simp), if_pos c2]
          exact h4 k (by omega)
        · obtain ⟨l', cap', fuel', down', p', s', hE2, hd, hp'⟩ := j2 (v == 3)
          obtain ⟨K3, h4⟩ := evx hE2
          refine ⟨l', cap', fuel', down', p', s', evi (K3 + 1) (fun k hk => ?_), hd, hp'⟩
          obtain ⟨k, rfl⟩ : ∃ m, k = m + 1 := ⟨k - 1, by omega⟩
          rw [spec_l3Disk.j1, if_neg (by simp), if_neg c2]
          exact h4 k (by omega)
    by_cases c0 : v = 0
    · obtain ⟨l', cap', fuel', down', p', s', hE2, hd, hp'⟩ := j1 (v == 0)
      obtain ⟨K3, h4⟩ := evx hE2
      refine ⟨l', cap', fuel', down', p', s', evi (K3 + 1) (fun k hk => ?_), hd, hp'⟩
      obtain ⟨k, rfl⟩ : ∃ m, k = m + 1 := ⟨k - 1, by omega⟩
      rw [spec_l3Disk.l0, if_pos (by omega), e1]
      simp only [Option.bind_some]
      rw [e2]
      simp only [Option.bind_some]
      rw [if_pos c0]
      exact h4 k (by omega)
    · obtain ⟨l', cap', fuel', down', p', s', hE2, hd, hp'⟩ := j1 (v == 1)
      obtain ⟨K3, h4⟩ := evx hE2
      refine ⟨l', cap', fuel', down', p', s', evi (K3 + 1) (fun k hk => ?_), hd, hp'⟩
      obtain ⟨k, rfl⟩ : ∃ m, k = m + 1 := ⟨k - 1, by omega⟩
      rw [spec_l3Disk.l0, if_pos (by omega), e1]
      simp only [Option.bind_some]
      rw [e2]
      simp only [Option.bind_some]
      rw [if_neg c0]
      exact h4 k (by omega)
theorem disk_ex (c : List Int) (hc : c.length ≤ 1048576) (p s : Int) (hp : okP c p) : ∃ l' cap' fuel' down' p' s', Ev (fun k => spec_l3Disk.f k c p s) (l', cap', fuel', down', p', s') ∧ dOk 90 810 l' ∧ okP c p' := by
  obtain ⟨v, p1, s1, e1, hv0, hv1, _, hp1⟩ := below_ex c hc p s hp 12
  have := hv1 (by omega)
  obtain ⟨n, rfl⟩ := Int.eq_ofNat_of_zero_le hv0
  obtain ⟨l', cap', fuel', down', p', s', hE, hd, hp'⟩ := disk_l0 c hc n 0 [] 200 (-1) false p1 s1 hp1 ⟨by simp, fun e he => by cases he⟩ (by omega)
  obtain ⟨K, hK⟩ := evx hE
  refine ⟨l', cap', fuel', down', p', s', evi K (fun k hk => ?_), hd, hp'⟩
  unfold spec_l3Disk.f spec_DiskNew.f spec_l1In.f
  rw [if_pos (by decide)]
  simp only [Option.bind_some]
  rw [if_pos (by decide)]
  simp only [Option.bind_some]
  rw [e1]
  simp only [Option.bind_some]
  exact hK k hk

theorem anyY_l0 (c : List Int) (hc : c.length ≤ 1048576) (d : Nat) : ∀ (i : Nat) (l : List S45) (cap fuel : Int) (down : Bool) (p s : Int), okP c p → dOk (90 + i) 810 l → 140 ≤ d + i → i ≤ 140 → ∃ l' p' s', Ev (fun k => spec_l3Any.l0 k (i : Int) c p s l cap fuel down) (l', cap, fuel, down, p', s') ∧ dOk 1000 810 l' ∧ okP c p' := by
  induction d with
  | zero =>
    intro i l cap fuel down p s hp h hd hi
    obtain ⟨v, p1, s1, e1, hv0, hv1, _, hp1⟩ := below_ex c hc p s hp 3
    have := hv1 (by omega)
    refine ⟨l, p1, s1, evi 1 (fun k hk => ?_), dOk_mono h (by omega) (by omega), hp1⟩
    obtain ⟨k, rfl⟩ : ∃ m, k = m + 1 := ⟨k - 1, by omega⟩
    rw [spec_l3Any.l0, e1]
    simp only [Option.bind_some]
    rw [if_neg (by rw [w64 (by omega) (by omega)]; omega)]
  | succ d ih =>
    intro i l cap fuel down p s hp h hd hi
    obtain ⟨v, p1, s1, e1, hv0, hv1, _, hp1⟩ := below_ex c hc p s hp 3
    have := hv1 (by omega)
    have hlen := h.1
    by_cases c1 : (i : Int) < 129 + v
    · by_cases c2 : (l.length : Int) < 131
      · have hz : (⟨#[]⟩ : ByteArray).size = 0 := rfl
        have h1 : (⟨#[121]⟩ : ByteArray).size = 1 := rfl
        obtain ⟨t, hE, ht⟩ := spec_DecN_l0 (100 + i) (100 + i) (⟨#[]⟩ : ByteArray) (by omega) (by omega)
        obtain ⟨K1, k1⟩ := evx hE
        obtain ⟨l', p', s', hE2, hd', hp'⟩ := ih (i + 1) (l ++ [(⟨(⟨#[121]⟩ : ByteArray) ++ t, (⟨#[]⟩ : ByteArray), 0⟩ : S45)]) cap fuel down p1 s1 hp1 ⟨by rw [List.length_append, List.length_singleton]; omega, fun e he => by
          rcases List.mem_append.1 he with h' | h'
          · exact h.2 e h'
          · rw [List.mem_singleton.1 h']
            exact ⟨by show ((⟨#[121]⟩ : ByteArray) ++ t).size ≤ 1000; rw [ByteArray.size_append]; omega, by rw [hz]; omega⟩⟩ (by omega) (by omega)
        obtain ⟨K2, k2⟩ := evx hE2
        refine ⟨l', p', s', evi (K1 + K2 + 1) (fun k hk => ?_), hd', hp'⟩
        obtain ⟨k, rfl⟩ : ∃ m, k = m + 1 := ⟨k - 1, by omega⟩
        have hdec : spec_Dec.f k (wrap64 (100 + (i : Int))) = some t := by
          rw [w64 (by omega) (by omega)]
          unfold spec_Dec.f
          rw [if_neg (by omega), decide_eq_false (by omega), show (100 + (i : Int)) = ((100 + i : Nat) : Int) from by omega]
          exact k1 k (by omega)
        rw [spec_l3Any.l0, e1]
        simp only [Option.bind_some]
        rw [if_pos (by rw [w64 (by omega) (by omega)]; exact c1), if_pos c2, hdec]
        simp only [Option.bind_some]
        rw [if_pos (by omega), if_pos (by omega), w64 (by omega) (by omega), show ((i : Int) + 1) = ((i + 1 : Nat) : Int) from by omega]
        exact k2 k (by omega)
      · refine ⟨l, p1, s1, evi 1 (fun k hk => ?_), dOk_mono h (by omega) (by omega), hp1⟩
        obtain ⟨k, rfl⟩ : ∃ m, k = m + 1 := ⟨k - 1, by omega⟩
        rw [spec_l3Any.l0, e1]
        simp only [Option.bind_some]
        rw [if_pos (by rw [w64 (by omega) (by omega)]; exact c1), if_neg c2]
    · refine ⟨l, p1, s1, evi 1 (fun k hk => ?_), dOk_mono h (by omega) (by omega), hp1⟩
      obtain ⟨k, rfl⟩ : ∃ m, k = m + 1 := ⟨k - 1, by omega⟩
      rw [spec_l3Any.l0, e1]
      simp only [Option.bind_some]
      rw [if_neg (by rw [w64 (by omega) (by omega)]; exact c1)]
theorem any3_ex (c : List Int) (hc : c.length ≤ 1048576) (p s : Int) (hp : okP c p) : ∃ l' cap' fuel' down' p' s', Ev (fun k => spec_l3Any.f k c p s) (l', cap', fuel', down', p', s') ∧ dOk 1000 810 l' ∧ okP c p' := by
  obtain ⟨l, cap, fuel, down, p1, s1, hE, hd, hp1⟩ := disk_ex c hc p s hp
  obtain ⟨K1, h1⟩ := evx hE
  obtain ⟨v, p2, s2, e2, _, _, _, hp2⟩ := below_ex c hc p1 s1 hp1 14
  have hd' : dOk 1000 810 l := dOk_mono hd (by omega) (by omega)
  by_cases c0 : v = 0
  · obtain ⟨w, p3, s3, e3, hp3⟩ := pickInt_ex c hc p2 s2 hp2 [0, 1, (-2), (-1)] (by simp)
    refine ⟨l, cap, w, down, p3, s3, evi K1 (fun k hk => ?_), hd', hp3⟩
    unfold spec_l3Any.f
    rw [h1 k hk]
    simp only [Option.bind_some]
    rw [e2]
    simp only [Option.bind_some]
    rw [if_pos c0, e3]
    rfl
  by_cases c1 : v = 1
  · refine ⟨l, cap, fuel, true, p2, s2, evi K1 (fun k hk => ?_), hd', hp2⟩
    unfold spec_l3Any.f
    rw [h1 k hk]
    simp only [Option.bind_some]
    rw [e2]
    simp only [Option.bind_some]
    rw [if_neg c0, if_pos c1]
  by_cases c2 : v = 2
  · obtain ⟨K2, h2⟩ := evx (spec_l3Used_ev l cap fuel down (by have := hd.1; omega) (dOk_small hd (by omega)))
    obtain ⟨w, p3, s3, e3, hp3⟩ := pickInt_ex c hc p2 s2 hp2 [(-1), 5, (useN l l.length : Int), wrap64 ((useN l l.length : Int) + 3), 100000, 100001] (by simp)
    refine ⟨l, w, fuel, down, p3, s3, evi (K1 + K2) (fun k hk => ?_), hd', hp3⟩
    unfold spec_l3Any.f
    rw [h1 k (by omega)]
    simp only [Option.bind_some]
    rw [e2]
    simp only [Option.bind_some]
    rw [if_neg c0, if_neg c1, if_pos c2, h2 k (by omega)]
    simp only [Option.bind_some]
    rw [e3]
    rfl
  have hset : ∀ f : S45, (0 : Int) < (l.length : Int) → (f.f0 = (rd_T45 l 0).f0 ∨ f.f0.size ≤ 1000) → f.f1 = (rd_T45 l 0).f1 → dOk 1000 810 (l.set (0 : Int).toNat f) := by
    intro f hl hf0 hf1
    have hm := hd'.2 _ (rdFi_mem l 0 (by omega) hl)
    refine dOk_set hd' _ _ ⟨?_, by rw [hf1]; exact hm.2⟩
    rcases hf0 with h | h
    · rw [h]; exact hm.1
    · exact h
  by_cases c3 : v = 3
  · by_cases hl : (l.length : Int) > 0
    · obtain ⟨w, p3, s3, e3, _, _, _, hp3⟩ := below_ex c hc p2 s2 hp2 9
      refine ⟨l.set (0 : Int).toNat (⟨(rd_T45 l 0).f0, (rd_T45 l 0).f1, wrap64 (w - 1)⟩ : S45), cap, fuel, down, p3, s3, evi K1 (fun k hk => ?_), hset _ hl (Or.inl rfl) rfl, hp3⟩
      unfold spec_l3Any.f
      rw [h1 k hk]
      simp only [Option.bind_some]
      rw [e2]
      simp only [Option.bind_some]
      rw [if_neg c0, if_neg c1, if_neg c2, if_pos c3, if_pos hl, e3]
      simp only [Option.bind_some]
      rw [if_pos hl]
    · refine ⟨l, cap, fuel, down, p2, s2, evi K1 (fun k hk => ?_), hd', hp2⟩
      unfold spec_l3Any.f
      rw [h1 k hk]
      simp only [Option.bind_some]
      rw [e2]
      simp only [Option.bind_some]
      rw [if_neg c0, if_neg c1, if_neg c2, if_pos c3, if_neg hl]
  by_cases c4 : v = 4
  · by_cases hl : (l.length : Int) > 0
    · obtain ⟨w0, p3, s3, e3, hv0, hv1, _, hp3⟩ := below_ex c hc p2 s2 hp2 4
      have hlt := hv1 (by omega)
      have e4 : spec_l1Pick.f c p2 s2 [(⟨#[]⟩ : ByteArray), (⟨#[65]⟩ : ByteArray), (⟨#[122, 122]⟩ : ByteArray), (⟨#[116, 111, 111, 108, 111, 110, 103, 97, 110, 97, 109, 101, 49]⟩ : ByteArray)] = some (rdOf ByteArray.empty [(⟨#[]⟩ : ByteArray), (⟨#[65]⟩ : ByteArray), (⟨#[122, 122]⟩ : ByteArray), (⟨#[116, 111, 111, 108, 111, 110, 103, 97, 110, 97, 109, 101, 49]⟩ : ByteArray)] w0, p3, s3) := by
        unfold spec_l1Pick.f
        have e3' : spec_l1Below.f c p2 s2 ((([(⟨#[]⟩ : ByteArray), (⟨#[65]⟩ : ByteArray), (⟨#[122, 122]⟩ : ByteArray), (⟨#[116, 111, 111, 108, 111, 110, 103, 97, 110, 97, 109, 101, 49]⟩ : ByteArray)] : List ByteArray).length : Nat) : Int) = some (w0, p3, s3) := e3
        rw [e3']
        simp only [Option.bind_some]
        rw [if_pos hv0, if_pos (by simp only [List.length_cons, List.length_nil]; omega)]
      have hsz : (rdOf ByteArray.empty [(⟨#[]⟩ : ByteArray), (⟨#[65]⟩ : ByteArray), (⟨#[122, 122]⟩ : ByteArray), (⟨#[116, 111, 111, 108, 111, 110, 103, 97, 110, 97, 109, 101, 49]⟩ : ByteArray)] w0).size ≤ 1000 := by
        obtain ⟨i, rfl⟩ := Int.eq_ofNat_of_zero_le hv0
        rcases (show i = 0 ∨ i = 1 ∨ i = 2 ∨ i = 3 from by omega) with rfl | rfl | rfl | rfl <;> decide
      generalize rdOf ByteArray.empty [(⟨#[]⟩ : ByteArray), (⟨#[65]⟩ : ByteArray), (⟨#[122, 122]⟩ : ByteArray), (⟨#[116, 111, 111, 108, 111, 110, 103, 97, 110, 97, 109, 101, 49]⟩ : ByteArray)] w0 = nm at *
      refine ⟨l.set (0 : Int).toNat (⟨nm, (rd_T45 l 0).f1, (rd_T45 l 0).f2⟩ : S45), cap, fuel, down, p3, s3, evi K1 (fun k hk => ?_), hset _ hl (Or.inr hsz) rfl, hp3⟩
      unfold spec_l3Any.f
      rw [h1 k hk]
      simp only [Option.bind_some]
      rw [e2]
      simp only [Option.bind_some]
      rw [if_neg c0, if_neg c1, if_neg c2, if_neg c3, if_pos c4, if_pos hl, e4]
      simp only [Option.bind_some]
      rw [if_pos hl]
    · refine ⟨l, cap, fuel, down, p2, s2, evi K1 (fun k hk => ?_), hd', hp2⟩
      unfold spec_l3Any.f
      rw [h1 k hk]
      simp only [Option.bind_some]
      rw [e2]
      simp only [Option.bind_some]
      rw [if_neg c0, if_neg c1, if_neg c2, if_neg c3, if_pos c4, if_neg hl]
  by_cases c5 : v = 5
  · obtain ⟨l', p3, s3, hE3, hd3, hp3⟩ := anyY_l0 c hc 140 0 l cap fuel down p2 s2 hp2 (dOk_mono hd (by omega) (by omega)) (by omega) (by omega)
    obtain ⟨K3, h3⟩ := evx hE3
    refine ⟨l', cap, fuel, down, p3, s3, evi (K1 + K3) (fun k hk => ?_), hd3, hp3⟩
    unfold spec_l3Any.f
    rw [h1 k (by omega)]
    simp only [Option.bind_some]
    rw [e2]
    simp only [Option.bind_some]
    rw [if_neg c0, if_neg c1, if_neg c2, if_neg c3, if_neg c4, if_pos c5]
    exact h3 k (by omega)
  · refine ⟨l, cap, fuel, down, p2, s2, evi K1 (fun k hk => ?_), hd', hp2⟩
    unfold spec_l3Any.f
    rw [h1 k hk]
    simp only [Option.bind_some]
    rw [e2]
    simp only [Option.bind_some]
    rw [if_neg c0, if_neg c1, if_neg c2, if_neg c3, if_neg c4, if_neg c5]
theorem tears_l0 (c : List Int) (hc : c.length ≤ 1048576) (d : Nat) : ∀ (acc : List Int) (p s : Int), okP c p → acc.length + d ≤ 1000 → ∃ ts p' s', Ev (fun k => spec_l4Tears.l0 k acc (d : Int) c p s) (ts, p', s') ∧ ts.length ≤ acc.length + d := by
  induction d with
  | zero =>
    intro acc p s hp ha
    refine ⟨acc, p, s, evi 1 (fun k hk => ?_), by omega⟩
    obtain ⟨k, rfl⟩ : ∃ m, k = m + 1 := ⟨k - 1, by omega⟩
    rw [spec_l4Tears.l0, if_neg (by omega)]
  | succ d ih =>
    intro acc p s hp ha
    obtain ⟨v, p1, s1, e1, _, _, _, hp1⟩ := below_ex c hc p s hp 60
    obtain ⟨w, p2, s2, e2, hp2⟩ := pickInt_ex c hc p1 s1 hp1 [0, 1, 2, 5, 17, 1000003, (-1), 9223372036854775807, v] (by simp)
    obtain ⟨ts, p', s', hE, hl⟩ := ih (acc ++ [w]) p2 s2 hp2 (by rw [List.length_append, List.length_singleton]; omega)
    rw [List.length_append, List.length_singleton] at hl
    obtain ⟨K, hK⟩ := evx hE
    refine ⟨ts, p', s', evi (K + 1) (fun k hk => ?_), by omega⟩
    obtain ⟨k, rfl⟩ : ∃ m, k = m + 1 := ⟨k - 1, by omega⟩
    rw [spec_l4Tears.l0, if_pos (by omega), e1]
    simp only [Option.bind_some]
    rw [e2]
    simp only [Option.bind_some]
    rw [if_pos (by omega), w64 (by omega) (by omega), show (((d + 1 : Nat) : Int) - 1) = (d : Int) from by omega]
    exact hK k (by omega)
theorem drawPower_ex (c : List Int) (hc : c.length ≤ 1048576) : ∃ l cap fuel down ts, Ev (fun k => spec_DrawPower.f k c) (l, cap, fuel, down, ts) ∧ dOk 1000 810 l ∧ ts.length ≤ 1000 := by
  obtain ⟨s, hs⟩ := new_ex c hc
  obtain ⟨K1, h1⟩ := evx hs
  obtain ⟨l, cap, fuel, down, p1, s1, hE, hd, hp1⟩ := any3_ex c hc 0 s ⟨by omega, by omega⟩
  obtain ⟨K2, h2⟩ := evx hE
  obtain ⟨v, p2, s2, e2, hv0, hv1, _, hp2⟩ := below_ex c hc p1 s1 hp1 5
  have := hv1 (by omega)
  obtain ⟨n, rfl⟩ := Int.eq_ofNat_of_zero_le hv0
  obtain ⟨ts, p3, s3, hE3, hl⟩ := tears_l0 c hc n [] p2 s2 hp2 (by simp only [List.length_nil]; omega)
  simp only [List.length_nil] at hl
  obtain ⟨K3, h3⟩ := evx hE3
  refine ⟨l, cap, fuel, down, ts, evi (K1 + K2 + K3) (fun k hk => ?_), hd, by omega⟩
  have h3' : spec_l4Tears.f k c p1 s1 = some (ts, p3, s3) := by
    unfold spec_l4Tears.f
    rw [e2]
    simp only [Option.bind_some]
    exact h3 k (by omega)
  unfold spec_DrawPower.f
  rw [h1 k (by omega)]
  simp only [Option.bind_some]
  rw [h2 k (by omega)]
  simp only [Option.bind_some]
  rw [h3']
  rfl



/-! ### the law -/
theorem power_end (k : Nat) (ts : List Int) (l x : List S45) (cap fuel : Int) (down : Bool) (i : Int) (hi : ¬ i < (x.length : Int)) (u1 u2 v : Int) (h1 : impl_Power.f k x cap (-1) false ts = some (x, cap, -1, false)) (h2 : spec_SameDisk.f k x cap (-1) false x cap (-1) false = some true) (h3 : impl_Used.f k x cap (-1) false = some u1) (h4 : impl_Used.f k l cap fuel down = some u2) (h5 : impl_Volatile.f k l cap fuel down = some v) (hu : u1 ≤ u2) (hv : decide (wrap64 (u2 - u1) ≤ v) = true) : laws_FnPower.l0 (k + 1) ts i l cap fuel down x cap (-1) false = some true := by
  rw [laws_FnPower.l0, if_neg hi, h1]
  simp only [Option.bind_some]
  rw [h2]
  simp only [Option.bind_some, if_true]
  rw [h3]
  simp only [Option.bind_some]
  rw [h4]
  simp only [Option.bind_some]
  rw [if_pos hu, h5]
  simp only [Option.bind_some]
  rw [hv]
theorem power_step (k : Nat) (ts : List Int) (l x : List S45) (cap fuel : Int) (down : Bool) (i : Int) (hi : i < (x.length : Int)) (h0 : 0 ≤ i) (hl : i < (l.length : Int)) (a b : S45) (ha : rd_T45 l i = a) (hb : rd_T45 x i = b) (hn : a.f0.toList = b.f0.toList) (hs : ¬ (b.f1.size : Int) < a.f2) (hg : laws_begins.f b.f1 a.f1 = some true) (hj : laws_FnPower.j2 (k + 1) ts i false l cap fuel down x cap (-1) false = some true) : laws_FnPower.l0 (k + 1 + 1) ts i l cap fuel down x cap (-1) false = some true := by
  rw [laws_FnPower.l0, if_pos hi, if_pos h0, if_pos hl, ha, hb, if_pos hn, if_neg hs, hg]
  exact hj
theorem power_l0 (ts : List Int) (hts : ts.length ≤ 1000) (l : List S45) (cap fuel : Int) (down : Bool) (hl : dOk 1000 810 l) (hd : diskOkB l cap fuel = true) (d : Nat) : ∀ i : Nat, d + i = l.length → Ev (fun k => laws_FnPower.l0 k ts (i : Int) l cap fuel down (powFs ts l) cap (-1) false) true := by
  have hs := diskOkB_safe hd
  have hlen := hl.1
  have hsm := dOk_small hl (by omega)
  have hset : ∀ e ∈ powFs ts l, ((e.f1.size : Int)) = e.f2 := fun e he => by
    obtain ⟨i, hi, rfl⟩ := powFs_mem ts l he
    exact (powF_size ts i _ (hs _ (getD_mem l i hi))).1
  have hxm : ∀ e ∈ powFs ts l, smallF e := fun e he => by
    obtain ⟨i, hi, rfl⟩ := powFs_mem ts l he
    have h4 := powF_size ts i _ (hs _ (getD_mem l i hi))
    have h5 := hsm _ (getD_mem l i hi)
    exact ⟨h5.1, by have := h5.2; omega⟩
  have hxl := powFs_length ts l
  have hdx := diskOkB_pow ts hd
  induction d with
  | zero =>
    intro i hi
    have hP : powerO (powFs ts l) cap (-1) false ts = (powFs ts l, cap, -1, false) := by unfold powerO; rw [if_pos hdx, powFs_again ts _ hset]
    obtain ⟨K1, h1⟩ := evx (impl_Power_ev (powFs ts l) cap (-1) false ts (by omega) (by omega) hxm)
    rw [hP] at h1
    obtain ⟨K2, h2⟩ := evx (spec_SameDisk_ev (powFs ts l) (powFs ts l) cap (-1) false cap (-1) false (by omega))
    rw [sameDiskB_self] at h2
    obtain ⟨K3, h3⟩ := evx (impl_Used_ev (powFs ts l) cap (-1) false (by omega) hxm)
    obtain ⟨K4, h4⟩ := evx (impl_Used_ev l cap fuel down (by omega) hsm)
    obtain ⟨K5, h5⟩ := evx (impl_Volatile_ev l cap fuel down (by omega) hsm)
    have e3 : usedV (powFs ts l) cap (-1) = (useN (powFs ts l) l.length : Int) := by unfold usedV; rw [if_pos hdx, hxl]
    have e4 : usedV l cap fuel = (useN l l.length : Int) := by unfold usedV; rw [if_pos hd]
    have e5 : volV l cap fuel = volW l l.length := by unfold volV; rw [if_pos hd]
    rw [e3] at h3
    rw [e4] at h4
    rw [e5] at h5
    have hu := useN_pow ts l hs l.length (by omega)
    have hv := volW_le ts l (by omega) hs hsm l.length (by omega)
    have hb := useN_le l hsm l.length (by omega)
    refine evi (K1 + K2 + K3 + K4 + K5 + 1) (fun k hk => ?_)
    obtain ⟨k, rfl⟩ : ∃ m, k = m + 1 := ⟨k - 1, by omega⟩
    exact power_end k ts l (powFs ts l) cap fuel down (i : Int) (by omega) _ _ _ (h1 k (by omega)) (h2 k (by omega)) (h3 k (by omega)) (h4 k (by omega)) (h5 k (by omega)) (by omega) (decide_eq_true (by rw [w64 (by omega) (by omega)]; omega))
  | succ d ih =>
    intro i hi
    have hlt : i < l.length := by omega
    obtain ⟨K, hK⟩ := evx (ih (i + 1) (by omega))
    have h4 := powF_size ts i _ (hs _ (getD_mem l i hlt))
    have hsf := hs _ (getD_mem l i hlt)
    refine evi (K + 2) (fun k hk => ?_)
    obtain ⟨k, rfl⟩ : ∃ m, k = m + 2 := ⟨k - 2, by omega⟩
    refine power_step k ts l (powFs ts l) cap fuel down (i : Int) (by omega) (by omega) (by omega) (l.getD i z45) (powF ts i (l.getD i z45)) (rdFi l i) (by rw [rdFi]; exact getD_pow ts l i hlt) rfl (by omega) ?_ ?_
    · unfold laws_begins.f
      rw [if_pos (by omega), if_pos (by omega), Int.toNat_natCast]
      have e : (powF ts i (l.getD i z45)).f1.size = ((l.getD i z45).f2 + powK ts i (l.getD i z45)).toNat := by
        have : (powF ts i (l.getD i z45)).f2 = (l.getD i z45).f2 + powK ts i (l.getD i z45) := rfl
        omega
      rw [e]
      have e2 : (powF ts i (l.getD i z45)).f1 = (l.getD i z45).f1.extract 0 ((l.getD i z45).f2 + powK ts i (l.getD i z45)).toNat := rfl
      rw [e2]
      simp
    · rw [laws_FnPower.j2, if_neg (by simp), w64 (by omega) (by omega), show ((i : Int) + 1) = ((i + 1 : Nat) : Int) from by omega]
      exact hK k (by omega)
theorem power_top (c : List Int) (k : Nat) (l x : List S45) (cap fuel : Int) (down : Bool) (ts : List Int) (h0 : ¬ (c.length : Int) > 1048576) (h1 : spec_DrawPower.f k c = some (l, cap, fuel, down, ts)) (h2 : impl_Power.f k l cap fuel down ts = some (x, cap, -1, false)) (h3 : spec_DiskOk.f k l cap fuel down = some true) (hl : (x.length : Int) = (l.length : Int)) (h4 : spec_DiskOk.f k x cap (-1) false = some true) (h5 : impl_Volatile.f k x cap (-1) false = some 0) (h6 : impl_Settled.f k x cap (-1) false = some true) (hj : laws_FnPower.j0 k ts false l cap fuel down x cap (-1) false = some true) : laws_FnPower.f k c = some true := by
  unfold laws_FnPower.f laws_big.f
  simp only [Option.bind_some]
  rw [if_neg (by simpa using h0), h1]
  simp only [Option.bind_some]
  rw [h2]
  simp only [Option.bind_some]
  rw [h3]
  simp only [Option.bind_some, if_true]
  rw [if_pos hl, h4]
  simp only [Option.bind_some, if_true]
  rw [h5]
  simp only [Option.bind_some, if_true]
  rw [h6]
  simp only [Option.bind_some, if_true, Bool.false_eq_true, if_false, bne_self_eq_false]
  exact hj
theorem power_not (c : List Int) (k : Nat) (l : List S45) (cap fuel : Int) (down : Bool) (ts : List Int) (h0 : ¬ (c.length : Int) > 1048576) (h1 : spec_DrawPower.f k c = some (l, cap, fuel, down, ts)) (h2 : impl_Power.f k l cap fuel down ts = some (l, cap, fuel, down)) (h3 : spec_DiskOk.f k l cap fuel down = some false) (h4 : spec_SameDisk.f k l cap fuel down l cap fuel down = some true) : laws_FnPower.f k c = some true := by
  unfold laws_FnPower.f laws_big.f
  simp only [Option.bind_some]
  rw [if_neg (by simpa using h0), h1]
  simp only [Option.bind_some]
  rw [h2]
  simp only [Option.bind_some]
  rw [h3]
  simp only [Option.bind_some, Bool.false_eq_true, if_false]
  rw [h4]
  rfl
theorem FnPower : laws_FnPower.Pure := by
  intro c h1 h2 h3
  by_cases hb : (c.length : Int) > 1048576
  · refine ⟨0, ?_⟩
    unfold laws_FnPower.f laws_big.f
    simp only [Option.bind_some]
    rw [if_pos (by simpa using hb)]
  · have hc : c.length ≤ 1048576 := by omega
    obtain ⟨l, cap, fuel, down, ts, hE, hl, hts⟩ := drawPower_ex c hc
    obtain ⟨K1, k1⟩ := evx hE
    have hlen := hl.1
    have hsm := dOk_small hl (by omega)
    obtain ⟨K2, k2⟩ := evx (impl_Power_ev l cap fuel down ts (by omega) (by omega) hsm)
    obtain ⟨K3, k3⟩ := evx (spec_DiskOk_ev l cap fuel down (by omega) hsm)
    cases hd : diskOkB l cap fuel with
    | false =>
      have e2 : powerO l cap fuel down ts = (l, cap, fuel, down) := by unfold powerO; rw [hd]; rfl
      rw [e2] at k2
      rw [hd] at k3
      obtain ⟨K4, k4⟩ := evx (spec_SameDisk_ev l l cap fuel down cap fuel down (by omega))
      rw [sameDiskB_self] at k4
      exact ⟨K1 + K2 + K3 + K4, power_not c _ l cap fuel down ts hb (k1 _ (by omega)) (k2 _ (by omega)) (k3 _ (by omega)) (k4 _ (by omega))⟩
    | true =>
      have e2 : powerO l cap fuel down ts = (powFs ts l, cap, -1, false) := by unfold powerO; rw [hd]; rfl
      rw [e2] at k2
      rw [hd] at k3
      have hs := diskOkB_safe hd
      have hxl := powFs_length ts l
      have hdx := diskOkB_pow ts hd
      have hset : ∀ e ∈ powFs ts l, ((e.f1.size : Int)) = e.f2 := fun e he => by
        obtain ⟨i, hi, rfl⟩ := powFs_mem ts l he
        exact (powF_size ts i _ (hs _ (getD_mem l i hi))).1
      have hxm : ∀ e ∈ powFs ts l, smallF e := fun e he => by
        obtain ⟨i, hi, rfl⟩ := powFs_mem ts l he
        have h4 := powF_size ts i _ (hs _ (getD_mem l i hi))
        have h5 := hsm _ (getD_mem l i hi)
        exact ⟨h5.1, by have := h5.2; omega⟩
      have hv0 : volV (powFs ts l) cap (-1) = 0 := by unfold volV; rw [if_pos hdx]; exact volW_settled _ hset _ (by omega)
      obtain ⟨K4, k4⟩ := evx (spec_DiskOk_ev (powFs ts l) cap (-1) false (by omega) hxm)
      rw [hdx] at k4
      obtain ⟨K5, k5⟩ := evx (impl_Volatile_ev (powFs ts l) cap (-1) false (by omega) hxm)
      rw [hv0] at k5
      obtain ⟨K6, k6⟩ := evx (impl_Settled_ev (powFs ts l) cap (-1) false (by omega) hxm)
      have hse : settledB (powFs ts l) cap (-1) = true := by unfold settledB; rw [hdx, hv0]; rfl
      rw [hse] at k6
      obtain ⟨K7, k7⟩ := evx (power_l0 ts hts l cap fuel down hl hd l.length 0 rfl)
      generalize hK : K1 + K2 + K3 + K4 + K5 + K6 + K7 = K
      refine ⟨K + 1, power_top c (K + 1) l (powFs ts l) cap fuel down ts hb (k1 _ (by omega)) (k2 _ (by omega)) (k3 _ (by omega)) (by omega) (k4 _ (by omega)) (k5 _ (by omega)) (k6 _ (by omega)) ?_⟩
      rw [laws_FnPower.j0, if_neg (by simp)]
      exact k7 K (by omega)

end Go.Proofs.Ytigbekefjbfopaa.Pure
