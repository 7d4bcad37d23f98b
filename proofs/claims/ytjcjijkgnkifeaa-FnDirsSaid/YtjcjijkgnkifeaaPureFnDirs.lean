/- The pure statement of the law FnDirs: for all arguments within the printed bounds the printed function of the law answers true. Conditions: only the bounds that the printed statement itself names. -/
import Derived.Test.YtjcjijkgnkifeaaPFnDirsx8
namespace Go.Proofs.Ytjcjijkgnkifeaa.Pure
open Go.RowKit Go.Proofs.Ytjcjijkgnkifeaa.PFnDirs Go.Proofs.YtjcjijkgnkifeaaW.PrintWords Go.Proofs.YtjcjijkgnkifeaaW.PrintLast
set_option linter.unusedVariables false
set_option linter.unusedSimpArgs false

/-- The string of a list of bytes. -/
def mkS (l : List UInt8) : ByteArray := ⟨l.toArray⟩
theorem exS (s : ByteArray) : ∃ l, s = mkS l := ⟨s.data.toList, by cases s; simp [mkS]⟩
theorem mkS_size (l : List UInt8) : (mkS l).size = l.length := by simp [mkS, ByteArray.size]
theorem toList_data (s : ByteArray) : s.toList = s.data.toList := by
  have key : ∀ (n i : Nat) (r : List UInt8), s.size - i = n → ByteArray.toList.loop s i r = r.reverse ++ s.data.toList.drop i := by
    intro n
    induction n with
    | zero =>
      intro i r h
      unfold ByteArray.toList.loop
      rw [if_neg (by omega), List.drop_of_length_le (by simp only [Array.length_toList]; have : s.size = s.data.size := rfl; omega), List.append_nil]
    | succ n ih =>
      intro i r h
      unfold ByteArray.toList.loop
      have hi : i < s.data.toList.length := by simp only [Array.length_toList]; have : s.size = s.data.size := rfl; omega
      rw [if_pos (by omega), ih (i + 1) _ (by omega), List.reverse_cons, List.append_assoc, List.drop_eq_getElem_cons hi]
      have : s.get! i = s.data.toList[i] := by
        show s.data[i]! = _
        rw [Array.getElem_toList]
        exact getElem!_pos s.data i (by simpa using hi)
      rw [this]
      rfl
  have := key _ 0 [] rfl
  simpa [ByteArray.toList] using this
theorem mkS_toList (l : List UInt8) : (mkS l).toList = l := by rw [toList_data]; simp [mkS]
theorem w64 {x : Int} (h0 : -9223372036854775808 ≤ x) (h1 : x ≤ 9223372036854775807) : wrap64 x = x := by unfold wrap64; omega
theorem evx {α : Type} {g : Nat → Option α} {r : α} (h : Ev g r) : ∃ K, ∀ k, K ≤ k → g k = some r := h
theorem evi {α : Type} {g : Nat → Option α} {r : α} (K : Nat) (h : ∀ k, K ≤ k → g k = some r) : Ev g r := ⟨K, h⟩

theorem spec_l1In_f (a b c : Int) : spec_l1In.f a b c = some (decide (b ≤ a ∧ a ≤ c)) := by
  unfold spec_l1In.f
  by_cases h : a ≥ b
  · rw [if_pos h]; congr 1; simp [h]
  · rw [if_neg h]; congr 1; simp; omega

def keyOkB (l : List UInt8) : Bool := decide (1 ≤ l.length ∧ l.length ≤ 8)
theorem spec_KeyOk_f (l : List UInt8) : spec_KeyOk.f (mkS l) = some (keyOkB l) := by
  unfold spec_KeyOk.f keyOkB
  rw [spec_l1In_f, mkS_size]
  simp only [Option.bind_some]
  congr 1
  apply decide_eq_decide.2
  omega

/-- Entry i of a directory is right, with the one ahead of it. -/
def dirAt (l : List S29) (i : Nat) : Bool :=
  keyOkB (l.getD i z29).f0.toList && (decide (1 ≤ (l.getD i z29).f1 ∧ (l.getD i z29).f1 ≤ 100000) && (decide (0 ≤ (l.getD i z29).f2) && (decide (1 ≤ (l.getD i z29).f3 ∧ (l.getD i z29).f3 ≤ 210) && (decide (1 ≤ (l.getD i z29).f4 ∧ (l.getD i z29).f4 ≤ 1000000) && (decide (i = 0) || Go.Op.bytesLess (l.getD (i - 1) z29).f0.toList (l.getD i z29).f0.toList)))))
def dirFrom (l : List S29) : Nat → Nat → Bool
  | 0, _ => true
  | d + 1, i => dirAt l i && dirFrom l d (i + 1)
def dirOkB (l : List S29) : Bool := decide (l.length ≤ 20) && dirFrom l l.length 0
theorem keyOk_list (s : ByteArray) : s = mkS s.toList := by obtain ⟨l, rfl⟩ := exS s; rw [mkS_toList]
theorem spec_KeyOk_s (s : ByteArray) : spec_KeyOk.f s = some (keyOkB s.toList) := by
  conv => lhs; rw [keyOk_list s]
  exact spec_KeyOk_f _
theorem spec_DirOk_l0 (l : List S29) (hl : l.length ≤ 4611686018427387904) (d : Nat) : ∀ (i : Nat), d + i = l.length → Ev (fun k => spec_DirOk.l0 k l (i : Int)) (dirFrom l d i) := by
  induction d with
  | zero =>
    intro i hi
    refine evi (1) fun k hk => ?_
    obtain ⟨k, rfl⟩ : ∃ m, k = m + 1 := ⟨k - 1, by omega⟩
    simp only [spec_DirOk.l0]
    rw [if_neg (by omega)]
    rfl
  | succ d ih =>
    intro i hi
    have h1 : rd_T29 l (i : Int) = l.getD i z29 := by simp [rd_T29]
    obtain ⟨K, hK⟩ := evx (ih (i + 1) (by omega))
    refine evi (K + 2) fun k hk => ?_
    obtain ⟨k, rfl⟩ : ∃ m, k = m + 2 := ⟨k - 2, by omega⟩
    have hgo := hK k (by omega)
    rw [show k + 2 = (k + 1) + 1 from rfl, spec_DirOk.l0]
    simp only [spec_DirOk.j1]
    rw [if_pos (by omega), if_pos (by omega), h1, spec_KeyOk_s]
    simp only [spec_l1In_f, Option.bind_some]
    rw [w64 (x := (i : Int) + 1) (by omega) (by omega), show ((i : Int) + 1) = ((i + 1 : Nat) : Int) from by omega, hgo, dirFrom]
    unfold dirAt
    have h2 : i ≠ 0 → rd_T29 l (wrap64 ((i : Int) - 1)) = l.getD (i - 1) z29 := fun hi0 => by
      rw [w64 (by omega) (by omega), show ((i : Int) - 1) = ((i - 1 : Nat) : Int) from by omega]
      simp [rd_T29]
    have e1 : i ≠ 0 → 0 ≤ wrap64 ((i : Int) - 1) := fun hi0 => by rw [w64 (by omega) (by omega)]; omega
    have e2 : i ≠ 0 → wrap64 ((i : Int) - 1) < (l.length : Int) := fun hi0 => by rw [w64 (by omega) (by omega)]; omega
    generalize l.getD i z29 = e
    generalize l.getD (i - 1) z29 = p at h2
    cases keyOkB e.f0.toList with
    | false => simp
    | true =>
      by_cases c1 : 1 ≤ e.f1 ∧ e.f1 ≤ 100000
      · by_cases c2 : e.f2 < 0
        · have c2n : ¬ 0 ≤ e.f2 := by omega
          simp [c1, c2, c2n]
        · by_cases c3 : 1 ≤ e.f3 ∧ e.f3 ≤ 210
          · by_cases c4 : 1 ≤ e.f4 ∧ e.f4 ≤ 1000000
            · have c2' : 0 ≤ e.f2 := by omega
              by_cases c5 : i = 0
              · subst c5
                simp [c1, c2, c2', c3, c4]
              · have c6 : (i : Int) > 0 := by omega
                rw [h2 c5, if_pos (e1 c5), if_pos (e2 c5)]
                cases Go.Op.bytesLess p.f0.toList e.f0.toList <;> simp [c1, c2, c2', c3, c4, c5, c6]
            · simp [c1, c2, c3, c4]
          · simp [c1, c2, c3]
      · simp [c1]
theorem spec_DirOk_ev (l : List S29) (hl : l.length ≤ 4611686018427387904) : Ev (fun k => spec_DirOk.f k l) (dirOkB l) := by
  unfold dirOkB
  by_cases h : l.length ≤ 20
  · obtain ⟨K, hK⟩ := evx (spec_DirOk_l0 l hl l.length 0 rfl)
    refine evi (K) fun k hk => ?_
    unfold spec_DirOk.f
    rw [if_neg (by omega), decide_eq_true h, Bool.true_and]
    exact hK k hk
  · refine evi (0) fun k hk => ?_
    unfold spec_DirOk.f
    rw [if_pos (by omega), decide_eq_false h, Bool.false_and]
def dirFind (key : ByteArray) : List S29 → Option S29
  | [] => none
  | e :: t => if e.f0.toList = key.toList then some e else dirFind key t
def getR : Option S29 → ByteArray × Int × Int × Int × Int × Bool
  | some e => (e.f0, e.f1, e.f2, e.f3, e.f4, true)
  | none => (mkS [], 0, 0, 0, 0, false)
theorem impl_DirGet_l0 (l : List S29) (key : ByteArray) (hl : l.length ≤ 4611686018427387904) (d : Nat) : ∀ (i : Nat), d + i = l.length → Ev (fun k => impl_DirGet.l0 k key l (l.length : Int) (i : Int)) (getR (dirFind key (l.drop i))) := by
  induction d with
  | zero =>
    intro i hi
    refine evi (1) fun k hk => ?_
    obtain ⟨k, rfl⟩ : ∃ m, k = m + 1 := ⟨k - 1, by omega⟩
    simp only [impl_DirGet.l0]
    rw [if_neg (by omega), List.drop_of_length_le (by omega)]
    rfl
  | succ d ih =>
    intro i hi
    have hlt : i < l.length := by omega
    obtain ⟨K, hK⟩ := evx (ih (i + 1) (by omega))
    refine evi (K + 1) fun k hk => ?_
    obtain ⟨k, rfl⟩ : ∃ m, k = m + 1 := ⟨k - 1, by omega⟩
    simp only [impl_DirGet.l0]
    have h1 : rd_T29 l (i : Int) = l[i] := by simp [rd_T29, hlt]
    rw [if_pos (by omega), if_pos (by omega), if_pos (by omega), h1, List.drop_eq_getElem_cons hlt, dirFind]
    by_cases h : l[i].f0.toList = key.toList
    · rw [if_pos h, if_pos h]
      rfl
    · rw [if_neg h, if_neg h, w64 (by omega) (by omega)]
      exact hK k (by omega)
theorem impl_DirGet_ev (l : List S29) (key : ByteArray) (hl : l.length ≤ 4611686018427387904) : Ev (fun k => impl_DirGet.f k l key) (getR (dirFind key l)) := by
  have := impl_DirGet_l0 l key hl l.length 0 rfl
  exact this

def dirDrop (key : ByteArray) (l : List S29) : List S29 := l.filter fun e => !(e.f0.toList == key.toList)
theorem impl_DirDrop_l0 (l : List S29) (key : ByteArray) (hl : l.length ≤ 1099511627776) (d : Nat) : ∀ (i : Nat) (acc : List S29), d + i = l.length → acc.length + d ≤ 1099511627776 → Ev (fun k => impl_DirDrop.l0 k key acc l (l.length : Int) (i : Int)) (acc ++ dirDrop key (l.drop i)) := by
  induction d with
  | zero =>
    intro i acc hi ha
    refine evi (1) fun k hk => ?_
    obtain ⟨k, rfl⟩ : ∃ m, k = m + 1 := ⟨k - 1, by omega⟩
    simp only [impl_DirDrop.l0]
    rw [if_neg (by omega), List.drop_of_length_le (by omega)]
    simp [dirDrop]
  | succ d ih =>
    intro i acc hi ha
    have hlt : i < l.length := by omega
    have h1 : rd_T29 l (i : Int) = l[i] := by simp [rd_T29, hlt]
    by_cases h : l[i].f0.toList = key.toList
    · obtain ⟨K, hK⟩ := evx (ih (i + 1) acc (by omega) (by omega))
      refine evi (K + 1) fun k hk => ?_
      obtain ⟨k, rfl⟩ : ∃ m, k = m + 1 := ⟨k - 1, by omega⟩
      simp only [impl_DirDrop.l0]
      rw [if_pos (by omega), if_pos (by omega), if_pos (by omega), h1, if_pos h, w64 (by omega) (by omega), List.drop_eq_getElem_cons hlt, dirDrop, List.filter_cons, if_neg (by simp [h])]
      exact hK k (by omega)
    · obtain ⟨K, hK⟩ := evx (ih (i + 1) (acc ++ [l[i]]) (by omega) (by rw [List.length_append, List.length_singleton]; omega))
      refine evi (K + 1) fun k hk => ?_
      obtain ⟨k, rfl⟩ : ∃ m, k = m + 1 := ⟨k - 1, by omega⟩
      simp only [impl_DirDrop.l0]
      rw [if_pos (by omega), if_pos (by omega), if_pos (by omega), h1, if_neg h, if_pos (by omega), w64 (by omega) (by omega), List.drop_eq_getElem_cons hlt, dirDrop, List.filter_cons, if_pos (by simp [h])]
      have := hK k (by omega)
      rw [List.append_assoc, List.singleton_append] at this
      exact this
theorem impl_DirDrop_ev (l : List S29) (key : ByteArray) (hl : l.length ≤ 1099511627776) : Ev (fun k => impl_DirDrop.f k l key) (dirDrop key l) := by
  have := impl_DirDrop_l0 l key hl l.length 0 [] rfl (by simp only [List.length_nil]; omega)
  exact this
theorem dirDrop_length (key : ByteArray) (l : List S29) : (dirDrop key l).length ≤ l.length := List.length_filter_le _ _

def insL (e : S29) : List S29 → List S29
 | [] => [e]
 | x :: t => if Op.bytesLess e.f0.toList x.f0.toList = true then e :: x :: t else x :: insL e t
theorem insL_length (e : S29) (l : List S29) : (insL e l).length = l.length + 1 := by
  induction l with
  | nil => rfl
  | cons x t ih =>
    unfold insL
    split
    · rfl
    · rw [List.length_cons, ih, List.length_cons]
def dirPut (e : S29) (l : List S29) : List S29 := insL e (dirDrop e.f0 l)
theorem dirPut_length (e : S29) (l : List S29) : (dirPut e l).length ≤ l.length + 1 := by
  unfold dirPut
  rw [insL_length]
  have := dirDrop_length e.f0 l
  omega

theorem spec_DirPut_l0 (l : List S29) (e : S29) (hl : l.length ≤ 1099511627776) (d : Nat) : ∀ (i : Nat) (acc : List S29) (dn : Bool), d + i = l.length → acc.length + 2 * d ≤ 2932031007000 → Ev (fun k => spec_DirPut.l0 k l acc dn (i : Int) e.f0 e.f1 e.f2 e.f3 e.f4) (acc ++ (if dn = true then dirDrop e.f0 (l.drop i) else insL e (dirDrop e.f0 (l.drop i)))) := by
  induction d with
  | zero =>
    intro i acc dn hi ha
    refine evi (1) fun k hk => ?_
    obtain ⟨k, rfl⟩ : ∃ m, k = m + 1 := ⟨k - 1, by omega⟩
    simp only [spec_DirPut.l0]
    rw [if_neg (by omega), List.drop_of_length_le (by omega)]
    cases dn with
    | true => rw [if_pos rfl, if_pos rfl]; simp [dirDrop]
    | false => rw [if_neg (by decide), if_pos (by omega), if_neg (by decide)]; rfl
  | succ d ih =>
    intro i acc dn hi ha
    have hlt : i < l.length := by omega
    have h1 : rd_T29 l (i : Int) = l[i] := by simp [rd_T29, hlt]
    by_cases h : l[i].f0.toList = e.f0.toList
    · obtain ⟨K, hK⟩ := evx (ih (i + 1) acc dn (by omega) (by omega))
      refine evi (K + 1) fun k hk => ?_
      obtain ⟨k, rfl⟩ : ∃ m, k = m + 1 := ⟨k - 1, by omega⟩
      have hgo := hK k (by omega)
      simp only [spec_DirPut.l0]
      have hd : dirDrop e.f0 (l.drop i) = dirDrop e.f0 (l.drop (i + 1)) := by rw [List.drop_eq_getElem_cons hlt, dirDrop, List.filter_cons, if_neg (by simp [h])]; rfl
      rw [if_pos (by omega), if_pos (by omega), h1, if_pos h, w64 (by omega) (by omega), hd]
      exact hgo
    · have hd : dirDrop e.f0 (l.drop i) = l[i] :: dirDrop e.f0 (l.drop (i + 1)) := by rw [List.drop_eq_getElem_cons hlt, dirDrop, List.filter_cons, if_pos (by simp [h])]; rfl
      have hw : wrap64 ((i : Int) + 1) = ((i + 1 : Nat) : Int) := w64 (by omega) (by omega)
      cases dn with
      | true =>
        obtain ⟨K, hK⟩ := evx (ih (i + 1) (acc ++ [l[i]]) true (by omega) (by rw [List.length_append, List.length_singleton]; omega))
        refine evi (K + 1) fun k hk => ?_
        obtain ⟨k, rfl⟩ : ∃ m, k = m + 1 := ⟨k - 1, by omega⟩
        have hgo := hK k (by omega)
        clear hK ih
        have c1 : (i : Int) < (l.length : Int) := by clear hw; omega
        have c2 : (0 : Int) ≤ (i : Int) := by clear hw; omega
        have c3 : acc.length < 2932031007402 := by clear hw; omega
        simp only [spec_DirPut.l0]
        rw [if_pos c1, if_pos c2, h1, if_neg h, if_pos trivial, if_pos c3, hw, hd, if_pos trivial]
        rw [if_pos rfl, List.append_assoc, List.singleton_append] at hgo
        exact hgo
      | false =>
        by_cases hb : Op.bytesLess e.f0.toList l[i].f0.toList = true
        · obtain ⟨K, hK⟩ := evx (ih (i + 1) ((acc ++ [e]) ++ [l[i]]) true (by omega) (by rw [List.length_append, List.length_append, List.length_singleton, List.length_singleton]; omega))
          refine evi (K + 1) fun k hk => ?_
          obtain ⟨k, rfl⟩ : ∃ m, k = m + 1 := ⟨k - 1, by omega⟩
          have hgo := hK k (by omega)
          clear hK ih
          have c1 : (i : Int) < (l.length : Int) := by clear hw; omega
          have c2 : (0 : Int) ≤ (i : Int) := by clear hw; omega
          have c3 : acc.length < 2932031007402 := by clear hw; omega
          have c4 : (acc ++ [e]).length < 2932031007402 := by rw [List.length_append, List.length_singleton]; clear hw; omega
          simp only [spec_DirPut.l0]
          rw [if_pos c1, if_pos c2, h1, if_neg h, if_neg (by decide), if_pos hb, if_pos c3]
          simp only [Option.bind_some]
          rw [if_pos c4, hw, hd, if_neg (by decide), insL, if_pos hb]
          rw [if_pos rfl] at hgo
          exact hgo.trans (by simp)
        · obtain ⟨K, hK⟩ := evx (ih (i + 1) (acc ++ [l[i]]) false (by omega) (by rw [List.length_append, List.length_singleton]; omega))
          refine evi (K + 1) fun k hk => ?_
          obtain ⟨k, rfl⟩ : ∃ m, k = m + 1 := ⟨k - 1, by omega⟩
          have hgo := hK k (by omega)
          clear hK ih
          have c1 : (i : Int) < (l.length : Int) := by clear hw; omega
          have c2 : (0 : Int) ≤ (i : Int) := by clear hw; omega
          have c3 : acc.length < 2932031007402 := by clear hw; omega
          simp only [spec_DirPut.l0]
          rw [if_pos c1, if_pos c2, h1, if_neg h, if_neg (by decide), if_neg hb, if_pos c3, hw, hd, if_neg (by decide), insL, if_neg hb]
          rw [if_neg (by decide), List.append_assoc, List.singleton_append] at hgo
          exact hgo
theorem spec_DirPut_ev (l : List S29) (e : S29) (hl : l.length ≤ 1099511627776) : Ev (fun k => spec_DirPut.f k l e.f0 e.f1 e.f2 e.f3 e.f4) (dirPut e l) := by
  have := spec_DirPut_l0 l e hl l.length 0 [] false rfl (by simp only [List.length_nil]; omega)
  exact this

theorem impl_DirPut_l0 (l : List S29) (e : S29) (hl : l.length ≤ 1099511627776) (d : Nat) : ∀ (i : Nat), d + i = l.length → Ev (fun k => impl_DirPut.l0 k l (i : Int) e.f0 e.f1 e.f2 e.f3 e.f4) (l.take i ++ insL e (l.drop i)) := by
  induction d with
  | zero =>
    intro i hi
    refine evi (1) fun k hk => ?_
    obtain ⟨k, rfl⟩ : ∃ m, k = m + 1 := ⟨k - 1, by omega⟩
    simp only [impl_DirPut.l0, impl_copyDir.f, Int.toNat_natCast]
    have c1 : ([] : List S29).length + (l.take i).length < 2932031007402 := by rw [List.length_take, List.length_nil]; omega
    have c2 : (([] : List S29) ++ l.take i).length + [e].length < 2932031007402 := by rw [List.nil_append, List.length_take, List.length_singleton]; omega
    have c3 : ((([] : List S29) ++ l.take i) ++ [e]).length + (l.drop i).length < 2932031007402 := by rw [List.nil_append, List.length_append, List.length_take, List.length_singleton, List.length_drop]; omega
    rw [if_neg (by omega), if_pos (by omega), if_pos (by omega), if_pos c1]
    simp only [Option.bind_some]
    refine (if_pos c2).trans ?_
    refine (if_pos c3).trans ?_
    rw [List.drop_of_length_le (by omega)]
    simp [insL]
  | succ d ih =>
    intro i hi
    have hlt : i < l.length := by omega
    have h1 : rd_T29 l (i : Int) = l[i] := by simp [rd_T29, hlt]
    obtain ⟨K, hK⟩ := evx (ih (i + 1) (by omega))
    refine evi (K + 1) fun k hk => ?_
    obtain ⟨k, rfl⟩ : ∃ m, k = m + 1 := ⟨k - 1, by omega⟩
    have hgo := hK k (by omega)
    have hw : wrap64 ((i : Int) + 1) = ((i + 1 : Nat) : Int) := w64 (by omega) (by omega)
    have c1 : ([] : List S29).length + (l.take i).length < 2932031007402 := by rw [List.length_take, List.length_nil]; clear hw; omega
    have c2 : (([] : List S29) ++ l.take i).length + [e].length < 2932031007402 := by rw [List.nil_append, List.length_take, List.length_singleton]; clear hw; omega
    have c3 : ((([] : List S29) ++ l.take i) ++ [e]).length + (l.drop i).length < 2932031007402 := by rw [List.nil_append, List.length_append, List.length_take, List.length_singleton, List.length_drop]; clear hw; omega
    have d1 : (i : Int) < (l.length : Int) := by clear hw; omega
    have d2 : (0 : Int) ≤ (i : Int) := by clear hw; omega
    have d3 : (i : Int) ≤ (l.length : Int) := by clear hw; omega
    clear hK ih
    simp only [impl_DirPut.l0, impl_copyDir.f, Int.toNat_natCast]
    rw [if_pos d1, if_pos d2, h1]
    by_cases hb : Op.bytesLess e.f0.toList l[i].f0.toList = true
    · rw [if_pos hb, if_pos d3, if_pos c1]
      simp only [Option.bind_some]
      refine (if_pos c2).trans ?_
      refine (if_pos c3).trans ?_
      rw [List.drop_eq_getElem_cons hlt, insL, if_pos hb]
      simp
    · rw [if_neg hb, hw, List.drop_eq_getElem_cons hlt, insL, if_neg hb]
      rw [List.take_succ_eq_append_getElem hlt, List.append_assoc, List.singleton_append] at hgo
      exact hgo
theorem impl_DirPut_ev (l : List S29) (e : S29) (hl : l.length ≤ 1048576) : Ev (fun k => impl_DirPut.f k l e.f0 e.f1 e.f2 e.f3 e.f4) (dirPut e l) := by
  obtain ⟨K1, h1⟩ := evx (impl_DirDrop_ev l e.f0 (by omega))
  have hd := dirDrop_length e.f0 l
  obtain ⟨K2, h2⟩ := evx (impl_DirPut_l0 (dirDrop e.f0 l) e (by omega) _ 0 rfl)
  refine evi (K1 + K2) fun k hk => ?_
  have hgo := h2 k (by omega)
  unfold impl_DirPut.f
  rw [h1 k (by omega), Option.bind_some]
  exact hgo

theorem impl_DirKeys_l0 (l : List S29) (hl : l.length ≤ 4398046511104) (d : Nat) : ∀ (i : Nat) (acc : List ByteArray), d + i = l.length → acc.length + d ≤ 4398046511104 → Ev (fun k => impl_DirKeys.l0 k acc l (l.length : Int) (i : Int)) (acc ++ (l.drop i).map (·.f0)) := by
  induction d with
  | zero =>
    intro i acc hi ha
    refine evi (1) fun k hk => ?_
    obtain ⟨k, rfl⟩ : ∃ m, k = m + 1 := ⟨k - 1, by omega⟩
    simp only [impl_DirKeys.l0]
    rw [if_neg (by omega), List.drop_of_length_le (by omega), List.map_nil, List.append_nil]
  | succ d ih =>
    intro i acc hi ha
    have hlt : i < l.length := by omega
    have h1 : rd_T29 l (i : Int) = l[i] := by simp [rd_T29, hlt]
    obtain ⟨K, hK⟩ := evx (ih (i + 1) (acc ++ [l[i].f0]) (by omega) (by rw [List.length_append, List.length_singleton]; omega))
    refine evi (K + 1) fun k hk => ?_
    obtain ⟨k, rfl⟩ : ∃ m, k = m + 1 := ⟨k - 1, by omega⟩
    simp only [impl_DirKeys.l0]
    rw [if_pos (by omega), if_pos (by omega), if_pos (by omega), if_pos (by omega), h1, w64 (by omega) (by omega), List.drop_eq_getElem_cons hlt, List.map_cons]
    have := hK k (by omega)
    rw [List.append_assoc, List.singleton_append] at this
    exact this
theorem impl_DirKeys_ev (l : List S29) (hl : l.length ≤ 1099511627776) : Ev (fun k => impl_DirKeys.f k l) (l.map (·.f0)) := by
  have := impl_DirKeys_l0 l (by omega) l.length 0 [] rfl (by simp only [List.length_nil]; omega)
  exact this

def entEq (a b : S29) : Bool := (a.f0.toList == b.f0.toList) && ((a.f1 == b.f1) && ((a.f2 == b.f2) && ((a.f3 == b.f3) && (a.f4 == b.f4))))
def entsEq (a b : List S29) (i d : Nat) : Bool := (List.range d).all fun j => entEq (a.getD (i + j) z29) (b.getD (i + j) z29)
theorem entsEq_succ (a b : List S29) (i d : Nat) : entsEq a b i (d + 1) = (entEq (a.getD i z29) (b.getD i z29) && entsEq a b (i + 1) d) := by
  unfold entsEq
  rw [List.range_succ_eq_map, List.all_cons, List.all_map]
  congr 1
  congr 1
  funext j
  simp only [Function.comp]
  rw [show i + 1 + j = i + j.succ from by omega]
theorem entNe (a b : S29) : (!(a.f0.toList == b.f0.toList) || (!(a.f1 == b.f1) || (!(a.f2 == b.f2) || (!(a.f3 == b.f3) || (!(a.f4 == b.f4)))))) = !entEq a b := by
  unfold entEq
  simp [Bool.not_and]
def sameDirB (a b : List S29) : Bool := decide (a.length = b.length) && entsEq a b 0 a.length
theorem impl_SameDir_l0 (a b : List S29) (hab : a.length = b.length) (hl : a.length ≤ 4611686018427387904) (d : Nat) : ∀ (i : Nat), d + i = a.length → Ev (fun k => impl_SameDir.l0 k a b (a.length : Int) (i : Int)) (entsEq a b i d) := by
  induction d with
  | zero =>
    intro i hi
    refine evi (1) fun k hk => ?_
    obtain ⟨k, rfl⟩ : ∃ m, k = m + 1 := ⟨k - 1, by omega⟩
    simp only [impl_SameDir.l0]
    rw [if_neg (by omega)]
    rfl
  | succ d ih =>
    intro i hi
    obtain ⟨K, hK⟩ := evx (ih (i + 1) (by omega))
    refine evi (K + 1) fun k hk => ?_
    obtain ⟨k, rfl⟩ : ∃ m, k = m + 1 := ⟨k - 1, by omega⟩
    simp only [impl_SameDir.l0]
    have h1 : rd_T29 a (i : Int) = a.getD i z29 := by simp [rd_T29]
    have h2 : rd_T29 b (i : Int) = b.getD i z29 := by simp [rd_T29]
    rw [if_pos (by omega), if_pos (by omega), if_pos (by omega), if_pos (by omega), h1, h2, entNe, entsEq_succ]
    cases entEq (a.getD i z29) (b.getD i z29) with
    | false => rfl
    | true =>
      rw [if_neg (by decide), w64 (by omega) (by omega)]
      exact hK k (by omega)
theorem impl_SameDir_ev (a b : List S29) (hl : a.length ≤ 4611686018427387904) : Ev (fun k => impl_SameDir.f k a b) (sameDirB a b) := by
  unfold sameDirB
  by_cases h : a.length = b.length
  · obtain ⟨K, hK⟩ := evx (impl_SameDir_l0 a b h hl a.length 0 rfl)
    refine evi (K) fun k hk => ?_
    unfold impl_SameDir.f
    rw [if_pos (by omega), decide_eq_true h, Bool.true_and]
    exact hK k hk
  · refine evi (0) fun k hk => ?_
    unfold impl_SameDir.f
    rw [if_neg (by omega), decide_eq_false h, Bool.false_and]

theorem bl_irr (a : List UInt8) : Op.bytesLess a a = false := by
  induction a with
  | nil => rfl
  | cons x t ih => simp [Op.bytesLess, ih]
theorem bl_cons (x y : UInt8) (a b : List UInt8) : Op.bytesLess (x :: a) (y :: b) = true ↔ x < y ∨ (x = y ∧ Op.bytesLess a b = true) := by simp [Op.bytesLess]
theorem bl_trans : ∀ (a b c : List UInt8), Op.bytesLess a b = true → Op.bytesLess b c = true → Op.bytesLess a c = true
  | [], [], _, h, _ => by simp [Op.bytesLess] at h
  | [], _ :: _, [], _, h => by simp [Op.bytesLess] at h
  | [], _ :: _, _ :: _, _, _ => by simp [Op.bytesLess]
  | _ :: _, [], _, h, _ => by simp [Op.bytesLess] at h
  | _ :: _, _ :: _, [], _, h => by simp [Op.bytesLess] at h
  | x :: a, y :: b, z :: c, h1, h2 => by
    have ih := bl_trans a b c
    rw [bl_cons] at h1 h2 ⊢
    rcases h1 with h1 | ⟨rfl, h1⟩
    · rcases h2 with h2 | ⟨rfl, h2⟩
      · exact Or.inl (UInt8.lt_trans h1 h2)
      · exact Or.inl h1
    · rcases h2 with h2 | ⟨rfl, h2⟩
      · exact Or.inl h2
      · exact Or.inr ⟨rfl, ih h1 h2⟩
theorem bl_tot : ∀ (a b : List UInt8), Op.bytesLess a b = false → a ≠ b → Op.bytesLess b a = true
  | [], [], _, h => absurd rfl h
  | [], _ :: _, h, _ => by simp [Op.bytesLess] at h
  | _ :: _, [], _, _ => by simp [Op.bytesLess]
  | x :: a, y :: b, h1, h2 => by
    have ih := bl_tot a b
    have h1' : ¬ (x < y ∨ (x = y ∧ Op.bytesLess a b = true)) := by rw [← bl_cons, h1]; simp
    rw [bl_cons]
    by_cases c3 : y < x
    · exact Or.inl c3
    · have e : x = y := UInt8.le_antisymm (UInt8.not_lt.1 c3) (UInt8.not_lt.1 fun h => h1' (Or.inl h))
      exact Or.inr ⟨e.symm, ih (by simpa using fun h => h1' (Or.inr ⟨e, h⟩)) fun h => h2 (by rw [e, h])⟩
theorem bl_ne {a b : List UInt8} (h : Op.bytesLess a b = true) : a ≠ b := fun e => by rw [e, bl_irr] at h; exact absurd h (by simp)

def entOk (e : S29) : Bool := keyOkB e.f0.toList && (decide (1 ≤ e.f1 ∧ e.f1 ≤ 100000) && (decide (0 ≤ e.f2) && (decide (1 ≤ e.f3 ∧ e.f3 ≤ 210) && decide (1 ≤ e.f4 ∧ e.f4 ≤ 1000000))))
abbrev keyLt (a b : S29) : Prop := Go.Op.bytesLess a.f0.toList b.f0.toList = true
theorem dirAt_iff (l : List S29) (i : Nat) : dirAt l i = true ↔ entOk (l.getD i z29) = true ∧ (i = 0 ∨ keyLt (l.getD (i - 1) z29) (l.getD i z29)) := by
  unfold dirAt entOk
  simp [Bool.and_eq_true, Bool.or_eq_true, decide_eq_true_eq, and_assoc]
theorem dirFrom_iff (l : List S29) (d : Nat) : ∀ i, dirFrom l d i = true ↔ ∀ j, i ≤ j → j < i + d → dirAt l j = true := by
  induction d with
  | zero => intro i; simp only [dirFrom, true_iff]; intro j h1 h2; omega
  | succ d ih =>
    intro i
    rw [dirFrom, Bool.and_eq_true, ih]
    constructor
    · rintro ⟨h1, h2⟩ j h3 h4
      by_cases e : j = i
      · rw [e]; exact h1
      · exact h2 j (by omega) (by omega)
    · intro h
      exact ⟨h i (by omega) (by omega), fun j h1 h2 => h j (by omega) (by omega)⟩
theorem dirOkB_iff (l : List S29) : dirOkB l = true ↔ l.length ≤ 20 ∧ (∀ e ∈ l, entOk e = true) ∧ l.Pairwise keyLt := by
  unfold dirOkB
  rw [Bool.and_eq_true, decide_eq_true_eq, dirFrom_iff]
  have gd : ∀ (i : Nat) (h : i < l.length), l.getD i z29 = l[i] := fun i h => by simp [h]
  constructor
  · rintro ⟨h1, h2⟩
    refine ⟨h1, ?_, ?_⟩
    · intro e he
      obtain ⟨i, hi, rfl⟩ := List.getElem_of_mem he
      have := ((dirAt_iff l i).1 (h2 i (by omega) (by omega))).1
      rw [gd i hi] at this
      exact this
    · rw [List.pairwise_iff_getElem]
      have key : ∀ (d i : Nat) (hi : i < l.length) (hj : i + d + 1 < l.length), keyLt l[i] l[i + d + 1] := by
        intro d
        induction d with
        | zero =>
          intro i hi hj
          rcases ((dirAt_iff l (i + 1)).1 (h2 (i + 1) (by omega) (by omega))).2 with h | h
          · omega
          · rw [gd (i + 1) (by omega), gd (i + 1 - 1) (by omega)] at h
            exact h
        | succ d ih =>
          intro i hi hj
          have a := ih i hi (by omega)
          rcases ((dirAt_iff l (i + (d + 1) + 1)).1 (h2 (i + (d + 1) + 1) (by omega) (by omega))).2 with h | h
          · omega
          · rw [gd (i + (d + 1) + 1) (by omega), gd (i + (d + 1) + 1 - 1) (by omega)] at h
            exact bl_trans _ _ _ a h
      intro i j hi hj hij
      have := key (j - i - 1) i hi (by omega)
      have e : i + (j - i - 1) + 1 = j := by omega
      simp only [e] at this
      exact this
  · rintro ⟨h1, h2, h3⟩
    refine ⟨h1, fun j _ hj => (dirAt_iff l j).2 ⟨?_, ?_⟩⟩
    · rw [gd j (by omega)]; exact h2 _ (List.getElem_mem _)
    · by_cases e : j = 0
      · exact Or.inl e
      · rw [gd j (by omega), gd (j - 1) (by omega)]
        exact Or.inr (List.pairwise_iff_getElem.1 h3 (j - 1) j (by omega) (by omega) (by omega))
theorem mem_dirDrop {key : ByteArray} {l : List S29} {e : S29} (h : e ∈ dirDrop key l) : e ∈ l ∧ e.f0.toList ≠ key.toList := by
  unfold dirDrop at h
  rw [List.mem_filter] at h
  exact ⟨h.1, by simpa using h.2⟩
theorem dirDrop_none {key : ByteArray} {l : List S29} (h : ∀ e ∈ l, e.f0.toList ≠ key.toList) : dirDrop key l = l := by
  unfold dirDrop
  rw [List.filter_eq_self]
  intro e he
  simpa using h e he
theorem dirDrop_insL {e : S29} {l : List S29} (h : ∀ x ∈ l, x.f0.toList ≠ e.f0.toList) : dirDrop e.f0 (insL e l) = l := by
  induction l with
  | nil => simp [insL, dirDrop]
  | cons x t ih =>
    have ht := ih fun y hy => h y (List.mem_cons_of_mem _ hy)
    have hx := h x List.mem_cons_self
    have hnone := dirDrop_none h
    unfold insL
    split
    · unfold dirDrop at hnone ⊢
      rw [List.filter_cons, if_neg (by simp)]
      exact hnone
    · unfold dirDrop at ht ⊢
      rw [List.filter_cons, if_pos (by simpa using hx), ht]
theorem dirFind_insL_self {e : S29} {l : List S29} (h : ∀ x ∈ l, x.f0.toList ≠ e.f0.toList) : dirFind e.f0 (insL e l) = some e := by
  induction l with
  | nil => simp [insL, dirFind]
  | cons x t ih =>
    have ht := ih fun y hy => h y (List.mem_cons_of_mem _ hy)
    have hx := h x List.mem_cons_self
    unfold insL
    split
    · rw [dirFind, if_pos rfl]
    · rw [dirFind, if_neg hx, ht]
theorem dirFind_insL_other {e : S29} {key : ByteArray} (hk : e.f0.toList ≠ key.toList) (l : List S29) : dirFind key (insL e l) = dirFind key l := by
  induction l with
  | nil => simp [insL, dirFind, hk]
  | cons x t ih =>
    unfold insL
    split
    · rw [dirFind, if_neg hk]
    · rw [dirFind, dirFind, ih]
theorem dirFind_drop_self (key : ByteArray) (l : List S29) : dirFind key (dirDrop key l) = none := by
  induction l with
  | nil => rfl
  | cons x t ih =>
    unfold dirDrop at ih ⊢
    rw [List.filter_cons]
    split
    · rename_i h
      rw [dirFind, if_neg (by simpa using h), ih]
    · exact ih
theorem dirFind_drop_other {k key : ByteArray} (hk : k.toList ≠ key.toList) (l : List S29) : dirFind key (dirDrop k l) = dirFind key l := by
  induction l with
  | nil => rfl
  | cons x t ih =>
    unfold dirDrop at ih ⊢
    rw [List.filter_cons]
    split
    · rw [dirFind, dirFind, ih]
    · rename_i h
      have : x.f0.toList = k.toList := by simpa using h
      rw [ih, dirFind, if_neg (by rw [this]; exact hk)]
theorem dirFind_sorted {l : List S29} (h : l.Pairwise keyLt) : ∀ {e : S29}, e ∈ l → dirFind e.f0 l = some e := by
  induction l with
  | nil => intro e he; cases he
  | cons x t ih =>
    intro e he
    rw [List.pairwise_cons] at h
    rcases List.mem_cons.1 he with rfl | he
    · rw [dirFind, if_pos rfl]
    · rw [dirFind, if_neg (bl_ne (h.1 e he)), ih h.2 he]
theorem insL_mem {e x : S29} {l : List S29} (h : x ∈ insL e l) : x = e ∨ x ∈ l := by
  induction l with
  | nil => simpa [insL] using h
  | cons y t ih =>
    unfold insL at h
    split at h
    · simpa using h
    · rcases List.mem_cons.1 h with rfl | h
      · exact Or.inr List.mem_cons_self
      · rcases ih h with h | h
        · exact Or.inl h
        · exact Or.inr (List.mem_cons_of_mem _ h)
theorem insL_sorted {e : S29} {l : List S29} (hl : l.Pairwise keyLt) (h : ∀ x ∈ l, x.f0.toList ≠ e.f0.toList) : (insL e l).Pairwise keyLt := by
  induction l with
  | nil => simp [insL]
  | cons x t ih =>
    rw [List.pairwise_cons] at hl
    have ht := ih hl.2 fun y hy => h y (List.mem_cons_of_mem _ hy)
    have hx := h x List.mem_cons_self
    unfold insL
    split
    · rename_i hb
      rw [List.pairwise_cons]
      refine ⟨fun y hy => ?_, List.pairwise_cons.2 hl⟩
      rcases List.mem_cons.1 hy with rfl | hy
      · exact hb
      · exact bl_trans _ _ _ hb (hl.1 y hy)
    · rename_i hb
      rw [List.pairwise_cons]
      refine ⟨fun y hy => ?_, ht⟩
      rcases insL_mem hy with rfl | hy
      · exact bl_tot _ _ (by simpa using hb) (fun e => hx e.symm)
      · exact hl.1 y hy
theorem entEq_self (a : S29) : entEq a a = true := by simp [entEq]
theorem sameDirB_self (l : List S29) : sameDirB l l = true := by
  unfold sameDirB entsEq
  simp [entEq_self]

theorem and255 (x : Int) : 0 ≤ Go.bits .and .i64 x 255 ∧ Go.bits .and .i64 x 255 ≤ 255 := by
  have hb : (BitVec.ofInt 64 x &&& BitVec.ofInt 64 255).toNat ≤ 255 := by
    rw [BitVec.toNat_and]; exact Nat.le_trans Nat.and_le_right (by decide)
  have e : Go.bits .and .i64 x 255 = IntKind.i64.wrap (((BitVec.ofInt 64 x &&& BitVec.ofInt 64 255).toNat : Nat) : Int) := rfl
  rw [e, IntKind.wrap_i64]
  omega
def okP (c : List Int) (p : Int) : Prop := 0 ≤ p ∧ p ≤ (c.length : Int)
theorem byte_ex (c : List Int) (hc : c.length ≤ 1048576) (p s : Int) (hp : okP c p) : ∃ v p' s', spec_l1Byte.f c p s = some (v, p', s') ∧ (0 ≤ v ∧ v ≤ 255) ∧ okP c p' := by
  unfold okP at *
  unfold spec_l1Byte.f
  by_cases h : p < (c.length : Int)
  · rw [if_pos h, if_pos hp.1]
    refine ⟨_, _, _, rfl, and255 _, ?_⟩
    rw [w64 (by omega) (by omega)]
    omega
  · rw [if_neg h]
    exact ⟨_, _, _, rfl, and255 _, hp⟩
theorem below_ex (c : List Int) (hc : c.length ≤ 1048576) (p s : Int) (hp : okP c p) (a : Int) : ∃ v p' s', spec_l1Below.f c p s a = some (v, p', s') ∧ 0 ≤ v ∧ (0 < a → v < a) ∧ (a ≤ 0 → v = 0) ∧ okP c p' := by
  unfold spec_l1Below.f
  by_cases h0 : a ≤ 0
  · rw [if_pos h0]
    exact ⟨_, _, _, rfl, by omega, by omega, fun _ => rfl, hp⟩
  · rw [if_neg h0]
    by_cases h1 : a ≤ 256
    · rw [if_pos h1]
      obtain ⟨v, p1, s1, e1, hv, hp1⟩ := byte_ex c hc p s hp
      rw [e1]
      simp only [Option.bind_some]
      rw [if_neg (by omega)]
      refine ⟨_, _, _, rfl, ?_, fun _ => ?_, by omega, hp1⟩
      · exact Int.tmod_nonneg _ hv.1
      · exact Int.tmod_lt_of_pos _ (by omega)
    · rw [if_neg h1]
      obtain ⟨v1, p1, s1, e1, hv1, hp1⟩ := byte_ex c hc p s hp
      obtain ⟨v2, p2, s2, e2, hv2, hp2⟩ := byte_ex c hc p1 s1 hp1
      obtain ⟨v3, p3, s3, e3, hv3, hp3⟩ := byte_ex c hc p2 s2 hp2
      obtain ⟨v4, p4, s4, e4, hv4, hp4⟩ := byte_ex c hc p3 s3 hp3
      rw [e1]
      simp only [Option.bind_some]
      rw [e2]
      simp only [Option.bind_some]
      rw [e3]
      simp only [Option.bind_some]
      rw [e4]
      simp only [Option.bind_some]
      rw [if_neg (by omega)]
      refine ⟨_, _, _, rfl, ?_, fun _ => ?_, by omega, hp4⟩
      · apply Int.tmod_nonneg
        rw [w64 (x := v1 * 16777216) (by omega) (by omega), w64 (x := v2 * 65536) (by omega) (by omega), w64 (x := v1 * 16777216 + v2 * 65536) (by omega) (by omega), w64 (x := v3 * 256) (by omega) (by omega), w64 (x := v1 * 16777216 + v2 * 65536 + v3 * 256) (by omega) (by omega), w64 (by omega) (by omega)]
        omega
      · exact Int.tmod_lt_of_pos _ (by omega)
theorem pickInt_ex (c : List Int) (hc : c.length ≤ 1048576) (p s : Int) (hp : okP c p) (l : List Int) (hl : 0 < l.length) : ∃ v p' s', spec_l1PickInt.f c p s l = some (v, p', s') ∧ okP c p' := by
  obtain ⟨v1, p1, s1, e1, hv1, hv1', _, hp1⟩ := below_ex c hc p s hp (l.length : Int)
  have := hv1' (by omega)
  unfold spec_l1PickInt.f
  rw [e1]
  simp only [Option.bind_some]
  rw [if_pos hv1, if_pos this]
  exact ⟨_, _, _, rfl, hp1⟩
theorem pick_ex (c : List Int) (hc : c.length ≤ 1048576) (p s : Int) (hp : okP c p) (l : List ByteArray) (hl : 0 < l.length) : ∃ v p' s', spec_l1Pick.f c p s l = some (v, p', s') ∧ okP c p' := by
  obtain ⟨v1, p1, s1, e1, hv1, hv1', _, hp1⟩ := below_ex c hc p s hp (l.length : Int)
  have := hv1' (by omega)
  unfold spec_l1Pick.f
  rw [e1]
  simp only [Option.bind_some]
  rw [if_pos hv1, if_pos this]
  exact ⟨_, _, _, rfl, hp1⟩
theorem new_ex (c : List Int) (hc : c.length ≤ 1048576) : ∃ s, Ev (fun k => spec_l1New.f k c) (c, 0, s) := by
  have key : ∀ (d i : Nat) (h : Int), d + i = c.length → ∃ s, Ev (fun k => spec_l1New.l0 k c h (i : Int)) (c, 0, s) := by
    intro d
    induction d with
    | zero =>
      intro i h hi
      refine ⟨h, evi 1 (fun k hk => ?_)⟩
      obtain ⟨k, rfl⟩ : ∃ m, k = m + 1 := ⟨k - 1, by omega⟩
      rw [spec_l1New.l0, if_neg (by omega)]
    | succ d ih =>
      intro i h hi
      by_cases h4 : (i : Int) < 4000
      · obtain ⟨s, hs⟩ := ih (i + 1) (Go.bits .and .i64 (wrap64 ((wrap64 ((wrap64 (h * 131)) + (wrap64 (rd c (i : Int))))) + 7)) 1073741823) (by omega)
        obtain ⟨K, hK⟩ := evx hs
        refine ⟨s, evi (K + 1) (fun k hk => ?_)⟩
        obtain ⟨k, rfl⟩ : ∃ m, k = m + 1 := ⟨k - 1, by omega⟩
        have hgo := hK k (by omega)
        have e2 : wrap64 ((i : Int) + 1) = ((i + 1 : Nat) : Int) := by rw [w64 (by omega) (by omega)]; omega
        rw [spec_l1New.l0, if_pos (by omega), if_pos h4, if_pos (by omega), e2]
        exact hgo
      · refine ⟨h, evi 1 (fun k hk => ?_)⟩
        obtain ⟨k, rfl⟩ : ∃ m, k = m + 1 := ⟨k - 1, by omega⟩
        rw [spec_l1New.l0, if_pos (by omega), if_neg h4]
  obtain ⟨s, hs⟩ := key c.length 0 (wrap64 (10101 + (c.length : Int))) rfl
  exact ⟨s, hs⟩
theorem key_ex (c : List Int) (hc : c.length ≤ 1048576) (p s : Int) (hp : okP c p) : ∃ v p' s', spec_l5Key.f c p s = some (v, p', s') ∧ okP c p' := by
  obtain ⟨v1, p1, s1, e1, hp1⟩ := pick_ex c hc p s hp [(⟨#[97]⟩ : ByteArray), (⟨#[98]⟩ : ByteArray), (⟨#[99]⟩ : ByteArray), (⟨#[107, 101, 121]⟩ : ByteArray), (⟨#[108, 111, 110, 103, 110, 97, 109, 101]⟩ : ByteArray)] (by simp)
  unfold spec_l5Key.f
  rw [e1]
  exact ⟨_, _, _, rfl, hp1⟩
theorem once_ex (c : List Int) (hc : c.length ≤ 1048576) (p s : Int) (hp : okP c p) (a : Int) : ∃ v p' s', spec_l1Once.f c p s a = some (v, p', s') ∧ okP c p' := by
  obtain ⟨v, p1, s1, e1, _, _, _, hp1⟩ := below_ex c hc p s hp a
  unfold spec_l1Once.f
  rw [e1]
  exact ⟨_, _, _, rfl, hp1⟩

theorem entry_ex (c : List Int) (hc : c.length ≤ 1048576) (p s : Int) (hp : okP c p) : ∃ k0 f1 f2 f3 f4 p' s', spec_l8Entry.f c p s = some (k0, f1, f2, f3, f4, p', s') ∧ okP c p' := by
  obtain ⟨v0, p0, s0, e0, hp0⟩ := key_ex c hc p s hp
  obtain ⟨v1, p1, s1, e1, _, _, _, hp1⟩ := below_ex c hc p0 s0 hp0 4
  obtain ⟨v2, p2, s2, e2, _, _, _, hp2⟩ := below_ex c hc p1 s1 hp1 90
  obtain ⟨v3, p3, s3, e3, _, _, _, hp3⟩ := below_ex c hc p2 s2 hp2 30
  obtain ⟨v4, p4, s4, e4, _, _, _, hp4⟩ := below_ex c hc p3 s3 hp3 9
  unfold spec_l8Entry.f
  rw [e0]
  simp only [Option.bind_some]
  rw [e1]
  simp only [Option.bind_some]
  rw [e2]
  simp only [Option.bind_some]
  rw [e3]
  simp only [Option.bind_some]
  rw [e4]
  exact ⟨_, _, _, _, _, _, _, rfl, hp4⟩
theorem dirMut_ex (c : List Int) (hc : c.length ≤ 1048576) (p s : Int) (hp : okP c p) (acc : List S29) (b : Bool) (hb : b = true → 0 < acc.length) (ha : acc.length ≤ 1000) : ∃ l p' s', Ev (fun k => spec_l8Dir.j1 k acc b c p s) (l, p', s') ∧ l.length = acc.length ∧ okP c p' := by
  cases b with
  | false =>
    refine ⟨acc, p, s, evi 1 (fun k hk => ?_), rfl, hp⟩
    obtain ⟨k, rfl⟩ : ∃ m, k = m + 1 := ⟨k - 1, by omega⟩
    rw [spec_l8Dir.j1, if_neg (by simp)]
  | true =>
    have hpos := hb rfl
    obtain ⟨v1, p1, s1, e1, hv0, hv1, _, hp1⟩ := below_ex c hc p s hp (acc.length : Int)
    have hlt := hv1 (by omega)
    obtain ⟨v2, p2, s2, e2, _, _, _, hp2⟩ := below_ex c hc p1 s1 hp1 4
    by_cases c0 : v2 = 0
    · obtain ⟨w, p3, s3, e3, hp3⟩ := pick_ex c hc p2 s2 hp2 [(⟨#[]⟩ : ByteArray), (⟨#[122, 122, 122, 122, 122, 122, 122, 122, 122]⟩ : ByteArray), (⟨#[97]⟩ : ByteArray)] (by simp)
      refine ⟨acc.set v1.toNat (⟨w, (rd_T29 acc v1).f1, (rd_T29 acc v1).f2, (rd_T29 acc v1).f3, (rd_T29 acc v1).f4⟩ : S29), p3, s3, evi 1 (fun k hk => ?_), by rw [List.length_set], hp3⟩
      obtain ⟨k, rfl⟩ : ∃ m, k = m + 1 := ⟨k - 1, by omega⟩
      rw [spec_l8Dir.j1, if_pos rfl, e1]
      simp only [Option.bind_some]
      rw [e2]
      simp only [Option.bind_some]
      rw [if_pos c0, e3]
      simp only [Option.bind_some]
      rw [if_pos hv0, if_pos hlt]
    by_cases c1 : v2 = 1
    · refine ⟨acc.set v1.toNat (⟨(rd_T29 acc v1).f0, 0, (rd_T29 acc v1).f2, (rd_T29 acc v1).f3, (rd_T29 acc v1).f4⟩ : S29), p2, s2, evi 1 (fun k hk => ?_), by rw [List.length_set], hp2⟩
      obtain ⟨k, rfl⟩ : ∃ m, k = m + 1 := ⟨k - 1, by omega⟩
      rw [spec_l8Dir.j1, if_pos rfl, e1]
      simp only [Option.bind_some]
      rw [e2]
      simp only [Option.bind_some]
      rw [if_neg c0, if_pos c1, if_pos hv0, if_pos hlt]
    by_cases c2 : v2 = 2
    · obtain ⟨w, p3, s3, e3, hp3⟩ := pickInt_ex c hc p2 s2 hp2 [0, 210, 211] (by simp)
      refine ⟨acc.set v1.toNat (⟨(rd_T29 acc v1).f0, (rd_T29 acc v1).f1, (rd_T29 acc v1).f2, w, (rd_T29 acc v1).f4⟩ : S29), p3, s3, evi 1 (fun k hk => ?_), by rw [List.length_set], hp3⟩
      obtain ⟨k, rfl⟩ : ∃ m, k = m + 1 := ⟨k - 1, by omega⟩
      rw [spec_l8Dir.j1, if_pos rfl, e1]
      simp only [Option.bind_some]
      rw [e2]
      simp only [Option.bind_some]
      rw [if_neg c0, if_neg c1, if_pos c2, e3]
      simp only [Option.bind_some]
      rw [if_pos hv0, if_pos hlt]
    · obtain ⟨w, p3, s3, e3, hp3⟩ := pickInt_ex c hc p2 s2 hp2 [0, 1000001] (by simp)
      refine ⟨acc.set v1.toNat (⟨(rd_T29 acc v1).f0, (rd_T29 acc v1).f1, (rd_T29 acc v1).f2, (rd_T29 acc v1).f3, w⟩ : S29), p3, s3, evi 1 (fun k hk => ?_), by rw [List.length_set], hp3⟩
      obtain ⟨k, rfl⟩ : ∃ m, k = m + 1 := ⟨k - 1, by omega⟩
      rw [spec_l8Dir.j1, if_pos rfl, e1]
      simp only [Option.bind_some]
      rw [e2]
      simp only [Option.bind_some]
      rw [if_neg c0, if_neg c1, if_neg c2, e3]
      simp only [Option.bind_some]
      rw [if_pos hv0, if_pos hlt]
theorem dir_l0 (c : List Int) (hc : c.length ≤ 1048576) (d : Nat) : ∀ (acc : List S29) (p s : Int), okP c p → acc.length + d ≤ 1000 → ∃ l p' s', Ev (fun k => spec_l8Dir.l0 k acc (d : Int) c p s) (l, p', s') ∧ l.length ≤ acc.length + d ∧ okP c p' := by
  induction d with
  | zero =>
    intro acc p s hp ha
    by_cases h : (acc.length : Int) > 0
    · obtain ⟨b, p1, s1, e1, hp1⟩ := once_ex c hc p s hp 8
      obtain ⟨l, p', s', hE, hl, hp'⟩ := dirMut_ex c hc p1 s1 hp1 acc b (fun _ => by omega) (by omega)
      obtain ⟨K, hK⟩ := evx hE
      refine ⟨l, p', s', evi (K + 1) (fun k hk => ?_), by omega, hp'⟩
      obtain ⟨k, rfl⟩ : ∃ m, k = m + 1 := ⟨k - 1, by omega⟩
      rw [spec_l8Dir.l0, if_neg (by omega), if_pos h, e1]
      simp only [Option.bind_some]
      exact hK k (by omega)
    · obtain ⟨l, p', s', hE, hl, hp'⟩ := dirMut_ex c hc p s hp acc false (fun h => absurd h (by simp)) (by omega)
      obtain ⟨K, hK⟩ := evx hE
      refine ⟨l, p', s', evi (K + 1) (fun k hk => ?_), by omega, hp'⟩
      obtain ⟨k, rfl⟩ : ∃ m, k = m + 1 := ⟨k - 1, by omega⟩
      rw [spec_l8Dir.l0, if_neg (by omega), if_neg h]
      exact hK k (by omega)
  | succ d ih =>
    intro acc p s hp ha
    obtain ⟨k0, f1, f2, f3, f4, p1, s1, e1, hp1⟩ := entry_ex c hc p s hp
    obtain ⟨K1, h1⟩ := evx (spec_DirPut_ev acc (⟨k0, f1, f2, f3, f4⟩ : S29) (by omega))
    have hpl := dirPut_length (⟨k0, f1, f2, f3, f4⟩ : S29) acc
    obtain ⟨l, p', s', hE, hl, hp'⟩ := ih (dirPut (⟨k0, f1, f2, f3, f4⟩ : S29) acc) p1 s1 hp1 (by omega)
    obtain ⟨K, hK⟩ := evx hE
    refine ⟨l, p', s', evi (K + K1 + 1) (fun k hk => ?_), by omega, hp'⟩
    obtain ⟨k, rfl⟩ : ∃ m, k = m + 1 := ⟨k - 1, by omega⟩
    have h1' : spec_DirPut.f k acc k0 f1 f2 f3 f4 = some (dirPut (⟨k0, f1, f2, f3, f4⟩ : S29) acc) := h1 k (by omega)
    rw [spec_l8Dir.l0, if_pos (by omega), e1]
    simp only [Option.bind_some]
    rw [h1']
    simp only [Option.bind_some]
    rw [w64 (by omega) (by omega), show (((d + 1 : Nat) : Int) - 1) = (d : Int) from by omega]
    exact hK k (by omega)
theorem dir_ex (c : List Int) (hc : c.length ≤ 1048576) (p s : Int) (hp : okP c p) : ∃ l p' s', Ev (fun k => spec_l8Dir.f k c p s) (l, p', s') ∧ l.length ≤ 6 ∧ okP c p' := by
  obtain ⟨v, p1, s1, e1, hv0, hv1, _, hp1⟩ := below_ex c hc p s hp 7
  have := hv1 (by omega)
  obtain ⟨n, rfl⟩ := Int.eq_ofNat_of_zero_le hv0
  obtain ⟨l, p', s', hE, hl, hp'⟩ := dir_l0 c hc n [] p1 s1 hp1 (by simp only [List.length_nil]; omega)
  obtain ⟨K, hK⟩ := evx hE
  refine ⟨l, p', s', evi K (fun k hk => ?_), by simp only [List.length_nil] at hl; omega, hp'⟩
  unfold spec_l8Dir.f
  rw [e1]
  simp only [Option.bind_some]
  exact hK k hk
theorem drawDirPut_ex (c : List Int) (hc : c.length ≤ 1048576) : ∃ l k0 f1 f2 f3 f4, Ev (fun k => spec_DrawDirPut.f k c) (l, k0, f1, f2, f3, f4) ∧ l.length ≤ 6 := by
  obtain ⟨s, hs⟩ := new_ex c hc
  obtain ⟨K1, h1⟩ := evx hs
  obtain ⟨l, p1, s1, hE, hl, hp1⟩ := dir_ex c hc 0 s ⟨by omega, by omega⟩
  obtain ⟨K2, h2⟩ := evx hE
  obtain ⟨k0, f1, f2, f3, f4, p2, s2, e2, _⟩ := entry_ex c hc p1 s1 hp1
  refine ⟨l, k0, f1, f2, f3, f4, evi (K1 + K2) (fun k hk => ?_), hl⟩
  unfold spec_DrawDirPut.f
  rw [h1 k (by omega)]
  simp only [Option.bind_some]
  rw [h2 k (by omega)]
  simp only [Option.bind_some]
  rw [e2]
  rfl



/-! ### the law -/
theorem dirs_step (l x y : List S29) (e z : S29) (i k : Nat) (hi : i < l.length) (hz : rd_T29 l (i : Int) = z) (g1 g2 : ByteArray × Int × Int × Int × Int × Bool) (h1 : impl_DirGet.f (k + 1) x z.f0 = some g1) (h2 : impl_DirGet.f (k + 1) y z.f0 = some g2)
    (hg : z.f0.toList ≠ e.f0.toList → g1 = (z.f0, z.f1, z.f2, z.f3, z.f4, true) ∧ g2 = (z.f0, z.f1, z.f2, z.f3, z.f4, true)) (hj : laws_FnDirs.j2 (k + 1) l x y (i : Int) false e.f0 e.f1 e.f2 e.f3 e.f4 = some true) : laws_FnDirs.l0 (k + 1 + 1) l x y (i : Int) e.f0 e.f1 e.f2 e.f3 e.f4 = some true := by
  rw [laws_FnDirs.l0, if_pos (by omega), if_pos (by omega), hz, h1]
  simp only [Option.bind_some]
  rw [h2]
  simp only [Option.bind_some]
  by_cases hk : z.f0.toList = e.f0.toList
  · rw [if_pos hk]; exact hj
  · obtain ⟨rfl, rfl⟩ := hg hk
    rw [if_neg hk]
    simp only [beq_self_eq_true, Bool.not_true, Bool.or_false, Bool.false_eq_true, if_false, if_true]
    exact hj
theorem dirs_l1 (x : List S29) (e : S29) (hx : x.length ≤ 1000) (hs : x.Pairwise keyLt) (hput : dirPut e x = x) (d : Nat) : ∀ i : Nat, d + i = x.length + 1 → 1 ≤ i → Ev (fun k => laws_FnDirs.l1 k x (x.map (·.f0)) (i : Int) e.f0 e.f1 e.f2 e.f3 e.f4) true := by
  induction d with
  | zero => 
    intro i hi h1
    obtain ⟨K1, k1⟩ := evx (impl_DirPut_ev x e (by omega))
    obtain ⟨K2, k2⟩ := evx (impl_SameDir_ev x x (by omega))
    rw [hput] at k1
    rw [sameDirB_self] at k2
    refine evi (K1 + K2 + 1) (fun k hk => ?_)
    obtain ⟨k, rfl⟩ : ∃ m, k = m + 1 := ⟨k - 1, by omega⟩
    rw [laws_FnDirs.l1, if_neg (by rw [List.length_map]; omega), if_pos (by rw [List.length_map]), k1 k (by omega)]
    simp only [Option.bind_some]
    rw [k2 k (by omega)]
    rfl
  | succ d ih =>
    intro i hi h1
    obtain ⟨K, hK⟩ := evx (ih (i + 1) (by omega) (by omega))
    by_cases hlt : i < x.length
    · refine evi (K + 1) (fun k hk => ?_)
      obtain ⟨k, rfl⟩ : ∃ m, k = m + 1 := ⟨k - 1, by omega⟩
      have hw : wrap64 ((i : Int) - 1) = ((i - 1 : Nat) : Int) := by rw [w64 (by omega) (by omega)]; omega
      have e1 : rdOf ByteArray.empty (x.map (·.f0)) (i : Int) = x[i].f0 := by simp [rdOf, hlt]
      have e2 : rdOf ByteArray.empty (x.map (·.f0)) ((i - 1 : Nat) : Int) = (x[i - 1]'(by omega)).f0 := by
        have : i - 1 < x.length := by omega
        simp [rdOf, this]
      have hlt2 := List.pairwise_iff_getElem.1 hs (i - 1) i (by omega) hlt (by omega)
      rw [laws_FnDirs.l1, hw, if_pos (by rw [List.length_map]; omega), if_pos (by omega), if_pos (by omega), if_pos (by rw [List.length_map]; omega), e1, e2, if_pos hlt2, w64 (by omega) (by omega), show ((i : Int) + 1) = ((i + 1 : Nat) : Int) from by omega]
      exact hK k (by omega)
    · obtain ⟨K1, k1⟩ := evx (impl_DirPut_ev x e (by omega))
      obtain ⟨K2, k2⟩ := evx (impl_SameDir_ev x x (by omega))
      rw [hput] at k1
      rw [sameDirB_self] at k2
      refine evi (K1 + K2 + 1) (fun k hk => ?_)
      obtain ⟨k, rfl⟩ : ∃ m, k = m + 1 := ⟨k - 1, by omega⟩
      rw [laws_FnDirs.l1, if_neg (by rw [List.length_map]; omega), if_pos (by rw [List.length_map]), k1 k (by omega)]
      simp only [Option.bind_some]
      rw [k2 k (by omega)]
      rfl
theorem dirs_l0 (l x y : List S29) (e : S29) (hl : l.length ≤ 1000) (hx : x.length ≤ 1000) (hy : y.length ≤ 1000) (hs : x.Pairwise keyLt) (hput : dirPut e x = x)
    (hf : ∀ z ∈ l, z.f0.toList ≠ e.f0.toList → dirFind z.f0 x = some z ∧ dirFind z.f0 y = some z) (d : Nat) : ∀ i : Nat, d + i = l.length → Ev (fun k => laws_FnDirs.l0 k l x y (i : Int) e.f0 e.f1 e.f2 e.f3 e.f4) true := by
  induction d with
  | zero =>
    intro i hi
    obtain ⟨K1, k1⟩ := evx (impl_DirKeys_ev x (by omega))
    obtain ⟨K2, k2⟩ := evx (dirs_l1 x e hx hs hput x.length 1 (by omega) (by omega))
    refine evi (K1 + K2 + 1) (fun k hk => ?_)
    obtain ⟨k, rfl⟩ : ∃ m, k = m + 1 := ⟨k - 1, by omega⟩
    rw [laws_FnDirs.l0, if_neg (by omega), k1 k (by omega)]
    simp only [Option.bind_some]
    exact k2 k (by omega)
  | succ d ih =>
    intro i hi
    have hlt : i < l.length := by omega
    have h1 : rd_T29 l (i : Int) = l[i] := by simp [rd_T29, hlt]
    obtain ⟨K, hK⟩ := evx (ih (i + 1) (by omega))
    obtain ⟨K1, k1⟩ := evx (impl_DirGet_ev x l[i].f0 (by omega))
    obtain ⟨K2, k2⟩ := evx (impl_DirGet_ev y l[i].f0 (by omega))
    refine evi (K + K1 + K2 + 2) (fun k hk => ?_)
    obtain ⟨k, rfl⟩ : ∃ m, k = m + 2 := ⟨k - 2, by omega⟩
    refine dirs_step l x y e l[i] i k hlt h1 _ _ (k1 (k + 1) (by omega)) (k2 (k + 1) (by omega)) ?_ ?_
    · intro hne
      obtain ⟨f1, f2⟩ := hf l[i] (List.getElem_mem _) hne
      rw [f1, f2]
      exact ⟨rfl, rfl⟩
    · rw [laws_FnDirs.j2, if_neg (by simp), w64 (by omega) (by omega), show ((i : Int) + 1) = ((i + 1 : Nat) : Int) from by omega]
      exact hK k (by omega)
theorem dirs_top (c : List Int) (k : Nat) (l x y : List S29) (e : S29) (h0 : ¬ (c.length : Int) > 1048576) (h1 : spec_DrawDirPut.f k c = some (l, e.f0, e.f1, e.f2, e.f3, e.f4)) (h2 : spec_DirOk.f k l = some true) (h3 : impl_DirPut.f k l e.f0 e.f1 e.f2 e.f3 e.f4 = some x) (h4 : impl_DirDrop.f k x e.f0 = some y)
    (h5 : impl_DirGet.f k x e.f0 = some (e.f0, e.f1, e.f2, e.f3, e.f4, true)) (h6 : impl_DirGet.f k y e.f0 = some (mkS [], 0, 0, 0, 0, false)) (h7 : spec_DirOk.f k y = some true) (h8 : ((x.length : Int) != (wrap64 ((y.length : Int) + 1))) = false) (hj : laws_FnDirs.j0 k l x y false e.f0 e.f1 e.f2 e.f3 e.f4 = some true) : laws_FnDirs.f k c = some true := by
  unfold laws_FnDirs.f laws_big.f
  simp only [Option.bind_some]
  rw [if_neg (by simpa using h0), h1]
  simp only [Option.bind_some]
  rw [h2]
  simp only [Option.bind_some, if_true]
  rw [h3]
  simp only [Option.bind_some]
  rw [h4]
  simp only [Option.bind_some]
  rw [h5]
  simp only [Option.bind_some]
  rw [h6]
  simp only [Option.bind_some, beq_self_eq_true, Bool.not_true, Bool.or_false, Bool.false_eq_true, if_false, if_true]
  rw [h7]
  simp only [Option.bind_some, if_true]
  rw [h8]
  exact hj
theorem FnDirs : laws_FnDirs.Pure := by
  intro c h1 h2 h3
  by_cases hb : (c.length : Int) > 1048576
  · refine ⟨0, ?_⟩
    unfold laws_FnDirs.f laws_big.f
    simp only [Option.bind_some]
    rw [if_pos (by simpa using hb)]
  · have hc : c.length ≤ 1048576 := by omega
    obtain ⟨l, k0, f1, f2, f3, f4, hE, hl⟩ := drawDirPut_ex c hc
    obtain ⟨K1, k1⟩ := evx hE
    obtain ⟨K2, k2⟩ := evx (spec_DirOk_ev l (by omega))
    cases hd : dirOkB l with
    | false =>
      rw [hd] at k2
      refine ⟨K1 + K2, ?_⟩
      unfold laws_FnDirs.f laws_big.f
      simp only [Option.bind_some]
      rw [if_neg (by simpa using hb), k1 _ (by omega)]
      simp only [Option.bind_some]
      rw [k2 _ (by omega)]
      simp
    | true =>
      rw [hd] at k2
      obtain ⟨q1, q2, q3⟩ := (dirOkB_iff l).1 hd
      obtain ⟨e, he⟩ : ∃ e : S29, e = ⟨k0, f1, f2, f3, f4⟩ := ⟨_, rfl⟩
      have k1' : ∀ k, K1 ≤ k → spec_DrawDirPut.f k c = some (l, e.f0, e.f1, e.f2, e.f3, e.f4) := by rw [he]; exact k1
      clear k1 hE he
      have hnot : ∀ z ∈ dirDrop e.f0 l, z.f0.toList ≠ e.f0.toList := fun z hz => (mem_dirDrop hz).2
      have hdl := dirDrop_length e.f0 l
      have hy : dirDrop e.f0 (dirPut e l) = dirDrop e.f0 l := dirDrop_insL hnot
      have hxl : (dirPut e l).length = (dirDrop e.f0 l).length + 1 := insL_length e _
      have hxs : (dirPut e l).Pairwise keyLt := insL_sorted (q3.sublist List.filter_sublist) hnot
      have hput : dirPut e (dirPut e l) = dirPut e l := by
        show insL e (dirDrop e.f0 (dirPut e l)) = dirPut e l
        rw [hy]
        rfl
      have hyok : dirOkB (dirDrop e.f0 l) = true := (dirOkB_iff _).2 ⟨by omega, fun z hz => q2 z (mem_dirDrop hz).1, q3.sublist List.filter_sublist⟩
      have hfind : ∀ z ∈ l, z.f0.toList ≠ e.f0.toList → dirFind z.f0 (dirPut e l) = some z ∧ dirFind z.f0 (dirDrop e.f0 l) = some z := by
        intro z hz hne
        have a : dirFind z.f0 (dirDrop e.f0 l) = some z := by rw [dirFind_drop_other (fun h => hne h.symm)]; exact dirFind_sorted q3 hz
        refine ⟨?_, a⟩
        show dirFind z.f0 (insL e (dirDrop e.f0 l)) = some z
        rw [dirFind_insL_other (fun h => hne h.symm), a]
      have hself : dirFind e.f0 (dirPut e l) = some e := dirFind_insL_self hnot
      have hgone : dirFind e.f0 (dirDrop e.f0 l) = none := dirFind_drop_self e.f0 l
      obtain ⟨K3, k3⟩ := evx (impl_DirPut_ev l e (by omega))
      obtain ⟨K4, k4⟩ := evx (impl_DirDrop_ev (dirPut e l) e.f0 (by omega))
      rw [hy] at k4
      obtain ⟨K5, k5⟩ := evx (impl_DirGet_ev (dirPut e l) e.f0 (by omega))
      rw [hself] at k5
      obtain ⟨K6, k6⟩ := evx (impl_DirGet_ev (dirDrop e.f0 l) e.f0 (by omega))
      rw [hgone] at k6
      obtain ⟨K7, k7⟩ := evx (spec_DirOk_ev (dirDrop e.f0 l) (by omega))
      rw [hyok] at k7
      obtain ⟨K8, k8⟩ := evx (dirs_l0 l (dirPut e l) (dirDrop e.f0 l) e (by omega) (by omega) (by omega) hxs hput hfind l.length 0 rfl)
      generalize hK : K1 + K2 + K3 + K4 + K5 + K6 + K7 + K8 = K
      refine ⟨K + 1, dirs_top c (K + 1) l (dirPut e l) (dirDrop e.f0 l) e hb (k1' _ (by omega)) (k2 _ (by omega)) (k3 _ (by omega)) (k4 _ (by omega)) (k5 _ (by omega)) (k6 _ (by omega)) (k7 _ (by omega)) ?_ ?_⟩
      · rw [hxl, w64 (by omega) (by omega)]
        simp
      · rw [laws_FnDirs.j0, if_neg (by simp)]
        exact k8 K (by omega)

end Go.Proofs.Ytjcjijkgnkifeaa.Pure
