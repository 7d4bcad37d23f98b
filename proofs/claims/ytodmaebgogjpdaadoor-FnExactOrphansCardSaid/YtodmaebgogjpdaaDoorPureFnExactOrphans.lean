/- The pure statement of the law FnExactOrphans: for all arguments within the printed bounds the printed function of the law answers true. Conditions: only the bounds that the printed statement itself names. -/
import Derived.Test.YtodmaebgogjpdaaDoorPFnExactOrphansx11
namespace Go.Proofs.YtodmaebgogjpdaaDoor.Pure
open Go.RowKit Go.Proofs.YtodmaebgogjpdaaDoor.PFnExactOrphans Go.Proofs.YtodmaebgogjpdaaDoorW.PrintWords Go.Proofs.YtodmaebgogjpdaaDoorW.PrintLast
set_option linter.unusedVariables false
set_option linter.unusedSimpArgs false

/-- The string of a list of bytes. -/
def mkS (l : List UInt8) : ByteArray := ⟨l.toArray⟩
theorem exS (s : ByteArray) : ∃ l, s = mkS l := ⟨s.data.toList, by cases s; simp [mkS]⟩
theorem mkS_size (l : List UInt8) : (mkS l).size = l.length := by simp [mkS, ByteArray.size]
theorem toList_data (s : ByteArray) : s.toList = s.data.toList := by
  have key : ∀ (n i : Nat) (r : List UInt8), s.size - i = n → ByteArray.toList.loop s i r = r.reverse ++ s.data.toList.drop i := by
    intro n
    induction n with
    | zero =>
      intro i r h
      unfold ByteArray.toList.loop
      rw [if_neg (by omega), List.drop_of_length_le (by simp only [Array.length_toList]; have : s.size = s.data.size := rfl; omega), List.append_nil]
    | succ n ih =>
      intro i r h
      unfold ByteArray.toList.loop
      have hi : i < s.data.toList.length := by simp only [Array.length_toList]; have : s.size = s.data.size := rfl; omega
      rw [if_pos (by omega), ih (i + 1) _ (by omega), List.reverse_cons, List.append_assoc, List.drop_eq_getElem_cons hi]
      have : s.get! i = s.data.toList[i] := by
        show s.data[i]! = _
        rw [Array.getElem_toList]
        exact getElem!_pos s.data i (by simpa using hi)
      rw [this]
      rfl
  have := key _ 0 [] rfl
  simpa [ByteArray.toList] using this
theorem mkS_toList (l : List UInt8) : (mkS l).toList = l := by rw [toList_data]; simp [mkS]
theorem mkS_append (a b : List UInt8) : mkS a ++ mkS b = mkS (a ++ b) := by
  apply ByteArray.ext
  simp [mkS, ByteArray.data_append]
theorem mkS_extract (l : List UInt8) (i j : Nat) : (mkS l).extract i j = mkS ((l.drop i).take (j - i)) := by
  apply ByteArray.ext
  rw [ByteArray.data_extract]
  simp only [mkS]
  apply Array.ext'
  rw [Array.toList_extract]
  try simp [List.extract_eq_drop_take]
theorem bt_mkS (l : List UInt8) (i : Nat) (h : i < l.length) : bt (mkS l) (i : Int) = ((l[i]).toNat : Int) := by
  unfold bt
  have h' : ((i : Int)).toNat < (mkS l).size := by rw [mkS_size]; simpa using h
  rw [dif_pos h']
  simp only [Int.toNat_natCast]
  rfl
/-- A slice of bytes as the print tells it. -/
def ints (l : List UInt8) : List Int := l.map fun b => (b.toNat : Int)
theorem strOfNums_ints (l : List UInt8) : strOfNums (ints l) = mkS l := by
  unfold strOfNums ints mkS
  congr 2
  rw [List.map_map]
  conv => rhs; rw [← List.map_id l]
  apply List.map_congr_left
  intro b _
  simp
theorem ofNat_cast (n : Nat) : ((UInt8.ofNat n).toNat : Int) = (n : Int) % 256 := by simp
theorem ints_one (n : Nat) (x : Int) (h : x % 256 = ((n % 256 : Nat) : Int)) : [x % 256] = ints [UInt8.ofNat n] := by
  simp only [ints, List.map_cons, List.map_nil]
  rw [h, ofNat_cast]
  simp
theorem w64 {x : Int} (h0 : -9223372036854775808 ≤ x) (h1 : x ≤ 9223372036854775807) : wrap64 x = x := by unfold wrap64; omega
theorem tdivp {x y : Int} (h : 0 ≤ x) : Int.tdiv x y = x / y := Int.tdiv_eq_ediv_of_nonneg h
theorem tmodp {x y : Int} (h : 0 ≤ x) : Int.tmod x y = x % y := Int.tmod_eq_emod_of_nonneg h
theorem evx {α : Type} {g : Nat → Option α} {r : α} (h : Ev g r) : ∃ K, ∀ k, K ≤ k → g k = some r := h
theorem evi {α : Type} {g : Nat → Option α} {r : α} (K : Nat) (h : ∀ k, K ≤ k → g k = some r) : Ev g r := ⟨K, h⟩

theorem fill_step {α : Type} (m : List α) (z : α) (i n : Nat) (x : α) (hn : m.length = n) (h : i < n) (hx : m[i]? = some x) : (m.take i ++ List.replicate (n - i) z).set i x = m.take (i + 1) ++ List.replicate (n - (i + 1)) z := by
  subst hn
  have hl : (m.take i).length = i := by rw [List.length_take]; omega
  have e : m.length - i = (m.length - (i + 1)) + 1 := by omega
  have ex : m[i] = x := by rw [List.getElem?_eq_getElem h] at hx; exact Option.some.inj hx
  rw [e, List.replicate_succ, List.set_append_right _ _ (by omega), hl, Nat.sub_self, List.set_cons_zero, List.take_succ_eq_append_getElem h, List.append_assoc, ex]
  rfl

theorem laws_szIntS_f (l : List Int) (hl : l.length ≤ maxLen) (a : Int) (h0 : 0 ≤ a) (h1 : a ≤ 1048576) : ∃ s, laws_szIntS.f l a = some s ∧ s ≤ a ∧ (s < 0 ∨ 0 ≤ s ∧ l.length ≤ 1048576) := by
  have hmax : maxLen = 9223372036854775807 := rfl
  unfold laws_szIntS.f wrap64
  repeat' split
  all_goals exact ⟨_, rfl, by omega, by omega⟩
theorem laws_toIntS_l0 (l : List Int) (hl : l.length ≤ 4611686018427387904) (d : Nat) : ∀ (i : Nat), d + i = l.length → Ev (fun k => laws_toIntS.l0 k l (l.take i ++ List.replicate (l.length - i) 0) (i : Int)) l := by
  induction d with
  | zero =>
    intro i hi
    refine evi (1) fun k hk => ?_
    obtain ⟨k, rfl⟩ : ∃ m, k = m + 1 := ⟨k - 1, by omega⟩
    simp only [laws_toIntS.l0]
    rw [if_neg (by omega), List.take_of_length_le (by omega), show l.length - i = 0 from by omega, List.replicate_zero, List.append_nil]
  | succ d ih =>
    intro i hi
    have hlt : i < l.length := by omega
    have hrd : rd l (i : Int) = l[i] := by simp [rd, hlt]
    obtain ⟨K, hK⟩ := evx (ih (i + 1) (by omega))
    refine evi (K + 1) fun k hk => ?_
    obtain ⟨k, rfl⟩ : ∃ m, k = m + 1 := ⟨k - 1, by omega⟩
    simp only [laws_toIntS.l0]
    rw [if_pos (by omega), if_pos (by omega), if_pos (by rw [List.length_append, List.length_take, List.length_replicate]; omega), hrd, Int.toNat_natCast, w64 (by omega) (by omega), fill_step l 0 i l.length l[i] rfl hlt (List.getElem?_eq_getElem hlt)]
    exact hK k (by omega)
theorem laws_toIntS_ev (l : List Int) (hl : l.length ≤ 1048576) : Ev (fun k => laws_toIntS.f k l) l := by
  obtain ⟨K, hK⟩ := evx (laws_toIntS_l0 l (by omega) l.length 0 rfl)
  refine evi (K) fun k hk => ?_
  unfold laws_toIntS.f
  rw [if_pos (by omega), if_pos (by omega), Int.toNat_natCast]
  have := hK k hk
  rw [List.take_zero, List.nil_append, Nat.sub_zero] at this
  exact this
theorem laws_eqIntS_l0 (l : List Int) (hl : l.length ≤ 4611686018427387904) (d : Nat) : ∀ (i : Nat), d + i = l.length → Ev (fun k => laws_eqIntS.l0 k l l (i : Int)) true := by
  induction d with
  | zero =>
    intro i hi
    refine evi (1) fun k hk => ?_
    obtain ⟨k, rfl⟩ : ∃ m, k = m + 1 := ⟨k - 1, by omega⟩
    simp only [laws_eqIntS.l0]
    rw [if_neg (by omega)]
  | succ d ih =>
    intro i hi
    obtain ⟨K, hK⟩ := evx (ih (i + 1) (by omega))
    refine evi (K + 1) fun k hk => ?_
    obtain ⟨k, rfl⟩ : ∃ m, k = m + 1 := ⟨k - 1, by omega⟩
    simp only [laws_eqIntS.l0]
    rw [if_pos (by omega), if_pos (by omega), if_pos (by omega), if_pos trivial, w64 (by omega) (by omega)]
    exact hK k (by omega)
theorem laws_eqIntS_ev (l : List Int) (hl : l.length ≤ 4611686018427387904) : Ev (fun k => laws_eqIntS.f k l l) true := by
  obtain ⟨K, hK⟩ := evx (laws_eqIntS_l0 l hl l.length 0 rfl)
  refine evi (K) fun k hk => ?_
  unfold laws_eqIntS.f
  rw [if_pos rfl]
  exact hK k hk

theorem impl_in_f (a b c : Int) : impl_in.f a b c = some (decide (b ≤ a ∧ a ≤ c)) := by
  unfold impl_in.f
  by_cases h : a ≥ b
  · rw [if_pos h]; congr 1; simp [h]
  · rw [if_neg h]; congr 1; simp; omega

theorem spec_l1In_f (a b c : Int) : spec_l1In.f a b c = some (decide (b ≤ a ∧ a ≤ c)) := by
  unfold spec_l1In.f
  by_cases h : a ≥ b
  · rw [if_pos h]; congr 1; simp [h]
  · rw [if_neg h]; congr 1; simp; omega

theorem itoa_nat (u : Nat) : Lib.itoa (u : Int) = Lib.decDigits u := by unfold Lib.itoa; rw [if_neg (by omega), Int.toNat_natCast]
theorem itoa_neg {u : Nat} (h : 0 < u) : Lib.itoa (-(u : Int)) = 45 :: Lib.decDigits u := by unfold Lib.itoa; rw [if_pos (by omega), show (-(u : Int)).natAbs = u from by omega]
theorem dec_small {u : Nat} (h : u < 10) : Lib.decDigits u = [UInt8.ofNat (48 + u)] := by rw [Lib.decDigits, dif_pos h]
theorem dec_big {u : Nat} (h : ¬ u < 10) : Lib.decDigits u = Lib.decDigits (u / 10) ++ [UInt8.ofNat (48 + u % 10)] := by rw [Lib.decDigits, dif_neg h]
theorem dec_ne (u : Nat) : Lib.decDigits u ≠ [] := by
  by_cases h : u < 10
  · rw [dec_small h]; simp
  · rw [dec_big h]; simp
theorem dig_toNat {d : Nat} (h : d < 10) : (UInt8.ofNat (48 + d)).toNat = 48 + d := by simp; omega
theorem dec_digits (u : Nat) : ∀ c ∈ Lib.decDigits u, 48 ≤ c.toNat ∧ c.toNat ≤ 57 := by
  induction u using Nat.strongRecOn with
  | _ u ih =>
    by_cases h : u < 10
    · rw [dec_small h]; intro c hc; rw [List.mem_singleton] at hc; rw [hc, dig_toNat h]; omega
    · rw [dec_big h]
      intro c hc
      rcases List.mem_append.1 hc with hc | hc
      · exact ih (u / 10) (by omega) c hc
      · rw [List.mem_singleton] at hc; rw [hc, dig_toNat (by omega)]; omega
theorem dec_len (j : Nat) : ∀ u : Nat, u < 10 ^ (j + 1) → (Lib.decDigits u).length ≤ j + 1 := by
  induction j with
  | zero => intro u h; rw [dec_small (by simpa using h)]; simp
  | succ j ih =>
    intro u h
    by_cases hu : u < 10
    · rw [dec_small hu]; simp
    · have := ih (u / 10) (by rw [Nat.div_lt_iff_lt_mul (by omega)]; rw [Nat.pow_succ] at h; exact h)
      rw [dec_big hu, List.length_append]
      simp only [List.length_singleton]
      omega
theorem itoa_len (n : Int) (h0 : -9223372036854775808 ≤ n) (h1 : n ≤ 9223372036854775807) : (Lib.itoa n).length ≤ 20 := by
  by_cases h : n < 0
  · have e := itoa_neg (u := n.natAbs) (by omega)
    rw [show (-((n.natAbs : Nat) : Int)) = n from by omega] at e
    rw [e, List.length_cons]
    have := dec_len 18 n.natAbs (by omega)
    omega
  · obtain ⟨u, rfl⟩ := Int.eq_ofNat_of_zero_le (show 0 ≤ n by omega)
    rw [itoa_nat]
    have := dec_len 18 u (by omega)
    omega

def sgn (neg : Bool) (u : Nat) : Int := if neg = true then -(u : Int) else (u : Int)
theorem sgn_tmod (neg : Bool) (u : Nat) : Int.tmod (sgn neg u) 10 = sgn neg (u % 10) := by
  unfold sgn
  cases neg with
  | true => rw [if_pos rfl, if_pos rfl, Int.neg_tmod, tmodp (by omega)]; omega
  | false => rw [if_neg (by simp), if_neg (by simp), tmodp (by omega)]; omega
theorem sgn_tdiv (neg : Bool) (u : Nat) : Int.tdiv (sgn neg u) 10 = sgn neg (u / 10) := by
  unfold sgn
  cases neg with
  | true => rw [if_pos rfl, if_pos rfl, Int.neg_tdiv, tdivp (by omega)]; omega
  | false => rw [if_neg (by simp), if_neg (by simp), tdivp (by omega)]; omega
theorem sgn_range (neg : Bool) (u : Nat) (h : u ≤ 9223372036854775807) : -9223372036854775808 ≤ sgn neg u ∧ sgn neg u ≤ 9223372036854775807 := by unfold sgn; split <;> omega
theorem spec_Dec_l0 (m : Nat) : ∀ (u : Nat) (neg : Bool) (acc : List UInt8), u ≤ m → 0 < u → u ≤ 9223372036854775808 → acc.length + u ≤ 4611686018427387904 + 9223372036854775808 → acc.length ≤ 1000 → acc.length + (Lib.decDigits u).length ≤ 1000 →
    Ev (fun k => spec_Dec.l0 k (sgn neg u) (mkS acc) neg) (mkS ((if neg = true then [45] else []) ++ (Lib.decDigits u ++ acc))) := by
  induction m using Nat.strongRecOn with
  | ind m ih =>
  intro u neg acc hm h0 hu hx ha hl
  have hs0 : ¬ sgn neg u = 0 := by unfold sgn; split <;> omega
  have hd : (UInt8.ofNat (48 + u % 10)) = UInt8.ofNat (48 + u % 10) := rfl
  have hone : ∀ x : Int, x = ((48 + u % 10 : Nat) : Int) → strOfNums [x % 256] = mkS [UInt8.ofNat (48 + u % 10)] := by
    intro x hx
    rw [ints_one (48 + u % 10) x (by omega), strOfNums_ints]
  have step : ∀ k, spec_Dec.l0 (k + 1) (sgn neg u) (mkS acc) neg = spec_Dec.l0 k (sgn neg (u / 10)) (mkS (UInt8.ofNat (48 + u % 10) :: acc)) neg := by
    intro k
    have hr := sgn_range neg (u / 10) (by omega)
    simp only [spec_Dec.l0]
    rw [if_neg hs0, sgn_tmod, sgn_tdiv, w64 (x := sgn neg (u / 10)) hr.1 hr.2]
    by_cases hneg : sgn neg (u % 10) < 0
    · have e : wrap64 (48 + wrap64 (-(sgn neg (u % 10)))) = ((48 + u % 10 : Nat) : Int) := by
        have : neg = true := by cases neg with | true => rfl | false => simp [sgn] at hneg; omega
        subst this
        simp only [sgn, if_true] at hneg ⊢
        rw [w64 (x := -(-((u % 10 : Nat) : Int))) (by omega) (by omega), w64 (by omega) (by omega)]
        omega
      rw [if_pos hneg, Option.bind_some, hone _ e, if_pos (by rw [mkS_size, mkS_size]; simp only [List.length_singleton]; omega), mkS_append]
      rfl
    · have e : wrap64 (48 + sgn neg (u % 10)) = ((48 + u % 10 : Nat) : Int) := by
        have hz : sgn neg (u % 10) = ((u % 10 : Nat) : Int) := by
          unfold sgn at hneg ⊢
          split
          · rename_i hh; rw [if_pos hh] at hneg; omega
          · rfl
        rw [hz, w64 (by omega) (by omega)]
        omega
      rw [if_neg hneg, Option.bind_some, hone _ e, if_pos (by rw [mkS_size, mkS_size]; simp only [List.length_singleton]; omega), mkS_append]
      rfl
  by_cases h10 : u < 10
  · refine evi (2) fun k hk => ?_
    obtain ⟨k, rfl⟩ : ∃ m, k = m + 2 := ⟨k - 2, by omega⟩
    show spec_Dec.l0 (k + 1 + 1) _ _ _ = _
    rw [step, show u / 10 = 0 from by omega, show u % 10 = u from by omega, dec_small h10]
    simp only [spec_Dec.l0]
    rw [if_pos (by unfold sgn; split <;> rfl)]
    cases neg with
    | true =>
      rw [if_pos rfl, if_pos (by rw [mkS_size, List.length_cons]; omega), if_pos rfl]
      rfl
    | false => rw [if_neg (by simp)]; rfl
  · have e := dec_big h10
    have hl' : (Lib.decDigits u).length = (Lib.decDigits (u / 10)).length + 1 := by rw [e, List.length_append]; rfl
    obtain ⟨K, hK⟩ := evx (ih (u / 10) (by omega) (u / 10) neg (UInt8.ofNat (48 + u % 10) :: acc) (Nat.le_refl _) (by omega) (by omega) (by rw [List.length_cons]; omega) (by rw [List.length_cons]; omega) (by rw [List.length_cons]; omega))
    refine evi (K + 1) fun k hk => ?_
    obtain ⟨k, rfl⟩ : ∃ m, k = m + 1 := ⟨k - 1, by omega⟩
    rw [step, hK k (by omega), e, List.append_assoc]
    rfl
theorem spec_Dec_ev (n : Int) (h0 : -9223372036854775808 ≤ n) (h1 : n ≤ 9223372036854775807) : Ev (fun k => spec_Dec.f k n) (mkS (Lib.itoa n)) := by
  by_cases hz : n = 0
  · subst hz
    refine evi (0) fun k hk => ?_
    unfold spec_Dec.f
    rw [if_pos rfl, show (0 : Int) = ((0 : Nat) : Int) from rfl, itoa_nat, dec_small (by omega)]
    rfl
  · have hdl := dec_len 18 n.natAbs (by omega)
    obtain ⟨K, hK⟩ := evx (spec_Dec_l0 n.natAbs n.natAbs (decide (n < 0)) [] (Nat.le_refl _) (by omega) (by omega) (by simp only [List.length_nil]; omega) (by simp) (by simp only [List.length_nil]; omega))
    refine evi (K) fun k hk => ?_
    have hgo := hK k hk
    unfold spec_Dec.f
    rw [if_neg hz]
    have es : sgn (decide (n < 0)) n.natAbs = n := by unfold sgn; by_cases h : n < 0 <;> simp [h] <;> omega
    rw [es, List.append_nil] at hgo
    rw [show (⟨#[]⟩ : ByteArray) = mkS [] from rfl, hgo]
    unfold Lib.itoa
    by_cases h : n < 0
    · rw [if_pos h, if_pos (decide_eq_true h)]; rfl
    · rw [if_neg h, if_neg (by simp [h]), List.nil_append, show n.natAbs = n.toNat from by omega]

def nmB (word : List UInt8) (n : Int) : List UInt8 := if 1 ≤ n ∧ n ≤ 100000 then word ++ Lib.itoa n else []
theorem spec_SegName_ev (n : Int) : Ev (fun k => spec_SegName.f k n) (mkS (nmB [115, 101, 103] n)) := by
  unfold nmB
  by_cases h : 1 ≤ n ∧ n ≤ 100000
  · obtain ⟨K, hK⟩ := evx (spec_Dec_ev n (by omega) (by omega))
    have hl := itoa_len n (by omega) (by omega)
    refine evi (K) fun k hk => ?_
    unfold spec_SegName.f
    rw [spec_l1In_f]
    simp only [Option.bind_some]
    rw [if_pos (decide_eq_true h), hK k hk, if_pos h]
    simp only [Option.bind_some]
    rw [if_pos (by rw [mkS_size]; omega), ← mkS_append]
    rfl
  · refine evi (0) fun k hk => ?_
    unfold spec_SegName.f
    rw [spec_l1In_f]
    simp only [Option.bind_some]
    rw [if_neg (by rw [decide_eq_false h]; simp), if_neg h]
    rfl
theorem spec_HintName_ev (n : Int) : Ev (fun k => spec_HintName.f k n) (mkS (nmB [104, 105, 110, 116] n)) := by
  unfold nmB
  by_cases h : 1 ≤ n ∧ n ≤ 100000
  · obtain ⟨K, hK⟩ := evx (spec_Dec_ev n (by omega) (by omega))
    have hl := itoa_len n (by omega) (by omega)
    refine evi (K) fun k hk => ?_
    unfold spec_HintName.f
    rw [spec_l1In_f]
    simp only [Option.bind_some]
    rw [if_pos (decide_eq_true h), hK k hk, if_pos h]
    simp only [Option.bind_some]
    rw [if_pos (by rw [mkS_size]; omega), ← mkS_append]
    rfl
  · refine evi (0) fun k hk => ?_
    unfold spec_HintName.f
    rw [spec_l1In_f]
    simp only [Option.bind_some]
    rw [if_neg (by rw [decide_eq_false h]; simp), if_neg h]
    rfl

theorem atoi_digits (u : Nat) : ∀ t : List UInt8, u < 1000000000000000000 → Lib.parseUint10 0 (Lib.decDigits u ++ t) = Lib.parseUint10 u t := by
  induction u using Nat.strongRecOn with
  | _ u ih =>
    intro t hu
    by_cases h : u < 10
    · rw [dec_small h, List.singleton_append, Lib.parseUint10, dig_toNat h, if_pos (by omega), if_neg (by omega), if_neg (by omega)]
      congr 1
      omega
    · rw [dec_big h, List.append_assoc, ih (u / 10) (by omega) _ (by omega), List.singleton_append, Lib.parseUint10, dig_toNat (by omega), if_pos (by omega), if_neg (by omega), if_neg (by omega)]
      congr 1
      omega
theorem atoi_mag (u : Nat) (hu : u < 1000000000000000000) : Lib.parseMag (Lib.decDigits u) = .ok u := by
  unfold Lib.parseMag
  rw [if_neg (dec_ne u)]
  have := atoi_digits u [] hu
  rw [List.append_nil] at this
  rw [this]
  rfl
theorem atoi_itoa (v : Int) (h0 : -999999999 ≤ v) (h1 : v ≤ 999999999) : Lib.atoiAll (Lib.itoa v) = .ok v := by
  by_cases hn : v < 0
  · obtain ⟨u, rfl⟩ : ∃ u : Nat, v = -(u : Int) := ⟨v.natAbs, by omega⟩
    rw [itoa_neg (by omega)]
    unfold Lib.atoiAll
    have e : (45 : UInt8).toNat = 45 := rfl
    simp only [e]
    rw [if_pos (Or.inr trivial), atoi_mag u (by omega)]
    simp only
    rw [if_neg (by simp), if_neg (by omega), if_pos trivial]
  · obtain ⟨u, rfl⟩ := Int.eq_ofNat_of_zero_le (show 0 ≤ v by omega)
    rw [itoa_nat]
    have hm := atoi_mag u (by omega)
    have hd := dec_digits u
    cases hl : Lib.decDigits u with
    | nil => exact absurd hl (dec_ne u)
    | cons c r =>
      have hc := hd c (by rw [hl]; simp)
      rw [hl] at hm
      unfold Lib.atoiAll
      simp only
      rw [if_neg (by omega), hm]
      simp only
      rw [if_neg (by omega), if_neg (by omega), if_neg (by omega)]
theorem itoa_len10 (v : Int) (h0 : -999999999 ≤ v) (h1 : v ≤ 999999999) : (Lib.itoa v).length ≤ 10 := by
  by_cases hn : v < 0
  · obtain ⟨u, rfl⟩ : ∃ u : Nat, v = -(u : Int) := ⟨v.natAbs, by omega⟩
    rw [itoa_neg (by omega), List.length_cons]
    have := dec_len 8 u (by omega)
    omega
  · obtain ⟨u, rfl⟩ := Int.eq_ofNat_of_zero_le (show 0 ≤ v by omega)
    rw [itoa_nat]
    have := dec_len 8 u (by omega)
    omega
/-- The digits among bytes, as spec reads them: the number, and how many. -/
def pdF : List UInt8 → Nat → Nat → Nat × Nat
  | [], n, k => (n, k)
  | c :: t, n, k => if 48 ≤ c.toNat ∧ c.toNat ≤ 57 then pdF t (n * 10 + (c.toNat - 48)) (k + 1) else pdF t n k
theorem pdF_lt (l : List UInt8) : ∀ n k, n < 10 ^ k → (pdF l n k).1 < 10 ^ (pdF l n k).2 := by
  induction l with
  | nil => intro n k h; exact h
  | cons c t ih =>
    intro n k h
    rw [pdF]
    split
    · exact ih _ _ (by rw [Nat.pow_succ]; omega)
    · exact ih _ _ h
theorem pdF_digits (u : Nat) : ∀ (t : List UInt8) (k : Nat), pdF (Lib.decDigits u ++ t) 0 k = pdF t u (k + (Lib.decDigits u).length) := by
  induction u using Nat.strongRecOn with
  | _ u ih =>
    intro t k
    by_cases h : u < 10
    · rw [dec_small h, List.singleton_append, pdF, dig_toNat h, if_pos (by omega)]
      congr 1
      omega
    · rw [dec_big h, List.append_assoc, ih (u / 10) (by omega), List.singleton_append, pdF, dig_toNat (by omega), if_pos (by omega), List.length_append, List.length_singleton]
      congr 1
      omega
def signed (l : List UInt8) (n : Nat) : Int := if l.head? = some 45 then -(n : Int) else (n : Int)
def rdEnd (l : List UInt8) (p : Nat × Nat) : Int × Bool := if p.2 > 9 then (0, false) else if l.length > 10 then (0, false) else if Lib.itoa (signed l p.1) = l then (signed l p.1, true) else (0, false)
def readDecO (l : List UInt8) : Int × Bool := rdEnd l (pdF (l.take 11) 0 0)
theorem readDec_cases (l : List UInt8) : (∃ v, Lib.itoa v = l ∧ (-999999999 ≤ v ∧ v ≤ 999999999) ∧ readDecO l = (v, true)) ∨ ((∀ v, -999999999 ≤ v → v ≤ 999999999 → Lib.itoa v ≠ l) ∧ readDecO l = (0, false)) := by
  by_cases h : ∃ v, Lib.itoa v = l ∧ -999999999 ≤ v ∧ v ≤ 999999999
  · obtain ⟨v, rfl, h0, h1⟩ := h
    refine Or.inl ⟨v, rfl, ⟨h0, h1⟩, ?_⟩
    have hl := itoa_len10 v h0 h1
    unfold readDecO
    rw [List.take_of_length_le (by omega)]
    have key : (pdF (Lib.itoa v) 0 0).2 ≤ 9 ∧ signed (Lib.itoa v) (pdF (Lib.itoa v) 0 0).1 = v := by
      by_cases hn : v < 0
      · obtain ⟨u, rfl⟩ : ∃ u : Nat, v = -(u : Int) := ⟨v.natAbs, by omega⟩
        have hd := dec_len 8 u (by omega)
        have e : Lib.itoa (-(u : Int)) = 45 :: Lib.decDigits u := itoa_neg (by omega)
        have e2 : pdF (Lib.decDigits u) 0 0 = (u, (Lib.decDigits u).length) := by
          have := pdF_digits u [] 0
          rw [List.append_nil, Nat.zero_add] at this
          exact this
        have e3 : pdF (Lib.itoa (-(u : Int))) 0 0 = (u, (Lib.decDigits u).length) := by rw [e, pdF, if_neg (by decide), e2]
        rw [e3]
        refine ⟨by simp only; omega, ?_⟩
        unfold signed
        rw [e, if_pos (by rfl)]
      · obtain ⟨u, rfl⟩ := Int.eq_ofNat_of_zero_le (show 0 ≤ v by omega)
        have hd := dec_len 8 u (by omega)
        have e2 : pdF (Lib.decDigits u) 0 0 = (u, (Lib.decDigits u).length) := by
          have := pdF_digits u [] 0
          rw [List.append_nil, Nat.zero_add] at this
          exact this
        rw [itoa_nat, e2]
        refine ⟨by simp only; omega, ?_⟩
        unfold signed
        rw [if_neg]
        intro hh
        have hm : (45 : UInt8) ∈ Lib.decDigits u := List.mem_of_head? hh
        have := dec_digits u 45 hm
        have e45 : (45 : UInt8).toNat = 45 := rfl
        omega
    unfold rdEnd
    rw [if_neg (by omega), if_neg (by omega), key.2, if_pos rfl]
  · refine Or.inr ⟨fun v h0 h1 e => h ⟨v, e, h0, h1⟩, ?_⟩
    unfold readDecO rdEnd
    have hlt := pdF_lt (l.take 11) 0 0 (by omega)
    generalize pdF (l.take 11) 0 0 = p at *
    by_cases h9 : p.2 > 9
    · rw [if_pos h9]
    · rw [if_neg h9]
      by_cases h10 : l.length > 10
      · rw [if_pos h10]
      · rw [if_neg h10, if_neg]
        intro he
        have hp : 10 ^ p.2 ≤ 10 ^ 9 := Nat.pow_le_pow_right (by omega) (by omega)
        refine h ⟨signed l p.1, he, ?_⟩
        unfold signed
        split <;> omega
theorem impl_ReadDec_f (l : List UInt8) (hl : l.length ≤ 1048576) : impl_ReadDec.f (mkS l) = some (readDecO l) := by
  unfold impl_ReadDec.f
  rw [if_pos (by rw [mkS_size]; omega), mkS_toList]
  rcases readDec_cases l with ⟨v, rfl, ⟨h0, h1⟩, he⟩ | ⟨hn, he⟩
  · rw [atoi_itoa v h0 h1, he]
    simp only
    rw [if_pos (by omega), if_pos trivial, if_pos h0, if_pos h1]
  · rw [he]
    cases ha : Lib.atoiAll l with
    | ok v =>
      simp only
      have hr : -9223372036854775808 ≤ v ∧ v ≤ 9223372036854775807 := by
        unfold Lib.atoiAll at ha
        split at ha
        · cases ha
        · rename_i c r
          simp only at ha
          split at ha
          · cases ha
          · cases ha
          · rename_i u hu
            split at ha
            · cases ha
            · split at ha
              · cases ha
              · injection ha with ha
                subst ha
                split <;> omega
      rw [if_pos hr]
      by_cases h1 : Lib.itoa v = l
      · rw [if_pos h1]
        by_cases h2 : -999999999 ≤ v
        · rw [if_pos h2]
          by_cases h3 : v ≤ 999999999
          · exact absurd h1 (hn v h2 h3)
          · rw [if_neg h3]
        · rw [if_neg h2]
      · rw [if_neg h1]
    | «syntax» => rfl
    | range => rfl
theorem spec_ReadDec_j3 (l : List UInt8) (x : Int) (k0 : Nat) (h0 : -999999999999 ≤ x) (h1 : x ≤ 999999999999) : Ev (fun k => spec_ReadDec.j3 k (mkS l) x (k0 : Int)) (if k0 > 9 then (0, false) else if l.length > 10 then (0, false) else if Lib.itoa x = l then (x, true) else (0, false)) := by
  obtain ⟨K1, h1⟩ := evx (spec_Dec_ev x (by omega) (by omega))
  refine evi (K1 + 2) fun k hk => ?_
  obtain ⟨k, rfl⟩ : ∃ m, k = m + 2 := ⟨k - 2, by omega⟩
  simp only [spec_ReadDec.j3, spec_ReadDec.j4]
  rw [h1 (k + 1) (by omega)]
  simp only [Option.bind_some, mkS_toList, mkS_size]
  by_cases h9 : k0 > 9
  · rw [if_pos (by omega), if_pos h9]; simp
  · rw [if_neg (by omega), if_neg h9]
    by_cases h10 : l.length > 10
    · rw [if_pos (by omega), if_pos h10]; simp
    · rw [if_neg (by omega), if_neg h10]
      by_cases he : Lib.itoa x = l
      · rw [if_pos he, if_neg (by simp [he])]
      · rw [if_neg he, if_pos (by simp [he])]
theorem spec_ReadDec_j2 (l : List UInt8) (n k0 : Nat) (hn : n < 10 ^ k0) (hk0 : k0 ≤ 11) (b : Bool) (hb : b = decide (l.head? = some 45)) : Ev (fun k => spec_ReadDec.j2 k (mkS l) (n : Int) (k0 : Int) b) (rdEnd l (n, k0)) := by
  have hp : 10 ^ k0 ≤ 10 ^ 11 := Nat.pow_le_pow_right (by omega) hk0
  obtain ⟨K1, h1⟩ := evx (spec_ReadDec_j3 l (-(n : Int)) k0 (by omega) (by omega))
  obtain ⟨K2, h2⟩ := evx (spec_ReadDec_j3 l (n : Int) k0 (by omega) (by omega))
  refine evi (K1 + K2 + 1) fun k hk => ?_
  obtain ⟨k, rfl⟩ : ∃ m, k = m + 1 := ⟨k - 1, by omega⟩
  simp only [spec_ReadDec.j2]
  rw [w64 (x := -(n : Int)) (by omega) (by omega), h1 k (by omega), h2 k (by omega)]
  unfold rdEnd signed
  subst hb
  by_cases hh : l.head? = some 45
  · rw [decide_eq_true hh, if_pos rfl, if_pos hh]
    repeat' split
    all_goals first | rfl | simp_all
  · rw [decide_eq_false hh, if_neg (by simp), if_neg hh]
    repeat' split
    all_goals first | rfl | simp_all
theorem spec_ReadDec_j1 (l : List UInt8) (n k0 : Nat) (hn : n < 10 ^ k0) (hk0 : k0 ≤ 11) (i : Int) : Ev (fun k => spec_ReadDec.j1 k (mkS l) (n : Int) (k0 : Int) i false) (rdEnd l (n, k0)) := by
  obtain ⟨K, hK⟩ := evx (spec_ReadDec_j2 l n k0 hn hk0 _ rfl)
  refine evi (K + 1) fun k hk => ?_
  obtain ⟨k, rfl⟩ : ∃ m, k = m + 1 := ⟨k - 1, by omega⟩
  have hgo := hK k (by omega)
  simp only [spec_ReadDec.j1]
  rw [if_neg (by simp)]
  cases l with
  | nil =>
    rw [if_neg (by rw [mkS_size]; simp)]
    exact hgo
  | cons c t =>
    rw [if_pos (by rw [mkS_size, List.length_cons]; omega), if_pos (by rw [mkS_size, List.length_cons]; omega)]
    have hbt : bt (mkS (c :: t)) 0 = (c.toNat : Int) := bt_mkS (c :: t) 0 (by simp)
    rw [hbt]
    have e : ((c.toNat : Int) == 45) = decide ((c :: t).head? = some 45) := by
      rw [Bool.eq_iff_iff]
      simp only [beq_iff_eq, decide_eq_true_eq, List.head?_cons, Option.some.injEq]
      constructor
      · intro h; apply UInt8.toNat_inj.1; show c.toNat = 45; omega
      · intro h; rw [h]; rfl
    rw [e]
    exact hgo
theorem spec_ReadDec_l0 (l : List UInt8) (d : Nat) : ∀ (i n k0 : Nat), d + i = min l.length 11 → n < 10 ^ k0 → k0 ≤ i → Ev (fun k => spec_ReadDec.l0 k (mkS l) (n : Int) (k0 : Int) (i : Int)) (rdEnd l (pdF ((l.take 11).drop i) n k0)) := by
  induction d with
  | zero =>
    intro i n k0 hi hn hk
    obtain ⟨K, hK⟩ := evx (spec_ReadDec_j1 l n k0 hn (by omega) (i : Int))
    refine ⟨K + 1, fun k hk' => ?_⟩
    obtain ⟨k, rfl⟩ : ∃ m, k = m + 1 := ⟨k - 1, by omega⟩
    have hgo := hK k (by omega)
    simp only [spec_ReadDec.l0]
    rw [List.drop_of_length_le (by rw [List.length_take]; omega)]
    by_cases h : i < l.length
    · rw [if_pos (by rw [mkS_size]; omega), decide_eq_false (by omega)]
      exact hgo
    · rw [if_neg (by rw [mkS_size]; omega)]
      exact hgo
  | succ d ih =>
    intro i n k0 hi hn hk
    have hlt : i < l.length := by omega
    have hc := (l[i]).toNat_lt
    have hp : 10 ^ k0 ≤ 10 ^ 11 := Nat.pow_le_pow_right (by omega) (by omega)
    have e1 : (l.take 11).drop i = l[i] :: (l.take 11).drop (i + 1) := by rw [List.drop_eq_getElem_cons (by rw [List.length_take]; omega), List.getElem_take]
    rw [e1, pdF]
    by_cases hd : 48 ≤ (l[i]).toNat ∧ (l[i]).toNat ≤ 57
    · obtain ⟨K, hK⟩ := evx (ih (i + 1) (n * 10 + ((l[i]).toNat - 48)) (k0 + 1) (by omega) (by rw [Nat.pow_succ]; omega) (by omega))
      refine ⟨K + 2, fun k hk' => ?_⟩
      obtain ⟨k, rfl⟩ : ∃ m, k = m + 2 := ⟨k - 2, by omega⟩
      have hgo := hK k (by omega)
      simp only [spec_ReadDec.l0]
      rw [if_pos (by rw [mkS_size]; omega), decide_eq_true (by omega)]
      simp only [spec_ReadDec.j1]
      rw [if_pos trivial, if_pos (by omega), if_pos (by rw [mkS_size]; omega), bt_mkS l i hlt, if_pos (by omega), if_pos (by omega), if_pos hd]
      rw [w64 (x := (n : Int) * 10) (by omega) (by omega), w64 (by omega) (by omega), w64 (x := (k0 : Int) + 1) (by omega) (by omega), w64 (x := (i : Int) + 1) (by omega) (by omega)]
      rw [show ((n : Int) * 10 + (((l[i]).toNat : Int) - 48) % 256) = ((n * 10 + ((l[i]).toNat - 48) : Nat) : Int) from by omega, show ((k0 : Int) + 1) = ((k0 + 1 : Nat) : Int) from by omega, show ((i : Int) + 1) = ((i + 1 : Nat) : Int) from by omega]
      exact hgo
    · obtain ⟨K, hK⟩ := evx (ih (i + 1) n k0 (by omega) hn (by omega))
      refine ⟨K + 2, fun k hk' => ?_⟩
      obtain ⟨k, rfl⟩ : ∃ m, k = m + 2 := ⟨k - 2, by omega⟩
      have hgo := hK k (by omega)
      simp only [spec_ReadDec.l0]
      rw [if_pos (by rw [mkS_size]; omega), decide_eq_true (by omega)]
      simp only [spec_ReadDec.j1]
      rw [if_pos trivial, if_pos (by omega), if_pos (by rw [mkS_size]; omega), bt_mkS l i hlt, if_neg hd, w64 (x := (i : Int) + 1) (by omega) (by omega), show ((i : Int) + 1) = ((i + 1 : Nat) : Int) from by omega]
      by_cases h48 : ((l[i]).toNat : Int) ≥ 48
      · rw [if_pos h48, if_neg (by omega)]
        exact hgo
      · rw [if_neg h48]
        exact hgo
theorem spec_ReadDec_ev (l : List UInt8) : Ev (fun k => spec_ReadDec.f k (mkS l)) (readDecO l) := spec_ReadDec_l0 l (min l.length 11) 0 0 0 rfl (by simp) (by omega)

theorem readDec_itoa (v : Int) (h0 : -999999999 ≤ v) (h1 : v ≤ 999999999) : readDecO (Lib.itoa v) = (v, true) := by
  rcases readDec_cases (Lib.itoa v) with ⟨v', he, ⟨a, b⟩, hr⟩ | ⟨hn, _⟩
  · have e1 := atoi_itoa v' a b
    rw [he, atoi_itoa v h0 h1] at e1
    injection e1 with e1
    rw [hr, e1]
  · exact absurd rfl (hn v h0 h1)
theorem itoa_head (v : Int) (c : UInt8) (t : List UInt8) (h : Lib.itoa v = c :: t) : c = 45 ∨ (48 ≤ c.toNat ∧ c.toNat ≤ 57) := by
  by_cases hn : v < 0
  · have e := itoa_neg (u := v.natAbs) (by omega)
    rw [show (-((v.natAbs : Nat) : Int)) = v from by omega, h] at e
    exact Or.inl (List.cons.inj e).1
  · obtain ⟨u, rfl⟩ := Int.eq_ofNat_of_zero_le (show 0 ≤ v by omega)
    rw [itoa_nat] at h
    exact Or.inr (dec_digits u c (by rw [h]; simp))
theorem itoa_ne (v : Int) : Lib.itoa v ≠ [] := by
  by_cases hn : v < 0
  · have e := itoa_neg (u := v.natAbs) (by omega)
    rw [show (-((v.natAbs : Nat) : Int)) = v from by omega] at e
    rw [e]; simp
  · obtain ⟨u, rfl⟩ := Int.eq_ofNat_of_zero_le (show 0 ≤ v by omega)
    rw [itoa_nat]; exact dec_ne u
def segL : List UInt8 := [115, 101, 103]
def hintW : List UInt8 := [104, 105, 110, 116]
abbrev inId (v : Int) : Prop := 1 ≤ v ∧ v ≤ 100000
def idS (l : List UInt8) (k : Nat) : Option Int := if l.length > k ∧ (readDecO (l.drop k)).2 = true ∧ (readDecO (l.drop k)).1 ≥ 1 ∧ (nmB segL (readDecO (l.drop k)).1 = l ∨ nmB hintW (readDecO (l.drop k)).1 = l) then some (readDecO (l.drop k)).1 else none
def idR (l : List UInt8) : Int × Bool := match idS l 3 with | some v => (v, true) | none => match idS l 4 with | some v => (v, true) | none => (0, false)
theorem nmB_eq {word l : List UInt8} {v : Int} (hl : l ≠ []) (h : nmB word v = l) : inId v ∧ l = word ++ Lib.itoa v := by
  unfold nmB at h
  by_cases hv : 1 ≤ v ∧ v ≤ 100000
  · rw [if_pos hv] at h; exact ⟨hv, h.symm⟩
  · rw [if_neg hv] at h; exact absurd h.symm hl
theorem nmB_of (word : List UInt8) {v : Int} (h : inId v) : nmB word v = word ++ Lib.itoa v := by unfold nmB; unfold inId at h; rw [if_pos h]
theorem idS_some {l : List UInt8} {k : Nat} {v : Int} (h : idS l k = some v) : inId v ∧ (l = segL ++ Lib.itoa v ∨ l = hintW ++ Lib.itoa v) := by
  unfold idS at h
  by_cases hc : l.length > k ∧ (readDecO (l.drop k)).2 = true ∧ (readDecO (l.drop k)).1 ≥ 1 ∧ (nmB segL (readDecO (l.drop k)).1 = l ∨ nmB hintW (readDecO (l.drop k)).1 = l)
  · rw [if_pos hc] at h
    injection h with h
    rw [h] at hc
    obtain ⟨h1, _, _, h4⟩ := hc
    have hl : l ≠ [] := by intro e; rw [e] at h1; simp at h1
    rcases h4 with h4 | h4
    · exact ⟨(nmB_eq hl h4).1, Or.inl (nmB_eq hl h4).2⟩
    · exact ⟨(nmB_eq hl h4).1, Or.inr (nmB_eq hl h4).2⟩
  · rw [if_neg hc] at h; cases h
theorem idR_seg {v : Int} (h : inId v) : idR (segL ++ Lib.itoa v) = (v, true) := by
  have hd : (segL ++ Lib.itoa v).drop 3 = Lib.itoa v := rfl
  have hr := readDec_itoa v (by unfold inId at h; omega) (by unfold inId at h; omega)
  have hp : 0 < (Lib.itoa v).length := List.length_pos_iff.2 (itoa_ne v)
  have e : idS (segL ++ Lib.itoa v) 3 = some v := by
    unfold idS
    rw [hd, hr]
    simp only
    rw [if_pos ⟨by rw [List.length_append]; show 3 + _ > 3; omega, trivial, h.1, Or.inl (nmB_of _ h)⟩]
  unfold idR
  rw [e]
theorem idR_hint {v : Int} (h : inId v) : idR (hintW ++ Lib.itoa v) = (v, true) := by
  have hr := readDec_itoa v (by unfold inId at h; omega) (by unfold inId at h; omega)
  have hp : 0 < (Lib.itoa v).length := List.length_pos_iff.2 (itoa_ne v)
  have hd3 : (hintW ++ Lib.itoa v).drop 3 = 116 :: Lib.itoa v := rfl
  have hd4 : (hintW ++ Lib.itoa v).drop 4 = Lib.itoa v := rfl
  have h3 : idS (hintW ++ Lib.itoa v) 3 = none := by
    unfold idS
    rw [hd3]
    rcases readDec_cases (116 :: Lib.itoa v) with ⟨v', he, _, _⟩ | ⟨_, hr'⟩
    · rcases itoa_head v' 116 (Lib.itoa v) he with hc | hc
      · exact absurd hc (by decide)
      · exact absurd hc (by decide)
    · rw [hr', if_neg (fun hh => by simp at hh)]
  have h4 : idS (hintW ++ Lib.itoa v) 4 = some v := by
    unfold idS
    rw [hd4, hr]
    simp only
    rw [if_pos ⟨by rw [List.length_append]; show 4 + _ > 4; omega, trivial, h.1, Or.inr (nmB_of _ h)⟩]
  unfold idR
  rw [h3, h4]
theorem idR_none {l : List UInt8} (h : ∀ v, inId v → l ≠ segL ++ Lib.itoa v ∧ l ≠ hintW ++ Lib.itoa v) : idR l = (0, false) := by
  have g : ∀ k, idS l k = none := by
    intro k
    cases e : idS l k with
    | none => rfl
    | some v =>
      obtain ⟨hv, hl⟩ := idS_some e
      exact absurd hl (fun hh => hh.elim (h v hv).1 (h v hv).2)
  unfold idR
  rw [g 3, g 4]
theorem spec_IdOf_step (l : List UInt8) (hl : l.length ≤ 1048576) (j : Nat) (hj : j ≤ 4) (r : Int × Bool) (hn : Ev (fun k => spec_IdOf.l0 k (mkS l) ((j + 1 : Nat) : Int)) r) : Ev (fun k => spec_IdOf.l0 k (mkS l) (j : Int)) (match idS l j with | some v => (v, true) | none => r) := by
  obtain ⟨K0, h0⟩ := evx (hn)
  obtain ⟨K1, h1⟩ := evx (spec_ReadDec_ev (l.drop j))
  obtain ⟨K2, h2⟩ := evx (spec_SegName_ev (readDecO (l.drop j)).1)
  obtain ⟨K3, h3⟩ := evx (spec_HintName_ev (readDecO (l.drop j)).1)
  refine evi (K0 + K1 + K2 + K3 + 2) fun k hk => ?_
  obtain ⟨k, rfl⟩ : ∃ m, k = m + 2 := ⟨k - 2, by omega⟩
  have g0 := h0 k (by omega)
  have g1 := h0 (k + 1) (by omega)
  have J : ∀ (x : Int) (b : Bool), spec_IdOf.j1 (k + 1) (mkS l) (j : Int) x b = some (if b = true then (x, true) else r) := by
    intro x b
    simp only [spec_IdOf.j1]
    rw [w64 (by omega) (by omega), show ((j : Int) + 1) = ((j + 1 : Nat) : Int) from by omega, g0]
    cases b <;> rfl
  rw [spec_IdOf.l0]
  rw [if_pos (by omega), w64 (by omega) (by omega), show ((j : Int) + 1) = ((j + 1 : Nat) : Int) from by omega, g1]
  unfold idS
  by_cases c1 : l.length > j
  · rw [if_pos (by rw [mkS_size]; omega), if_pos (by omega), if_pos (by rw [mkS_size]; omega), Int.toNat_natCast, mkS_extract, mkS_size, List.take_of_length_le (by rw [List.length_drop]; omega), h1 _ (by omega)]
    simp only [Option.bind_some]
    by_cases c2 : (readDecO (l.drop j)).2 = true
    · rw [if_pos c2]
      by_cases c3 : (readDecO (l.drop j)).1 ≥ 1
      · rw [if_pos c3, h2 _ (by omega), h3 _ (by omega)]
        simp only [Option.bind_some, mkS_toList]
        by_cases c4 : nmB [115, 101, 103] (readDecO (l.drop j)).1 = l
        · rw [if_pos c4, if_pos ⟨c1, c2, c3, Or.inl c4⟩, J]; rfl
        · rw [if_neg c4, J]
          by_cases c5 : nmB [104, 105, 110, 116] (readDecO (l.drop j)).1 = l
          · rw [if_pos (by simp [c5]), if_pos ⟨c1, c2, c3, Or.inr c5⟩]
          · rw [if_neg (by simp [c5]), if_neg (fun hh => hh.2.2.2.elim c4 c5)]
      · rw [if_neg c3, if_neg (fun hh => c3 hh.2.2.1), J]; rfl
    · rw [if_neg c2, if_neg (fun hh => c2 hh.2.1), J]; rfl
  · rw [if_neg (by rw [mkS_size]; omega), if_neg (fun hh => c1 hh.1)]
theorem spec_IdOf_ev (l : List UInt8) (hl : l.length ≤ 1048576) : Ev (fun k => spec_IdOf.f k (mkS l)) (idR l) := by
  have e5 : Ev (fun k => spec_IdOf.l0 k (mkS l) ((5 : Nat) : Int)) (0, false) := by
    refine evi (1) fun k hk => ?_
    obtain ⟨k, rfl⟩ : ∃ m, k = m + 1 := ⟨k - 1, by omega⟩
    simp only [spec_IdOf.l0]
    rw [if_neg (by omega)]
  have e4 := spec_IdOf_step l hl 4 (by omega) _ e5
  exact spec_IdOf_step l hl 3 (by omega) _ e4
def cutP (l p : List UInt8) : List UInt8 × Bool := if p.length ≤ l.length ∧ l.take p.length = p then (l.drop p.length, true) else (l, false)
theorem strings_CutPrefix_f (l p : List UInt8) : strings_CutPrefix.f (mkS l) (mkS p) = some (mkS (cutP l p).1, (cutP l p).2) := by
  unfold strings_CutPrefix.f stringslite_CutPrefix.f stringslite_HasPrefix.f cutP
  by_cases h : p.length ≤ l.length
  · rw [if_pos (by rw [mkS_size, mkS_size]; omega), if_pos (by omega), if_pos (by rw [mkS_size, mkS_size]; omega)]
    rw [mkS_size, mkS_size, Int.toNat_natCast, mkS_extract, List.drop_zero, Nat.sub_zero, mkS_toList, mkS_toList]
    simp only [Option.bind_some]
    by_cases e : l.take p.length = p
    · rw [if_pos (by rw [e]; simp), if_pos (by omega), if_pos (by omega), if_pos ⟨h, e⟩, mkS_extract, List.take_of_length_le (by rw [List.length_drop]; omega)]
      rfl
    · rw [if_neg (by simpa using e), if_neg (fun hh => e hh.2)]
      rfl
  · rw [if_neg (show ¬ ((mkS l).size : Int) ≥ ((mkS p).size : Int) by rw [mkS_size, mkS_size]; omega), if_neg (show ¬ (p.length ≤ l.length ∧ l.take p.length = p) from fun hh => h hh.1)]
    rfl
def idJ (t : List UInt8) (one : Bool) : Int × Bool := if one = true ∧ (readDecO t).2 = true ∧ inId (readDecO t).1 then ((readDecO t).1, true) else (0, false)
theorem impl_IdOf_j0 (t : List UInt8) (ht : t.length ≤ 1048576) (one : Bool) (k : Nat) : impl_IdOf.j0 (k + 2) (mkS t) one = some (idJ t one) := by
  simp only [impl_IdOf.j0, impl_IdOf.j1]
  rw [impl_ReadDec_f t ht]
  simp only [Option.bind_some, impl_in_f]
  unfold idJ inId
  generalize readDecO t = p
  obtain ⟨x, b⟩ := p
  by_cases h3 : 1 ≤ x ∧ x ≤ 100000 <;> cases one <;> cases b <;> simp [h3]
def idI (l : List UInt8) : Int × Bool := if (cutP l segL).2 = true then idJ (cutP l segL).1 true else idJ (cutP l hintW).1 (cutP l hintW).2
theorem cutP_len (l p : List UInt8) : (cutP l p).1.length ≤ l.length := by unfold cutP; split <;> simp
theorem impl_IdOf_f (l : List UInt8) (hl : l.length ≤ 1048576) (k : Nat) : impl_IdOf.f (k + 2) (mkS l) = some (idI l) := by
  have l1 := cutP_len l segL
  have l2 := cutP_len l hintW
  unfold impl_IdOf.f idI
  rw [show (⟨#[115, 101, 103]⟩ : ByteArray) = mkS segL from rfl, show (⟨#[104, 105, 110, 116]⟩ : ByteArray) = mkS hintW from rfl, strings_CutPrefix_f, strings_CutPrefix_f]
  simp only [Option.bind_some]
  by_cases h : (cutP l segL).2 = true
  · rw [if_pos h, if_pos h, h, impl_IdOf_j0 _ (by omega)]
  · rw [if_neg h, if_neg h, impl_IdOf_j0 _ (by omega)]
theorem cutP_true {l p : List UInt8} (h : (cutP l p).2 = true) : l = p ++ (cutP l p).1 := by
  unfold cutP at h ⊢
  by_cases hc : p.length ≤ l.length ∧ l.take p.length = p
  · rw [if_pos hc]
    have := List.take_append_drop p.length l
    rw [hc.2] at this
    exact this.symm
  · rw [if_neg hc] at h; cases h
theorem cutP_app (p t : List UInt8) : cutP (p ++ t) p = (t, true) := by
  unfold cutP
  rw [if_pos ⟨by rw [List.length_append]; omega, List.take_left⟩, List.drop_left]
theorem idJ_itoa {v : Int} (h : inId v) : idJ (Lib.itoa v) true = (v, true) := by
  unfold idJ
  rw [readDec_itoa v (by unfold inId at h; omega) (by unfold inId at h; omega), if_pos ⟨rfl, rfl, h⟩]
theorem idJ_true {t : List UInt8} {one : Bool} (h : idJ t one ≠ (0, false)) : one = true ∧ ∃ v, inId v ∧ t = Lib.itoa v := by
  unfold idJ at h
  by_cases hc : one = true ∧ (readDecO t).2 = true ∧ inId (readDecO t).1
  · refine ⟨hc.1, (readDecO t).1, hc.2.2, ?_⟩
    rcases readDec_cases t with ⟨v, he, _, hr⟩ | ⟨_, hr⟩
    · rw [hr]; exact he.symm
    · rw [hr] at hc; exact absurd hc.2.1 (by simp)
  · rw [if_neg hc] at h; exact absurd rfl h
theorem idI_eq (l : List UInt8) : idI l = idR l := by
  by_cases h : ∃ v, inId v ∧ (l = segL ++ Lib.itoa v ∨ l = hintW ++ Lib.itoa v)
  · obtain ⟨v, hv, rfl | rfl⟩ := h
    · rw [idR_seg hv]
      unfold idI
      rw [cutP_app, if_pos rfl, idJ_itoa hv]
    · rw [idR_hint hv]
      have hs : (cutP (hintW ++ Lib.itoa v) segL).2 = false := by
        unfold cutP
        rw [if_neg]
        intro hh
        have := hh.2
        simp [segL, hintW] at this
      unfold idI
      rw [if_neg (by rw [hs]; simp), cutP_app, idJ_itoa hv]
  · have hn : ∀ v, inId v → l ≠ segL ++ Lib.itoa v ∧ l ≠ hintW ++ Lib.itoa v := fun v hv => ⟨fun e => h ⟨v, hv, Or.inl e⟩, fun e => h ⟨v, hv, Or.inr e⟩⟩
    rw [idR_none hn]
    apply Decidable.byContradiction
    intro hne
    unfold idI at hne
    by_cases hs : (cutP l segL).2 = true
    · rw [if_pos hs] at hne
      obtain ⟨_, v, hv, ht⟩ := idJ_true hne
      have := cutP_true hs
      rw [ht] at this
      exact (hn v hv).1 this
    · rw [if_neg hs] at hne
      obtain ⟨h1, v, hv, ht⟩ := idJ_true hne
      have := cutP_true h1
      rw [ht] at this
      exact (hn v hv).2 this

def nameC (b : UInt8) : Bool := decide (97 ≤ b.toNat ∧ b.toNat ≤ 122 ∨ 48 ≤ b.toNat ∧ b.toNat ≤ 57)
def nameB (l : List UInt8) : Bool := l.all nameC && decide (1 ≤ l.length ∧ l.length ≤ 12)

theorem impl_NameOk_l0 (l : List UInt8) (hl : l.length ≤ 9000000000000000000) (d : Nat) : ∀ (i : Nat), d + i = l.length → Ev (fun k => impl_NameOk.l0 k (mkS l) (i : Int)) ((l.drop i).all nameC && decide (1 ≤ l.length ∧ l.length ≤ 12)) := by
  induction d with
  | zero =>
    intro i hi
    refine evi (1) fun k hk => ?_
    obtain ⟨k, rfl⟩ : ∃ m, k = m + 1 := ⟨k - 1, by omega⟩
    simp only [impl_NameOk.l0]
    rw [if_neg (by rw [mkS_size]; omega), impl_in_f, List.drop_of_length_le (by omega), mkS_size]
    simp only [Option.bind_some, List.all_nil, Bool.true_and]
    congr 1
    apply decide_eq_decide.2
    omega
  | succ d ih =>
    intro i hi
    have hlt : i < l.length := by omega
    obtain ⟨K, hK⟩ := evx (ih (i + 1) (by omega))
    refine evi (K + 2) fun k hk => ?_
    obtain ⟨k, rfl⟩ : ∃ m, k = m + 2 := ⟨k - 2, by omega⟩
    have hgo := hK k (by omega)
    rw [show k + 2 = (k + 1) + 1 from rfl, impl_NameOk.l0]
    simp only [impl_NameOk.j1]
    rw [if_pos (by rw [mkS_size]; omega), if_pos (by omega), bt_mkS l i hlt, w64 (by omega) (by omega), List.drop_eq_getElem_cons hlt, List.all_cons]
    rw [show ((i : Int) + 1) = ((i + 1 : Nat) : Int) from by omega, hgo]
    by_cases h : 97 ≤ l[i].toNat ∧ l[i].toNat ≤ 122 ∨ 48 ≤ l[i].toNat ∧ l[i].toNat ≤ 57
    · have : nameC l[i] = true := by simpa [nameC] using h
      rw [this, Bool.true_and]
      repeat' split
      all_goals first | rfl | (exfalso; omega) | (exfalso; simp_all; omega) | (simp_all; done)
    · have : nameC l[i] = false := by simpa [nameC] using h
      rw [this, Bool.false_and, Bool.false_and]
      repeat' split
      all_goals first | rfl | (exfalso; omega) | (exfalso; simp_all; omega) | (simp_all; done)
theorem impl_NameOk_ev (l : List UInt8) (hl : l.length ≤ 9000000000000000000) : Ev (fun k => impl_NameOk.f k (mkS l)) (nameB l) := by
  have := impl_NameOk_l0 l hl l.length 0 rfl
  exact this

theorem spec_NameOk_l0 (l : List UInt8) (hl : l.length ≤ 9000000000000000000) (d : Nat) : ∀ (i : Nat), d + i = l.length → Ev (fun k => spec_NameOk.l0 k (mkS l) (i : Int)) ((l.drop i).all nameC && decide (1 ≤ l.length ∧ l.length ≤ 12)) := by
  induction d with
  | zero =>
    intro i hi
    refine evi (1) fun k hk => ?_
    obtain ⟨k, rfl⟩ : ∃ m, k = m + 1 := ⟨k - 1, by omega⟩
    simp only [spec_NameOk.l0]
    rw [if_neg (by rw [mkS_size]; omega), spec_l1In_f, List.drop_of_length_le (by omega), mkS_size]
    simp only [Option.bind_some, List.all_nil, Bool.true_and]
    congr 1
    apply decide_eq_decide.2
    omega
  | succ d ih =>
    intro i hi
    have hlt : i < l.length := by omega
    obtain ⟨K, hK⟩ := evx (ih (i + 1) (by omega))
    refine evi (K + 2) fun k hk => ?_
    obtain ⟨k, rfl⟩ : ∃ m, k = m + 2 := ⟨k - 2, by omega⟩
    have hgo := hK k (by omega)
    rw [show k + 2 = (k + 1) + 1 from rfl, spec_NameOk.l0]
    simp only [spec_NameOk.j1]
    rw [if_pos (by rw [mkS_size]; omega), if_pos (by omega), bt_mkS l i hlt, w64 (by omega) (by omega), List.drop_eq_getElem_cons hlt, List.all_cons]
    rw [show ((i : Int) + 1) = ((i + 1 : Nat) : Int) from by omega, hgo]
    by_cases h : 97 ≤ l[i].toNat ∧ l[i].toNat ≤ 122 ∨ 48 ≤ l[i].toNat ∧ l[i].toNat ≤ 57
    · have : nameC l[i] = true := by simpa [nameC] using h
      rw [this, Bool.true_and]
      repeat' split
      all_goals first | rfl | (exfalso; omega) | (exfalso; simp_all; omega) | (simp_all; done)
    · have : nameC l[i] = false := by simpa [nameC] using h
      rw [this, Bool.false_and, Bool.false_and]
      repeat' split
      all_goals first | rfl | (exfalso; omega) | (exfalso; simp_all; omega) | (simp_all; done)
theorem spec_NameOk_ev (l : List UInt8) (hl : l.length ≤ 9000000000000000000) : Ev (fun k => spec_NameOk.f k (mkS l)) (nameB l) := by
  have := spec_NameOk_l0 l hl l.length 0 rfl
  exact this

def bigFile (e : S60) : Prop := e.f0.size ≤ maxLen ∧ e.f1.size ≤ maxLen
def smallFile (e : S60) : Prop := e.f0.size ≤ 1048576 ∧ e.f1.size ≤ 1048576
theorem laws_szFile_f (e : S60) (h : bigFile e) (a : Int) (h0 : 0 ≤ a) (h1 : a ≤ 1048576) : ∃ s, laws_szFile.f e.f0 e.f1 e.f2 a = some s ∧ s ≤ a ∧ (s < 0 ∨ 0 ≤ s ∧ smallFile e) := by
  have hmax : maxLen = 9223372036854775807 := rfl
  unfold bigFile at h
  unfold laws_szFile.f smallFile wrap64
  repeat' split
  all_goals refine ⟨_, rfl, by omega, by omega⟩
theorem laws_szFileS_l0 (l : List S60) (hl : l.length ≤ 4611686018427387904) (hb : ∀ e ∈ l, bigFile e) (d : Nat) : ∀ (i : Nat) (a : Int), d + i = l.length → 0 ≤ a → a ≤ 1048576 →
    ∃ s, Ev (fun k => laws_szFileS.l0 k l a (i : Int)) s ∧ s ≤ a ∧ (s < 0 ∨ 0 ≤ s ∧ ∀ e ∈ l.drop i, smallFile e) := by
  induction d with
  | zero =>
    intro i a hi h0 h1
    refine ⟨a, evi (1) (fun k hk => ?_), by omega, .inr ⟨h0, fun e he => by rw [List.drop_of_length_le (by omega)] at he; cases he⟩⟩
    obtain ⟨k, rfl⟩ : ∃ m, k = m + 1 := ⟨k - 1, by omega⟩
    simp only [laws_szFileS.l0]
    rw [if_neg (by omega)]
  | succ d ih =>
    intro i a hi h0 h1
    have hlt : i < l.length := by omega
    have hrd : rd_T60 l (i : Int) = l[i] := by simp [rd_T60, hlt]
    obtain ⟨s, hs, hsa, hs0⟩ := laws_szFile_f l[i] (hb _ (List.getElem_mem hlt)) a h0 h1
    by_cases hn : s < 0
    · refine ⟨-1, evi (1) (fun k hk => ?_), by omega, .inl (by omega)⟩
      obtain ⟨k, rfl⟩ : ∃ m, k = m + 1 := ⟨k - 1, by omega⟩
      simp only [laws_szFileS.l0]
      rw [if_pos (by omega), if_pos (by omega), hrd, hs]
      simp only [Option.bind_some]
      rw [if_pos hn]
    · obtain ⟨r, hr, hra, hr0⟩ := ih (i + 1) s (by omega) (by omega) (by omega)
      obtain ⟨K, hK⟩ := evx hr
      refine ⟨r, evi (K + 1) (fun k hk => ?_), by omega, ?_⟩
      · obtain ⟨k, rfl⟩ : ∃ m, k = m + 1 := ⟨k - 1, by omega⟩
        simp only [laws_szFileS.l0]
        rw [if_pos (by omega), if_pos (by omega), hrd, hs]
        simp only [Option.bind_some]
        rw [if_neg hn, w64 (by omega) (by omega)]
        exact hK k (by omega)
      · rcases hr0 with hr0 | ⟨hr0, hr1⟩
        · exact .inl hr0
        · refine .inr ⟨hr0, fun e he => ?_⟩
          rw [List.drop_eq_getElem_cons hlt] at he
          rcases List.mem_cons.1 he with rfl | he
          · rcases hs0 with hs0 | ⟨_, hs0⟩
            · exact absurd hs0 hn
            · exact hs0
          · exact hr1 e he
theorem laws_szFileS_ev (l : List S60) (hl : l.length ≤ maxLen) (hb : ∀ e ∈ l, bigFile e) (a : Int) (h0 : 0 ≤ a) (h1 : a ≤ 1048576) :
    ∃ s, Ev (fun k => laws_szFileS.f k l a) s ∧ s ≤ a ∧ (s < 0 ∨ 0 ≤ s ∧ l.length ≤ 1048576 ∧ ∀ e ∈ l, smallFile e) := by
  have hmax : maxLen = 9223372036854775807 := rfl
  by_cases hn : wrap64 (a - (l.length : Int)) < 0
  · refine ⟨-1, evi (0) (fun k hk => ?_), by omega, .inl (by omega)⟩
    unfold laws_szFileS.f
    rw [if_pos hn]
  · have hle : (l.length : Int) ≤ a := by unfold wrap64 at hn; omega
    rw [w64 (by omega) (by omega)] at hn
    obtain ⟨s, hs, hsa, hs0⟩ := laws_szFileS_l0 l (by omega) hb l.length 0 (a - (l.length : Int)) rfl (by omega) (by omega)
    obtain ⟨K, hK⟩ := evx hs
    refine ⟨s, evi (K) (fun k hk => ?_), by omega, ?_⟩
    · unfold laws_szFileS.f
      rw [w64 (x := a - (l.length : Int)) (by omega) (by omega), if_neg hn]
      exact hK k hk
    · rcases hs0 with hs0 | ⟨hs0, hs1⟩
      · exact .inl hs0
      · exact .inr ⟨hs0, by omega, by simpa using hs1⟩

def convFile (e : S60) : S51 := ⟨e.f0, e.f1, e.f2⟩
theorem laws_toFileS_l0 (l : List S60) (hl : l.length ≤ 4611686018427387904) (d : Nat) : ∀ (i : Nat), d + i = l.length → Ev (fun k => laws_toFileS.l0 k l ((l.map convFile).take i ++ List.replicate (l.length - i) z51) (i : Int)) (l.map convFile) := by
  induction d with
  | zero =>
    intro i hi
    refine evi (1) fun k hk => ?_
    obtain ⟨k, rfl⟩ : ∃ m, k = m + 1 := ⟨k - 1, by omega⟩
    simp only [laws_toFileS.l0]
    rw [if_neg (by omega), List.take_of_length_le (by rw [List.length_map]; omega), show l.length - i = 0 from by omega, List.replicate_zero, List.append_nil]
  | succ d ih =>
    intro i hi
    have hlt : i < l.length := by omega
    have hrd : rd_T60 l (i : Int) = l[i] := by simp [rd_T60, hlt]
    obtain ⟨K, hK⟩ := evx (ih (i + 1) (by omega))
    refine evi (K + 1) fun k hk => ?_
    obtain ⟨k, rfl⟩ : ∃ m, k = m + 1 := ⟨k - 1, by omega⟩
    simp only [laws_toFileS.l0, laws_toFile.f, Option.bind_some]
    rw [if_pos (by omega), if_pos (by omega), if_pos (by rw [List.length_append, List.length_take, List.length_replicate, List.length_map]; omega), hrd, Int.toNat_natCast, w64 (by omega) (by omega)]
    have e : (⟨l[i].f0, l[i].f1, l[i].f2⟩ : S51) = convFile l[i] := rfl
    rw [e, fill_step (l.map convFile) z51 i l.length (convFile l[i]) (List.length_map ..) hlt (by rw [List.getElem?_map, List.getElem?_eq_getElem hlt]; rfl)]
    exact hK k (by omega)
theorem laws_toFileS_ev (l : List S60) (hl : l.length ≤ 1048576) : Ev (fun k => laws_toFileS.f k l) (l.map convFile) := by
  obtain ⟨K, hK⟩ := evx (laws_toFileS_l0 l (by omega) l.length 0 rfl)
  refine evi (K) fun k hk => ?_
  unfold laws_toFileS.f
  rw [if_pos (by omega), if_pos (by omega), Int.toNat_natCast]
  have := hK k hk
  rw [List.take_zero, List.nil_append, Nat.sub_zero] at this
  exact this

theorem laws_eqFile_self (e : S51) : laws_eqFile.f e.f0 e.f1 e.f2 e.f0 e.f1 e.f2 = some true := by
  unfold laws_eqFile.f
  simp
theorem laws_eqFileS_l0 (l : List S51) (hl : l.length ≤ 4611686018427387904) (d : Nat) : ∀ (i : Nat), d + i = l.length → Ev (fun k => laws_eqFileS.l0 k l l (i : Int)) true := by
  induction d with
  | zero =>
    intro i hi
    refine evi (1) fun k hk => ?_
    obtain ⟨k, rfl⟩ : ∃ m, k = m + 1 := ⟨k - 1, by omega⟩
    simp only [laws_eqFileS.l0]
    rw [if_neg (by omega)]
  | succ d ih =>
    intro i hi
    obtain ⟨K, hK⟩ := evx (ih (i + 1) (by omega))
    refine evi (K + 1) fun k hk => ?_
    obtain ⟨k, rfl⟩ : ∃ m, k = m + 1 := ⟨k - 1, by omega⟩
    simp only [laws_eqFileS.l0]
    rw [if_pos (by omega), if_pos (by omega), if_pos (by omega), laws_eqFile_self]
    simp only [Option.bind_some]
    rw [if_pos trivial, w64 (by omega) (by omega)]
    exact hK k (by omega)
theorem laws_eqFileS_ev (l : List S51) (hl : l.length ≤ 4611686018427387904) : Ev (fun k => laws_eqFileS.f k l l) true := by
  obtain ⟨K, hK⟩ := evx (laws_eqFileS_l0 l hl l.length 0 rfl)
  refine evi (K) fun k hk => ?_
  unfold laws_eqFileS.f
  rw [if_pos rfl]
  exact hK k hk

theorem laws_eqDisk_ev (l : List S51) (a b : Int) (c : Bool) (hl : l.length ≤ 4611686018427387904) : Ev (fun k => laws_eqDisk.f k l a b c l a b c) true := by
  obtain ⟨K, hK⟩ := evx (laws_eqFileS_ev l hl)
  refine evi (K) fun k hk => ?_
  unfold laws_eqDisk.f
  rw [hK k hk]
  simp

def smallF (e : S51) : Prop := e.f0.size ≤ 1048576 ∧ e.f1.size ≤ 1048576
def useN (l : List S51) (i : Nat) : Nat := ((l.take i).map fun e => e.f1.size).sum
theorem useN_zero (l : List S51) : useN l 0 = 0 := by simp [useN]
theorem useN_succ (l : List S51) (i : Nat) (h : i < l.length) : useN l (i + 1) = useN l i + l[i].f1.size := by
  unfold useN
  rw [List.take_succ_eq_append_getElem h, List.map_append, List.sum_append]
  simp
theorem useN_le (l : List S51) (hs : ∀ e ∈ l, smallF e) (i : Nat) (hi : i ≤ l.length) : useN l i ≤ i * 1048576 := by
  induction i with
  | zero => simp [useN_zero]
  | succ i ih =>
    have := (hs _ (List.getElem_mem (show i < l.length by omega))).2
    rw [useN_succ l i (by omega)]
    have := ih (by omega)
    omega
def diskAt (l : List S51) (i : Nat) : Bool :=
  nameB (l.getD i z51).f0.toList && (decide (0 ≤ (l.getD i z51).f2 ∧ (l.getD i z51).f2 ≤ ((l.getD i z51).f1.size : Int)) && (decide (i = 0) || Go.Op.bytesLess (l.getD (i - 1) z51).f0.toList (l.getD i z51).f0.toList))
def diskFrom (l : List S51) : Nat → Nat → Bool
  | 0, _ => true
  | d + 1, i => diskAt l i && diskFrom l d (i + 1)
def diskOkB (l : List S51) (cap fuel : Int) : Bool := decide (l.length ≤ 130) && (decide (0 ≤ cap ∧ cap ≤ 100000) && (decide (-1 ≤ fuel ∧ fuel ≤ 100000) && (diskFrom l l.length 0 && decide ((useN l l.length : Int) ≤ cap))))

theorem laws_szDisk_ev (l : List S60) (cap fuel : Int) (down : Bool) (hl : l.length ≤ maxLen) (hb : ∀ e ∈ l, bigFile e) (a : Int) (h0 : 0 ≤ a) (h1 : a ≤ 1048576) :
    ∃ s, Ev (fun k => laws_szDisk.f k l cap fuel down a) s ∧ s ≤ a ∧ (s < 0 ∨ 0 ≤ s ∧ l.length ≤ 1048576 ∧ ∀ e ∈ l, smallFile e) := by
  obtain ⟨s, hs, hs1, hs2⟩ := laws_szFileS_ev l hl hb a h0 h1
  obtain ⟨K, hK⟩ := evx hs
  by_cases hn : s < 0
  · refine ⟨-1, evi (K) (fun k hk => ?_), by omega, .inl (by omega)⟩
    unfold laws_szDisk.f
    rw [hK k hk]
    simp only [Option.bind_some]
    rw [if_pos hn]
  · refine ⟨s, evi (K) (fun k hk => ?_), hs1, hs2⟩
    unfold laws_szDisk.f
    rw [hK k hk]
    simp only [Option.bind_some]
    rw [if_neg hn]
theorem laws_toDisk_ev (l : List S60) (cap fuel : Int) (down : Bool) (hl : l.length ≤ 1048576) : Ev (fun k => laws_toDisk.f k l cap fuel down) (l.map convFile, cap, fuel, down) := by
  obtain ⟨K, hK⟩ := evx (laws_toFileS_ev l hl)
  refine evi (K) fun k hk => ?_
  unfold laws_toDisk.f
  rw [hK k hk]
  rfl
theorem small_conv (l : List S60) (h : ∀ e ∈ l, smallFile e) : ∀ e ∈ l.map convFile, smallF e := by
  intro e he
  obtain ⟨x, hx, rfl⟩ := List.mem_map.1 he
  exact h x hx

theorem impl_NameOk_s (s : ByteArray) (h : s.size ≤ 1048576) : Ev (fun k => impl_NameOk.f k s) (nameB s.toList) := by
  obtain ⟨l, rfl⟩ := exS s
  rw [mkS_size] at h
  rw [mkS_toList]
  exact impl_NameOk_ev l (by omega)
theorem impl_DiskOk_l0 (l : List S51) (cap fuel : Int) (down : Bool) (hl : l.length ≤ 1048576) (hs : ∀ e ∈ l, smallF e) (d : Nat) : ∀ (i : Nat), d + i = l.length → Ev (fun k => impl_DiskOk.l0 k (useN l i : Int) l (l.length : Int) (i : Int) l cap fuel down) (diskFrom l d i && decide ((useN l l.length : Int) ≤ cap)) := by
  induction d with
  | zero =>
    intro i hi
    refine evi (1) fun k hk => ?_
    obtain ⟨k, rfl⟩ : ∃ m, k = m + 1 := ⟨k - 1, by omega⟩
    simp only [impl_DiskOk.l0]
    rw [if_neg (by omega), diskFrom, Bool.true_and, show i = l.length from by omega]
  | succ d ih =>
    intro i hi
    have hlt : i < l.length := by omega
    have hsi := hs _ (List.getElem_mem hlt)
    have hu := useN_le l hs (i + 1) (by omega)
    have hu1 := useN_succ l i hlt
    have h0 : l.getD i z51 = l[i] := by simp [hlt]
    have h1 : rd_T51 l (i : Int) = l[i] := by simp [rd_T51, hlt]
    obtain ⟨K1, hK1⟩ := evx (impl_NameOk_s l[i].f0 hsi.1)
    obtain ⟨K, hK⟩ := evx (ih (i + 1) (by omega))
    refine evi (K + K1 + 2) fun k hk => ?_
    obtain ⟨k, rfl⟩ : ∃ m, k = m + 2 := ⟨k - 2, by omega⟩
    have hgo := hK k (by omega)
    have hk1 := hK1 (k + 1) (by omega)
    have h2 : i ≠ 0 → rd_T51 l (wrap64 ((i : Int) - 1)) = l.getD (i - 1) z51 := fun hi0 => by
      rw [w64 (by omega) (by omega), show ((i : Int) - 1) = ((i - 1 : Nat) : Int) from by omega]
      simp [rd_T51]
    have e1 : i ≠ 0 → 0 ≤ wrap64 ((i : Int) - 1) := fun hi0 => by rw [w64 (by omega) (by omega)]; omega
    have e2 : i ≠ 0 → wrap64 ((i : Int) - 1) < (l.length : Int) := fun hi0 => by rw [w64 (by omega) (by omega)]; omega
    rw [show k + 2 = (k + 1) + 1 from rfl, impl_DiskOk.l0]
    simp only [impl_DiskOk.j2]
    rw [if_pos (by omega), if_pos (by omega), if_pos (by omega), h1, hk1]
    simp only [impl_in_f, Option.bind_some]
    rw [w64 (x := (i : Int) + 1) (by omega) (by omega), w64 (x := (useN l i : Int) + (l[i].f1.size : Int)) (by omega) (by omega), show ((i : Int) + 1) = ((i + 1 : Nat) : Int) from by omega, show ((useN l i : Int) + (l[i].f1.size : Int)) = (useN l (i + 1) : Int) from by omega, hgo, diskFrom]
    unfold diskAt
    rw [h0]
    generalize l[i] = e
    generalize l.getD (i - 1) z51 = p at h2
    cases nameB e.f0.toList with
    | false => simp
    | true =>
      by_cases c1 : 0 ≤ e.f2 ∧ e.f2 ≤ (e.f1.size : Int)
      · by_cases c5 : i = 0
        · subst c5
          simp [c1]
        · have c6 : (i : Int) > 0 := by omega
          rw [h2 c5, if_pos (e1 c5), if_pos (e2 c5)]
          cases Go.Op.bytesLess p.f0.toList e.f0.toList <;> simp [c1, c5, c6]
      · simp [c1]
theorem impl_DiskOk_ev (l : List S51) (cap fuel : Int) (down : Bool) (hl : l.length ≤ 1048576) (hs : ∀ e ∈ l, smallF e) : Ev (fun k => impl_DiskOk.f k l cap fuel down) (diskOkB l cap fuel) := by
  obtain ⟨K, hK⟩ := evx (impl_DiskOk_l0 l cap fuel down hl hs l.length 0 rfl)
  rw [useN_zero] at hK
  refine evi (K + 1) fun k hk => ?_
  obtain ⟨k, rfl⟩ : ∃ m, k = m + 1 := ⟨k - 1, by omega⟩
  have hgo := hK k (by omega)
  unfold impl_DiskOk.f diskOkB
  simp only [impl_in_f, Option.bind_some, impl_DiskOk.j0]
  by_cases c1 : l.length ≤ 130
  · rw [if_neg (by omega), decide_eq_true c1]
    by_cases c2 : 0 ≤ cap ∧ cap ≤ 100000
    · by_cases c3 : -1 ≤ fuel ∧ fuel ≤ 100000
      · rw [if_pos (by simpa using c2), if_neg (by simpa using c3), decide_eq_true c2, decide_eq_true c3, Bool.true_and, Bool.true_and, Bool.true_and]
        exact hgo
      · rw [if_pos (by simpa using c2), decide_eq_false c3, if_pos (by decide)]
        simp
    · rw [if_neg (by simpa using c2), decide_eq_false c2]
      simp
  · rw [if_pos (by omega), decide_eq_false c1]
    simp

theorem spec_NameOk_s (s : ByteArray) (h : s.size ≤ 1048576) : Ev (fun k => spec_NameOk.f k s) (nameB s.toList) := by
  obtain ⟨l, rfl⟩ := exS s
  rw [mkS_size] at h
  rw [mkS_toList]
  exact spec_NameOk_ev l (by omega)
theorem spec_l3Used_l0 (l : List S51) (cap fuel : Int) (down : Bool) (hl : l.length ≤ 1048576) (hs : ∀ e ∈ l, smallF e) (d : Nat) : ∀ (i : Nat), d + i = l.length → Ev (fun k => spec_l3Used.l0 k (useN l i : Int) (i : Int) l cap fuel down) (useN l l.length : Int) := by
  induction d with
  | zero =>
    intro i hi
    refine evi (1) fun k hk => ?_
    obtain ⟨k, rfl⟩ : ∃ m, k = m + 1 := ⟨k - 1, by omega⟩
    simp only [spec_l3Used.l0]
    rw [if_neg (by omega), show i = l.length from by omega]
  | succ d ih =>
    intro i hi
    have hlt : i < l.length := by omega
    have hsi := hs _ (List.getElem_mem hlt)
    have hu := useN_le l hs (i + 1) (by omega)
    have hu1 := useN_succ l i hlt
    have h1 : rd_T51 l (i : Int) = l[i] := by simp [rd_T51, hlt]
    obtain ⟨K, hK⟩ := evx (ih (i + 1) (by omega))
    refine evi (K + 1) fun k hk => ?_
    obtain ⟨k, rfl⟩ : ∃ m, k = m + 1 := ⟨k - 1, by omega⟩
    have hgo := hK k (by omega)
    simp only [spec_l3Used.l0]
    rw [if_pos (by omega), if_pos (by omega), h1, w64 (x := (i : Int) + 1) (by omega) (by omega), w64 (x := (useN l i : Int) + (l[i].f1.size : Int)) (by omega) (by omega), show ((i : Int) + 1) = ((i + 1 : Nat) : Int) from by omega, show ((useN l i : Int) + (l[i].f1.size : Int)) = (useN l (i + 1) : Int) from by omega]
    exact hgo
theorem spec_l3Used_ev (l : List S51) (cap fuel : Int) (down : Bool) (hl : l.length ≤ 1048576) (hs : ∀ e ∈ l, smallF e) : Ev (fun k => spec_l3Used.f k l cap fuel down) (useN l l.length : Int) := by
  have := spec_l3Used_l0 l cap fuel down hl hs l.length 0 rfl
  rw [useN_zero] at this
  exact this
theorem spec_DiskOk_l0 (l : List S51) (cap fuel : Int) (down : Bool) (hl : l.length ≤ 1048576) (hs : ∀ e ∈ l, smallF e) (d : Nat) : ∀ (i : Nat), d + i = l.length → Ev (fun k => spec_DiskOk.l0 k (i : Int) l cap fuel down) (diskFrom l d i) := by
  induction d with
  | zero =>
    intro i hi
    refine evi (1) fun k hk => ?_
    obtain ⟨k, rfl⟩ : ∃ m, k = m + 1 := ⟨k - 1, by omega⟩
    simp only [spec_DiskOk.l0]
    rw [if_neg (by omega), diskFrom]
  | succ d ih =>
    intro i hi
    have hlt : i < l.length := by omega
    have hsi := hs _ (List.getElem_mem hlt)
    have h0 : l.getD i z51 = l[i] := by simp [hlt]
    have h1 : rd_T51 l (i : Int) = l[i] := by simp [rd_T51, hlt]
    obtain ⟨K1, hK1⟩ := evx (spec_NameOk_s l[i].f0 hsi.1)
    obtain ⟨K, hK⟩ := evx (ih (i + 1) (by omega))
    refine evi (K + K1 + 2) fun k hk => ?_
    obtain ⟨k, rfl⟩ : ∃ m, k = m + 2 := ⟨k - 2, by omega⟩
    have hgo := hK k (by omega)
    have hk1 := hK1 (k + 1) (by omega)
    have h2 : i ≠ 0 → rd_T51 l (wrap64 ((i : Int) - 1)) = l.getD (i - 1) z51 := fun hi0 => by
      rw [w64 (by omega) (by omega), show ((i : Int) - 1) = ((i - 1 : Nat) : Int) from by omega]
      simp [rd_T51]
    have e1 : i ≠ 0 → 0 ≤ wrap64 ((i : Int) - 1) := fun hi0 => by rw [w64 (by omega) (by omega)]; omega
    have e2 : i ≠ 0 → wrap64 ((i : Int) - 1) < (l.length : Int) := fun hi0 => by rw [w64 (by omega) (by omega)]; omega
    rw [show k + 2 = (k + 1) + 1 from rfl, spec_DiskOk.l0]
    simp only [spec_DiskOk.j2]
    rw [if_pos (by omega), if_pos (by omega), h1, hk1]
    simp only [spec_l1In_f, Option.bind_some]
    rw [w64 (x := (i : Int) + 1) (by omega) (by omega), show ((i : Int) + 1) = ((i + 1 : Nat) : Int) from by omega, hgo, diskFrom]
    unfold diskAt
    rw [h0]
    generalize l[i] = e
    generalize l.getD (i - 1) z51 = p at h2
    cases nameB e.f0.toList with
    | false => simp
    | true =>
      by_cases c1 : 0 ≤ e.f2 ∧ e.f2 ≤ (e.f1.size : Int)
      · by_cases c5 : i = 0
        · subst c5
          simp [c1]
        · have c6 : (i : Int) > 0 := by omega
          rw [h2 c5, if_pos (e1 c5), if_pos (e2 c5)]
          cases Go.Op.bytesLess p.f0.toList e.f0.toList <;> simp [c1, c5, c6]
      · simp [c1]
theorem spec_DiskOk_ev (l : List S51) (cap fuel : Int) (down : Bool) (hl : l.length ≤ 1048576) (hs : ∀ e ∈ l, smallF e) : Ev (fun k => spec_DiskOk.f k l cap fuel down) (diskOkB l cap fuel) := by
  obtain ⟨K, hK⟩ := evx (spec_DiskOk_l0 l cap fuel down hl hs l.length 0 rfl)
  obtain ⟨K2, hK2⟩ := evx (spec_l3Used_ev l cap fuel down hl hs)
  refine evi (K + K2 + 1) fun k hk => ?_
  obtain ⟨k, rfl⟩ : ∃ m, k = m + 1 := ⟨k - 1, by omega⟩
  have hgo := hK k (by omega)
  have hgo2 := hK2 (k + 1) (by omega)
  unfold spec_DiskOk.f diskOkB
  simp only [spec_l1In_f, Option.bind_some, spec_DiskOk.j0, hgo2]
  by_cases c1 : l.length ≤ 130
  · rw [if_neg (by omega), decide_eq_true c1]
    by_cases c2 : 0 ≤ cap ∧ cap ≤ 100000
    · by_cases c3 : -1 ≤ fuel ∧ fuel ≤ 100000
      · rw [if_pos (by simpa using c2), if_pos (by simpa using c3), decide_eq_true c2, decide_eq_true c3, Bool.true_and, Bool.true_and, Bool.true_and]
        by_cases c4 : (useN l l.length : Int) > cap
        · rw [if_pos (by simpa using c4), decide_eq_false (by omega), Bool.and_false]
        · rw [if_neg (by simpa using c4), decide_eq_true (by omega), Bool.and_true]
          exact hgo
      · rw [if_pos (by simpa using c2), if_neg (by simpa using c3), decide_eq_false c3]
        simp
    · rw [if_neg (by simpa using c2), decide_eq_false c2]
      simp
  · rw [if_pos (by omega), decide_eq_false c1]
    simp

theorem laws_markText_l0 (m : Nat) : ∀ (n : Nat) (s : ByteArray), n ≤ m → s.size + n ≤ 4611686018427387904 → ∃ r, Ev (fun k => laws_markText.l0 k (n : Int) s) r := by
  induction m using Nat.strongRecOn with
  | ind m ih =>
  intro n s hn hs
  by_cases h0 : n = 0
  · subst h0
    refine ⟨(⟨#[109]⟩ : ByteArray) ++ s, evi 1 (fun k hk => ?_)⟩
    obtain ⟨k, rfl⟩ : ∃ m, k = m + 1 := ⟨k - 1, by omega⟩
    simp only [laws_markText.l0]
    rw [if_neg (by omega), if_pos (by omega)]
  · obtain ⟨r, hr⟩ := ih (n / 10) (by omega) (n / 10) (strOfNums [(wrap64 (48 + (Int.tmod (n : Int) 10))) % 256] ++ s) (Nat.le_refl _) (by rw [ByteArray.size_append, strOfNums_size]; simp only [List.length_singleton]; omega)
    obtain ⟨K, hK⟩ := evx hr
    refine ⟨r, evi (K + 1) (fun k hk => ?_)⟩
    obtain ⟨k, rfl⟩ : ∃ m, k = m + 1 := ⟨k - 1, by omega⟩
    simp only [laws_markText.l0, Option.bind_some]
    rw [if_pos (by omega), if_pos (by rw [strOfNums_size]; simp only [List.length_singleton]; omega), tdivp (by omega), w64 (x := (n : Int) / 10) (by omega) (by omega), show ((n : Int) / 10) = ((n / 10 : Nat) : Int) from by omega]
    exact hK k (by omega)
theorem laws_markText_ex (a : Int) : ∃ r, a ≤ 4611686018427387904 → Ev (fun k => laws_markText.f k a) r := by
  by_cases h : a ≤ 0
  · exact ⟨_, fun _ => evi 0 (fun k _ => by unfold laws_markText.f; rw [if_pos h])⟩
  · by_cases h2 : a ≤ 4611686018427387904
    · obtain ⟨n, rfl⟩ := Int.eq_ofNat_of_zero_le (show 0 ≤ a by omega)
      obtain ⟨r, hr⟩ := laws_markText_l0 n n (⟨#[]⟩ : ByteArray) (Nat.le_refl _) (by show 0 + n ≤ _; omega)
      obtain ⟨K, hK⟩ := evx hr
      exact ⟨r, fun _ => evi K (fun k hk => by unfold laws_markText.f; rw [if_neg h]; exact hK k hk)⟩
    · exact ⟨(⟨#[]⟩ : ByteArray), fun hh => absurd hh h2⟩
noncomputable def markS (a : Int) : ByteArray := Classical.choose (laws_markText_ex a)
theorem markS_ev (a : Int) (h : a ≤ 4611686018427387904) : Ev (fun k => laws_markText.f k a) (markS a) := Classical.choose_spec (laws_markText_ex a) h
noncomputable def stepFile (a : Int) : S51 := ⟨markS (a), markS (a + 1), a + 1 + 1⟩
noncomputable def marksFile (n : Nat) (a : Int) : List S51 := (List.range n).map fun (j : Nat) => stepFile (a + 3 * (j : Int))
theorem marksFile_length (n : Nat) (a : Int) : (marksFile n a).length = n := by simp [marksFile]
theorem rd_T51_set (x : List S51) (i : Nat) (v : S51) (h : i < x.length) : rd_T51 (x.set i v) (i : Int) = v := by simp [rd_T51, h]
theorem laws_markFileS_l0 (n : Nat) (hn : n ≤ 2097152) (a0 : Int) (ha0 : 0 ≤ a0) (ha1 : a0 ≤ 1099511627776) (d : Nat) : ∀ (i : Nat) (x : List S51) (a : Int), d + i = n → x.length = n → a = a0 + 3 * (i : Int) → (∀ j, j < i → x[j]? = some (stepFile (a0 + 3 * (j : Int)))) →
    Ev (fun k => laws_markFileS.l0 k x a (i : Int)) (a0 + 3 * (n : Int), marksFile n a0) := by
  induction d with
  | zero =>
    intro i x a hi hx ha hj
    refine evi (1) fun k hk => ?_
    obtain ⟨k, rfl⟩ : ∃ m, k = m + 1 := ⟨k - 1, by omega⟩
    simp only [laws_markFileS.l0]
    rw [if_neg (by omega)]
    have e : x = marksFile n a0 := by
      apply List.ext_getElem?
      intro j
      by_cases hjn : j < n
      · rw [hj j (by omega)]
        simp [marksFile, hjn]
      · rw [List.getElem?_eq_none (by omega), List.getElem?_eq_none (by rw [marksFile_length]; omega)]
    rw [e, ha, show i = n from by omega]
  | succ d ih =>
    intro i x a hi hx ha hj
    have hlt : i < x.length := by omega
    obtain ⟨M0, hM0⟩ := evx (markS_ev (a) (by omega))
    obtain ⟨M1, hM1⟩ := evx (markS_ev (a + 1) (by omega))
    obtain ⟨K, hK⟩ := evx (ih (i + 1) (x.set i (stepFile a)) (a + 1 + 1 + 1) (by omega) (by rw [List.length_set]; exact hx) (by omega) (by
      intro j hji
      by_cases hij : j = i
      · rw [hij, List.getElem?_set_self hlt, ha]
      · rw [List.getElem?_set_ne (by omega)]
        exact hj j (by omega)))
    refine evi (K + M0 + M1 + 1) fun k hk => ?_
    obtain ⟨k, rfl⟩ : ∃ m, k = m + 1 := ⟨k - 1, by omega⟩
    simp only [laws_markFileS.l0]
    have e0 : (0 : Int) ≤ (i : Int) := by omega
    have e1 : (i : Int) < (x.length : Int) := by omega
    have hset : ∀ v : S51, rd_T51 (x.set i v) (i : Int) = v := fun v => rd_T51_set x i v hlt
    have hK' := hK k (by omega)
    have m0 := hM0 k (by omega)
    have m1 := hM1 k (by omega)
    have b0 : -9223372036854775808 ≤ (i : Int) + 1 ∧ (i : Int) + 1 ≤ 9223372036854775807 := by omega
    have b1 : -9223372036854775808 ≤ a + 1 ∧ a + 1 ≤ 9223372036854775807 := by omega
    have b2 : -9223372036854775808 ≤ a + 1 + 1 ∧ a + 1 + 1 ≤ 9223372036854775807 := by omega
    have b3 : -9223372036854775808 ≤ a + 1 + 1 + 1 ∧ a + 1 + 1 + 1 ≤ 9223372036854775807 := by omega
    have c0 : (i : Int) + 1 = ((i + 1 : Nat) : Int) := by omega
    have e2 : wrap64 ((i : Int) + 1) = ((i + 1 : Nat) : Int) := by rw [w64 b0.1 b0.2, c0]
    have w1 : wrap64 (a + 1) = a + 1 := w64 b1.1 b1.2
    have w2 : wrap64 (a + 1 + 1) = a + 1 + 1 := w64 b2.1 b2.2
    have w3 : wrap64 (a + 1 + 1 + 1) = a + 1 + 1 + 1 := w64 b3.1 b3.2
    simp only [w1, w2, w3, m0, m1, if_pos e0, if_pos e1, e2, Option.bind_some, Int.toNat_natCast, hset, List.set_set]
    exact hK'
theorem laws_markFileS_ev (l : List S51) (hn : l.length ≤ 2097152) (a : Int) (ha0 : 0 ≤ a) (ha1 : a ≤ 1099511627776) : Ev (fun k => laws_markFileS.f k l a) (a + 3 * (l.length : Int), marksFile l.length a) := by
  have := laws_markFileS_l0 l.length hn a ha0 ha1 l.length 0 l a rfl rfl (by omega) (fun j hj => by omega)
  exact this

theorem laws_markDisk_ev (l : List S51) (a b : Int) (c : Bool) (hl : l.length ≤ 2097152) (x : Int) (h0 : 0 ≤ x) (h1 : x ≤ 1099511627776) : Ev (fun k => laws_markDisk.f k l a b c x) (x + 3 * (l.length : Int), marksFile l.length x) := by
  obtain ⟨K, hK⟩ := evx (laws_markFileS_ev l hl x h0 h1)
  refine evi (K) fun k hk => ?_
  unfold laws_markDisk.f
  rw [hK k hk]
  rfl
def marksInt (n : Nat) (a : Int) : List Int := (List.range n).map fun (j : Nat) => a + (j : Int)
theorem marksInt_length (n : Nat) (a : Int) : (marksInt n a).length = n := by simp [marksInt]
theorem laws_markIntS_l0 (n : Nat) (hn : n ≤ 4194304) (a0 : Int) (ha0 : 0 ≤ a0) (ha1 : a0 ≤ 1099511627776) (d : Nat) : ∀ (i : Nat) (x : List Int) (a : Int), d + i = n → x.length = n → a = a0 + (i : Int) → (∀ j, j < i → x[j]? = some (a0 + (j : Int))) →
    Ev (fun k => laws_markIntS.l0 k x a (i : Int)) (a0 + (n : Int), marksInt n a0) := by
  induction d with
  | zero =>
    intro i x a hi hx ha hj
    refine evi (1) fun k hk => ?_
    obtain ⟨k, rfl⟩ : ∃ m, k = m + 1 := ⟨k - 1, by omega⟩
    simp only [laws_markIntS.l0]
    rw [if_neg (by omega)]
    have e : x = marksInt n a0 := by
      apply List.ext_getElem?
      intro j
      by_cases hjn : j < n
      · rw [hj j (by omega)]
        simp [marksInt, hjn]
      · rw [List.getElem?_eq_none (by omega), List.getElem?_eq_none (by rw [marksInt_length]; omega)]
    rw [e, ha, show i = n from by omega]
  | succ d ih =>
    intro i x a hi hx ha hj
    have hlt : i < x.length := by omega
    obtain ⟨K, hK⟩ := evx (ih (i + 1) (x.set i a) (a + 1) (by omega) (by rw [List.length_set]; exact hx) (by omega) (by
      intro j hji
      by_cases hij : j = i
      · rw [hij, List.getElem?_set_self hlt, ha]
      · rw [List.getElem?_set_ne (by omega)]
        exact hj j (by omega)))
    refine evi (K + 1) fun k hk => ?_
    obtain ⟨k, rfl⟩ : ∃ m, k = m + 1 := ⟨k - 1, by omega⟩
    simp only [laws_markIntS.l0]
    rw [if_pos (by omega), if_pos (by omega), Int.toNat_natCast, w64 (x := a + 1) (by omega) (by omega), w64 (x := (i : Int) + 1) (by omega) (by omega)]
    exact hK k (by omega)
theorem laws_markIntS_ev (l : List Int) (hn : l.length ≤ 4194304) (a : Int) (ha0 : 0 ≤ a) (ha1 : a ≤ 1099511627776) : Ev (fun k => laws_markIntS.f k l a) (a + (l.length : Int), marksInt l.length a) :=
  laws_markIntS_l0 l.length hn a ha0 ha1 l.length 0 l a rfl rfl (by omega) (fun j hj => by omega)
theorem laws_eqStringS_l0 (l : List ByteArray) (hl : l.length ≤ 4611686018427387904) (d : Nat) : ∀ (i : Nat), d + i = l.length → Ev (fun k => laws_eqStringS.l0 k l l (i : Int)) true := by
  induction d with
  | zero =>
    intro i hi
    refine evi (1) fun k hk => ?_
    obtain ⟨k, rfl⟩ : ∃ m, k = m + 1 := ⟨k - 1, by omega⟩
    simp only [laws_eqStringS.l0]
    rw [if_neg (by omega)]
  | succ d ih =>
    intro i hi
    obtain ⟨K, hK⟩ := evx (ih (i + 1) (by omega))
    refine evi (K + 1) fun k hk => ?_
    obtain ⟨k, rfl⟩ : ∃ m, k = m + 1 := ⟨k - 1, by omega⟩
    simp only [laws_eqStringS.l0]
    rw [if_pos (by omega), if_pos (by omega), if_pos (by omega), if_pos trivial, w64 (by omega) (by omega)]
    exact hK k (by omega)
theorem laws_eqStringS_ev (l : List ByteArray) (hl : l.length ≤ 4611686018427387904) : Ev (fun k => laws_eqStringS.f k l l) true := by
  obtain ⟨K, hK⟩ := evx (laws_eqStringS_l0 l hl l.length 0 rfl)
  refine evi (K) fun k hk => ?_
  unfold laws_eqStringS.f
  rw [if_pos rfl]
  exact hK k hk
noncomputable def marksString (n : Nat) (a : Int) : List ByteArray := (List.range n).map fun (j : Nat) => markS (a + (j : Int))
theorem marksString_length (n : Nat) (a : Int) : (marksString n a).length = n := by simp [marksString]
theorem laws_markStringS_l0 (n : Nat) (hn : n ≤ 2097152) (a0 : Int) (ha0 : 0 ≤ a0) (ha1 : a0 ≤ 1099511627776) (d : Nat) : ∀ (i : Nat) (x : List ByteArray) (a : Int), d + i = n → x.length = n → a = a0 + (i : Int) → (∀ j, j < i → x[j]? = some (markS (a0 + (j : Int)))) →
    Ev (fun k => laws_markStringS.l0 k x a (i : Int)) (a0 + (n : Int), marksString n a0) := by
  induction d with
  | zero =>
    intro i x a hi hx ha hj
    refine evi (1) fun k hk => ?_
    obtain ⟨k, rfl⟩ : ∃ m, k = m + 1 := ⟨k - 1, by omega⟩
    simp only [laws_markStringS.l0]
    rw [if_neg (by omega)]
    have e : x = marksString n a0 := by
      apply List.ext_getElem?
      intro j
      by_cases hjn : j < n
      · rw [hj j (by omega)]
        simp [marksString, hjn]
      · rw [List.getElem?_eq_none (by omega), List.getElem?_eq_none (by rw [marksString_length]; omega)]
    rw [e, ha, show i = n from by omega]
  | succ d ih =>
    intro i x a hi hx ha hj
    have hlt : i < x.length := by omega
    obtain ⟨M0, hM0⟩ := evx (markS_ev a (by omega))
    obtain ⟨K, hK⟩ := evx (ih (i + 1) (x.set i (markS a)) (a + 1) (by omega) (by rw [List.length_set]; exact hx) (by omega) (by
      intro j hji
      by_cases hij : j = i
      · rw [hij, List.getElem?_set_self hlt, ha]
      · rw [List.getElem?_set_ne (by omega)]
        exact hj j (by omega)))
    refine evi (K + M0 + 1) fun k hk => ?_
    obtain ⟨k, rfl⟩ : ∃ m, k = m + 1 := ⟨k - 1, by omega⟩
    simp only [laws_markStringS.l0]
    rw [if_pos (by omega), hM0 k (by omega)]
    simp only [Option.bind_some]
    rw [if_pos (by omega), Int.toNat_natCast, w64 (x := a + 1) (by omega) (by omega), w64 (x := (i : Int) + 1) (by omega) (by omega)]
    exact hK k (by omega)
theorem laws_markStringS_ev (l : List ByteArray) (hn : l.length ≤ 2097152) (a : Int) (ha0 : 0 ≤ a) (ha1 : a ≤ 1099511627776) : Ev (fun k => laws_markStringS.f k l a) (a + (l.length : Int), marksString l.length a) := by
  have := laws_markStringS_l0 l.length hn a ha0 ha1 l.length 0 l a rfl rfl (by omega) (fun j hj => by omega)
  exact this
theorem laws_heldStringS_l0 (n : Nat) (hn : n ≤ 2097152) (a0 : Int) (ha0 : 0 ≤ a0) (ha1 : a0 ≤ 1099511627776) (d : Nat) : ∀ (i : Nat) (a : Int), d + i = n → a = a0 + (i : Int) → Ev (fun k => laws_heldStringS.l0 k (marksString n a0) a (i : Int)) (a0 + (n : Int)) := by
  induction d with
  | zero =>
    intro i a hi ha
    refine evi (1) fun k hk => ?_
    obtain ⟨k, rfl⟩ : ∃ m, k = m + 1 := ⟨k - 1, by omega⟩
    simp only [laws_heldStringS.l0]
    rw [if_neg (by rw [marksString_length]; omega), ha, show i = n from by omega]
  | succ d ih =>
    intro i a hi ha
    obtain ⟨M0, hM0⟩ := evx (markS_ev a (by omega))
    obtain ⟨K, hK⟩ := evx (ih (i + 1) (a + 1) (by omega) (by omega))
    refine evi (K + M0 + 1) fun k hk => ?_
    obtain ⟨k, rfl⟩ : ∃ m, k = m + 1 := ⟨k - 1, by omega⟩
    have hr : rdOf ByteArray.empty (marksString n a0) (i : Int) = markS a := by
      have hin : i < n := by omega
      simp [rdOf, marksString, hin, ha]
    simp only [laws_heldStringS.l0]
    rw [if_pos (by rw [marksString_length]; omega), if_pos (by omega), hM0 k (by omega), hr]
    simp only [Option.bind_some]
    rw [if_pos trivial, w64 (x := a + 1) (by omega) (by omega), w64 (x := (i : Int) + 1) (by omega) (by omega)]
    exact hK k (by omega)
theorem laws_heldStringS_ev (n : Nat) (hn : n ≤ 2097152) (a : Int) (ha0 : 0 ≤ a) (ha1 : a ≤ 1099511627776) : Ev (fun k => laws_heldStringS.f k (marksString n a) a) (a + (n : Int)) := by
  have := laws_heldStringS_l0 n hn a ha0 ha1 n 0 a rfl (by omega)
  exact this

def tempL : List UInt8 := [116, 101, 109, 112]
def orphB (ids : List Int) (s : List UInt8) : Bool := ((idR s).2 && !(ids.any (fun y => y == (idR s).1))) || (s == tempL)
def orphs (ids : List Int) (l : List S51) : List ByteArray := (l.filter fun e => orphB ids e.f0.toList).map (·.f0)
theorem orphs_cons (ids : List Int) (e : S51) (l : List S51) : orphs ids (e :: l) = if orphB ids e.f0.toList = true then e.f0 :: orphs ids l else orphs ids l := by
  unfold orphs
  rw [List.filter_cons]
  split <;> simp
theorem orphs_len (ids : List Int) (l : List S51) : (orphs ids l).length ≤ l.length := by
  unfold orphs
  rw [List.length_map]
  exact List.length_filter_le ..
theorem rdF_at (l : List S51) (i : Nat) (h : i < l.length) : rd_T51 l (i : Int) = l[i] := by simp [rd_T51, h]
theorem self_mk (s : ByteArray) : mkS s.toList = s := by obtain ⟨l, rfl⟩ := exS s; rw [mkS_toList]
theorem size_len (s : ByteArray) : s.toList.length = s.size := by obtain ⟨l, rfl⟩ := exS s; rw [mkS_toList, mkS_size]
theorem impl_IdOf_s (s : ByteArray) (h : s.size ≤ 1048576) (k : Nat) : impl_IdOf.f (k + 2) s = some (idR s.toList) := by
  have := impl_IdOf_f s.toList (by rw [size_len]; exact h) k
  rw [self_mk, idI_eq] at this
  exact this
theorem spec_IdOf_s (s : ByteArray) (h : s.size ≤ 1048576) : Ev (fun k => spec_IdOf.f k s) (idR s.toList) := by
  have := spec_IdOf_ev s.toList (by rw [size_len]; exact h)
  rw [self_mk] at this
  exact this
theorem impl_hasInt_l0 (x : Int) (ids : List Int) (hl : ids.length ≤ 4611686018427387904) (d : Nat) : ∀ (i : Nat), d + i = ids.length → Ev (fun k => impl_hasInt.l0 k x ids (ids.length : Int) (i : Int)) ((ids.drop i).any fun y => y == x) := by
  induction d with
  | zero =>
    intro i hi
    refine evi (1) fun k hk => ?_
    obtain ⟨k, rfl⟩ : ∃ m, k = m + 1 := ⟨k - 1, by omega⟩
    rw [impl_hasInt.l0, if_neg (by omega), List.drop_of_length_le (by omega)]
    rfl
  | succ d ih =>
    intro i hi
    have hlt : i < ids.length := by omega
    have hrd : rd ids (i : Int) = ids[i] := by simp [rd, hlt]
    obtain ⟨K, hK⟩ := evx (ih (i + 1) (by omega))
    refine evi (K + 1) fun k hk => ?_
    obtain ⟨k, rfl⟩ : ∃ m, k = m + 1 := ⟨k - 1, by omega⟩
    have hgo := hK k (by omega)
    rw [impl_hasInt.l0, if_pos (by omega), if_pos (by omega), if_pos (by omega), hrd, w64 (by omega) (by omega), show ((i : Int) + 1) = ((i + 1 : Nat) : Int) from by omega, hgo, List.drop_eq_getElem_cons hlt, List.any_cons]
    by_cases h : ids[i] = x
    · rw [if_pos h, h]; simp
    · rw [if_neg h, beq_false_of_ne h]; simp
theorem impl_hasInt_ev (x : Int) (ids : List Int) (hl : ids.length ≤ 4611686018427387904) : Ev (fun k => impl_hasInt.f k ids x) (ids.any fun y => y == x) := impl_hasInt_l0 x ids hl ids.length 0 rfl
theorem impl_Orphans_l0 (l : List S51) (n : Int) (ids : List Int) (hl : l.length ≤ 1048576) (hi : ids.length ≤ 1048576) (hs : ∀ e ∈ l, smallF e) (d : Nat) : ∀ (i : Nat) (acc : List ByteArray), d + i = l.length → acc.length ≤ i →
    Ev (fun k => impl_Orphans.l0 k acc l (l.length : Int) (i : Int) n ids) (acc ++ orphs ids (l.drop i)) := by
  induction d with
  | zero =>
    intro i acc h ha
    refine evi (1) fun k hk => ?_
    obtain ⟨k, rfl⟩ : ∃ m, k = m + 1 := ⟨k - 1, by omega⟩
    rw [impl_Orphans.l0, if_neg (by omega), List.drop_of_length_le (by omega)]
    simp [orphs]
  | succ d ih =>
    intro i acc h ha
    have hlt : i < l.length := by omega
    have hrd := rdF_at l i hlt
    have hz := (hs l[i] (List.getElem_mem hlt)).1
    rw [List.drop_eq_getElem_cons hlt, orphs_cons]
    generalize l[i] = e at *
    obtain ⟨K1, h1⟩ := evx (impl_hasInt_ev (idR e.f0.toList).1 ids (by omega))
    obtain ⟨K2, h2⟩ := evx (ih (i + 1) acc (by omega) (by omega))
    obtain ⟨K3, h3⟩ := evx (ih (i + 1) (acc ++ [e.f0]) (by omega) (by rw [List.length_append, List.length_singleton]; omega))
    refine evi (K1 + K2 + K3 + 3) fun k hk => ?_
    obtain ⟨k, rfl⟩ : ∃ m, k = m + 3 := ⟨k - 3, by omega⟩
    have a1 := h1 (k + 2) (by omega)
    have a2 := h2 (k + 1) (by omega)
    have a3 := h3 (k + 1) (by omega)
    have j1 : ∀ b : Bool, impl_Orphans.j1 (k + 2) acc l (l.length : Int) (i : Int) b n ids e.f0 e.f1 e.f2 = some (acc ++ if b = true then e.f0 :: orphs ids (l.drop (i + 1)) else orphs ids (l.drop (i + 1))) := by
      intro b
      rw [impl_Orphans.j1, w64 (by omega) (by omega), show ((i : Int) + 1) = ((i + 1 : Nat) : Int) from by omega]
      cases b with
      | true => rw [if_pos rfl, if_pos (by omega), a3, List.append_assoc]; rfl
      | false => rw [if_neg (by simp), a2]; rfl
    rw [impl_Orphans.l0, if_pos (by omega), if_pos (by omega), if_pos (by omega), hrd, impl_IdOf_s _ hz]
    simp only [Option.bind_some]
    rw [a1]
    simp only [Option.bind_some]
    unfold orphB
    by_cases ht : e.f0.toList = [116, 101, 109, 112]
    · rw [if_pos ht, j1, ht]
      simp [tempL]
    · have hb : (e.f0.toList == tempL) = false := beq_false_of_ne ht
      rw [if_neg ht, hb, j1, j1, Bool.or_false]
      cases (idR e.f0.toList).2 with
      | true => rw [if_pos rfl, Bool.true_and]
      | false => rw [if_neg (by simp), Bool.false_and]
theorem impl_Orphans_ev (l : List S51) (cap fuel : Int) (down : Bool) (n : Int) (ids : List Int) (hl : l.length ≤ 1048576) (hi : ids.length ≤ 1048576) (hs : ∀ e ∈ l, smallF e) : Ev (fun k => impl_Orphans.f k l cap fuel down n ids) (if diskOkB l cap fuel = true then orphs ids l else []) := by
  obtain ⟨K1, h1⟩ := evx (impl_DiskOk_ev l cap fuel down hl hs)
  obtain ⟨K2, h2⟩ := evx (impl_Orphans_l0 l n ids hl hi hs l.length 0 [] rfl (by simp))
  refine evi (K1 + K2) fun k hk => ?_
  have a2 := h2 k (by omega)
  rw [List.drop_zero, List.nil_append] at a2
  unfold impl_Orphans.f
  rw [h1 k (by omega)]
  simp only [Option.bind_some]
  split
  · exact a2
  · rfl
theorem spec_Orphans_l1 (l : List S51) (cap fuel : Int) (down : Bool) (n : Int) (ids : List Int) (hi : ids.length ≤ 1048576) (acc : List ByteArray) (i : Nat) (hlt : i < l.length) (id : Int) (is : Bool) (R : Bool → List ByteArray) (hR : ∀ b : Bool, Ev (fun k => spec_Orphans.j2 k acc (i : Int) b l cap fuel down n ids) (R b)) (d : Nat) : ∀ (j : Nat) (has : Bool), d + j = ids.length →
    Ev (fun k => spec_Orphans.l1 k acc (i : Int) id is has (j : Int) l cap fuel down n ids) (R ((is && !(has || (ids.drop j).any fun y => y == id)) || (l[i].f0.toList == tempL))) := by
  induction d with
  | zero =>
    intro j has h
    rw [List.drop_of_length_le (by omega), List.any_nil, Bool.or_false]
    obtain ⟨K1, h1⟩ := evx (hR true)
    obtain ⟨K2, h2⟩ := evx (hR (l[i].f0.toList == tempL))
    refine evi (K1 + K2 + 1) fun k hk => ?_
    obtain ⟨k, rfl⟩ : ∃ m, k = m + 1 := ⟨k - 1, by omega⟩
    have a1 := h1 k (by omega)
    have a2 := h2 k (by omega)
    rw [spec_Orphans.l1, if_neg (by omega), rdF_at l i hlt]
    cases is with
    | true =>
      rw [if_pos rfl]
      cases has with
      | true => rw [if_pos rfl, if_pos (by omega), if_pos (by omega)]; exact a2
      | false => rw [if_neg (by simp)]; exact a1
    | false => rw [if_neg (by simp), if_pos (by omega), if_pos (by omega)]; exact a2
  | succ d ih =>
    intro j has h
    have hj : j < ids.length := by omega
    have hrd : rd ids (j : Int) = ids[j] := by simp [rd, hj]
    obtain ⟨K1, h1⟩ := evx (ih (j + 1) true (by omega))
    obtain ⟨K2, h2⟩ := evx (ih (j + 1) (ids[j] == id) (by omega))
    refine evi (K1 + K2 + 1) fun k hk => ?_
    obtain ⟨k, rfl⟩ : ∃ m, k = m + 1 := ⟨k - 1, by omega⟩
    have a1 := h1 k (by omega)
    have a2 := h2 k (by omega)
    rw [spec_Orphans.l1, if_pos (by omega), hrd, w64 (by omega) (by omega), show ((j : Int) + 1) = ((j + 1 : Nat) : Int) from by omega, List.drop_eq_getElem_cons hj, List.any_cons]
    cases has with
    | true => rw [if_pos rfl, a1]; simp
    | false => rw [if_neg (by simp), if_pos (by omega), a2, Bool.false_or]
theorem spec_Orphans_l0 (l : List S51) (cap fuel : Int) (down : Bool) (n : Int) (ids : List Int) (hl : l.length ≤ 1048576) (hi : ids.length ≤ 1048576) (hs : ∀ e ∈ l, smallF e) (d : Nat) : ∀ (i : Nat) (acc : List ByteArray), d + i = l.length → acc.length ≤ i →
    Ev (fun k => spec_Orphans.l0 k acc (i : Int) l cap fuel down n ids) (acc ++ orphs ids (l.drop i)) := by
  induction d with
  | zero =>
    intro i acc h ha
    refine evi (1) fun k hk => ?_
    obtain ⟨k, rfl⟩ : ∃ m, k = m + 1 := ⟨k - 1, by omega⟩
    rw [spec_Orphans.l0, if_neg (by omega), List.drop_of_length_le (by omega)]
    simp [orphs]
  | succ d ih =>
    intro i acc h ha
    have hlt : i < l.length := by omega
    have hrd := rdF_at l i hlt
    have hz := (hs l[i] (List.getElem_mem hlt)).1
    have hR : ∀ b : Bool, Ev (fun k => spec_Orphans.j2 k acc (i : Int) b l cap fuel down n ids) (acc ++ if b = true then l[i].f0 :: orphs ids (l.drop (i + 1)) else orphs ids (l.drop (i + 1))) := by
      intro b
      obtain ⟨K2, h2⟩ := evx (ih (i + 1) acc (by omega) (by omega))
      obtain ⟨K3, h3⟩ := evx (ih (i + 1) (acc ++ [l[i].f0]) (by omega) (by rw [List.length_append, List.length_singleton]; omega))
      refine evi (K2 + K3 + 1) fun k hk => ?_
      obtain ⟨k, rfl⟩ : ∃ m, k = m + 1 := ⟨k - 1, by omega⟩
      have a2 := h2 k (by omega)
      have a3 := h3 k (by omega)
      rw [spec_Orphans.j2, hrd, w64 (by omega) (by omega), show ((i : Int) + 1) = ((i + 1 : Nat) : Int) from by omega]
      cases b with
      | true => rw [if_pos rfl, if_pos (by omega), if_pos (by omega), if_pos (by omega), a3, List.append_assoc]; rfl
      | false => rw [if_neg (by simp), a2]; rfl
    have hl1 := spec_Orphans_l1 l cap fuel down n ids hi acc i hlt (idR l[i].f0.toList).1 (idR l[i].f0.toList).2 _ hR ids.length 0 false rfl
    obtain ⟨K1, h1⟩ := evx (hl1)
    obtain ⟨K2, h2⟩ := evx (spec_IdOf_s l[i].f0 hz)
    refine evi (K1 + K2 + 1) fun k hk => ?_
    obtain ⟨k, rfl⟩ : ∃ m, k = m + 1 := ⟨k - 1, by omega⟩
    have a1 := h1 k (by omega)
    rw [spec_Orphans.l0, if_pos (by omega), if_pos (by omega), hrd, h2 k (by omega)]
    simp only [Option.bind_some]
    rw [List.drop_eq_getElem_cons hlt, orphs_cons]
    unfold orphB
    rw [List.drop_zero, Bool.false_or] at a1
    exact a1
theorem spec_Orphans_ev (l : List S51) (cap fuel : Int) (down : Bool) (n : Int) (ids : List Int) (hl : l.length ≤ 1048576) (hi : ids.length ≤ 1048576) (hs : ∀ e ∈ l, smallF e) : Ev (fun k => spec_Orphans.f k l cap fuel down n ids) (if diskOkB l cap fuel = true then orphs ids l else []) := by
  obtain ⟨K1, h1⟩ := evx (spec_DiskOk_ev l cap fuel down hl hs)
  obtain ⟨K2, h2⟩ := evx (spec_Orphans_l0 l cap fuel down n ids hl hi hs l.length 0 [] rfl (by simp))
  refine evi (K1 + K2) fun k hk => ?_
  have a2 := h2 k (by omega)
  rw [List.drop_zero, List.nil_append] at a2
  unfold spec_Orphans.f
  simp only [Option.bind_some]
  rw [h1 k (by omega)]
  simp only [Option.bind_some]
  split
  · exact a2
  · rfl
theorem laws_szLive_left (n : Int) (l : List Int) (hl : l.length ≤ maxLen) (a : Int) (h0 : 0 ≤ a) (h1 : a ≤ 1048576) : ∃ s, laws_szLive.f n l a = some s ∧ (s < 0 ∨ l.length ≤ 1048576) := by
  obtain ⟨s, hs, h1, h2⟩ := laws_szIntS_f l hl a (by omega) (by omega)
  unfold laws_szLive.f
  rw [hs, Option.bind_some]
  by_cases h : s < 0
  · rw [if_pos h]; exact ⟨_, rfl, Or.inl (by omega)⟩
  · rw [if_neg h]; exact ⟨_, rfl, Or.inr (by omega)⟩



/-! ### the law -/
theorem FnExactOrphans : laws_FnExactOrphans.Pure := by
  intro a cap fuel down n ids ha hc hf hn0 hids
  have big : ∀ e ∈ a, bigFile e := fun e he => ⟨(ha.2 e he).1, (ha.2 e he).2.1⟩
  obtain ⟨s, hs, hs1, hs2⟩ := laws_szDisk_ev a cap fuel down ha.1 big 1048576 (by omega) (by omega)
  obtain ⟨K1, h1⟩ := evx hs
  by_cases hn : s < 0
  · exact ⟨K1, by unfold laws_FnExactOrphans.f; rw [h1 _ (by omega)]; simp only [Option.bind_some]; rw [if_pos hn]⟩
  · obtain ⟨t, ht, ht2⟩ := laws_szLive_left n ids hids.1 s (by omega) (by omega)
    by_cases hn2 : t < 0
    · exact ⟨K1, by unfold laws_FnExactOrphans.f; rw [h1 _ (by omega)]; simp only [Option.bind_some]; rw [if_neg hn, ht]; simp only [Option.bind_some]; rw [if_pos hn2]⟩
    have la : a.length ≤ 1048576 := by omega
    have li : ids.length ≤ 1048576 := by omega
    obtain ⟨K3, h3⟩ := evx (laws_toDisk_ev a cap fuel down la)
    have lb : (a.map convFile).length = a.length := List.length_map ..
    have sb := small_conv a (by rcases hs2 with h | h; exact absurd h hn; exact h.2.2)
    generalize a.map convFile = b at *
    obtain ⟨K4, h4⟩ := evx (laws_toIntS_ev ids li)
    obtain ⟨K5, h5⟩ := evx (spec_Orphans_ev b cap fuel down n ids (by omega) (by omega) sb)
    obtain ⟨K6, h6⟩ := evx (impl_Orphans_ev b cap fuel down n ids (by omega) (by omega) sb)
    obtain ⟨K7, h7⟩ := evx (laws_eqDisk_ev b cap fuel down (by omega))
    obtain ⟨K8, h8⟩ := evx (laws_eqIntS_ev ids (by omega))
    have lc : (if diskOkB b cap fuel = true then orphs ids b else []).length ≤ 1048576 := by
      split
      · have := orphs_len ids b; omega
      · simp
    generalize (if diskOkB b cap fuel = true then orphs ids b else []) = c at *
    obtain ⟨K9, h9⟩ := evx (laws_eqStringS_ev c (by omega))
    obtain ⟨Ka, ha⟩ := evx (laws_markDisk_ev b cap fuel down (by omega) 1 (by omega) (by omega))
    obtain ⟨Kb, hb⟩ := evx (laws_markIntS_ev ids (by omega) (1 + 3 * (b.length : Int)) (by omega) (by omega))
    obtain ⟨Kc, hcc⟩ := evx (laws_markStringS_ev c (by omega) 1 (by omega) (by omega))
    obtain ⟨Kd, hd⟩ := evx (laws_heldStringS_ev c.length (by omega) 1 (by omega) (by omega))
    generalize hK : K1 + K3 + K4 + K5 + K6 + K7 + K8 + K9 + Ka + Kb + Kc + Kd = K
    have e2 : ¬ (1 + (c.length : Int) < 0) := by omega
    have e3 : ¬ (1 + 3 * (b.length : Int) + (ids.length : Int) < 0) := by omega
    refine ⟨K + 1, ?_⟩
    have L : ∀ k, K ≤ k → laws_toLive.f k n ids = some (n, ids) := by
      intro k hk
      unfold laws_toLive.f
      rw [h4 k (by omega)]
      simp
    have E : ∀ k, K ≤ k → laws_eqLive.f k n ids n ids = some true := by
      intro k hk
      unfold laws_eqLive.f
      rw [h8 k (by omega)]
      simp
    have M : ∀ k, K ≤ k → ∃ z, laws_markLive.f k n ids (1 + 3 * (b.length : Int)) = some (1 + 3 * (b.length : Int) + (ids.length : Int), z) := by
      intro k hk
      unfold laws_markLive.f
      rw [hb k (by omega)]
      exact ⟨_, rfl⟩
    obtain ⟨z, hz⟩ := M (K + 1) (by omega)
    unfold laws_FnExactOrphans.f
    rw [h1 _ (by omega)]
    simp only [Option.bind_some]
    rw [if_neg hn, ht]
    simp only [Option.bind_some]
    rw [if_neg hn2, h3 _ (by omega)]
    simp only [Option.bind_some]
    rw [L _ (by omega)]
    simp only [Option.bind_some]
    rw [h5 _ (by omega)]
    simp only [Option.bind_some]
    rw [h6 _ (by omega)]
    simp only [Option.bind_some]
    rw [h9 _ (by omega)]
    simp only [Option.bind_some, if_true]
    rw [h7 _ (by omega)]
    simp only [Option.bind_some, if_true]
    rw [E _ (by omega)]
    simp only [Option.bind_some, if_true]
    rw [ha _ (by omega)]
    simp only [Option.bind_some]
    rw [hz]
    simp only [Option.bind_some]
    rw [if_neg e3]
    simp only [laws_FnExactOrphans.j0, Bool.not_true, Bool.false_eq_true, if_false]
    rw [hcc _ (by omega)]
    simp only [Option.bind_some]
    rw [hd _ (by omega)]
    simp only [Option.bind_some, if_neg e2, if_true]
    rw [h3 _ (by omega)]
    simp only [Option.bind_some]
    rw [L _ (by omega)]
    simp only [Option.bind_some]
    rw [h6 _ (by omega)]
    simp only [Option.bind_some]
    rw [h9 _ (by omega)]
    simp only [Option.bind_some, if_true, if_neg e2]

end Go.Proofs.YtodmaebgogjpdaaDoor.Pure
