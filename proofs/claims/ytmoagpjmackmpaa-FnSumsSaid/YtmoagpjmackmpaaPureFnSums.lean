/- The pure statement of the law FnSums: for all arguments within the printed bounds the printed function of the law answers true. Conditions: only the bounds that the printed statement itself names. -/
import Derived.Test.YtmoagpjmackmpaaPFnSumsx2
namespace Go.Proofs.Ytmoagpjmackmpaa.Pure
open Go.RowKit Go.Proofs.Ytmoagpjmackmpaa.PFnSums Go.Proofs.YtmoagpjmackmpaaW.PrintWords Go.Proofs.YtmoagpjmackmpaaW.PrintLast
set_option linter.unusedVariables false
set_option linter.unusedSimpArgs false

/-- The string of a list of bytes. -/
def mkS (l : List UInt8) : ByteArray := ⟨l.toArray⟩
theorem exS (s : ByteArray) : ∃ l, s = mkS l := ⟨s.data.toList, by cases s; simp [mkS]⟩
theorem mkS_size (l : List UInt8) : (mkS l).size = l.length := by simp [mkS, ByteArray.size]
theorem mkS_append (a b : List UInt8) : mkS a ++ mkS b = mkS (a ++ b) := by
  apply ByteArray.ext
  simp [mkS, ByteArray.data_append]
theorem bt_mkS (l : List UInt8) (i : Nat) (h : i < l.length) : bt (mkS l) (i : Int) = ((l[i]).toNat : Int) := by
  unfold bt
  have h' : ((i : Int)).toNat < (mkS l).size := by rw [mkS_size]; simpa using h
  rw [dif_pos h']
  simp only [Int.toNat_natCast]
  rfl
/-- A slice of bytes as the print tells it. -/
def ints (l : List UInt8) : List Int := l.map fun b => (b.toNat : Int)
theorem ints_length (l : List UInt8) : (ints l).length = l.length := by simp [ints]
theorem strOfNums_ints (l : List UInt8) : strOfNums (ints l) = mkS l := by
  unfold strOfNums ints mkS
  congr 2
  rw [List.map_map]
  conv => rhs; rw [← List.map_id l]
  apply List.map_congr_left
  intro b _
  simp
theorem ofNat_cast (n : Nat) : ((UInt8.ofNat n).toNat : Int) = (n : Int) % 256 := by simp
theorem w64 {x : Int} (h0 : -9223372036854775808 ≤ x) (h1 : x ≤ 9223372036854775807) : wrap64 x = x := by unfold wrap64; omega
theorem bt_rng (s : ByteArray) (i : Int) : 0 ≤ bt s i ∧ bt s i ≤ 255 := by
  unfold bt
  by_cases h : i.toNat < s.size
  · rw [dif_pos h]
    have := (s[i.toNat]'h).toNat_lt
    omega
  · rw [dif_neg h]
    omega
theorem w64b (s : ByteArray) (i : Int) : wrap64 (bt s i) = bt s i := by have := bt_rng s i; exact w64 (by omega) (by omega)
theorem tdivp {x y : Int} (h : 0 ≤ x) : Int.tdiv x y = x / y := Int.tdiv_eq_ediv_of_nonneg h
theorem tmodp {x y : Int} (h : 0 ≤ x) : Int.tmod x y = x % y := Int.tmod_eq_emod_of_nonneg h
theorem evx {α : Type} {g : Nat → Option α} {r : α} (h : Ev g r) : ∃ K, ∀ k, K ≤ k → g k = some r := h
theorem evi {α : Type} {g : Nat → Option α} {r : α} (K : Nat) (h : ∀ k, K ≤ k → g k = some r) : Ev g r := ⟨K, h⟩

def crcT (c : Nat) : Nat := if c % 2 = 1 then (c / 2) ^^^ 2197175160 else c / 2
def crcN : Nat → Nat → Nat
  | 0, c => c
  | n + 1, c => crcN n (crcT c)
def crcL (c : Nat) (l : List UInt8) : Nat := l.foldl (fun c b => crcN 8 (c ^^^ b.toNat)) c
def crcS (l : List UInt8) : Nat := 4294967295 - crcL 4294967295 l
theorem xor_lt32 {a b : Nat} (ha : a < 4294967296) (hb : b < 4294967296) : a ^^^ b < 4294967296 := Nat.xor_lt_two_pow (n := 32) ha hb
theorem crcT_lt {c : Nat} (h : c < 4294967296) : crcT c < 4294967296 := by
  unfold crcT
  split
  · exact xor_lt32 (by omega) (by omega)
  · omega
theorem crcN_lt (n : Nat) : ∀ c, c < 4294967296 → crcN n c < 4294967296 := by
  induction n with
  | zero => intro c h; exact h
  | succ n ih => intro c h; exact ih _ (crcT_lt h)
theorem crcL_lt (l : List UInt8) : ∀ c, c < 4294967296 → crcL c l < 4294967296 := by
  induction l with
  | nil => intro c h; exact h
  | cons b t ih => intro c h; exact ih _ (crcN_lt 8 _ (xor_lt32 h (by have := b.toNat_lt; omega)))
theorem crcS_lt (l : List UInt8) : crcS l < 4294967296 := by unfold crcS; omega
theorem bits_xor_nat (k : IntKind) (j : Nat) (hj : j ≤ k.bits) (hk : ∀ n : Int, 0 ≤ n → n < 2 ^ j → k.wrap n = n) (a b : Nat) (ha : a < 2 ^ j) (hb : b < 2 ^ j) : Go.bits .xor k a b = ((a ^^^ b : Nat) : Int) := by
  have hp : 2 ^ j ≤ 2 ^ k.bits := Nat.pow_le_pow_right (by decide) hj
  have ha' : a % 2 ^ k.bits = a := Nat.mod_eq_of_lt (Nat.lt_of_lt_of_le ha hp)
  have hb' : b % 2 ^ k.bits = b := Nat.mod_eq_of_lt (Nat.lt_of_lt_of_le hb hp)
  have cast : ∀ n : Nat, n < 2 ^ j → ((n : Nat) : Int) < 2 ^ j := fun n h => by exact_mod_cast h
  simp only [Go.bits, BitVec.ofInt_natCast, BitVec.toNat_xor, BitVec.toNat_ofNat, ha', hb']
  exact hk _ (Int.natCast_nonneg _) (cast _ (Nat.xor_lt_two_pow ha hb))
theorem xor_u32 {a b : Nat} (ha : a < 4294967296) (hb : b < 4294967296) : Go.bits .xor .u32 (a : Int) (b : Int) = ((a ^^^ b : Nat) : Int) :=
  bits_xor_nat .u32 32 (by decide) (fun n h0 h1 => by rw [IntKind.wrap_u32]; omega) a b ha hb
theorem xor_i64 {a b : Nat} (ha : a < 4294967296) (hb : b < 4294967296) : Go.bits .xor .i64 (a : Int) (b : Int) = ((a ^^^ b : Nat) : Int) :=
  bits_xor_nat .i64 32 (by decide) (fun n h0 h1 => by rw [IntKind.wrap_i64]; omega) a b ha hb
theorem and_u32_1 {a : Nat} (ha : a < 4294967296) : Go.bits .and .u32 (a : Int) 1 = ((a % 2 : Nat) : Int) := by
  have := (bits_nat .u32 32 (by decide) (fun n h0 h1 => by rw [IntKind.wrap_u32]; omega) a 1 ha (by decide)).1
  rw [Nat.and_one_is_mod] at this
  exact this
theorem not_u32 {a : Nat} (ha : a < 4294967296) : Go.bits .xor .u32 (IntKind.u32.max) (a : Int) = ((4294967295 - a : Nat) : Int) := by
  have e : IntKind.u32.max = ((4294967295 : Nat) : Int) := by decide
  rw [e, xor_u32 (by omega) ha]
  congr 1
  have h := BitVec.toNat_not (x := BitVec.ofNat 32 a)
  rw [← BitVec.allOnes_xor, BitVec.toNat_xor, BitVec.toNat_allOnes, BitVec.toNat_ofNat, Nat.mod_eq_of_lt ha] at h
  exact h

theorem impl_Crc_l1 (l : List UInt8) (i : Nat) (r : Int) (hi : i < 9000000000000000000) (d : Nat) : ∀ (j c : Nat), d + j = 8 → c < 4294967296 → Ev (fun k => impl_Crc.l0 k (mkS l) ((crcN d c : Nat) : Int) ((i + 1 : Nat) : Int)) r → Ev (fun k => impl_Crc.l1 k (mkS l) (c : Int) (i : Int) (j : Int)) r := by
  induction d with
  | zero =>
    intro j c hj hc h
    obtain ⟨K, hK⟩ := evx (h)
    refine evi (K + 1) fun k hk => ?_
    obtain ⟨k, rfl⟩ : ∃ m, k = m + 1 := ⟨k - 1, by omega⟩
    simp only [impl_Crc.l1]
    rw [if_neg (by omega), w64 (by omega) (by omega)]
    exact hK k (by omega)
  | succ d ih =>
    intro j c hj hc h
    obtain ⟨K, hK⟩ := evx (ih (j + 1) (crcT c) (by omega) (crcT_lt hc) h)
    refine evi (K + 1) fun k hk => ?_
    obtain ⟨k, rfl⟩ : ∃ m, k = m + 1 := ⟨k - 1, by omega⟩
    simp only [impl_Crc.l1]
    have hgo := hK k (by omega)
    rw [if_pos (by omega), and_u32_1 hc, w64 (by omega) (by omega), show ((j : Int) + 1) = ((j + 1 : Nat) : Int) from by omega]
    unfold crcT at hgo
    by_cases ho : c % 2 = 1
    · rw [if_pos ho] at hgo
      rw [if_pos (by omega), show ((c : Int) / 2) = ((c / 2 : Nat) : Int) from by omega, show (2197175160 : Int) = ((2197175160 : Nat) : Int) from rfl, xor_u32 (by omega) (by omega)]
      exact hgo
    · rw [if_neg ho] at hgo
      rw [if_neg (by omega), show ((c : Int) / 2) = ((c / 2 : Nat) : Int) from by omega]
      exact hgo
theorem impl_Crc_l0 (l : List UInt8) (hl : l.length < 9000000000000000000) (d : Nat) : ∀ (i c : Nat), d + i = l.length → c < 4294967296 → Ev (fun k => impl_Crc.l0 k (mkS l) (c : Int) (i : Int)) ((4294967295 - crcL c (l.drop i) : Nat) : Int) := by
  induction d with
  | zero =>
    intro i c hi hc
    refine evi (1) fun k hk => ?_
    obtain ⟨k, rfl⟩ : ∃ m, k = m + 1 := ⟨k - 1, by omega⟩
    simp only [impl_Crc.l0]
    rw [if_neg (by rw [mkS_size]; omega), not_u32 hc, w64 (by omega) (by omega), List.drop_of_length_le (by omega)]
    rfl
  | succ d ih =>
    intro i c hi hc
    have hlt : i < l.length := by omega
    have hx := (l[i]).toNat_lt
    have hc' : c ^^^ (l[i]).toNat < 4294967296 := xor_lt32 hc (by omega)
    obtain ⟨K, hK⟩ := evx (impl_Crc_l1 l i _ (by omega) 8 0 (c ^^^ (l[i]).toNat) rfl hc' (ih (i + 1) (crcN 8 (c ^^^ (l[i]).toNat)) (by omega) (crcN_lt 8 _ hc')))
    refine evi (K + 1) fun k hk => ?_
    obtain ⟨k, rfl⟩ : ∃ m, k = m + 1 := ⟨k - 1, by omega⟩
    simp only [impl_Crc.l0]
    rw [if_pos (by rw [mkS_size]; omega), if_pos (by omega), bt_mkS l i hlt, Int.emod_eq_of_lt (by omega) (by omega), xor_u32 hc (by omega), List.drop_eq_getElem_cons hlt]
    exact hK k (by omega)
theorem impl_Crc_ev (l : List UInt8) (hl : l.length < 9000000000000000000) : Ev (fun k => impl_Crc.f k (mkS l)) (crcS l : Int) := by
  have h := impl_Crc_l0 l hl l.length 0 4294967295 rfl (by omega)
  exact h

theorem spec_Crc_l1 (l : List UInt8) (i : Nat) (r : Int) (hi : i < 9000000000000000000) (d : Nat) : ∀ (j c : Nat), d + j = 8 → c < 4294967296 → Ev (fun k => spec_Crc.l0 k (mkS l) ((crcN d c : Nat) : Int) ((i + 1 : Nat) : Int)) r → Ev (fun k => spec_Crc.l1 k (mkS l) (c : Int) (i : Int) (j : Int)) r := by
  induction d with
  | zero =>
    intro j c hj hc h
    obtain ⟨K, hK⟩ := evx (h)
    refine evi (K + 1) fun k hk => ?_
    obtain ⟨k, rfl⟩ : ∃ m, k = m + 1 := ⟨k - 1, by omega⟩
    simp only [spec_Crc.l1]
    rw [if_neg (by omega), w64 (by omega) (by omega)]
    exact hK k (by omega)
  | succ d ih =>
    intro j c hj hc h
    obtain ⟨K, hK⟩ := evx (ih (j + 1) (crcT c) (by omega) (crcT_lt hc) h)
    refine evi (K + 1) fun k hk => ?_
    obtain ⟨k, rfl⟩ : ∃ m, k = m + 1 := ⟨k - 1, by omega⟩
    simp only [spec_Crc.l1]
    have hgo := hK k (by omega)
    rw [if_pos (by omega), tmodp (by omega), tdivp (by omega), w64 (x := (j : Int) + 1) (by omega) (by omega), w64 (x := (c : Int) / 2) (by omega) (by omega), show ((j : Int) + 1) = ((j + 1 : Nat) : Int) from by omega]
    unfold crcT at hgo
    by_cases ho : c % 2 = 1
    · rw [if_pos ho] at hgo
      rw [if_pos (by omega), show ((c : Int) / 2) = ((c / 2 : Nat) : Int) from by omega, show (2197175160 : Int) = ((2197175160 : Nat) : Int) from rfl, xor_i64 (by omega) (by omega)]
      exact hgo
    · rw [if_neg ho] at hgo
      rw [if_neg (by omega), show ((c : Int) / 2) = ((c / 2 : Nat) : Int) from by omega]
      exact hgo
theorem spec_Crc_l0 (l : List UInt8) (hl : l.length < 9000000000000000000) (d : Nat) : ∀ (i c : Nat), d + i = l.length → c < 4294967296 → Ev (fun k => spec_Crc.l0 k (mkS l) (c : Int) (i : Int)) ((4294967295 - crcL c (l.drop i) : Nat) : Int) := by
  induction d with
  | zero =>
    intro i c hi hc
    refine evi (1) fun k hk => ?_
    obtain ⟨k, rfl⟩ : ∃ m, k = m + 1 := ⟨k - 1, by omega⟩
    simp only [spec_Crc.l0]
    rw [if_neg (by rw [mkS_size]; omega), w64 (by omega) (by omega), List.drop_of_length_le (by omega)]
    congr 1
    show _ = ((4294967295 - c : Nat) : Int)
    omega
  | succ d ih =>
    intro i c hi hc
    have hlt : i < l.length := by omega
    have hx := (l[i]).toNat_lt
    have hc' : c ^^^ (l[i]).toNat < 4294967296 := xor_lt32 hc (by omega)
    obtain ⟨K, hK⟩ := evx (spec_Crc_l1 l i _ (by omega) 8 0 (c ^^^ (l[i]).toNat) rfl hc' (ih (i + 1) (crcN 8 (c ^^^ (l[i]).toNat)) (by omega) (crcN_lt 8 _ hc')))
    refine evi (K + 1) fun k hk => ?_
    obtain ⟨k, rfl⟩ : ∃ m, k = m + 1 := ⟨k - 1, by omega⟩
    simp only [spec_Crc.l0]
    rw [if_pos (by rw [mkS_size]; omega), if_pos (by omega), w64b, bt_mkS l i hlt, xor_i64 hc (by omega), List.drop_eq_getElem_cons hlt]
    exact hK k (by omega)
theorem spec_Crc_ev (l : List UInt8) (hl : l.length < 9000000000000000000) : Ev (fun k => spec_Crc.f k (mkS l)) (crcS l : Int) := by
  have h := spec_Crc_l0 l hl l.length 0 4294967295 rfl (by omega)
  exact h

theorem xor_self_cancel (a p : Nat) : a ^^^ p ^^^ p = a := by rw [Nat.xor_assoc, Nat.xor_self, Nat.xor_zero]
theorem xor_half (a b : Nat) : (a ^^^ b) / 2 = (a / 2) ^^^ (b / 2) := Nat.xor_div_two
theorem xor_odd (a b : Nat) : (a ^^^ b) % 2 = (a % 2 + b % 2) % 2 := by
  have h := Nat.testBit_xor a b 0
  simp only [Nat.testBit_zero] at h
  rcases Nat.mod_two_eq_zero_or_one a with ha | ha <;> rcases Nat.mod_two_eq_zero_or_one b with hb | hb <;> rcases Nat.mod_two_eq_zero_or_one (a ^^^ b) with hc | hc <;> rw [ha, hb, hc] at h <;> simp at h <;> omega
theorem crcT_xor (a b : Nat) : crcT (a ^^^ b) = crcT a ^^^ crcT b := by
  unfold crcT
  rw [xor_odd, xor_half]
  rcases Nat.mod_two_eq_zero_or_one a with ha | ha <;> rcases Nat.mod_two_eq_zero_or_one b with hb | hb
  · rw [ha, hb, if_neg (by decide), if_neg (by decide), if_neg (by decide)]
  · rw [ha, hb, if_pos (by decide), if_neg (by decide), if_pos (by decide), Nat.xor_assoc]
  · rw [ha, hb, if_pos (by decide), if_pos (by decide), if_neg (by decide), Nat.xor_assoc, Nat.xor_assoc, Nat.xor_comm (b / 2)]
  · rw [ha, hb, if_neg (by decide), if_pos (by decide), if_pos (by decide)]
    rw [Nat.xor_assoc (a / 2) 2197175160, Nat.xor_comm 2197175160, xor_self_cancel]
theorem crcN_xor (n : Nat) : ∀ a b, crcN n (a ^^^ b) = crcN n a ^^^ crcN n b := by
  induction n with
  | zero => intro a b; rfl
  | succ n ih => intro a b; rw [crcN, crcT_xor, ih]; rfl
theorem crcT_zero {z : Nat} (hz : z < 4294967296) (h : crcT z = 0) : z = 0 := by
  unfold crcT at h
  split at h
  · have h1 : z / 2 = 2197175160 := by
      have := congrArg (· ^^^ 2197175160) h
      simpa [xor_self_cancel] using this
    omega
  · omega
theorem crcN_zero (n : Nat) : ∀ z, z < 4294967296 → crcN n z = 0 → z = 0 := by
  induction n with
  | zero => intro z _ h; exact h
  | succ n ih => intro z hz h; exact crcT_zero hz (ih _ (crcT_lt hz) h)
theorem xor_eq_zero' {a b : Nat} (h : a ^^^ b = 0) : a = b := by
  have := congrArg (· ^^^ b) h
  simpa [xor_self_cancel] using this
theorem crcN_inj {n a b : Nat} (ha : a < 4294967296) (hb : b < 4294967296) (h : crcN n a = crcN n b) : a = b := by
  apply xor_eq_zero'
  apply crcN_zero n _ (xor_lt32 ha hb)
  rw [crcN_xor, h, Nat.xor_self]
theorem crcN_shift (n : Nat) : ∀ w, crcN n (w * 2 ^ n) = w := by
  induction n with
  | zero => intro w; simp [crcN]
  | succ n ih =>
    intro w
    have e : w * 2 ^ (n + 1) = (w * 2 ^ n) * 2 := by rw [Nat.pow_succ, Nat.mul_assoc]
    have : crcT (w * 2 ^ (n + 1)) = w * 2 ^ n := by
      unfold crcT
      rw [e, if_neg (by omega)]
      omega
    rw [crcN, this, ih]
def wL : List UInt8 → Nat
  | [] => 0
  | b :: t => b.toNat + 256 * wL t
theorem wL_lt (l : List UInt8) : wL l < 256 ^ l.length := by
  induction l with
  | nil => simp [wL]
  | cons b t ih => have := b.toNat_lt; rw [wL, List.length_cons, Nat.pow_succ]; omega
theorem wL_inj (l : List UInt8) : ∀ m : List UInt8, l.length = m.length → wL l = wL m → l = m := by
  induction l with
  | nil => intro m hl _; cases m with
    | nil => rfl
    | cons _ _ => simp at hl
  | cons b t ih =>
    intro m hl hw
    cases m with
    | nil => simp at hl
    | cons c s =>
      have := b.toNat_lt
      have := c.toNat_lt
      rw [wL, wL] at hw
      have h1 : b = c := UInt8.toNat_inj.1 (by omega)
      rw [h1, ih s (by simpa using hl) (by omega)]
theorem add_xor (b w : Nat) (hb : b < 256) : b + 256 * w = b ^^^ (w * 2 ^ 8) := by
  rw [Nat.xor_comm, Nat.add_comm, Nat.mul_comm 256 w]
  have h := Nat.two_pow_add_eq_or_of_lt (i := 8) (b := b) (by omega) w
  rw [Nat.mul_comm (2 ^ 8) w] at h
  rw [show w * 256 = w * 2 ^ 8 from rfl, h]
  apply Nat.eq_of_testBit_eq
  intro i
  rw [Nat.testBit_or, Nat.testBit_xor]
  by_cases hi : i < 8
  · have : (w * 2 ^ 8).testBit i = false := by
      rw [Nat.mul_comm, Nat.testBit_two_pow_mul]
      simp; omega
    rw [this]; simp
  · have : b.testBit i = false := Nat.testBit_lt_two_pow (Nat.lt_of_lt_of_le (show b < 2 ^ 8 by omega) (Nat.pow_le_pow_right (by omega) (by omega)))
    rw [this]; simp
theorem crcL_word (l : List UInt8) : ∀ c, crcL c l = crcN (8 * l.length) (c ^^^ wL l) := by
  have step : ∀ m n c, crcN (m + n) c = crcN n (crcN m c) := by
    intro m
    induction m with
    | zero => intro n c; rw [Nat.zero_add]; rfl
    | succ m ih => intro n c; rw [Nat.succ_add, crcN, ih]; rfl
  induction l with
  | nil => intro c; simp [crcL, wL, crcN]
  | cons b t ih =>
    intro c
    have e : crcL c (b :: t) = crcL (crcN 8 (c ^^^ b.toNat)) t := rfl
    rw [e, ih, List.length_cons, Nat.mul_succ, Nat.add_comm (8 * t.length) 8, step, wL, add_xor _ _ b.toNat_lt, ← Nat.xor_assoc, crcN_xor 8 (c ^^^ b.toNat), crcN_shift]
theorem crcL_inj (l : List UInt8) : ∀ a b, a < 4294967296 → b < 4294967296 → crcL a l = crcL b l → a = b := by
  induction l with
  | nil => intro a b _ _ h; exact h
  | cons x t ih =>
    intro a b ha hb h
    have hx : x.toNat < 4294967296 := by have := x.toNat_lt; omega
    have h1 := ih _ _ (crcN_lt 8 _ (xor_lt32 ha hx)) (crcN_lt 8 _ (xor_lt32 hb hx)) h
    have h2 := crcN_inj (xor_lt32 ha hx) (xor_lt32 hb hx) h1
    have := congrArg (· ^^^ x.toNat) h2
    simpa [xor_self_cancel] using this
theorem crcL_app (c : Nat) (a b : List UInt8) : crcL c (a ++ b) = crcL (crcL c a) b := by simp [crcL, List.foldl_append]
/-- Texts that part in at most four bytes in a row have other sums. -/
theorem crcS_burst (p m m' s : List UInt8) (hl : m.length = m'.length) (h4 : m.length ≤ 4) (h : crcS (p ++ m ++ s) = crcS (p ++ m' ++ s)) : m = m' := by
  unfold crcS at h
  have h0 : (4294967295 : Nat) < 4294967296 := by omega
  have hc := crcL_lt p _ h0
  have b1 := crcL_lt (p ++ m ++ s) _ h0
  have b2 := crcL_lt (p ++ m' ++ s) _ h0
  have h1 : crcL 4294967295 (p ++ m ++ s) = crcL 4294967295 (p ++ m' ++ s) := by omega
  rw [crcL_app, crcL_app, crcL_app _ (p ++ m'), crcL_app _ p m'] at h1
  have h2 := crcL_inj s _ _ (crcL_lt m _ hc) (crcL_lt m' _ hc) h1
  rw [crcL_word, crcL_word m', hl] at h2
  have hp : ∀ l : List UInt8, l.length ≤ 4 → wL l < 4294967296 := fun l hl => Nat.lt_of_lt_of_le (wL_lt l) (show 256 ^ l.length ≤ 256 ^ 4 from Nat.pow_le_pow_right (by omega) hl)
  have h3 := crcN_inj (xor_lt32 hc (hp m h4)) (xor_lt32 hc (hp m' (by omega))) h2
  apply wL_inj m m' hl
  have := congrArg (crcL 4294967295 p ^^^ ·) h3
  simpa [← Nat.xor_assoc, Nat.xor_self] using this

theorem and255 (x : Int) : 0 ≤ Go.bits .and .i64 x 255 ∧ Go.bits .and .i64 x 255 ≤ 255 := by
  have hb : (BitVec.ofInt 64 x &&& BitVec.ofInt 64 255).toNat ≤ 255 := by
    rw [BitVec.toNat_and]; exact Nat.le_trans Nat.and_le_right (by decide)
  have e : Go.bits .and .i64 x 255 = IntKind.i64.wrap (((BitVec.ofInt 64 x &&& BitVec.ofInt 64 255).toNat : Nat) : Int) := rfl
  rw [e, IntKind.wrap_i64]
  omega
def okP (c : List Int) (p : Int) : Prop := 0 ≤ p ∧ p ≤ (c.length : Int)
theorem byte_ex (c : List Int) (hc : c.length ≤ 1048576) (p s : Int) (hp : okP c p) : ∃ v p' s', spec_l1Byte.f c p s = some (v, p', s') ∧ (0 ≤ v ∧ v ≤ 255) ∧ okP c p' := by
  unfold okP at *
  unfold spec_l1Byte.f
  by_cases h : p < (c.length : Int)
  · rw [if_pos h, if_pos hp.1]
    refine ⟨_, _, _, rfl, and255 _, ?_⟩
    rw [w64 (by omega) (by omega)]
    omega
  · rw [if_neg h]
    exact ⟨_, _, _, rfl, and255 _, hp⟩
theorem text_l0 (c : List Int) (hc : c.length ≤ 1048576) (x : Int) (d : Nat) : ∀ (acc : List Int) (p s : Int), okP c p → acc.length + d ≤ 1000000 → ∃ r p' s', Ev (fun k => spec_l1Text.l0 k acc x (d : Int) c p s) (r, p', s') ∧ r.size ≤ acc.length + d ∧ okP c p' := by
  induction d with
  | zero =>
    intro acc p s hp ha
    refine ⟨strOfNums acc, p, s, evi 1 (fun k hk => ?_), by rw [strOfNums_size]; omega, hp⟩
    obtain ⟨k, rfl⟩ : ∃ m, k = m + 1 := ⟨k - 1, by omega⟩
    rw [spec_l1Text.l0, if_neg (by omega)]
  | succ d ih =>
    intro acc p s hp ha
    obtain ⟨v, p1, s1, e1, hv, hp1⟩ := byte_ex c hc p s hp
    have hd : wrap64 (((d + 1 : Nat) : Int) - 1) = (d : Int) := by rw [w64 (by omega) (by omega)]; omega
    have key : ∀ v' : Int, (∀ k, spec_l1Text.l0 (k + 1) acc x ((d + 1 : Nat) : Int) c p s = spec_l1Text.l0 k (acc ++ [v']) x (d : Int) c p1 s1) → ∃ r p' s', Ev (fun k => spec_l1Text.l0 k acc x ((d + 1 : Nat) : Int) c p s) (r, p', s') ∧ r.size ≤ acc.length + (d + 1) ∧ okP c p' := by
      intro v' hh
      obtain ⟨r, p', s', hE, hr, hp'⟩ := ih (acc ++ [v']) p1 s1 hp1 (by rw [List.length_append, List.length_singleton]; omega)
      obtain ⟨K, hK⟩ := evx hE
      refine ⟨r, p', s', evi (K + 1) (fun k hk => ?_), by rw [List.length_append, List.length_singleton] at hr; omega, hp'⟩
      obtain ⟨k, rfl⟩ : ∃ m, k = m + 1 := ⟨k - 1, by omega⟩
      rw [hh]
      exact hK k (by omega)
    by_cases h1 : x = 1
    · by_cases h2 : x = 2
      · omega
      · refine key ((Int.tmod v 2) % 256) (fun k => ?_)
        rw [spec_l1Text.l0, if_pos (by omega), e1]
        simp only [Option.bind_some]
        rw [if_pos h1, if_neg h2, if_pos (by omega), hd]
    · by_cases h2 : x = 2
      · refine key ((wrap64 (97 + (Int.tmod v 4))) % 256) (fun k => ?_)
        rw [spec_l1Text.l0, if_pos (by omega), e1]
        simp only [Option.bind_some]
        rw [if_neg h1, if_pos h2, if_pos (by omega), hd]
      · refine key (v % 256) (fun k => ?_)
        rw [spec_l1Text.l0, if_pos (by omega), e1]
        simp only [Option.bind_some]
        rw [if_neg h1, if_neg h2, if_pos (by omega), hd]

theorem below_ex (c : List Int) (hc : c.length ≤ 1048576) (p s : Int) (hp : okP c p) (a : Int) : ∃ v p' s', spec_l1Below.f c p s a = some (v, p', s') ∧ 0 ≤ v ∧ (0 < a → v < a) ∧ (a ≤ 0 → v = 0) ∧ okP c p' := by
  unfold spec_l1Below.f
  by_cases h0 : a ≤ 0
  · rw [if_pos h0]
    exact ⟨_, _, _, rfl, by omega, by omega, fun _ => rfl, hp⟩
  · rw [if_neg h0]
    by_cases h1 : a ≤ 256
    · rw [if_pos h1]
      obtain ⟨v, p1, s1, e1, hv, hp1⟩ := byte_ex c hc p s hp
      rw [e1]
      simp only [Option.bind_some]
      rw [if_neg (by omega)]
      refine ⟨_, _, _, rfl, ?_, fun _ => ?_, by omega, hp1⟩
      · exact Int.tmod_nonneg _ hv.1
      · exact Int.tmod_lt_of_pos _ (by omega)
    · rw [if_neg h1]
      obtain ⟨v1, p1, s1, e1, hv1, hp1⟩ := byte_ex c hc p s hp
      obtain ⟨v2, p2, s2, e2, hv2, hp2⟩ := byte_ex c hc p1 s1 hp1
      obtain ⟨v3, p3, s3, e3, hv3, hp3⟩ := byte_ex c hc p2 s2 hp2
      obtain ⟨v4, p4, s4, e4, hv4, hp4⟩ := byte_ex c hc p3 s3 hp3
      rw [e1]
      simp only [Option.bind_some]
      rw [e2]
      simp only [Option.bind_some]
      rw [e3]
      simp only [Option.bind_some]
      rw [e4]
      simp only [Option.bind_some]
      rw [if_neg (by omega)]
      refine ⟨_, _, _, rfl, ?_, fun _ => ?_, by omega, hp4⟩
      · apply Int.tmod_nonneg
        rw [w64 (x := v1 * 16777216) (by omega) (by omega), w64 (x := v2 * 65536) (by omega) (by omega), w64 (x := v1 * 16777216 + v2 * 65536) (by omega) (by omega), w64 (x := v3 * 256) (by omega) (by omega), w64 (x := v1 * 16777216 + v2 * 65536 + v3 * 256) (by omega) (by omega), w64 (by omega) (by omega)]
        omega
      · exact Int.tmod_lt_of_pos _ (by omega)
theorem text_f {c : List Int} {p s a v1 p1 s1 v2 p2 s2 : Int} (h1 : spec_l1Below.f c p s 4 = some (v1, p1, s1)) (h2 : spec_l1Below.f c p1 s1 (wrap64 (a + 1)) = some (v2, p2, s2)) (k : Nat) : spec_l1Text.f k c p s a = spec_l1Text.l0 k ([] : List Int) v1 v2 c p2 s2 := by
  unfold spec_l1Text.f
  rw [h1]
  simp only [Option.bind_some]
  rw [h2]
  simp only [Option.bind_some]
theorem text_ex (c : List Int) (hc : c.length ≤ 1048576) (p s : Int) (hp : okP c p) (a : Nat) (ha : a ≤ 1000) : ∃ r p' s', Ev (fun k => spec_l1Text.f k c p s (a : Int)) (r, p', s') ∧ r.size ≤ a ∧ okP c p' := by
  obtain ⟨v1, p1, s1, e1, hv1, _, _, hp1⟩ := below_ex c hc p s hp 4
  obtain ⟨v2, p2, s2, e2, hv2, hv2', _, hp2⟩ := below_ex c hc p1 s1 hp1 (wrap64 ((a : Int) + 1))
  have hw : wrap64 ((a : Int) + 1) = (a : Int) + 1 := w64 (by omega) (by omega)
  rw [hw] at hv2'
  have := hv2' (by omega)
  obtain ⟨n, rfl⟩ := Int.eq_ofNat_of_zero_le hv2
  obtain ⟨r, p', s', hE, hr, hp'⟩ := text_l0 c hc v1 n [] p2 s2 hp2 (by simp only [List.length_nil]; omega)
  obtain ⟨K, hK⟩ := evx hE
  refine ⟨r, p', s', evi K (fun k hk => ?_), by simp only [List.length_nil] at hr; omega, hp'⟩
  have e := text_f e1 e2 k
  rw [e]
  exact hK k hk
theorem new_ex (c : List Int) (hc : c.length ≤ 1048576) : ∃ s, Ev (fun k => spec_l1New.f k c) (c, 0, s) := by
  have key : ∀ (d i : Nat) (h : Int), d + i = c.length → ∃ s, Ev (fun k => spec_l1New.l0 k c h (i : Int)) (c, 0, s) := by
    intro d
    induction d with
    | zero =>
      intro i h hi
      refine ⟨h, evi 1 (fun k hk => ?_)⟩
      obtain ⟨k, rfl⟩ : ∃ m, k = m + 1 := ⟨k - 1, by omega⟩
      rw [spec_l1New.l0, if_neg (by omega)]
    | succ d ih =>
      intro i h hi
      by_cases h4 : (i : Int) < 4000
      · obtain ⟨s, hs⟩ := ih (i + 1) (Go.bits .and .i64 (wrap64 ((wrap64 ((wrap64 (h * 131)) + (wrap64 (rd c (i : Int))))) + 7)) 1073741823) (by omega)
        obtain ⟨K, hK⟩ := evx hs
        refine ⟨s, evi (K + 1) (fun k hk => ?_)⟩
        obtain ⟨k, rfl⟩ : ∃ m, k = m + 1 := ⟨k - 1, by omega⟩
        have hgo := hK k (by omega)
        have e2 : wrap64 ((i : Int) + 1) = ((i + 1 : Nat) : Int) := by rw [w64 (by omega) (by omega)]; omega
        rw [spec_l1New.l0, if_pos (by omega), if_pos h4, if_pos (by omega), e2]
        exact hgo
      · refine ⟨h, evi 1 (fun k hk => ?_)⟩
        obtain ⟨k, rfl⟩ : ∃ m, k = m + 1 := ⟨k - 1, by omega⟩
        rw [spec_l1New.l0, if_pos (by omega), if_neg h4]
  obtain ⟨s, hs⟩ := key c.length 0 (wrap64 (10101 + (c.length : Int))) rfl
  exact ⟨s, hs⟩
theorem once_ex (c : List Int) (hc : c.length ≤ 1048576) (p s : Int) (hp : okP c p) (a : Int) : ∃ v p' s', spec_l1Once.f c p s a = some (v, p', s') ∧ okP c p' := by
  obtain ⟨v, p1, s1, e1, _, _, _, hp1⟩ := below_ex c hc p s hp a
  unfold spec_l1Once.f
  rw [e1]
  exact ⟨_, _, _, rfl, hp1⟩

theorem drawFrameN_l0 (m : Int) (hm : m ≤ 1000000) (d : Nat) : ∀ x : ByteArray, m - (x.size : Int) ≤ d → x.size ≤ 1000000 → ∃ t : ByteArray, Ev (fun k => spec_DrawFrame.l0 k x m) t ∧ t.size ≤ 1000000 := by
  induction d with
  | zero =>
    intro x hx hs
    refine ⟨x, evi 1 (fun k hk => ?_), hs⟩
    obtain ⟨k, rfl⟩ : ∃ m, k = m + 1 := ⟨k - 1, by omega⟩
    rw [spec_DrawFrame.l0, if_neg (by omega)]
  | succ d ih =>
    intro x hx hxs
    by_cases h : (x.size : Int) < m
    · have hs : (x ++ (⟨#[97]⟩ : ByteArray)).size = x.size + 1 := by rw [ByteArray.size_append]; rfl
      obtain ⟨t, hE, ht⟩ := ih (x ++ (⟨#[97]⟩ : ByteArray)) (by omega) (by omega)
      obtain ⟨K, hK⟩ := evx hE
      refine ⟨t, evi (K + 1) (fun k hk => ?_), ht⟩
      obtain ⟨k, rfl⟩ : ∃ m, k = m + 1 := ⟨k - 1, by omega⟩
      rw [spec_DrawFrame.l0, if_pos h, if_pos (by omega)]
      exact hK k (by omega)
    · refine ⟨x, evi 1 (fun k hk => ?_), hxs⟩
      obtain ⟨k, rfl⟩ : ∃ m, k = m + 1 := ⟨k - 1, by omega⟩
      rw [spec_DrawFrame.l0, if_neg h]
theorem drawFrameN_ex (c : List Int) (hc : c.length ≤ 1048576) : ∃ t : ByteArray, Ev (fun k => spec_DrawFrame.f k c) t ∧ t.size ≤ 1000000 := by
  obtain ⟨s, hs⟩ := new_ex c hc
  obtain ⟨K1, h1⟩ := evx hs
  obtain ⟨r, p1, s1, hE, hr, hp1⟩ := text_ex c hc 0 s ⟨by omega, by omega⟩ 30 (by omega)
  obtain ⟨K2, h2⟩ := evx hE
  obtain ⟨b, p2, s2, e2, hp2⟩ := once_ex c hc p1 s1 hp1 10
  cases b with
  | true =>
    obtain ⟨v, p3, s3, e3, hv0, hv1, _, _⟩ := below_ex c hc p2 s2 hp2 2
    have := hv1 (by omega)
    obtain ⟨t, hT, ht⟩ := drawFrameN_l0 (200 + v) (by omega) 202 r (by omega) (by omega)
    obtain ⟨K3, h3⟩ := evx hT
    refine ⟨t, evi (K1 + K2 + K3) (fun k hk => ?_), ht⟩
    have h2' : spec_l1Text.f k c 0 s 30 = some (r, p1, s1) := h2 k (by omega)
    unfold spec_DrawFrame.f
    rw [h1 k (by omega)]
    simp only [Option.bind_some]
    rw [h2']
    simp only [Option.bind_some]
    rw [e2]
    simp only [Option.bind_some, if_true]
    rw [e3]
    simp only [Option.bind_some]
    rw [w64 (by omega) (by omega)]
    exact h3 k (by omega)
  | false =>
    refine ⟨r, evi (K1 + K2) (fun k hk => ?_), by omega⟩
    have h2' : spec_l1Text.f k c 0 s 30 = some (r, p1, s1) := h2 k (by omega)
    unfold spec_DrawFrame.f
    rw [h1 k (by omega)]
    simp only [Option.bind_some]
    rw [h2']
    simp only [Option.bind_some]
    rw [e2]
    simp

theorem at_ex (c : List Int) (hc : c.length ≤ 1048576) (hw : ∀ x ∈ c, (Lit.int .u8 x).wf = true) (i : Nat) (hi : i ≤ 1000) : ∃ v, laws_at.f c (i : Int) = some v ∧ 0 ≤ v ∧ v ≤ 255 := by
  unfold laws_at.f
  by_cases h : (i : Int) < (c.length : Int)
  · have hlt : i < c.length := by omega
    have hm := hw c[i] (List.getElem_mem _)
    have e1 : IntKind.u8.min = 0 := by decide
    have e2 : IntKind.u8.max = 255 := by decide
    have h1 : IntKind.u8.min ≤ c[i] ∧ c[i] ≤ IntKind.u8.max := by simpa [Lit.wf] using hm
    rw [e1, e2] at h1
    have h2 : rd c (i : Int) = c[i] := by simp [rd, hlt]
    rw [if_pos h, if_pos (by omega), h2, w64 (by omega) (by omega)]
    exact ⟨_, rfl, h1⟩
  · rw [if_neg h]
    refine ⟨_, rfl, ?_⟩
    rw [w64 (x := (i : Int) * 37) (by omega) (by omega), w64 (x := (c.length : Int) * 11) (by omega) (by omega), w64 (by omega) (by omega), tmodp (by omega)]
    omega



/-! ### the law -/
theorem bytesOf_mkS (l : List UInt8) : bytesOf (mkS l) = ints l := by simp [bytesOf, mkS, ints]
theorem xor_u8 (a b : UInt8) : Go.bits .xor .u8 (a.toNat : Int) (b.toNat : Int) = ((a ^^^ b).toNat : Int) := by
  have h := bits_xor_nat .u8 8 (by decide) (fun n h0 h1 => by simp [IntKind.wrap, IntKind.bits, IntKind.signed]; omega) a.toNat b.toNat (by have := a.toNat_lt; omega) (by have := b.toNat_lt; omega)
  rw [h, UInt8.toNat_xor]
theorem sums_j1 (P A A' B : List UInt8) (hl : A.length = A'.length) (h4 : A.length ≤ 4) (hL : (P ++ A ++ B).length ≤ 1000001) : Ev (fun k => laws_FnSums.j1 k (mkS (P ++ A ++ B)) (ints (P ++ A' ++ B)) (decide (A' ≠ A))) true := by
  have hL' : (P ++ A' ++ B).length ≤ 1000001 := by simp only [List.length_append] at hL ⊢; omega
  obtain ⟨K1, h1⟩ := evx (impl_Crc_ev (P ++ A ++ B) (by omega))
  obtain ⟨K2, h2⟩ := evx (spec_Crc_ev (P ++ A ++ B) (by omega))
  obtain ⟨K3, h3⟩ := evx (impl_Crc_ev (P ++ A' ++ B) (by omega))
  obtain ⟨K4, h4'⟩ := evx (spec_Crc_ev (P ++ A' ++ B) (by omega))
  refine evi (K1 + K2 + K3 + K4 + 1) (fun k hk => ?_)
  obtain ⟨k, rfl⟩ : ∃ m, k = m + 1 := ⟨k - 1, by omega⟩
  have hlt := crcS_lt (P ++ A ++ B)
  have hd : (((crcS (P ++ A ++ B) : Int) != (crcS (P ++ A' ++ B) : Int)) == decide (A' ≠ A)) = true := by
    by_cases he : A' = A
    · subst he; simp
    · have hne : crcS (P ++ A ++ B) ≠ crcS (P ++ A' ++ B) := fun h => he (crcS_burst P A A' B hl h4 h).symm
      have hz : ¬ ((crcS (P ++ A ++ B) : Int) = (crcS (P ++ A' ++ B) : Int)) := by omega
      rw [bne_iff_ne.mpr hz, decide_eq_true he]; rfl
  rw [laws_FnSums.j1, strOfNums_ints, h1 k (by omega)]
  simp only [Option.bind_some]
  rw [h2 k (by omega)]
  simp only [Option.bind_some]
  rw [if_pos (by trivial), if_pos (by omega), if_pos (by omega), h3 k (by omega)]
  simp only [Option.bind_some]
  rw [if_pos hd, h4' k (by omega)]
  simp
theorem sums_l0 (c : List Int) (hc : c.length ≤ 1048576) (hw : ∀ x ∈ c, (Lit.int .u8 x).wf = true) (P : List UInt8) (d : Nat) : ∀ (i : Nat) (A A' B : List UInt8), A.length = i → A'.length = i → d + i = 4 → (P ++ A ++ B).length ≤ 1000001 → Ev (fun k => laws_FnSums.l0 k c (mkS (P ++ A ++ B)) (ints (P ++ A' ++ B)) (P.length : Int) (decide (A' ≠ A)) (i : Int)) true := by
  induction d with
  | zero =>
    intro i A A' B ha ha' hd hL
    obtain ⟨K, hK⟩ := evx (sums_j1 P A A' B (by omega) (by omega) hL)
    refine evi (K + 1) (fun k hk => ?_)
    obtain ⟨k, rfl⟩ : ∃ m, k = m + 1 := ⟨k - 1, by omega⟩
    rw [laws_FnSums.l0, if_neg (by omega)]
    exact hK k (by omega)
  | succ d ih =>
    intro i A A' B ha ha' hd hL
    have hlen : (ints (P ++ A' ++ B)).length = P.length + i + B.length := by rw [ints_length]; simp only [List.length_append]; omega
    have hlen2 : P.length + i + B.length ≤ 1000001 := by simp only [List.length_append] at hL; omega
    have hwr : wrap64 ((P.length : Int) + (i : Int)) = ((P.length + i : Nat) : Int) := by rw [w64 (by omega) (by omega)]; omega
    cases B with
    | nil =>
      obtain ⟨K, hK⟩ := evx (sums_j1 P A A' [] (by omega) (by omega) hL)
      refine evi (K + 1) (fun k hk => ?_)
      obtain ⟨k, rfl⟩ : ∃ m, k = m + 1 := ⟨k - 1, by omega⟩
      rw [laws_FnSums.l0, if_pos (by omega), hwr, if_neg (by rw [hlen]; simp only [List.length_nil]; omega)]
      exact hK k (by omega)
    | cons b B =>
      obtain ⟨v, hv, hv0, hv1⟩ := at_ex c hc hw (i + 1) (by omega)
      obtain ⟨m, hm⟩ : ∃ m : UInt8, (m.toNat : Int) = v := ⟨UInt8.ofNat v.toNat, by rw [ofNat_cast]; omega⟩
      have hm2 : v % 256 = (m.toNat : Int) := by omega
      obtain ⟨K, hK⟩ := evx (ih (i + 1) (A ++ [b]) (A' ++ [b ^^^ m]) B (by simp [ha]) (by simp [ha']) (by omega) (by simp only [List.length_append, List.length_cons, List.length_nil] at hL ⊢; omega))
      refine evi (K + 1) (fun k hk => ?_)
      obtain ⟨k, rfl⟩ : ∃ m, k = m + 1 := ⟨k - 1, by omega⟩
      have hrd : rd (ints (P ++ A' ++ b :: B)) ((P.length + i : Nat) : Int) = (b.toNat : Int) := by
        have e : ints (P ++ A' ++ b :: B) = ints (P ++ A') ++ (b.toNat : Int) :: ints B := by simp [ints]
        have el : (ints (P ++ A')).length = P.length + i := by rw [ints_length]; simp [ha']
        rw [e]
        unfold rd
        rw [Int.toNat_natCast, ← el]
        simp
      have hset : (ints (P ++ A' ++ b :: B)).set (P.length + i) ((b ^^^ m).toNat : Int) = ints (P ++ (A' ++ [b ^^^ m]) ++ B) := by
        have e : ints (P ++ A' ++ b :: B) = ints (P ++ A') ++ (b.toNat : Int) :: ints B := by simp [ints]
        have el : P.length + i = (ints (P ++ A')).length := by rw [ints_length]; simp [ha']
        rw [e, el, List.set_append_right _ _ (Nat.le_refl _), Nat.sub_self, List.set_cons_zero]
        simp [ints]
      have hk' := hK k (by omega)
      rw [show P ++ (A ++ [b]) ++ B = P ++ A ++ b :: B by simp] at hk'
      have hb : (b ^^^ m = b) ↔ (m.toNat : Int) = 0 := by
        constructor
        · intro h
          have : m = 0 := by
            have h2 := congrArg (b ^^^ ·) h
            simpa [← UInt8.xor_assoc] using h2
          rw [this]; rfl
        · intro h
          have : m = 0 := by
            apply UInt8.toNat_inj.1
            show m.toNat = 0
            omega
          rw [this]; simp
      rw [laws_FnSums.l0, if_pos (by omega), hwr, if_pos (by rw [hlen]; simp only [List.length_cons]; omega), show wrap64 ((i : Int) + 1) = ((i + 1 : Nat) : Int) by rw [w64 (by omega) (by omega)]; omega, hv]
      simp only [Option.bind_some]
      rw [if_pos (by omega), hrd, hm2, xor_u8, Int.toNat_natCast, hset]
      by_cases he : A' = A
      · subst he
        rw [if_neg (by simp)]
        rw [show ((m.toNat : Int) != 0) = decide (A' ++ [b ^^^ m] ≠ A' ++ [b]) by
          by_cases hz : (m.toNat : Int) = 0
          · rw [hb.2 hz, hz]; simp
          · have : ¬ b ^^^ m = b := fun h => hz (hb.1 h)
            rw [bne_iff_ne.mpr hz, decide_eq_true (show A' ++ [b ^^^ m] ≠ A' ++ [b] from fun h => this (by simpa using h))]]
        exact hk'
      · rw [if_pos (by simpa using he)]
        rw [show decide (A' ++ [b ^^^ m] ≠ A ++ [b]) = true by
          have : A' ++ [b ^^^ m] ≠ A ++ [b] := fun h => he (List.append_inj_left h (by omega))
          simp [this]] at hk'
        exact hk'
theorem FnSums : laws_FnSums.Pure := by
  intro c h1 h2 h3
  by_cases hb : (c.length : Int) > 1048576
  · refine ⟨0, ?_⟩
    unfold laws_FnSums.f laws_big.f
    simp only [Option.bind_some]
    rw [if_pos (by simpa using hb)]
  · have hc : c.length ≤ 1048576 := by omega
    obtain ⟨t, hT, ht⟩ := drawFrameN_ex c hc
    obtain ⟨K1, k1⟩ := evx hT
    obtain ⟨lt, rfl⟩ := exS t
    rw [mkS_size] at ht
    obtain ⟨v0, a0, a01, a02⟩ := at_ex c hc h3 0 (by omega)
    have a0' : laws_at.f c 0 = some v0 := a0
    generalize hq : (v0 % ((lt.length + 1 : Nat) : Int)).toNat = q
    have hq1 : (q : Int) = v0 % ((lt.length + 1 : Nat) : Int) := by
      have := Int.emod_nonneg v0 (show ((lt.length + 1 : Nat) : Int) ≠ 0 by omega)
      omega
    have hq2 : q < lt.length + 1 := by
      have := Int.emod_lt_of_pos v0 (show (0 : Int) < ((lt.length + 1 : Nat) : Int) by omega)
      omega
    have hsp : (120 :: lt).take q ++ [] ++ (120 :: lt).drop q = 120 :: lt := by simp
    have hql : ((120 :: lt).take q).length = q := by rw [List.length_take]; simp only [List.length_cons]; omega
    have hl := sums_l0 c hc h3 ((120 :: lt).take q) 4 0 [] [] ((120 :: lt).drop q) rfl rfl rfl (by rw [hsp]; simp only [List.length_cons]; omega)
    rw [hsp, hql] at hl
    obtain ⟨K2, k2⟩ := evx hl
    refine ⟨K1 + K2, ?_⟩
    have hx : (⟨#[120]⟩ : ByteArray) ++ mkS lt = mkS (120 :: lt) := mkS_append [120] lt
    unfold laws_FnSums.f laws_big.f
    simp only [Option.bind_some]
    rw [if_neg (by simpa using hb), k1 _ (by omega)]
    simp only [Option.bind_some]
    rw [if_pos (by rw [mkS_size]; omega), hx, bytesOf_mkS, a0']
    simp only [Option.bind_some]
    rw [ints_length, List.length_cons, if_neg (by omega), tmodp (by omega), ← hq1]
    exact k2 _ (by omega)

end Go.Proofs.Ytmoagpjmackmpaa.Pure
