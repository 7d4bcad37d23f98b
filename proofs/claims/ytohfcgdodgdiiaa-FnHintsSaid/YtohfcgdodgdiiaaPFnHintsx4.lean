import Derived.Test.YtohfcgdodgdiiaaPFnHintsx0
namespace Go.Proofs.Ytohfcgdodgdiiaa.PFnHints
open Go.RowKit Go.Proofs.YtohfcgdodgdiiaaW.PrintWords Go.Proofs.YtohfcgdodgdiiaaW.PrintLast Go.Proofs.YtohfcgdodgdiiaaW.PrintMore
attribute [local go_sem] max2_int min2_int max_two min_two max_three min_three max_four min_four
set_option linter.unusedVariables false
set_option linter.unusedSimpArgs false
set_option maxHeartbeats 80000000
set_option maxRecDepth 100000
theorem eqA41 (d : Nat) (w : World) (x0 y0 : Int) (x1 y1 : Int) (x2 y2 : ByteArray) (x3 y3 : ByteArray) (x4 y4 : Int) (x5 y5 : Int) :
    (Op.equalIn (d + 2) 41 (.agg #[.int .i64 x0, .int .i64 x1, .string x2, .string x3, .int .i64 x4, .int .i64 x5]) (.agg #[.int .i64 y0, .int .i64 y1, .string y2, .string y3, .int .i64 y4, .int .i64 y5])).run Try.prog w = .ok (x0 == y0 && (x1 == y1 && (x2.toList == y2.toList && (x3.toList == y3.toList && (x4 == y4 && (x5 == y5)))))) w := by
  refine eqA_of Try.underlying41 (by kernel_rfl) ?_; refine eqf_cons (by rfl) (by go_simp; rfl) (by go_simp; rfl) (by go_simp) ?_; refine eqf_cons (by rfl) (by go_simp; rfl) (by go_simp; rfl) (by go_simp) ?_; refine eqf_cons (by rfl) (by go_simp; rfl) (by go_simp; rfl) (by go_simp) ?_; refine eqf_cons (by rfl) (by go_simp; rfl) (by go_simp; rfl) (by go_simp) ?_; refine eqf_cons (by rfl) (by go_simp; rfl) (by go_simp; rfl) (by go_simp) ?_; exact eqf_last (by rfl) (by go_simp; rfl) (by go_simp; rfl) (by go_simp)
theorem eqA55 (d : Nat) (w : World) (x0 y0 : ByteArray) (x1 y1 : Int) (x2 y2 : Int) (x3 y3 : Int) (x4 y4 : Int) :
    (Op.equalIn (d + 2) 55 (.agg #[.string x0, .int .i64 x1, .int .i64 x2, .int .i64 x3, .int .i64 x4]) (.agg #[.string y0, .int .i64 y1, .int .i64 y2, .int .i64 y3, .int .i64 y4])).run Try.prog w = .ok (x0.toList == y0.toList && (x1 == y1 && (x2 == y2 && (x3 == y3 && (x4 == y4))))) w := by
  refine eqA_of Try.underlying55 (by kernel_rfl) ?_; refine eqf_cons (by rfl) (by go_simp; rfl) (by go_simp; rfl) (by go_simp) ?_; refine eqf_cons (by rfl) (by go_simp; rfl) (by go_simp; rfl) (by go_simp) ?_; refine eqf_cons (by rfl) (by go_simp; rfl) (by go_simp; rfl) (by go_simp) ?_; refine eqf_cons (by rfl) (by go_simp; rfl) (by go_simp; rfl) (by go_simp) ?_; exact eqf_last (by rfl) (by go_simp; rfl) (by go_simp; rfl) (by go_simp)
def laws_big.f (l0 : List Int) : Option (Bool) := some (decide ((l0.length : Int) > 1048576))
theorem laws_big.calls {l0 : List Int} {r : Bool} {w : World} (A0 : Option Addr) (c0 : Nat) (h : laws_big.f l0 = some r) (hr0 : Kd.C (Kd.int .u8) w A0 l0.length l0 := by exact sr_) (hc0 : l0.length ≤ c0 := by exact sc_) :
  Calls Try.prog 4 #[.slice A0 l0.length c0] w fun e w' => e = .returned (.bool r) ∧ Drawn0 w w' := by
 have HR0 := am_ hr0; have HC0 := am_ hc0; clear hr0 hc0; unfold laws_big.f at h; have H := h; clear h; obtain rfl := in_ H
 go_enter Try.func4, Try.ntmps4
 go_wp2
 go_ret
 exact ⟨by first | rfl | (simp; done) | (simp [*]; done), by repeat (first | exact Drawn0.refl _ | apply Drawn0.step)⟩
/-- A state of type 80 at block g of W; what its slices lead to came in by w0. -/
def IsS80 (w0 W : World) (g : Nat) (f0 : List Int) (f1 : Int) (f2 : Int) : Prop := ∃ A0 c0, W.heap[g]? = some (.cells #[.slice A0 f0.length c0, .int .i64 f1, .int .i64 f2] 80 (0, 0)) ∧ w0.heap.size ≤ g ∧ Kd.C (Kd.int .u8) w0 A0 f0.length f0
theorem IsS80.grown {w0 W : World} {g : Nat} {f0 : List Int} {f1 : Int} {f2 : Int} {W1 : World} {row : Option Nat} (h : IsS80 w0 W g f0 f1 f2) (hw : W.grownBy W1 row) (hne : some g ≠ row) : IsS80 w0 W1 g f0 f1 f2 := by
 obtain ⟨A0, c0, hb, hg, hr0⟩ := h; exact ⟨A0, c0, blk_grown hb hw hne, hg, hr0⟩
theorem IsS80.kept {w0 W : World} {g : Nat} {f0 : List Int} {f1 : Int} {f2 : Int} {W1 : World} {S : Nat → Prop} (h : IsS80 w0 W g f0 f1 f2) (hk : Kept W W1 S) (hne : ¬ S g) : IsS80 w0 W1 g f0 f1 f2 := by
 obtain ⟨A0, c0, hb, hg, hr0⟩ := h; exact ⟨A0, c0, blk_kept hb hk hne, hg, hr0⟩
theorem IsS80.below {w0 W : World} {g : Nat} {f0 : List Int} {f1 : Int} {f2 : Int} {W1 : World} (h : IsS80 w0 W g f0 f1 f2) (hw : Below W.heap.size W W1) : IsS80 w0 W1 g f0 f1 f2 := h.grown (grown_of_below hw none) (by simp)
theorem IsS80.alloc {w0 W : World} {g : Nat} {f0 : List Int} {f1 : Int} {f2 : Int} (h : IsS80 w0 W g f0 f1 f2) (o : Obj) : IsS80 w0 (W.alloc o) g f0 f1 f2 := h.below (below_alloc (Below.refl _ _) o)
theorem IsS80.drewN {w0 W : World} {g : Nat} {f0 : List Int} {f1 : Int} {f2 : Int} (h : IsS80 w0 W g f0 f1 f2) (m : Nat) : IsS80 w0 (W.drewN m) g f0 f1 f2 := h
theorem IsS80.drew {w0 W : World} {g : Nat} {f0 : List Int} {f1 : Int} {f2 : Int} (h : IsS80 w0 W g f0 f1 f2) : IsS80 w0 W.drew g f0 f1 f2 := h
theorem IsS80.at_ {w0 W : World} {g : Nat} {f0 : List Int} {f1 : Int} {f2 : Int} {w' : World} {m : Nat} (hq : W.drewN m = w') (h : IsS80 w0 W g f0 f1 f2) : IsS80 w0 w' g f0 f1 f2 := by subst hq; exact IsS80.drewN h m
theorem IsS80.apart {w0 W : World} {g : Nat} {f0 : List Int} {f1 : Int} {f2 : Int} {α : Type} {d : Kd α} {e : Nat} {base : Nat} {ok : Nat → Prop} {v : Value} {xs : List α} (h : IsS80 w0 W g f0 f1 f2) (ho : d.R e W base ok v xs) (ht : ∀ q, q ∈ e :: d.E → q ≠ 80) : d.R e W base (fun k => ok k ∧ k ≠ g) v xs := by
 obtain ⟨A0, c0, hb, hg, hr0⟩ := h; exact Kd.R_types ho hb ht
theorem IsS80.own_ne {w0 W : World} {g : Nat} {f0 : List Int} {f1 : Int} {f2 : Int} {α : Type} {d : Kd α} {e : Nat} {base : Nat} {ok : Nat → Prop} {v : Value} {xs : List α} (h : IsS80 w0 W g f0 f1 f2) (ho : d.R e W base ok v xs) (ht : e ≠ 80) : some g ≠ v.ownBlock := by
 obtain ⟨A0, c0, hb, hg, hr0⟩ := h; exact Kd.R_ne ho hb ht
theorem IsS80.lt {w0 W : World} {g : Nat} {f0 : List Int} {f1 : Int} {f2 : Int} (h : IsS80 w0 W g f0 f1 f2) : g < W.heap.size := by
 obtain ⟨A0, c0, hb, hg, hr0⟩ := h; exact blk_lt hb
theorem IsS80.ge {w0 W : World} {g : Nat} {f0 : List Int} {f1 : Int} {f2 : Int} (h : IsS80 w0 W g f0 f1 f2) : w0.heap.size ≤ g := by
 obtain ⟨A0, c0, hb, hg, hr0⟩ := h; exact hg
theorem IsS80.ne_blk {w0 W : World} {g : Nat} {f0 : List Int} {f1 : Int} {f2 : Int} {a : Nat} {cs : Array Value} {t : TypeId} {fr : Nat × Nat} (h : IsS80 w0 W g f0 f1 f2) (hb2 : W.heap[a]? = some (.cells cs t fr)) (ht : t ≠ 80) : g ≠ a := by
 obtain ⟨A0, c0, hb, hg, hr0⟩ := h; rintro rfl; rw [hb] at hb2
 injection hb2 with hb2
 injection hb2 with _ ht2
 exact ht ht2.symm
theorem IsS80.far {w0 W : World} {g : Nat} {f0 : List Int} {f1 : Int} {f2 : Int} {p : Addr} (h : IsS80 w0 W g f0 f1 f2) (hne : g ≠ p.block) (u : Value) : IsS80 w0 (W.setCell p u) g f0 f1 f2 := by
 obtain ⟨A0, c0, hb, hg, hr0⟩ := h; exact ⟨A0, c0, blk_far hb hne u, hg, hr0⟩
theorem cellS80_0 {W : World} {g : Nat} {A0 : Option Addr} {c0 : Nat} {f0 : List Int} {f1 : Int} {f2 : Int} (h : W.heap[g]? = some (.cells #[.slice A0 f0.length c0, .int .i64 f1, .int .i64 f2] 80 (0, 0))) : W.cell? ⟨g, 0, none⟩ = some (.slice A0 f0.length c0) := (blk_cell h 0).trans rfl
theorem cellS80_1 {W : World} {g : Nat} {A0 : Option Addr} {c0 : Nat} {f0 : List Int} {f1 : Int} {f2 : Int} (h : W.heap[g]? = some (.cells #[.slice A0 f0.length c0, .int .i64 f1, .int .i64 f2] 80 (0, 0))) : W.cell? ⟨g, 1, none⟩ = some (.int .i64 f1) := (blk_cell h 1).trans rfl
theorem IsS80.set_1 {w0 W : World} {g : Nat} {f0 : List Int} {f1 : Int} {f2 : Int} (h : IsS80 w0 W g f0 f1 f2) (x : Int) : IsS80 w0 (W.setCell ⟨g, 1, none⟩ (.int .i64 x)) g f0 x f2 := by
 obtain ⟨A0, c0, hb, hg, hr0⟩ := h; exact ⟨A0, c0, by simpa using blk_set hb 1 (.int .i64 x), hg, hr0⟩
theorem cellS80_2 {W : World} {g : Nat} {A0 : Option Addr} {c0 : Nat} {f0 : List Int} {f1 : Int} {f2 : Int} (h : W.heap[g]? = some (.cells #[.slice A0 f0.length c0, .int .i64 f1, .int .i64 f2] 80 (0, 0))) : W.cell? ⟨g, 2, none⟩ = some (.int .i64 f2) := (blk_cell h 2).trans rfl
theorem IsS80.set_2 {w0 W : World} {g : Nat} {f0 : List Int} {f1 : Int} {f2 : Int} (h : IsS80 w0 W g f0 f1 f2) (x : Int) : IsS80 w0 (W.setCell ⟨g, 2, none⟩ (.int .i64 x)) g f0 f1 x := by
 obtain ⟨A0, c0, hb, hg, hr0⟩ := h; exact ⟨A0, c0, by simpa using blk_set hb 2 (.int .i64 x), hg, hr0⟩
def spec_l1New.l0 : Nat → List Int → Int → Int → Option (List Int × Int × Int)
 | 0, _, _, _ => none
 | k + 1, x0, x3, x4 => if x4 < (x0.length : Int) then (if x4 < 4000 then (if 0 ≤ x4 then (spec_l1New.l0 k x0 (Go.bits .and .i64 (wrap64 ((wrap64 ((wrap64 (x3 * 131)) + (wrap64 (rd x0 x4)))) + 7)) 1073741823) (wrap64 (x4 + 1))) else (none)) else (some (x0, 0, x3))) else (some (x0, 0, x3))
def spec_l1New.f (k : Nat) (l0 : List Int) : Option (List Int × Int × Int) := spec_l1New.l0 k l0 (wrap64 (10101 + (l0.length : Int))) 0
theorem spec_l1New.calls {k : Nat} {l0 r1 : List Int} {r2 r3 : Int} {w : World} (A0 : Option Addr) (c0 : Nat) (w0 : World) (h : spec_l1New.f k l0 = some (r1, r2, r3)) (hB : Below w0.heap.size w0 w := by exact bw_) (hr0 : Kd.C (Kd.int .u8) w0 A0 l0.length l0 := by exact sr_) (hc0 : l0.length ≤ c0 := by exact sc_) :
  Calls Try.prog 15 #[.slice A0 l0.length c0] w fun e w' => ∃ g_ : Nat, e = .returned (.pointer (some ⟨g_, 0, none⟩)) ∧ IsS80 w0 w' g_ r1 r2 r3 ∧ Below w0.heap.size w0 w' ∧ Below w.heap.size w w' := by
 have hu80 := Try.underlying80; have HR0 := am_ hr0; have HC0 := am_ hc0; clear hr0 hc0; have HBW := am_ (Below.refl w.heap.size w); have HW0 := am_ hB.size; have HB := am_ hB; clear hB; unfold spec_l1New.f at h; have H := h; clear h; have H' := am_ H; clear H
 go_enter Try.func15, Try.ntmps15
 go_wp2
 go_loopg [3, 4] k (fun kq v3 v4 w' => ∃ (x3_1 : Int) (x4_1 : Int), v3 = .int .i64 x3_1 ∧ v4 = .int .i64 x4_1 ∧ Aside0 (spec_l1New.l0 kq l0 x3_1 x4_1 = some (r1, r2, r3)) ∧ Aside0 (kq ≤ k) ∧ Aside0 (Below w0.heap.size w0 w') ∧ Aside0 (Below w.heap.size w w'))
 case atStart => exact ⟨_, _, rs_, rs_, H', ⟨Nat.le_refl _⟩, ⟨hb_ HB⟩, ⟨hj_ HBW⟩⟩
 case round =>
  clear H'; obtain ⟨x3_1, x4_1, rfl, rfl, HA, HK1, HB, HBW⟩ := hrel
  cases gk with
  | zero => exact zz_ HA
  | succ k1 =>
   have H := HA.1; clear HA; simp only [spec_l1New.l0] at H; by_cases c2 : x4_1 < (l0.length : Int)
   ·rw [if_pos c2] at H; have c2b0 := dq_ c2; clear c2; by_cases c3 : x4_1 < 4000
    ·rw [if_pos c3] at H; have c3b0 := dq_ c3; clear c3; replace H := ih_ H; obtain ⟨c4, H⟩ := H; have c4b0 := dq_ c4; clear c4; have H' := am_ H; clear H; have p101 : 0 ≤ (x4_1 : Int) := od_; have q101 : x4_1 < (l0.length : Int) := od_; obtain ⟨ad101, e101, hx101_0⟩ := Kd.at_int HR0.1 x4_1 p101 q101
     cases e101
     replace hx101_0 := pw_cell_below HB.1 hx101_0; replace p101 := eq_true p101; replace q101 := eq_true q101
     go_wp2
     go_roundg k1
     case measure => exact m1_ HK1
     case rel => exact ⟨_, _, rs_, rs_, H', ⟨m1_ HK1⟩, ⟨hb_ HB⟩, ⟨hj_ HBW⟩⟩
    ·rw [if_neg c3] at H; have c3b0 := df_ c3; clear c3; obtain ⟨rfl, rfl, rfl⟩ := i3_ H
     go_wp2_with (refine gd_ 31 ?_; refine bx1_ 31 #[.slice A0 l0.length c0, .int .i64 0, .int .i64 x3_1] 80 ?_; intro gb102 hg w5 hbox hb; replace HB := bx_ HB hb; have BK102 := am_ hbox; have GW102 := ge_ hg (hb_ HBW); have GE102 := am_ ((Nat.le_trans HW0.1 (by rw [hg]; exact (below_size (hj_ HBW)) : w.heap.size ≤ gb102) : w0.heap.size ≤ gb102)); replace HBW := am_ (below_step HBW.1 hb); clear hb hbox hg)
     go_ret
     exact ⟨_, rfl, (show IsS80 w0 _ gb102 l0 0 x3_1 from ⟨_, _, bk_ BK102, GE102.1, HR0.1⟩), hs_ HB GE102, hj_ HBW⟩
   ·rw [if_neg c2] at H; have c2b0 := df_ c2; clear c2; obtain ⟨rfl, rfl, rfl⟩ := i3_ H
    go_wp2_with (refine gd_ 31 ?_; refine bx1_ 31 #[.slice A0 l0.length c0, .int .i64 0, .int .i64 x3_1] 80 ?_; intro gb103 hg w6 hbox hb; replace HB := bx_ HB hb; have BK103 := am_ hbox; have GW103 := ge_ hg (hb_ HBW); have GE103 := am_ ((Nat.le_trans HW0.1 (by rw [hg]; exact (below_size (hj_ HBW)) : w.heap.size ≤ gb103) : w0.heap.size ≤ gb103)); replace HBW := am_ (below_step HBW.1 hb); clear hb hbox hg)
    go_ret
    exact ⟨_, rfl, (show IsS80 w0 _ gb103 l0 0 x3_1 from ⟨_, _, bk_ BK103, GE103.1, HR0.1⟩), hs_ HB GE103, hj_ HBW⟩
def spec_l1Byte.f (s0_0 : List Int) (s0_1 : Int) (s0_2 : Int) : Option (Int × Int × Int) := if s0_1 < (s0_0.length : Int) then (if 0 ≤ s0_1 then (some (Go.bits .and .i64 (wrap64 ((Go.bits .and .i64 (Go.bits .xor .i64 ((wrap64 ((wrap64 (s0_2 * 6364136223846793005)) + 1442695040888963407)) / 8589934592) ((wrap64 ((wrap64 (s0_2 * 6364136223846793005)) + 1442695040888963407)) / 35184372088832)) 255) + (wrap64 (rd s0_0 s0_1)))) 255, wrap64 (s0_1 + 1), wrap64 ((wrap64 (s0_2 * 6364136223846793005)) + 1442695040888963407))) else (none)) else (some (Go.bits .and .i64 (Go.bits .xor .i64 ((wrap64 ((wrap64 (s0_2 * 6364136223846793005)) + 1442695040888963407)) / 8589934592) ((wrap64 ((wrap64 (s0_2 * 6364136223846793005)) + 1442695040888963407)) / 35184372088832)) 255, s0_1, wrap64 ((wrap64 (s0_2 * 6364136223846793005)) + 1442695040888963407)))
theorem spec_l1Byte.calls {s0_0 : List Int} {s0_1 s0_2 r1 r2 r3 : Int} {w : World} (g : Nat) (w0 : World) (h : spec_l1Byte.f s0_0 s0_1 s0_2 = some (r1, r2, r3)) (hI : IsS80 w0 w g s0_0 s0_1 s0_2 := by exact si1_) (hB : Below w0.heap.size w0 w := by exact bw_) :
  Calls Try.prog 69 #[.pointer (some ⟨g, 0, none⟩)] w fun e w' => e = .returned (.int .i64 r1) ∧ IsS80 w0 w' g s0_0 r2 r3 ∧ Below w0.heap.size w0 w' ∧ KeepBut w w' g none := by
 have HI0 := am_ hI; have HK := am_ (KeepBut.refl w g none); have HL := am_ hB.size; clear hI; have HW0 := am_ hB.size; have HB := am_ hB; clear hB; unfold spec_l1Byte.f at h; have H := h; clear h; by_cases c2 : s0_1 < (s0_0.length : Int)
 ·rw [if_pos c2] at H; have c2b0 := dq_ c2; clear c2; replace H := ih_ H; obtain ⟨c3, H⟩ := H; have c3b0 := dq_ c3; clear c3; obtain ⟨rfl, rfl, rfl⟩ := i3_ H; obtain ⟨ASz4_0, cSz4_0, HGz4, hgz4, HSz4_0⟩ := HI0.1; have Z4_0 := cellS80_0 HGz4; have Z4_1 := cellS80_1 HGz4; have Z4_2 := cellS80_2 HGz4; have F4_1 := blk_frozen HGz4 1; have F4_2 := blk_frozen HGz4 2; clear HGz4 hgz4; have p104 : 0 ≤ (s0_1 : Int) := od_; have q104 : s0_1 < (s0_0.length : Int) := od_; obtain ⟨ad104, e104, hx104_0⟩ := Kd.at_int HSz4_0 s0_1 p104 q104
  cases e104
  have hn104_0 := hq_ hx104_0 (IsS80.ge HI0.1); replace hx104_0 := cf1_ hn104_0 2 (.int .i64 (wrap64 ((wrap64 (s0_2 * 6364136223846793005)) + 1442695040888963407))) (pw_cell_below HB.1 hx104_0)
  (try have hy104_0 := fun (n_ : Nat) => (cdk1_ n_ hx104_0))
  clear hn104_0; replace p104 := eq_true p104; replace q104 := eq_true q104
  go_enter Try.func69, Try.ntmps69
  go_wp2
  repeat (go_quiet (fail); try go_wp2)
  go_ret
  exact ⟨re_, hi1_ HI0, hj1_ HB, hk_ HK⟩
 ·rw [if_neg c2] at H; have c2b0 := df_ c2; clear c2; obtain ⟨rfl, rfl, rfl⟩ := i3_ H; obtain ⟨ASz5_0, cSz5_0, HGz5, hgz5, HSz5_0⟩ := HI0.1; have Z5_0 := cellS80_0 HGz5; have Z5_1 := cellS80_1 HGz5; have Z5_2 := cellS80_2 HGz5; have F5_1 := blk_frozen HGz5 1; have F5_2 := blk_frozen HGz5 2; clear HGz5 hgz5
  go_enter Try.func69, Try.ntmps69
  go_wp2
  repeat (go_quiet (fail); try go_wp2)
  go_ret
  exact ⟨re_, hi1_ HI0, hj1_ HB, hk_ HK⟩
def spec_l1Below.f (s0_0 : List Int) (s0_1 : Int) (s0_2 : Int) (a1 : Int) : Option (Int × Int × Int) := if a1 ≤ 0 then (some (0, s0_1, s0_2)) else (if a1 ≤ 256 then ((spec_l1Byte.f s0_0 s0_1 s0_2).bind fun bt105 => (if a1 = 0 then (none) else (some (Int.tmod bt105.1 a1, bt105.2.1, bt105.2.2)))) else ((spec_l1Byte.f s0_0 s0_1 s0_2).bind fun bt108 => ((spec_l1Byte.f s0_0 bt108.2.1 bt108.2.2).bind fun bt111 => ((spec_l1Byte.f s0_0 bt111.2.1 bt111.2.2).bind fun bt114 => ((spec_l1Byte.f s0_0 bt114.2.1 bt114.2.2).bind fun bt117 => (if a1 = 0 then (none) else (some (Int.tmod (wrap64 ((wrap64 ((wrap64 ((wrap64 (bt108.1 * 16777216)) + (wrap64 (bt111.1 * 65536)))) + (wrap64 (bt114.1 * 256)))) + bt117.1)) a1, bt117.2.1, bt117.2.2))))))))
theorem spec_l1Below.calls {s0_0 : List Int} {s0_1 s0_2 a1 r1 r2 r3 : Int} {w : World} (g : Nat) (w0 : World) (h : spec_l1Below.f s0_0 s0_1 s0_2 a1 = some (r1, r2, r3)) (hI : IsS80 w0 w g s0_0 s0_1 s0_2 := by exact si1_) (hB : Below w0.heap.size w0 w := by exact bw_) :
  Calls Try.prog 45 #[.pointer (some ⟨g, 0, none⟩), .int .i64 a1] w fun e w' => e = .returned (.int .i64 r1) ∧ IsS80 w0 w' g s0_0 r2 r3 ∧ Below w0.heap.size w0 w' ∧ KeepBut w w' g none := by
 have HI0 := am_ hI; have HK := am_ (KeepBut.refl w g none); have HL := am_ hB.size; clear hI; have HW0 := am_ hB.size; have HB := am_ hB; clear hB; unfold spec_l1Below.f at h; have H := h; clear h; by_cases c3 : a1 ≤ 0
 ·rw [if_pos c3] at H; have c3b0 := dq_ c3; clear c3; obtain ⟨rfl, rfl, rfl⟩ := i3_ H
  go_enter Try.func45, Try.ntmps45
  go_wp2
  go_ret
  exact ⟨re_, hi1_ HI0, hj1_ HB, hk_ HK⟩
 ·rw [if_neg c3] at H; have c3b0 := df_ c3; clear c3; by_cases c4 : a1 ≤ 256
  ·rw [if_pos c4] at H; have c4b0 := dq_ c4; clear c4; replace H := bnd_ H; obtain ⟨⟨t105, t106, t107⟩, A5, H⟩ := H; by_cases c6 : a1 = 0
   ·rw [if_pos c6] at H; exact absurd H (by simp)
   ·rw [if_neg c6] at H; have ⟨c6b0, c6b1⟩ := bq6_ c6; obtain ⟨rfl, rfl, rfl⟩ := i3_ H
    go_enter Try.func45, Try.ntmps45
    go_wp2_with (refine gc_ 14 Try.func69 ?_; refine ch1_ (spec_l1Byte.calls g w0 A5.1) ?_; rintro w7 ⟨hi, hb, hk⟩; replace HK := kt_ HK hk; replace HB := am_ hb; replace HI0 := am_ hi; clear hb hk hi)
    go_ret
    exact ⟨re_, hi1_ HI0, hj1_ HB, hk_ HK⟩
  ·rw [if_neg c4] at H; have c4b0 := df_ c4; clear c4; replace H := bnd_ H; obtain ⟨⟨t108, t109, t110⟩, A8, H⟩ := H; replace H := bnd_ H; obtain ⟨⟨t111, t112, t113⟩, A9, H⟩ := H; replace H := bnd_ H; obtain ⟨⟨t114, t115, t116⟩, A10, H⟩ := H; replace H := bnd_ H; obtain ⟨⟨t117, t118, t119⟩, A11, H⟩ := H; by_cases c12 : a1 = 0
   ·rw [if_pos c12] at H; exact absurd H (by simp)
   ·rw [if_neg c12] at H; have ⟨c12b0, c12b1⟩ := bq6_ c12; obtain ⟨rfl, rfl, rfl⟩ := i3_ H
    go_enter Try.func45, Try.ntmps45
    go_wp2_with (first | (refine gc_ 18 Try.func69 ?_; refine ch1_ (spec_l1Byte.calls g w0 A8.1) ?_; rintro w13 ⟨hi, hb, hk⟩; replace HK := kt_ HK hk; replace HB := am_ hb; replace HI0 := am_ hi; clear hb hk hi) | (refine gc_ 20 Try.func69 ?_; refine ch1_ (spec_l1Byte.calls g w0 A9.1) ?_; rintro w14 ⟨hi, hb, hk⟩; replace HK := kt_ HK hk; replace HB := am_ hb; replace HI0 := am_ hi; clear hb hk hi) | (refine gc_ 22 Try.func69 ?_; refine ch1_ (spec_l1Byte.calls g w0 A10.1) ?_; rintro w15 ⟨hi, hb, hk⟩; replace HK := kt_ HK hk; replace HB := am_ hb; replace HI0 := am_ hi; clear hb hk hi) | (refine gc_ 24 Try.func69 ?_; refine ch1_ (spec_l1Byte.calls g w0 A11.1) ?_; rintro w16 ⟨hi, hb, hk⟩; replace HK := kt_ HK hk; replace HB := am_ hb; replace HI0 := am_ hi; clear hb hk hi))
    go_ret
    exact ⟨re_, hi1_ HI0, hj1_ HB, hk_ HK⟩
def spec_l1Once.f (s0_0 : List Int) (s0_1 : Int) (s0_2 : Int) (a1 : Int) : Option (Bool × Int × Int) := (spec_l1Below.f s0_0 s0_1 s0_2 a1).bind fun bt120 => (some ((bt120.1 == 0), bt120.2.1, bt120.2.2))
theorem spec_l1Once.calls {s0_0 : List Int} {s0_1 s0_2 a1 : Int} {r1 : Bool} {r2 r3 : Int} {w : World} (g : Nat) (w0 : World) (h : spec_l1Once.f s0_0 s0_1 s0_2 a1 = some (r1, r2, r3)) (hI : IsS80 w0 w g s0_0 s0_1 s0_2 := by exact si1_) (hB : Below w0.heap.size w0 w := by exact bw_) :
  Calls Try.prog 30 #[.pointer (some ⟨g, 0, none⟩), .int .i64 a1] w fun e w' => e = .returned (.bool r1) ∧ IsS80 w0 w' g s0_0 r2 r3 ∧ Below w0.heap.size w0 w' ∧ KeepBut w w' g none := by
 have HI0 := am_ hI; have HK := am_ (KeepBut.refl w g none); have HL := am_ hB.size; clear hI; have HW0 := am_ hB.size; have HB := am_ hB; clear hB; unfold spec_l1Once.f at h; have H := h; clear h; replace H := bnd_ H; obtain ⟨⟨t120, t121, t122⟩, A3, H⟩ := H; obtain ⟨rfl, rfl, rfl⟩ := i3_ H
 go_enter Try.func30, Try.ntmps30
 go_wp2_with (refine gc_ 7 Try.func45 ?_; refine ch1_ (spec_l1Below.calls g w0 A3.1) ?_; rintro w4 ⟨hi, hb, hk⟩; replace HK := kt_ HK hk; replace HB := am_ hb; replace HI0 := am_ hi; clear hb hk hi)
 go_ret
 exact ⟨re_, hi1_ HI0, hj1_ HB, hk_ HK⟩
mutual
def spec_l1Text.l0 : Nat → List Int → Int → Int → List Int → Int → Int → Option (ByteArray × Int × Int)
 | 0, _, _, _, _, _, _ => none
 | k + 1, x5, x6, x7, x1000, x1001, x1002 => if x7 > 0 then ((spec_l1Byte.f x1000 x1001 x1002).bind fun bt132 => (if x6 = 1 then (spec_l1Text.j1 k x5 x6 x7 (Int.tmod bt132.1 2) x1000 bt132.2.1 bt132.2.2) else (spec_l1Text.j1 k x5 x6 x7 bt132.1 x1000 bt132.2.1 bt132.2.2))) else (some (strOfNums x5, x1001, x1002))
def spec_l1Text.j1 : Nat → List Int → Int → Int → Int → List Int → Int → Int → Option (ByteArray × Int × Int)
 | 0, _, _, _, _, _, _, _ => none
 | k + 1, x5, x6, x7, x8, x1000, x1001, x1002 => if x6 = 2 then (if x5.length < 140737488355328 then (spec_l1Text.l0 k (x5 ++ [(wrap64 (97 + (Int.tmod x8 4))) % 256]) x6 (wrap64 (x7 - 1)) x1000 x1001 x1002) else (none)) else (if x5.length < 140737488355328 then (spec_l1Text.l0 k (x5 ++ [(x8) % 256]) x6 (wrap64 (x7 - 1)) x1000 x1001 x1002) else (none))
end
def spec_l1Text.f (k : Nat) (s0_0 : List Int) (s0_1 : Int) (s0_2 : Int) (a1 : Int) : Option (ByteArray × Int × Int) := (spec_l1Below.f s0_0 s0_1 s0_2 4).bind fun bt126 => ((spec_l1Below.f s0_0 bt126.2.1 bt126.2.2 (wrap64 (a1 + 1))).bind fun bt129 => (spec_l1Text.l0 k (([] : List Int)) bt126.1 bt129.1 s0_0 bt129.2.1 bt129.2.2))
theorem spec_l1Text.calls {k : Nat} {s0_0 : List Int} {s0_1 s0_2 a1 : Int} {r1 : ByteArray} {r2 r3 : Int} {w : World} (g : Nat) (w0 : World) (h : spec_l1Text.f k s0_0 s0_1 s0_2 a1 = some (r1, r2, r3)) (hI : IsS80 w0 w g s0_0 s0_1 s0_2 := by exact si1_) (hB : Below w0.heap.size w0 w := by exact bw_) :
  Calls Try.prog 52 #[.pointer (some ⟨g, 0, none⟩), .int .i64 a1] w fun e w' => e = .returned (.string r1) ∧ IsS80 w0 w' g s0_0 r2 r3 ∧ Below w0.heap.size w0 w' ∧ KeepBut w w' g none := by
 have HI0 := am_ hI; have HK := am_ (KeepBut.refl w g none); have HL := am_ hB.size; clear hI; have HW0 := am_ hB.size; have HB := am_ hB; clear hB; unfold spec_l1Text.f at h; have H := h; clear h; obtain ⟨y123, hy123⟩ : ∃ y_ : List Int, y_ = (([] : List Int)) := ⟨_, rfl⟩
 replace H : ((spec_l1Below.f s0_0 s0_1 s0_2 4).bind fun bt126 => ((spec_l1Below.f s0_0 bt126.2.1 bt126.2.2 (wrap64 (a1 + 1))).bind fun bt129 => (spec_l1Text.l0 k y123 bt126.1 bt129.1 s0_0 bt129.2.1 bt129.2.2))) = some (r1, r2, r3) := by first | (rw [hy123]; with_reducible exact H) | (have H2_ := (Option.bind_some _ _).symm.trans H; rw [hy123]; with_reducible exact H2_) | (have H2_ := (Option.bind_some _ _).symm.trans H; with_reducible exact H2_) | with_reducible exact H | (rw [hy123]; exact H) | exact H
 have Ny123 := am_ hy123; clear hy123; replace H := bnd_ H; obtain ⟨⟨t126, t127, t128⟩, A3, H⟩ := H; replace H := bnd_ H; obtain ⟨⟨t129, t130, t131⟩, A4, H⟩ := H; have H' := am_ H; clear H
 go_enter Try.func52, Try.ntmps52
 go_wp2_with (first | (refine gd_ 9 ?_; refine li_ 9 (Kd.int .u8) 5 ([] : List Int) [] ?_; intro v124 w5 ho6 hb hg_ hnew_; clear hg_ hnew_; (first | rw [← Ny123.1] at ho6 | (simp only [Int.reduceToNat] at ho6; rw [← Ny123.1] at ho6)); have HO125 := rl_ ho6 HK; replace HK := ku_ HK hb; replace HB := bx_ HB hb; replace HI0 := am_ (IsS80.below (hi1_ HI0) hb); clear hb ho6) | (refine gc_ 11 Try.func45 ?_; refine ch1_ (spec_l1Below.calls g w0 A3.1) ?_; rintro w7 ⟨hi, hb, hk⟩; replace HO125 := ro1_ HI0 HO125 hk; replace HK := kt_ HK hk; replace HB := am_ hb; replace HI0 := am_ hi; clear hb hk hi) | (refine gc_ 15 Try.func45 ?_; refine ch1_ (spec_l1Below.calls g w0 A4.1) ?_; rintro w8 ⟨hi, hb, hk⟩; replace HO125 := ro1_ HI0 HO125 hk; replace HK := kt_ HK hk; replace HB := am_ hb; replace HI0 := am_ hi; clear hb hk hi))
 go_loopg [5, 7] k (fun kq v5 v7 w' => ∃ (x5_1 : List Int) (x7_1 : Int) (x1001_1 : Int) (x1002_1 : Int), v7 = .int .i64 x7_1 ∧ Aside0 (spec_l1Text.l0 kq x5_1 t126 x7_1 s0_0 x1001_1 x1002_1 = some (r1, r2, r3)) ∧ Aside0 (kq ≤ k) ∧ Aside0 (Kd.R (Kd.int .u8) 5 w' w.heap.size (fun _ => True) v5 x5_1) ∧ Aside0 (IsS80 w0 w' g s0_0 x1001_1 x1002_1) ∧ Aside0 (KeepBut w w' g none) ∧ Aside0 (Below w0.heap.size w0 w'))
 case atStart => exact ⟨_, _, _, _, rs_, H', ⟨Nat.le_refl _⟩, ⟨rr_ HO125⟩, ⟨hi1_ HI0⟩, ⟨hk_ HK⟩, ⟨hj1_ HB⟩⟩
 case round =>
  clear H'; obtain ⟨x5_1, x7_1, x1001_1, x1002_1, rfl, HA, HK1, HO_5, HI0, HK, HB⟩ := hrel
  cases gk with
  | zero => exact zz_ HA
  | succ k1 =>
   have H := HA.1; clear HA; simp only [spec_l1Text.l0] at H; by_cases c9 : x7_1 > 0
   ·rw [if_pos c9] at H; have c9b0 := dq_ c9; clear c9; replace H := bnd_ H; obtain ⟨⟨t132, t133, t134⟩, A10, H⟩ := H; have HC11 := am_ H; clear H
    go_upto_if 23 with ((with_reducible refine gc0_ 69 ?_); refine gc_ 21 Try.func69 ?_; refine ch1_ (spec_l1Byte.calls g w0 A10.1) ?_; rintro w12 ⟨hi, hb, hk⟩; replace HO_5 := ro1_ HI0 HO_5 hk; replace HK := kt_ HK hk; replace HB := am_ hb; replace HI0 := am_ hi; clear hb hk hi)
    (try simp only [Act.put, la_, lz_, ls_])
    go_cut [8] (fun v8 wc => ∃ (kq : Nat) (x8_10 : Int), v8 = .int .i64 x8_10 ∧ Aside0 (spec_l1Text.j1 kq x5_1 t126 x7_1 x8_10 s0_0 t133 t134 = some (r1, r2, r3)) ∧ Aside0 (kq ≤ k1) ∧ Aside0 (Kd.R (Kd.int .u8) 5 wc w.heap.size (fun _ => True) u5 x5_1) ∧ Aside0 (IsS80 w0 wc g s0_0 t133 t134) ∧ Aside0 (KeepBut w wc g none) ∧ Aside0 (Below w0.heap.size w0 wc))
    case first =>
     have H := HC11.1; clear HC11; by_cases c13 : t126 = 1
     ·rw [if_pos c13] at H; have ⟨c13b0, c13b1⟩ := bq5_ c13; clear c13
      (first | rw [c13b0] | (simp only [i64_w, i32_w]; rw [c13b0]) | skip)
      have H' := am_ H; clear H
      go_wp2
      go_meet
      case rel => exact ⟨_, _, rs_, H', ⟨m1_ HK1⟩, ⟨rr_ HO_5⟩, ⟨hi1_ HI0⟩, ⟨hk_ HK⟩, ⟨hj1_ HB⟩⟩
     ·rw [if_neg c13] at H; have ⟨c13b0, c13b1⟩ := bq6_ c13
      (first | rw [c13b0] | (simp only [i64_w, i32_w]; rw [c13b0]) | skip)
      have H' := am_ H; clear H
      go_wp2
      go_meet
      case rel => exact ⟨_, _, rs_, H', ⟨m1_ HK1⟩, ⟨rr_ HO_5⟩, ⟨hi1_ HI0⟩, ⟨hk_ HK⟩, ⟨hj1_ HB⟩⟩
    case rest =>
     clear HC11
     (try clear c9); (try clear c9b0); (try clear c13); (try clear c13b0); (try clear c13b1)
     obtain ⟨kq, x8_10, rfl, HA, HJ10, HO_5, HI0, HK, HB⟩ := hcut
     cases kq with
     | zero => exact zz_ HA
     | succ kj10 =>
      have H := HA.1; clear HA; simp only [spec_l1Text.j1] at H; by_cases c14 : t126 = 2
      ·rw [if_pos c14] at H; have ⟨c14b0, c14b1⟩ := bq5_ c14; clear c14; replace H := il_ H; obtain ⟨LMc15, H⟩ := H; obtain ⟨y135, hy135⟩ : ∃ y_ : List Int, y_ = (x5_1 ++ [(wrap64 (97 + (Int.tmod x8_10 4))) % 256]) := ⟨_, rfl⟩
       rw [← hy135] at H; have Ny135 := am_ hy135; clear hy135; have H' := am_ H; clear H
       go_wp2_with (at_builtin; refine gb_ #[.tmp 31, .tmp 34] ?_; refine Kd.R_append (Kd.int .u8) w.heap.size rfl (.tmp 31) (.tmp 34) 22 5 (.int .u8 0) 1 rfl Try.underlying22 info5 rfl (by decide) (by omega) u5 x5_1 ((wrap64 (97 + (Int.tmod x8_10 4))) % 256) [.int .u8 ((wrap64 (97 + (Int.tmod x8_10 4))) % 256)] (fun _ => True) (fun _ => False) rfl rfl ?aP (fun _ hk => hk.elim) ?aF ?aO (Below.refl _ _) ?aS ?aL ?_; (case aP => exact rfl); (case aF => exact (fun _ _ => trivial)); (case aO => exact (rr_ HO_5)); (case aS => exact (keep_size (w := w) (g := g) (row := none) (hk_ HK))); (case aL => have := LMc15.1; omega); intro v136 w16 ho hb hg hat; rw [← Ny135.1] at ho; replace HB := am_ (below_weaken (hj1_ HB) HL.1 hb); replace HI0 := am_ (IsS80.grown (hi1_ HI0) hg (IsS80.own_ne HI0.1 HO_5.1 (by decide))); replace HK := kg_ HK hg (Kd.R_base2 HO_5.1); have HO137 := am_ ho; clear HO_5; clear ho hb hg hat)
       go_roundg kj10
       case measure => exact m2_ HK1 HJ10
       case rel => exact ⟨_, _, _, _, rs_, H', ⟨m2_ HK1 HJ10⟩, ⟨rr_ HO137⟩, ⟨hi1_ HI0⟩, ⟨hk_ HK⟩, ⟨hj1_ HB⟩⟩
      ·rw [if_neg c14] at H; have ⟨c14b0, c14b1⟩ := bq6_ c14; replace H := il_ H; obtain ⟨LMc17, H⟩ := H; obtain ⟨y138, hy138⟩ : ∃ y_ : List Int, y_ = (x5_1 ++ [(x8_10) % 256]) := ⟨_, rfl⟩
       rw [← hy138] at H; have Ny138 := am_ hy138; clear hy138; have H' := am_ H; clear H
       go_wp2_with (at_builtin; refine gb_ #[.tmp 31, .tmp 34] ?_; refine Kd.R_append (Kd.int .u8) w.heap.size rfl (.tmp 31) (.tmp 34) 22 5 (.int .u8 0) 1 rfl Try.underlying22 info5 rfl (by decide) (by omega) u5 x5_1 ((x8_10) % 256) [.int .u8 ((x8_10) % 256)] (fun _ => True) (fun _ => False) rfl rfl ?aP (fun _ hk => hk.elim) ?aF ?aO (Below.refl _ _) ?aS ?aL ?_; (case aP => exact rfl); (case aF => exact (fun _ _ => trivial)); (case aO => exact (rr_ HO_5)); (case aS => exact (keep_size (w := w) (g := g) (row := none) (hk_ HK))); (case aL => have := LMc17.1; omega); intro v139 w18 ho hb hg hat; rw [← Ny138.1] at ho; replace HB := am_ (below_weaken (hj1_ HB) HL.1 hb); replace HI0 := am_ (IsS80.grown (hi1_ HI0) hg (IsS80.own_ne HI0.1 HO_5.1 (by decide))); replace HK := kg_ HK hg (Kd.R_base2 HO_5.1); have HO140 := am_ ho; clear HO_5; clear ho hb hg hat)
       go_roundg kj10
       case measure => exact m2_ HK1 HJ10
       case rel => exact ⟨_, _, _, _, rs_, H', ⟨m2_ HK1 HJ10⟩, ⟨rr_ HO140⟩, ⟨hi1_ HI0⟩, ⟨hk_ HK⟩, ⟨hj1_ HB⟩⟩
   ·rw [if_neg c9] at H; have c9b0 := df_ c9; clear c9; obtain ⟨rfl, rfl, rfl⟩ := i3_ H; have hcv19 := own_string (P := Try.prog) Try.underlying22 Try.underlying5 Try.underlying9 (Kd.own_of_R HO_5.1)
    go_wp2
    go_ret
    exact ⟨re_, hi1_ HI0, hj1_ HB, hk_ HK⟩
def spec_l1In.f (a0 : Int) (a1 : Int) (a2 : Int) : Option (Bool) := if a0 ≥ a1 then (some (decide (a0 ≤ a2))) else (some false)
theorem spec_l1In.calls {a0 a1 a2 : Int} {r : Bool} {w : World} (h : spec_l1In.f a0 a1 a2 = some r) :
  Calls Try.prog 50 #[.int .i64 a0, .int .i64 a1, .int .i64 a2] w fun e w' => e = .returned (.bool r) ∧ Drawn0 w w' := by
 unfold spec_l1In.f at h; have H := h; clear h; by_cases c4 : a0 ≥ a1
 ·rw [if_pos c4] at H; have c4b0 := dq_ c4; clear c4; obtain rfl := in_ H
  go_enter Try.func50, Try.ntmps50
  go_wp2
  go_ret
  exact ⟨by first | rfl | (simp; done) | (simp [*]; done), by repeat (first | exact Drawn0.refl _ | apply Drawn0.step)⟩
 ·rw [if_neg c4] at H; have c4b0 := df_ c4; clear c4; obtain rfl := in_ H
  go_enter Try.func50, Try.ntmps50
  go_wp2
  go_ret
  exact ⟨by first | rfl | (simp; done) | (simp [*]; done), by repeat (first | exact Drawn0.refl _ | apply Drawn0.step)⟩
def spec_Var.l0 : Nat → Int → List Int → Option (ByteArray)
 | 0, _, _ => none
 | k + 1, x0, x3 => if x0 ≥ 128 then (if x3.length < 140737488355328 then (spec_Var.l0 k (wrap64 (Int.tdiv x0 128)) (x3 ++ [(wrap64 (128 + (Int.tmod x0 128))) % 256])) else (none)) else (if x3.length < 140737488355328 then (some (strOfNums (x3 ++ [(x0) % 256]))) else (none))
def spec_Var.f (k : Nat) (a0 : Int) : Option (ByteArray) := (spec_l1In.f a0 0 562949953421311).bind fun t141 => (if t141 = true then (spec_Var.l0 k a0 (([] : List Int))) else (some (⟨#[]⟩ : ByteArray)))
theorem spec_Var.calls {k : Nat} {a0 : Int} {r : ByteArray} {w : World} (h : spec_Var.f k a0 = some r) :
  Calls Try.prog 26 #[.int .i64 a0] w fun e w' => e = .returned (.string r) ∧ Below w.heap.size w w' := by
 have HB := am_ (Below.refl w.heap.size w); unfold spec_Var.f at h; have H := h; clear h; replace H := bnd_ H; obtain ⟨t141, A2, H⟩ := H; by_cases c3 : t141 = true
 ·subst c3; rw [if_pos rfl] at H; obtain ⟨y142, hy142⟩ : ∃ y_ : List Int, y_ = (([] : List Int)) := ⟨_, rfl⟩
  replace H : (spec_Var.l0 k a0 y142) = some r := by first | (rw [hy142]; with_reducible exact H) | (have H2_ := (Option.bind_some _ _).symm.trans H; rw [hy142]; with_reducible exact H2_) | (have H2_ := (Option.bind_some _ _).symm.trans H; with_reducible exact H2_) | with_reducible exact H | (rw [hy142]; exact H) | exact H
  have Ny142 := am_ hy142; clear hy142; have H' := am_ H; clear H
  go_enter Try.func26, Try.ntmps26
  go_wp2_with (first | (refine gc_ 5 Try.func50 ?_; refine ch1_ (spec_l1In.calls A2.1) ?_; rintro w' ⟨nd, rfl⟩) | (refine gd_ 7 ?_; refine li_ 7 (Kd.int .u8) 5 ([] : List Int) [] ?_; intro v143 w4 ho5 hb hg_ hnew_; clear hg_ hnew_; (first | rw [← Ny142.1] at ho5 | (simp only [Int.reduceToNat] at ho5; rw [← Ny142.1] at ho5)); have HO144 := rm_ ho5 HB; replace HB := bx_ HB hb; clear hb ho5))
  go_loopg [0, 3] k (fun kq v0 v3 w' => ∃ (x0_1 : Int) (x3_1 : List Int), v0 = .int .i64 x0_1 ∧ Aside0 (spec_Var.l0 kq x0_1 x3_1 = some r) ∧ Aside0 (kq ≤ k) ∧ Aside0 (Kd.R (Kd.int .u8) 5 w' w.heap.size (fun _ => True) v3 x3_1) ∧ Aside0 (Below w.heap.size w w'))
  case atStart => exact ⟨_, _, rs_, H', ⟨Nat.le_refl _⟩, ⟨rr_ HO144⟩, ⟨hb_ HB⟩⟩
  case round =>
   clear H'
   (try clear c3)
   obtain ⟨x0_1, x3_1, rfl, HA, HK1, HO_3, HB⟩ := hrel
   cases gk with
   | zero => exact zz_ HA
   | succ k1 =>
    have H := HA.1; clear HA; simp only [spec_Var.l0] at H; by_cases c6 : x0_1 ≥ 128
    ·rw [if_pos c6] at H; have c6b0 := dq_ c6; clear c6; replace H := il_ H; obtain ⟨LMc7, H⟩ := H; obtain ⟨y145, hy145⟩ : ∃ y_ : List Int, y_ = (x3_1 ++ [(wrap64 (128 + (Int.tmod x0_1 128))) % 256]) := ⟨_, rfl⟩
     rw [← hy145] at H; have Ny145 := am_ hy145; clear hy145; have H' := am_ H; clear H
     go_wp2_with (at_builtin; refine gb_ #[.tmp 10, .tmp 15] ?_; refine Kd.R_append (Kd.int .u8) (w0 := w) w.heap.size rfl (.tmp 10) (.tmp 15) 22 5 (.int .u8 0) 1 rfl Try.underlying22 info5 rfl (by decide) (by omega) u3 x3_1 ((wrap64 (128 + (Int.tmod x0_1 128))) % 256) [.int .u8 ((wrap64 (128 + (Int.tmod x0_1 128))) % 256)] (fun _ => True) (fun _ => False) rfl rfl ?aP (fun _ hk => hk.elim) ?aF ?aO ?aB ?aS ?aL ?_; (case aP => exact rfl); (case aB => exact (hb_ HB)); (case aF => exact (fun _ _ => trivial)); (case aO => exact (rr_ HO_3)); (case aS => exact (below_size (hb_ HB))); (case aL => have := LMc7.1; omega); intro v146 w8 ho hb hg hat; rw [← Ny145.1] at ho; replace HB := am_ hb; have HO147 := am_ ho; clear HO_3; clear ho hb hg hat)
     go_roundg k1
     case measure => exact m1_ HK1
     case rel => exact ⟨_, _, rs_, H', ⟨m1_ HK1⟩, ⟨rr_ HO147⟩, ⟨hb_ HB⟩⟩
    ·rw [if_neg c6] at H; have c6b0 := df_ c6; clear c6; replace H := il_ H; obtain ⟨LMc9, H⟩ := H; obtain ⟨y148, hy148⟩ : ∃ y_ : List Int, y_ = (x3_1 ++ [(x0_1) % 256]) := ⟨_, rfl⟩
     rw [← hy148] at H; have Ny148 := am_ hy148; clear hy148; obtain rfl := in_ H
     go_wp2_with (at_builtin; refine gb_ #[.tmp 19, .tmp 22] ?_; refine Kd.R_append (Kd.int .u8) (w0 := w) w.heap.size rfl (.tmp 19) (.tmp 22) 22 5 (.int .u8 0) 1 rfl Try.underlying22 info5 rfl (by decide) (by omega) u3 x3_1 ((x0_1) % 256) [.int .u8 ((x0_1) % 256)] (fun _ => True) (fun _ => False) rfl rfl ?aP (fun _ hk => hk.elim) ?aF ?aO ?aB ?aS ?aL ?_; (case aP => exact rfl); (case aB => exact (hb_ HB)); (case aF => exact (fun _ _ => trivial)); (case aO => exact (rr_ HO_3)); (case aS => exact (below_size (hb_ HB))); (case aL => have := LMc9.1; omega); intro v149 w10 ho hb hg hat; rw [← Ny148.1] at ho; replace HB := am_ hb; have HO150 := am_ ho; clear HO_3; clear ho hb hg hat; have hcv11 := own_string (P := Try.prog) Try.underlying22 Try.underlying5 Try.underlying9 (Kd.own_of_R HO150.1))
     go_ret
     exact ⟨re_, hb_ HB⟩
 ·replace c3 := bF_ c3; subst c3; rw [if_neg ff_] at H; obtain rfl := in_ H
  go_enter Try.func26, Try.ntmps26
  go_wp2_with (refine gc_ 5 Try.func50 ?_; refine ch1_ (spec_l1In.calls A2.1) ?_; rintro w' ⟨nd, rfl⟩)
  go_ret
  exact ⟨re_, hb_ HB⟩
mutual
def spec_Fixed.j0 : Nat → Int → Int → Bool → Option (ByteArray)
 | 0, _, _, _ => none
 | k + 1, x0, x1, x13 => if x13 = true then (some (⟨#[]⟩ : ByteArray)) else (spec_Fixed.l0 k x0 x1 (⟨#[]⟩ : ByteArray) 0)
def spec_Fixed.l0 : Nat → Int → Int → ByteArray → Int → Option (ByteArray)
 | 0, _, _, _, _ => none
 | k + 1, x0, x1, x5, x6 => if x6 < x1 then ((some (([(Int.tmod x0 256) % 256] : List Int) : List Int)).bind fun y152 => (if (strOfNums y152).size + x5.size ≤ 9223372036854775807 then (spec_Fixed.l0 k (wrap64 (Int.tdiv x0 256)) x1 ((strOfNums y152) ++ x5) (wrap64 (x6 + 1))) else (none))) else (if x0 > 0 then (some (⟨#[]⟩ : ByteArray)) else (some x5))
end
def spec_Fixed.f (k : Nat) (a0 : Int) (a1 : Int) : Option (ByteArray) := (spec_l1In.f a1 1 7).bind fun t151 => (if t151 = true then (spec_Fixed.j0 k a0 a1 (decide (a0 < 0))) else (spec_Fixed.j0 k a0 a1 true))
theorem spec_Fixed.calls {k : Nat} {a0 a1 : Int} {r : ByteArray} {w : World} (h : spec_Fixed.f k a0 a1 = some r) :
  Calls Try.prog 27 #[.int .i64 a0, .int .i64 a1] w fun e w' => e = .returned (.string r) ∧ Below w.heap.size w w' := by
 have HB := am_ (Below.refl w.heap.size w); unfold spec_Fixed.f at h; have H := h; clear h; have HC3 := am_ H; clear H
 go_enter Try.func27, Try.ntmps27
 go_upto_region 1 with (fail)
 go_cut [13] (fun v13 wc => ∃ (kq : Nat) (x13_2 : Bool), v13 = .bool x13_2 ∧ Aside0 (spec_Fixed.j0 kq a0 a1 x13_2 = some r) ∧ Aside0 (kq ≤ k) ∧ Aside0 (Below w.heap.size w wc))
 case first =>
  have H := HC3.1; clear HC3; replace H := bnd_ H; obtain ⟨t151, A4, H⟩ := H; by_cases c5 : t151 = true
  ·subst c5; rw [if_pos rfl] at H; have H' := am_ H; clear H
   go_wp2_with (refine gc_ 8 Try.func50 ?_; refine ch1_ (spec_l1In.calls A4.1) ?_; rintro w' ⟨nd, rfl⟩)
   go_meet
   case rel => exact ⟨_, _, rs_, H', ⟨m0_⟩, ⟨hb_ HB⟩⟩
  ·replace c5 := bF_ c5; subst c5; rw [if_neg ff_] at H; have H' := am_ H; clear H
   go_wp2_with (refine gc_ 8 Try.func50 ?_; refine ch1_ (spec_l1In.calls A4.1) ?_; rintro w' ⟨nd, rfl⟩)
   go_meet
   case rel => exact ⟨_, _, rs_, H', ⟨m0_⟩, ⟨hb_ HB⟩⟩
 case rest =>
  clear HC3
  (try clear c5)
  obtain ⟨kq, x13_2, rfl, HA, HJ2, HB⟩ := hcut
  cases kq with
  | zero => exact zz_ HA
  | succ kj2 =>
   have H := HA.1; clear HA; simp only [spec_Fixed.j0] at H; by_cases c6 : x13_2 = true
   ·subst c6; rw [if_pos rfl] at H; obtain rfl := in_ H
    go_wp2
    go_ret
    exact ⟨re_, hb_ HB⟩
   ·replace c6 := bF_ c6; subst c6; rw [if_neg ff_] at H; have H' := am_ H; clear H
    go_wp2
    go_loopg [0, 5, 6] kj2 (fun kq v0 v5 v6 w' => ∃ (x0_2 : Int) (x5_2 : ByteArray) (x6_2 : Int), v0 = .int .i64 x0_2 ∧ v5 = .string x5_2 ∧ v6 = .int .i64 x6_2 ∧ Aside0 (spec_Fixed.l0 kq x0_2 a1 x5_2 x6_2 = some r) ∧ Aside0 (kq ≤ kj2) ∧ Aside0 (Below w.heap.size w w'))
    case atStart => exact ⟨_, _, _, rs_, rs_, rs_, H', ⟨Nat.le_refl _⟩, ⟨hb_ HB⟩⟩
    case round =>
     clear H'
     (try clear c5); (try clear c6)
     obtain ⟨x0_2, x5_2, x6_2, rfl, rfl, rfl, HA, HK2, HB⟩ := hrel
     cases gk with
     | zero => exact zz_ HA
     | succ k2 =>
      have H := HA.1; clear HA; simp only [spec_Fixed.l0] at H; by_cases c7 : x6_2 < a1
      ·rw [if_pos c7] at H; have c7b0 := dq_ c7; clear c7; obtain ⟨y152, hy152, H⟩ := ov_ H; have Ny152 := am_ hy152; clear hy152; replace H := ih_ H; obtain ⟨c8, H⟩ := H; have ⟨c8b0, c8b1, c8b2⟩ := dl_ c8
       have H' := am_ H; clear H
       go_wp2_with (refine gd_ 22 ?_; refine li_ 22 (Kd.int .u8) 5 ([(Int.tmod x0_2 256) % 256] : List Int) [.int .u8 ((Int.tmod x0_2 256) % 256)] ?_ (hp := (Reps.one (show Kd.M (Kd.int .u8) _ _ _ ((Int.tmod x0_2 256) % 256) [.int .u8 ((Int.tmod x0_2 256) % 256)] from rfl) (Reps.none _ _))); intro v153 w9 ho10 hb hg_ hnew_; clear hg_ hnew_; (first | rw [← Ny152.1] at ho10 | (simp only [Int.reduceToNat] at ho10; rw [← Ny152.1] at ho10)); have HO154 := rm_ ho10 HB; replace HB := bx_ HB hb; clear hb ho10; have hcv11 := own_string (P := Try.prog) Try.underlying22 Try.underlying5 Try.underlying9 (Kd.own_of_R HO154.1))
       go_roundg k2
       case measure => exact m2_ HJ2 HK2
       case rel => exact ⟨_, _, _, rs_, rs_, rs_, H', ⟨m2_ HJ2 HK2⟩, ⟨hb_ HB⟩⟩
      ·rw [if_neg c7] at H; have c7b0 := df_ c7; clear c7; by_cases c12 : x0_2 > 0
       ·rw [if_pos c12] at H; have c12b0 := dq_ c12; clear c12; obtain rfl := in_ H
        go_wp2
        go_ret
        exact ⟨re_, hb_ HB⟩
       ·rw [if_neg c12] at H; have c12b0 := df_ c12; clear c12; obtain rfl := in_ H
        go_wp2
        go_ret
        exact ⟨re_, hb_ HB⟩
mutual
def spec_Crc.l0 : Nat → ByteArray → Int → Int → Option (Int)
 | 0, _, _, _ => none
 | k + 1, x0, x3, x4 => if x4 < (x0.size : Int) then (if 0 ≤ x4 then (spec_Crc.l1 k x0 (Go.bits .xor .i64 x3 (wrap64 (bt x0 x4))) x4 0) else (none)) else (some (wrap64 (4294967295 - x3)))
def spec_Crc.l1 : Nat → ByteArray → Int → Int → Int → Option (Int)
 | 0, _, _, _, _ => none
 | k + 1, x0, x3, x4, x5 => if x5 < 8 then (if (Int.tmod x3 2) = 1 then (spec_Crc.l1 k x0 (Go.bits .xor .i64 (wrap64 (Int.tdiv x3 2)) 2197175160) x4 (wrap64 (x5 + 1))) else (spec_Crc.l1 k x0 (wrap64 (Int.tdiv x3 2)) x4 (wrap64 (x5 + 1)))) else (spec_Crc.l0 k x0 x3 (wrap64 (x4 + 1)))
end
def spec_Crc.f (k : Nat) (a0 : ByteArray) : Option (Int) := spec_Crc.l0 k a0 4294967295 0
theorem spec_Crc.calls {k : Nat} {a0 : ByteArray} {r : Int} {w : World} (h : spec_Crc.f k a0 = some r) :
  Calls Try.prog 28 #[.string a0] w fun e w' => e = .returned (.int .i64 r) ∧ Drawn0 w w' := by
 unfold spec_Crc.f at h; have H := h; clear h; have H' := am_ H; clear H
 go_enter Try.func28, Try.ntmps28
 go_wp2
 go_loopg [3, 4] k (fun kq v3 v4 w' => ∃ (x3_1 : Int) (x4_1 : Int), v3 = .int .i64 x3_1 ∧ v4 = .int .i64 x4_1 ∧ Aside0 (spec_Crc.l0 kq a0 x3_1 x4_1 = some r) ∧ Aside0 (kq ≤ k) ∧ Drawn0 w w')
 case atStart => exact ⟨_, _, rs_, rs_, H', ⟨Nat.le_refl _⟩, by repeat (first | exact Drawn0.refl _ | apply Drawn0.step)⟩
 case round =>
  clear H'; obtain ⟨x3_1, x4_1, rfl, rfl, HA, HK1, ⟨m1, rfl⟩⟩ := hrel
  cases gk with
  | zero => exact zz_ HA
  | succ k1 =>
   have H := HA.1; clear HA; simp only [spec_Crc.l0] at H; by_cases c2 : x4_1 < (a0.size : Int)
   ·rw [if_pos c2] at H; have c2b0 := dq_ c2; clear c2; replace H := ih_ H; obtain ⟨c3, H⟩ := H; have c3b0 := dq_ c3; clear c3; have H' := am_ H; clear H; have p4 : 0 ≤ (x4_1 : Int) := od_; have q4 : x4_1 < (a0.size : Int) := od_; have hx4 := bt_at a0 x4_1; replace p4 := eq_true p4; replace q4 := eq_true q4
    go_wp2
    go_loopg [3, 5] k1 (fun kq v3 v5 w' => ∃ (x3_2 : Int) (x5_2 : Int), v3 = .int .i64 x3_2 ∧ v5 = .int .i64 x5_2 ∧ Aside0 (spec_Crc.l1 kq a0 x3_2 x4_1 x5_2 = some r) ∧ Aside0 (kq ≤ k1) ∧ Drawn0 w w')
    case atStart => exact ⟨_, _, rs_, rs_, H', ⟨Nat.le_refl _⟩, by repeat (first | exact Drawn0.refl _ | apply Drawn0.step)⟩
    case round =>
     clear H'
     (try clear c2); (try clear c2b0); (try clear c3); (try clear c3b0); (try clear p4); (try clear q4); (try clear hx4)
     obtain ⟨x3_2, x5_2, rfl, rfl, HA, HK2, ⟨m2, rfl⟩⟩ := hrel
     cases gk with
     | zero => exact zz_ HA
     | succ k2 =>
      have H := HA.1; clear HA; simp only [spec_Crc.l1] at H; by_cases c5 : x5_2 < 8
      ·rw [if_pos c5] at H; have c5b0 := dq_ c5; clear c5; by_cases c6 : (Int.tmod x3_2 2) = 1
       ·rw [if_pos c6] at H; have ⟨c6b0, c6b1⟩ := bq5_ c6; clear c6; have H' := am_ H; clear H
        go_wp2
        go_roundg k2
        case measure => exact m2_ HK1 HK2
        case rel => exact ⟨_, _, rs_, rs_, H', ⟨m2_ HK1 HK2⟩, by repeat (first | exact Drawn0.refl _ | apply Drawn0.step)⟩
       ·rw [if_neg c6] at H; have ⟨c6b0, c6b1⟩ := bq6_ c6; have H' := am_ H; clear H
        go_wp2
        go_roundg k2
        case measure => exact m2_ HK1 HK2
        case rel => exact ⟨_, _, rs_, rs_, H', ⟨m2_ HK1 HK2⟩, by repeat (first | exact Drawn0.refl _ | apply Drawn0.step)⟩
      ·rw [if_neg c5] at H; have c5b0 := df_ c5; clear c5; have H' := am_ H; clear H
       go_wp2
       go_roundg k2
       case measure => exact m2_ HK1 HK2
       case rel => exact ⟨_, _, rs_, rs_, H', ⟨m2_ HK1 HK2⟩, by repeat (first | exact Drawn0.refl _ | apply Drawn0.step)⟩
   ·rw [if_neg c2] at H; have c2b0 := df_ c2; clear c2; obtain rfl := in_ H
    go_wp2
    go_ret
    exact ⟨by first | rfl | (simp; done) | (simp [*]; done), by repeat (first | exact Drawn0.refl _ | apply Drawn0.step)⟩
def spec_Frame.f (k : Nat) (a0 : ByteArray) : Option (ByteArray) := if (a0.size : Int) > 200 then (some (⟨#[]⟩ : ByteArray)) else ((spec_Var.f k (a0.size : Int)).bind fun t155 => (if t155.size + a0.size ≤ 9223372036854775807 then ((spec_Crc.f k (t155 ++ a0)).bind fun t156 => ((spec_Fixed.f k t156 4).bind fun t157 => (if t157.size + (t155 ++ a0).size ≤ 9223372036854775807 then (some (t157 ++ (t155 ++ a0))) else (none)))) else (none)))
theorem spec_Frame.calls {k : Nat} {a0 r : ByteArray} {w : World} (h : spec_Frame.f k a0 = some r) :
  Calls Try.prog 53 #[.string a0] w fun e w' => e = .returned (.string r) ∧ Below w.heap.size w w' := by
 have HB := am_ (Below.refl w.heap.size w); unfold spec_Frame.f at h; have H := h; clear h; by_cases c2 : (a0.size : Int) > 200
 ·rw [if_pos c2] at H; have c2b0 := dq_ c2; have c2b1 : decide (200 < a0.size) = true := decide_eq_true (by omega); clear c2; obtain rfl := in_ H
  go_enter Try.func53, Try.ntmps53
  go_wp2
  go_ret
  exact ⟨re_, hb_ HB⟩
 ·rw [if_neg c2] at H; have c2b0 := df_ c2; have c2b1 : decide (200 < a0.size) = false := decide_eq_false (by omega); clear c2; replace H := bnd_ H; obtain ⟨t155, A3, H⟩ := H; replace H := ih_ H; obtain ⟨c4, H⟩ := H; have ⟨c4b0, c4b1, c4b2⟩ := dl_ c4
  replace H := bnd_ H; obtain ⟨t156, A5, H⟩ := H; replace H := bnd_ H; obtain ⟨t157, A6, H⟩ := H; replace H := ih_ H; obtain ⟨c7, H⟩ := H; have ⟨c7b0, c7b1, c7b2⟩ := dl_ c7; (try have c7b3 := sp_ c7b2)
  obtain rfl := in_ H
  go_enter Try.func53, Try.ntmps53
  go_wp2_with (first | (refine gc_ 9 Try.func26 ?_; refine ch1_ (spec_Var.calls A3.1) ?_; intro w8 hb; replace HB := bx_ HB hb; clear hb) | (refine gc_ 13 Try.func28 ?_; refine ch1_ (spec_Crc.calls A5.1) ?_; rintro w' ⟨nd, rfl⟩) | (refine gc_ 14 Try.func27 ?_; refine ch1_ (spec_Fixed.calls A6.1) ?_; intro w9 hb; replace HB := bx_ HB hb; clear hb))
  go_ret
  exact ⟨re_, hb_ HB⟩
def spec_KeyOk.f (a0 : ByteArray) : Option (Bool) := (spec_l1In.f (a0.size : Int) 1 8).bind fun t158 => (some t158)
theorem spec_KeyOk.calls {a0 : ByteArray} {r : Bool} {w : World} (h : spec_KeyOk.f a0 = some r) :
  Calls Try.prog 73 #[.string a0] w fun e w' => e = .returned (.bool r) ∧ Drawn0 w w' := by
 unfold spec_KeyOk.f at h; have H := h; clear h; replace H := bnd_ H; obtain ⟨t158, A2, H⟩ := H; obtain rfl := in_ H
 go_enter Try.func73, Try.ntmps73
 go_wp2_with (refine gc_ 5 Try.func50 ?_; refine ch1_ (spec_l1In.calls A2.1) ?_; rintro w' ⟨nd, rfl⟩)
 go_ret
 exact ⟨by first | rfl | (simp; done) | (simp [*]; done), by repeat (first | exact Drawn0.refl _ | apply Drawn0.step)⟩
end Go.Proofs.Ytohfcgdodgdiiaa.PFnHints
