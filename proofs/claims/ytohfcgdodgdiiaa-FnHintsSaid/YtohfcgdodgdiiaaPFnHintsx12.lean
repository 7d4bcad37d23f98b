import Derived.Test.YtohfcgdodgdiiaaPFnHintsx8
namespace Go.Proofs.Ytohfcgdodgdiiaa.PFnHints
open Go.RowKit Go.Proofs.YtohfcgdodgdiiaaW.PrintWords Go.Proofs.YtohfcgdodgdiiaaW.PrintLast Go.Proofs.YtohfcgdodgdiiaaW.PrintMore
attribute [local go_sem] max2_int min2_int max_two min_two max_three min_three max_four min_four
set_option linter.unusedVariables false
set_option linter.unusedSimpArgs false
set_option maxHeartbeats 80000000
set_option maxRecDepth 100000
mutual
def spec_l10Merged.l0 : Nat → ByteArray → List (S41) → List ByteArray → Int → List Int → Int → Int → Option (ByteArray × Int × Int)
 | 0, _, _, _, _, _, _, _ => none
 | k + 1, x3, x4, x5, x6, x1000, x1001, x1002 => if x6 < (x5.length : Int) then ((spec_l1Once.f x1000 x1001 x1002 2).bind fun bt208 => (if bt208.1 = true then ((spec_l1Below.f x1000 bt208.2.1 bt208.2.2 9).bind fun bt211 => (if 0 ≤ x6 then ((spec_l1Text.f k x1000 bt211.2.1 bt211.2.2 6).bind fun bt215 => (if x4.length < 2199023255552 then ((spec_ShowRec.f k 4 (wrap64 (1 + bt211.1)) (rdOf ByteArray.empty x5 x6) bt215.1 0 0).bind fun t222 => ((spec_Frame.f k t222).bind fun t223 => (if x3.size + t223.size ≤ 9223372036854775807 then (spec_l10Merged.l0 k (x3 ++ t223) (x4 ++ [(⟨4, wrap64 (1 + bt211.1), rdOf ByteArray.empty x5 x6, bt215.1, 0, 0⟩ : S41)]) x5 (wrap64 (x6 + 1)) x1000 bt215.2.1 bt215.2.2) else (none)))) else (none))) else (none))) else (spec_l10Merged.l0 k x3 x4 x5 (wrap64 (x6 + 1)) x1000 bt208.2.1 bt208.2.2))) else ((spec_l1Below.f x1000 x1001 x1002 3).bind fun bt224 => ((spec_l9Seal.f k x4 (wrap64 (9 + bt224.1)) 5).bind fun bt227 => ((spec_l1Once.f x1000 bt224.2.1 bt224.2.2 10).bind fun bt234 => (if bt234.1 = true then (spec_l10Merged.j1 k x3 x1000 bt234.2.1 bt234.2.2 bt227.1 2 bt227.2.2.1 bt227.2.2.2.1 bt227.2.2.2.2.1 bt227.2.2.2.2.2) else (spec_l10Merged.j1 k x3 x1000 bt234.2.1 bt234.2.2 bt227.1 bt227.2.1 bt227.2.2.1 bt227.2.2.2.1 bt227.2.2.2.2.1 bt227.2.2.2.2.2)))))
def spec_l10Merged.j1 : Nat → ByteArray → List Int → Int → Int → Int → Int → ByteArray → ByteArray → Int → Int → Option (ByteArray × Int × Int)
 | 0, _, _, _, _, _, _, _, _, _, _ => none
 | k + 1, x3, x1000, x1001, x1002, x234000, x234001, x234002, x234003, x234004, x234005 => (spec_ShowRec.f k x234000 x234001 x234002 x234003 x234004 x234005).bind fun t237 => ((spec_Frame.f k t237).bind fun t238 => (if x3.size + t238.size ≤ 9223372036854775807 then ((spec_l1Once.f x1000 x1001 x1002 8).bind fun bt239 => (if bt239.1 = true then ((spec_l1Spoil.f k x1000 bt239.2.1 bt239.2.2 (x3 ++ t238)).bind fun bt242 => (some (bt242.1, bt242.2.1, bt242.2.2))) else (some (x3 ++ t238, bt239.2.1, bt239.2.2)))) else (none)))
end
def spec_l10Merged.f (k : Nat) (s0_0 : List Int) (s0_1 : Int) (s0_2 : Int) : Option (ByteArray × Int × Int) := spec_l10Merged.l0 k (⟨#[]⟩ : ByteArray) (([] : List (S41))) (([(⟨#[97]⟩ : ByteArray), (⟨#[98]⟩ : ByteArray), (⟨#[99]⟩ : ByteArray), (⟨#[107, 101, 121]⟩ : ByteArray)] : List ByteArray)) 0 s0_0 s0_1 s0_2
def spec_l10Merged.T8 : Bool × List (List Nat × List Nat) := (true, [([], []), ([0], [0]), ([1], [1]), ([], []), ([], []), ([3, 4], [3, 4]), ([5], [5]), ([], []), ([7, 1], [7]), ([2, 6, 8], [2, 6, 8]), ([], []), ([10, 9, 8, 0, 1, 2, 3, 4, 5, 6, 7, 8, 9, 10], [9, 10])])
def spec_l10Merged.B8 : List Nat := [0, 1, 3, 0, 0, 24, 56, 0, 131, 511, 0, 2047]
theorem spec_l10Merged.tab8 : rtab .any (opsOf Try.f29 8) = spec_l10Merged.T8 := by kernel_rfl
theorem spec_l10Merged.bits8 : waitsOk spec_l10Merged.T8.2 spec_l10Merged.B8 = true := by kernel_rfl
theorem spec_l10Merged.calls {k : Nat} {s0_0 : List Int} {s0_1 s0_2 : Int} {r1 : ByteArray} {r2 r3 : Int} {w : World} (g : Nat) (w0 : World) (h : spec_l10Merged.f k s0_0 s0_1 s0_2 = some (r1, r2, r3)) (hI : IsS80 w0 w g s0_0 s0_1 s0_2 := by exact si1_) (hB : Below w0.heap.size w0 w := by exact bw_) :
  Calls Try.prog 29 #[.pointer (some ⟨g, 0, none⟩)] w fun e w' => e = .returned (.string r1) ∧ IsS80 w0 w' g s0_0 r2 r3 ∧ Below w0.heap.size w0 w' ∧ KeepBut w w' g none := by
 have hu41 := Try.underlying41; have HI0 := am_ hI; have HK := am_ (KeepBut.refl w g none); have HL := am_ hB.size; clear hI; have HW0 := am_ hB.size; have HB := am_ hB; clear hB; unfold spec_l10Merged.f at h; have H := h; clear h; obtain ⟨y202, hy202⟩ : ∃ y_ : List (S41), y_ = (([] : List (S41))) := ⟨_, rfl⟩
 replace H : (spec_l10Merged.l0 k (⟨#[]⟩ : ByteArray) y202 (([(⟨#[97]⟩ : ByteArray), (⟨#[98]⟩ : ByteArray), (⟨#[99]⟩ : ByteArray), (⟨#[107, 101, 121]⟩ : ByteArray)] : List ByteArray)) 0 s0_0 s0_1 s0_2) = some (r1, r2, r3) := by first | (rw [hy202]; with_reducible exact H) | (have H2_ := (Option.bind_some _ _).symm.trans H; rw [hy202]; with_reducible exact H2_) | (have H2_ := (Option.bind_some _ _).symm.trans H; with_reducible exact H2_) | with_reducible exact H | (rw [hy202]; exact H) | exact H
 have Ny202 := am_ hy202; clear hy202; obtain ⟨y205, hy205⟩ : ∃ y_ : List ByteArray, y_ = (([(⟨#[97]⟩ : ByteArray), (⟨#[98]⟩ : ByteArray), (⟨#[99]⟩ : ByteArray), (⟨#[107, 101, 121]⟩ : ByteArray)] : List ByteArray)) := ⟨_, rfl⟩
 rw [← hy205] at H; have Ny205 := am_ hy205; clear hy205; have H' := am_ H; clear H
 go_enter Try.func29, Try.ntmps29
 go_wp2_with (first | (refine gd_ 9 ?_; refine li_ 9 k41 41 ([] : List (S41)) [] ?_; intro v203 w2 ho3 hb hg_ hnew_; clear hg_ hnew_; (first | rw [← Ny202.1] at ho3 | (simp only [Int.reduceToNat] at ho3; rw [← Ny202.1] at ho3)); have HO204 := rl_ ho3 HK; replace HK := ku_ HK hb; replace HB := bx_ HB hb; replace HI0 := am_ (IsS80.below (hi1_ HI0) hb); clear hb ho3) | (refine gd_ 10 ?_; refine li_ 10 Kd.string 9 ([(⟨#[97]⟩ : ByteArray), (⟨#[98]⟩ : ByteArray), (⟨#[99]⟩ : ByteArray), (⟨#[107, 101, 121]⟩ : ByteArray)] : List ByteArray) [.string (⟨#[97]⟩ : ByteArray), .string (⟨#[98]⟩ : ByteArray), .string (⟨#[99]⟩ : ByteArray), .string (⟨#[107, 101, 121]⟩ : ByteArray)] ?_ (hp := (Reps.one (show Kd.M Kd.string _ _ _ (⟨#[97]⟩ : ByteArray) [.string (⟨#[97]⟩ : ByteArray)] from rfl) (Reps.one (show Kd.M Kd.string _ _ _ (⟨#[98]⟩ : ByteArray) [.string (⟨#[98]⟩ : ByteArray)] from rfl) (Reps.one (show Kd.M Kd.string _ _ _ (⟨#[99]⟩ : ByteArray) [.string (⟨#[99]⟩ : ByteArray)] from rfl) (Reps.one (show Kd.M Kd.string _ _ _ (⟨#[107, 101, 121]⟩ : ByteArray) [.string (⟨#[107, 101, 121]⟩ : ByteArray)] from rfl) (Reps.none _ _)))))); intro v206 w4 ho5 hb hg_ hnew_; clear hg_ hnew_; (first | rw [← Ny205.1] at ho5 | (simp only [Int.reduceToNat] at ho5; rw [← Ny205.1] at ho5)); replace HO204 := rb_ HO204 hb; have HO207 := rl_ ho5 HK; replace HK := ku_ HK hb; replace HB := bx_ HB hb; replace HI0 := am_ (IsS80.below (hi1_ HI0) hb); clear hb ho5))
 go_loopg [3, 4, 6] k (fun kq v3 v4 v6 w' => ∃ (x3_1 : ByteArray) (x4_1 : List (S41)) (x6_1 : Int) (x1001_1 : Int) (x1002_1 : Int), v3 = .string x3_1 ∧ v6 = .int .i64 x6_1 ∧ Aside0 (spec_l10Merged.l0 kq x3_1 x4_1 y205 x6_1 s0_0 x1001_1 x1002_1 = some (r1, r2, r3)) ∧ Aside0 (kq ≤ k) ∧ Aside0 (Kd.R k41 41 w' w.heap.size (fun _ => True) v4 x4_1) ∧ Aside0 (Kd.R Kd.string 9 w' w.heap.size (fun _ => True) v206 y205) ∧ Aside0 (IsS80 w0 w' g s0_0 x1001_1 x1002_1) ∧ Aside0 (KeepBut w w' g none) ∧ Aside0 (Below w0.heap.size w0 w'))
 case atStart => exact ⟨_, _, _, _, _, rs_, rs_, H', ⟨Nat.le_refl _⟩, ⟨rr_ HO204⟩, ⟨rr_ HO207⟩, ⟨hi1_ HI0⟩, ⟨hk_ HK⟩, ⟨hj1_ HB⟩⟩
 case round =>
  clear H'; obtain ⟨x3_1, x4_1, x6_1, x1001_1, x1002_1, rfl, rfl, HA, HK1, HO_4, HO_5, HI0, HK, HB⟩ := hrel
  cases gk with
  | zero => exact zz_ HA
  | succ k1 =>
   have H := HA.1; clear HA; simp only [spec_l10Merged.l0] at H; by_cases c6 : x6_1 < (y205.length : Int)
   ·rw [if_pos c6] at H; have c6b0 := dq_ c6; clear c6; replace H := bnd_ H; obtain ⟨⟨t208, t209, t210⟩, A7, H⟩ := H; by_cases c8 : t208 = true
    ·subst c8; rw [if_pos rfl] at H; replace H := bnd_ H; obtain ⟨⟨t211, t212, t213⟩, A9, H⟩ := H; replace H := ih_ H; obtain ⟨c10, H⟩ := H; have c10b0 := dq_ c10; clear c10; replace H := bnd_ H; obtain ⟨⟨t215, t216, t217⟩, A11, H⟩ := H; replace H := il_ H; obtain ⟨LMc12, H⟩ := H; obtain ⟨y219, hy219⟩ : ∃ y_ : List (S41), y_ = (x4_1 ++ [(⟨4, wrap64 (1 + t211), rdOf ByteArray.empty y205 x6_1, t215, 0, 0⟩ : S41)]) := ⟨_, rfl⟩
     rw [← hy219] at H; have Ny219 := am_ hy219; clear hy219; replace H := bnd_ H; obtain ⟨t222, A13, H⟩ := H; replace H := bnd_ H; obtain ⟨t223, A14, H⟩ := H; replace H := ih_ H; obtain ⟨c15, H⟩ := H; have ⟨c15b0, c15b1, c15b2⟩ := dl_ c15
     have H' := am_ H; clear H; obtain ⟨Ao16, co16, eo16⟩ := Kd.R_slice HO_5.1; subst eo16
     try go_wp2_with (refine gc_ 18 Try.func30 ?_; refine ch1_ (spec_l1Once.calls g w0 A7.1) ?_; rintro w17 ⟨hi, hb, hk⟩; replace HO_4 := ro1_ HI0 HO_4 hk; replace HO_5 := ro1_ HI0 HO_5 hk; replace HK := kt_ HK hk; replace HB := am_ hb; replace HI0 := am_ hi; clear hb hk hi)
     replace HO_4 := rd_ HO_4; replace HO_5 := rd_ HO_5; replace HI0 := am_ (IsS80.drew HI0.1); replace HK := am_ (keep_drew HK.1); replace HB := hd_ HB; have p214 : 0 ≤ (x6_1 : Int) := od_; have q214 : x6_1 < (y205.length : Int) := od_; obtain ⟨ad214, e214, hx214_0⟩ := Kd.at_string (Kd.R_reads' HO_5.1).2.2 x6_1 p214 q214
     cases e214
     replace p214 := eq_true p214; replace q214 := eq_true q214; refine st1_ 12 spec_l10Merged.tab8 spec_l10Merged.bits8 (hx214_0) (fun hHeld HT_ HW_ => ?_) (S := e1e_ (ad214.add (x6_1).toNat) (.string (rdOf ByteArray.empty y205 x6_1)))
     generalize w17.drew = w18 at HO_4 HO_5 HI0 HK HB hx214_0 hHeld ⊢
     refine pr_ ?_; refine pv_' 3 22 (of_ 12 9) rfl rfl HT_ ?_; refine pv_' 4 23 (of_ 12 25) rfl rfl HT_ ?_; refine pv_' 5 24 (of_ 12 57) rfl rfl HT_ ?_; refine pv_' 7 26 (of_ 12 185) rfl rfl HT_ ?_; refine take_ (i := 6) (N := some 25) (v := ?_) (a' := ?_) (of_ 12 249) rfl rfl (take_ofW HT_.1 HW_.1 (by kernel_rfl)) (fun _ _ _ h => h) (Or.inl ⟨by rfl, ?_⟩) hHeld ?_ ?_
     rotate_left
     ·intro w' s0
      go_simp
      with_reducible rfl
     rotate_left
     ·simp only [Act.put, la_, lz_, ls_, i64_w, i32_w]
      rfl
     refine join_ (σ := Nat) 1 (on_ 11 1) (fun s_ => [(20, .int .i64 t211), (27, .string t215), (7, .pointer (some ⟨s_, 0, none⟩)), (21, .int .i64 (wrap64 (1 + t211))), (28, .agg #[.int .i64 4, .int .i64 (wrap64 (1 + t211)), .string (rdOf ByteArray.empty y205 x6_1), .string t215, .int .i64 0, .int .i64 0])]) (fun s_ w' => (w'.cell? (ad214.add (x6_1).toNat) = some (.string (rdOf ByteArray.empty y205 x6_1))) ∧ (Kd.R k41 41 w' w.heap.size (fun k_ => k_ ≠ s_) u4 x4_1) ∧ (Kd.R Kd.string 9 w' w.heap.size (fun _ => True) (.slice (some ad214) y205.length co16) y205) ∧ (w'.heap[s_]? = some (.cells #[.int .i64 0, .int .i64 0, .string (⟨#[]⟩ : ByteArray), .string (⟨#[]⟩ : ByteArray), .int .i64 0, .int .i64 0] 41 (0, 0))) ∧ (w.heap.size ≤ s_) ∧ (w0.heap.size ≤ s_) ∧ (g ≠ s_) ∧ (s_ ≠ g) ∧ (IsS80 w0 w' g s0_0 t216 t217) ∧ (KeepBut w w' g none) ∧ (Below w0.heap.size w0 w')) ?_ ?_
     rotate_left
     ·intro hCont; refine two_ (i := 1) (j := 10) (Ni := some 20) (Nj := some 7) (of_ 12 251) (of_ 12 1273) rfl rfl rfl rfl (two_of HT_.1 (by kernel_rfl)) (by decide) (by decide) (fun K hK => ?_) (fun K hK => ?_)
      ·skip
       refine go1_ Try.func45 (spec_l1Below.calls g w0 A9.1) ?_; rintro e w19 ⟨rfl, hi, hb, hk⟩; have HS0_ := keep_cell hk (hHeld) (by first | (rw [add_block]; exact Kd.own_blk (IsS80.own_ne HI0.1 HO_5.1 (by decide))) | (show (Addr.add _ _).block ≠ _; rw [add_block]; exact Kd.own_blk (IsS80.own_ne HI0.1 HO_5.1 (by decide))) | exact Kd.own_blk (IsS80.own_ne HI0.1 HO_5.1 (by decide))); refine ⟨_, rfl, ?_⟩; replace HO_4 := ro1_ HI0 HO_4 hk; replace HO_5 := ro1_ HI0 HO_5 hk; replace HK := kt_ HK hk; replace HB := am_ hb; replace HI0 := am_ hi
       (try clear hb)
       (try clear hb2)
       (try clear hk)
       (try clear hi)
       refine hK.out _ _ (HS0_) (fun hHeld => ?_); clear hK K; refine nm_ ?_; refine pq_ 2 21 8 4 ?_; refine two_ (i := 8) (j := 10) (Ni := some 27) (Nj := some 7) (on_ 9 3) (of_ 12 1279) rfl rfl rfl rfl (two_of HT_.1 (by kernel_rfl)) (by decide) (by decide) (fun K hK => ?_) (fun K hK => ?_)
       ·skip
        refine go1_ Try.func52 (spec_l1Text.calls g w0 A11.1) ?_; rintro e w20 ⟨rfl, hi, hb, hk⟩; have HS0_ := keep_cell hk (hHeld) (by first | (rw [add_block]; exact Kd.own_blk (IsS80.own_ne HI0.1 HO_5.1 (by decide))) | (show (Addr.add _ _).block ≠ _; rw [add_block]; exact Kd.own_blk (IsS80.own_ne HI0.1 HO_5.1 (by decide))) | exact Kd.own_blk (IsS80.own_ne HI0.1 HO_5.1 (by decide))); refine ⟨_, rfl, ?_⟩; replace HO_4 := ro1_ HI0 HO_4 hk; replace HO_5 := ro1_ HI0 HO_5 hk; replace HK := kt_ HK hk; replace HB := am_ hb; replace HI0 := am_ hi
        (try clear hb)
        (try clear hb2)
        (try clear hk)
        (try clear hi)
        refine hK.out _ _ (HS0_) (fun hHeld => ?_); clear hK K; refine nm_ ?_; refine pr_ ?_; refine o1_ 10 (some 7) (on_ 11 1) fun K hK => ?_; refine box_step ?hg (N := 7) ?hd (cs := #[.int .i64 0, .int .i64 0, .string (⟨#[]⟩ : ByteArray), .string (⟨#[]⟩ : ByteArray), .int .i64 0, .int .i64 0]) (t := 41) ?hr ?_; (case hd => rfl); (case hg => rfl); (case hr => first | (go_simp; done) | (go_simp; rfl)); intro gb218 hg w21 hbox hb; have HS0_ := hc_ hb hHeld; replace HO_4 := re1_ HO_4 hg hb; replace HO_5 := rb_ HO_5 hb; replace HB := bx_ HB hb; have BK218 := am_ hbox; have GW218 := gw_ hg HK; have GE218 := gv_ HW0 GW218; replace HK := ku_ HK hb; have ⟨NB0_218, NB218_0⟩ := ni1_ g HI0 hg; replace HI0 := am_ (IsS80.below (hi1_ HI0) hb); clear hb hbox hg; refine hK.out _ _ (HS0_) (fun hHeld => ?_); clear hK K; refine nm_ ?_; exact norm_ (by simp only [putAll, Act.put, la_, lz_, ls_]) (hCont (gb218) _ ⟨hHeld, (by (with_reducible repeat (first | apply Kd.R_alloc | apply Kd.R_drewN | apply Kd.R_drew)); exact Kd.R_mono HO_4.1 (fun _ hk => hk.2)), (rr_ HO_5), (bk_ BK218), GW218.1, GE218.1, NB0_218.1, NB218_0.1, (hi1_ HI0), (hl_ HK), (hj1_ HB)⟩)
       ·skip
        refine box_step ?hg (N := 7) ?hd (cs := #[.int .i64 0, .int .i64 0, .string (⟨#[]⟩ : ByteArray), .string (⟨#[]⟩ : ByteArray), .int .i64 0, .int .i64 0]) (t := 41) ?hr ?_; (case hd => rfl); (case hg => rfl); (case hr => first | (go_simp; done) | (go_simp; rfl)); intro gb218 hg w20 hbox hb; have HS0_ := hc_ hb hHeld; replace HO_4 := re1_ HO_4 hg hb; replace HO_5 := rb_ HO_5 hb; replace HB := bx_ HB hb; have BK218 := am_ hbox; have GW218 := gw_ hg HK; have GE218 := gv_ HW0 GW218; replace HK := ku_ HK hb; have ⟨NB0_218, NB218_0⟩ := ni1_ g HI0 hg; replace HI0 := am_ (IsS80.below (hi1_ HI0) hb); clear hb hbox hg; refine hK.out _ _ (HS0_) (fun hHeld => ?_); clear hK K; refine nm_ ?_; refine o1_ 8 (some 27) (of_ 12 1535) fun K hK => ?_; refine go1_ Try.func52 (spec_l1Text.calls g w0 A11.1) ?_; rintro e w21 ⟨rfl, hi, hb, hk⟩; have HS0_ := keep_cell hk (hHeld) (by first | (rw [add_block]; exact Kd.own_blk (IsS80.own_ne HI0.1 HO_5.1 (by decide))) | (show (Addr.add _ _).block ≠ _; rw [add_block]; exact Kd.own_blk (IsS80.own_ne HI0.1 HO_5.1 (by decide))) | exact Kd.own_blk (IsS80.own_ne HI0.1 HO_5.1 (by decide))); refine ⟨_, rfl, ?_⟩; replace HO_4 := ro1_ HI0 HO_4 hk; replace HO_5 := ro1_ HI0 HO_5 hk; replace BK218 := kb_ BK218 hk NB218_0; replace HK := kt_ HK hk; replace HB := am_ hb; replace HI0 := am_ hi
        (try clear hb)
        (try clear hb2)
        (try clear hk)
        (try clear hi)
        refine hK.out _ _ (HS0_) (fun hHeld => ?_); clear hK K; refine nm_ ?_; refine pq_ 9 28 11 1 ?_; exact norm_ (by simp only [putAll, Act.put, la_, lz_, ls_]) (hCont (gb218) _ ⟨hHeld, (by (with_reducible repeat (first | apply Kd.R_alloc | apply Kd.R_drewN | apply Kd.R_drew)); exact Kd.R_mono HO_4.1 (fun _ hk => hk.2)), (rr_ HO_5), (bk_ BK218), GW218.1, GE218.1, NB0_218.1, NB218_0.1, (hi1_ HI0), (hl_ HK), (hj1_ HB)⟩)
      ·skip
       refine box_step ?hg (N := 7) ?hd (cs := #[.int .i64 0, .int .i64 0, .string (⟨#[]⟩ : ByteArray), .string (⟨#[]⟩ : ByteArray), .int .i64 0, .int .i64 0]) (t := 41) ?hr ?_; (case hd => rfl); (case hg => rfl); (case hr => first | (go_simp; done) | (go_simp; rfl)); intro gb218 hg w19 hbox hb; have HS0_ := hc_ hb hHeld; replace HO_4 := re1_ HO_4 hg hb; replace HO_5 := rb_ HO_5 hb; replace HB := bx_ HB hb; have BK218 := am_ hbox; have GW218 := gw_ hg HK; have GE218 := gv_ HW0 GW218; replace HK := ku_ HK hb; have ⟨NB0_218, NB218_0⟩ := ni1_ g HI0 hg; replace HI0 := am_ (IsS80.below (hi1_ HI0) hb); clear hb hbox hg; refine hK.out _ _ (HS0_) (fun hHeld => ?_); clear hK K; refine nm_ ?_; refine o1_ 1 (some 20) (of_ 12 1275) fun K hK => ?_; refine go1_ Try.func45 (spec_l1Below.calls g w0 A9.1) ?_; rintro e w20 ⟨rfl, hi, hb, hk⟩; have HS0_ := keep_cell hk (hHeld) (by first | (rw [add_block]; exact Kd.own_blk (IsS80.own_ne HI0.1 HO_5.1 (by decide))) | (show (Addr.add _ _).block ≠ _; rw [add_block]; exact Kd.own_blk (IsS80.own_ne HI0.1 HO_5.1 (by decide))) | exact Kd.own_blk (IsS80.own_ne HI0.1 HO_5.1 (by decide))); refine ⟨_, rfl, ?_⟩; replace HO_4 := ro1_ HI0 HO_4 hk; replace HO_5 := ro1_ HI0 HO_5 hk; replace BK218 := kb_ BK218 hk NB218_0; replace HK := kt_ HK hk; replace HB := am_ hb; replace HI0 := am_ hi
       (try clear hb)
       (try clear hb2)
       (try clear hk)
       (try clear hi)
       refine hK.out _ _ (HS0_) (fun hHeld => ?_); clear hK K; refine nm_ ?_; refine pv_' 2 21 (of_ 12 1279) rfl rfl HT_ ?_; refine o1_ 8 (some 27) (of_ 12 1535) fun K hK => ?_; refine go1_ Try.func52 (spec_l1Text.calls g w0 A11.1) ?_; rintro e w21 ⟨rfl, hi, hb, hk⟩; have HS0_ := keep_cell hk (hHeld) (by first | (rw [add_block]; exact Kd.own_blk (IsS80.own_ne HI0.1 HO_5.1 (by decide))) | (show (Addr.add _ _).block ≠ _; rw [add_block]; exact Kd.own_blk (IsS80.own_ne HI0.1 HO_5.1 (by decide))) | exact Kd.own_blk (IsS80.own_ne HI0.1 HO_5.1 (by decide))); refine ⟨_, rfl, ?_⟩; replace HO_4 := ro1_ HI0 HO_4 hk; replace HO_5 := ro1_ HI0 HO_5 hk; replace BK218 := kb_ BK218 hk NB218_0; replace HK := kt_ HK hk; replace HB := am_ hb; replace HI0 := am_ hi
       (try clear hb)
       (try clear hb2)
       (try clear hk)
       (try clear hi)
       refine hK.out _ _ (HS0_) (fun hHeld => ?_); clear hK K; refine nm_ ?_; refine pq_ 9 28 11 1 ?_; exact norm_ (by simp only [putAll, Act.put, la_, lz_, ls_]) (hCont (gb218) _ ⟨hHeld, (by (with_reducible repeat (first | apply Kd.R_alloc | apply Kd.R_drewN | apply Kd.R_drew)); exact Kd.R_mono HO_4.1 (fun _ hk => hk.2)), (rr_ HO_5), (bk_ BK218), GW218.1, GE218.1, NB0_218.1, NB218_0.1, (hi1_ HI0), (hl_ HK), (hj1_ HB)⟩)
     rintro gb218 w22 ⟨hS_, h0_, h1_, h2_, h3_, h4_, h5_, h6_, h7_, h8_, h9_⟩; have n0_ : Aside0 (Kd.R k41 41 w22 w.heap.size (fun k_ => k_ ≠ gb218) u4 x4_1) := ⟨h0_⟩; have n1_ : Aside0 (Kd.R Kd.string 9 w22 w.heap.size (fun _ => True) (.slice (some ad214) y205.length co16) y205) := ⟨h1_⟩; have n2_ : Aside0 (w22.heap[gb218]? = some (.cells #[.int .i64 0, .int .i64 0, .string (⟨#[]⟩ : ByteArray), .string (⟨#[]⟩ : ByteArray), .int .i64 0, .int .i64 0] 41 (0, 0))) := ⟨h2_⟩; have n3_ : Aside0 (w.heap.size ≤ gb218) := ⟨h3_⟩; have n4_ : Aside0 (w0.heap.size ≤ gb218) := ⟨h4_⟩; have n5_ : Aside0 (g ≠ gb218) := ⟨h5_⟩; have n6_ : Aside0 (gb218 ≠ g) := ⟨h6_⟩; have n7_ : Aside0 (IsS80 w0 w22 g s0_0 t216 t217) := ⟨h7_⟩; have n8_ : Aside0 (KeepBut w w22 g none) := ⟨h8_⟩; have n9_ : Aside0 (Below w0.heap.size w0 w22) := ⟨h9_⟩; clear HO_4; clear HO_5; clear HI0; clear HK; clear HB; clear h0_ h1_ h2_ h3_ h4_ h5_ h6_ h7_ h8_ h9_; have HO_4 := n0_; have HO_5 := n1_; have BK218 := n2_; have GW218 := n3_; have GE218 := n4_; have NB0_218 := n5_; have NB218_0 := n6_; have HI0 := n7_; have HK := n8_; have HB := n9_; clear n0_ n1_ n2_ n3_ n4_ n5_ n6_ n7_ n8_ n9_; have hHeld : w22.cell? (ad214.add (x6_1).toNat) = some (.string (rdOf ByteArray.empty y205 x6_1)) := hS_; refine norm_ (a' := ?_) ?_ ?_
     rotate_left
     ·simp only [putAll, Act.put, la_, lz_, ls_]
      rfl
     refine o1_ 11 none (on_ 12 0) fun K hK => ?_; have hs23 : w22.cell? ⟨gb218, 0, none⟩ = some (.int .i64 0) := (blk_cell BK218.1 0).trans rfl; have hfs23 := blk_frozen BK218.1 0; have hs24 : w22.cell? ⟨gb218, 1, none⟩ = some (.int .i64 0) := (blk_cell BK218.1 1).trans rfl; have hfs24 := blk_frozen BK218.1 1; have hs25 : w22.cell? ⟨gb218, 2, none⟩ = some (.string (⟨#[]⟩ : ByteArray)) := (blk_cell BK218.1 2).trans rfl; have hfs25 := blk_frozen BK218.1 2; have hs26 : w22.cell? ⟨gb218, 3, none⟩ = some (.string (⟨#[]⟩ : ByteArray)) := (blk_cell BK218.1 3).trans rfl; have hfs26 := blk_frozen BK218.1 3; have hs27 : w22.cell? ⟨gb218, 4, none⟩ = some (.int .i64 0) := (blk_cell BK218.1 4).trans rfl; have hfs27 := blk_frozen BK218.1 4; have hs28 : w22.cell? ⟨gb218, 5, none⟩ = some (.int .i64 0) := (blk_cell BK218.1 5).trans rfl; have hfs28 := blk_frozen BK218.1 5; refine skip_ (w1 := ?_) (by rfl) rfl ?_ ?_
     rotate_left
     ·go_simp
      rfl
     refine hK.out _ _ (((cell_far (p := ⟨gb218, _, none⟩) (by first | exact ob_ HO_5 BK218 | (rw [add_block]; exact ob_ HO_5 BK218) | (show (Addr.add _ _).block ≠ _; rw [add_block]; exact ob_ HO_5 BK218) | (dsimp only; exact ob_ HO_5 BK218)) _).trans (((cell_far (p := ⟨gb218, _, none⟩) (by first | exact ob_ HO_5 BK218 | (rw [add_block]; exact ob_ HO_5 BK218) | (show (Addr.add _ _).block ≠ _; rw [add_block]; exact ob_ HO_5 BK218) | (dsimp only; exact ob_ HO_5 BK218)) _).trans (((cell_far (p := ⟨gb218, _, none⟩) (by first | exact ob_ HO_5 BK218 | (rw [add_block]; exact ob_ HO_5 BK218) | (show (Addr.add _ _).block ≠ _; rw [add_block]; exact ob_ HO_5 BK218) | (dsimp only; exact ob_ HO_5 BK218)) _).trans (((cell_far (p := ⟨gb218, _, none⟩) (by first | exact ob_ HO_5 BK218 | (rw [add_block]; exact ob_ HO_5 BK218) | (show (Addr.add _ _).block ≠ _; rw [add_block]; exact ob_ HO_5 BK218) | (dsimp only; exact ob_ HO_5 BK218)) _).trans (((cell_far (p := ⟨gb218, _, none⟩) (by first | exact ob_ HO_5 BK218 | (rw [add_block]; exact ob_ HO_5 BK218) | (show (Addr.add _ _).block ≠ _; rw [add_block]; exact ob_ HO_5 BK218) | (dsimp only; exact ob_ HO_5 BK218)) _).trans (((cell_far (p := ⟨gb218, _, none⟩) (by first | exact ob_ HO_5 BK218 | (rw [add_block]; exact ob_ HO_5 BK218) | (show (Addr.add _ _).block ≠ _; rw [add_block]; exact ob_ HO_5 BK218) | (dsimp only; exact ob_ HO_5 BK218)) _).trans (hHeld))))))))))))) (fun hHeld => ?_); clear hK K; refine dn_ ?_; have := NB218_0.1; have := NB0_218.1; obtain ⟨_, _, _, _, _, _, _, _, _, _, _, _⟩ := bc6_ BK218
     try go_wp2_with (first | (at_builtin; refine gb_ #[.tmp 29, .tmp 31] ?_; refine Kd.R_append k41 w.heap.size rfl (.tmp 29) (.tmp 31) 88 41 _ _ rfl Try.underlying88 info41 rfl (by decide) (by omega) u4 x4_1 (⟨4, wrap64 (1 + t211), rdOf ByteArray.empty y205 x6_1, t215, 0, 0⟩ : S41) _ (fun k_ => k_ ≠ gb218) (fun _ => False) rfl gr_ (k41_mkM _ _ _ _) (fun _ hk => hk.elim) ?aF ?aO (Below.refl _ _) ?aS ?aL ?_; (case aF => exact fu_ BK218); (case aO => exact (rg_ HO_4 gb218)); (case aS => exact (keep_size (w := w) (g := g) (row := none) (hl_ HK))); (case aL => have := LMc12.1; omega); intro v220 w31 ho hb hg hat; rw [← Ny219.1] at ho; replace HO_5 := am_ (Kd.R_over' (rf_ HO_5 BK218) (Kd.R_typed (rg_ HO_4 gb218)) (by decide) hg); replace BK218 := am_ (blk_grown (g := gb218) (o := .cells #[.int .i64 4, .int .i64 (wrap64 (1 + t211)), .string (rdOf ByteArray.empty y205 x6_1), .string t215, .int .i64 0, .int .i64 0] 41 (0, 0)) (uk_ BK218) hg (Kd.R_away HO_4.1 (fun _ hk => hk))); replace HB := am_ (below_weaken (hj1_ HB) HL.1 hb); replace HI0 := am_ (IsS80.grown (hi1_ HI0) hg (IsS80.own_ne HI0.1 HO_4.1 (by decide))); replace HK := kg_ HK hg (Kd.R_base2 HO_4.1); have HO221 := am_ ho; clear HO_4; clear ho hb hg hat; obtain ⟨_, _, _, _, _, _, _, _, _, _, _, _⟩ := bc6_ BK218) | (refine gc_ 35 Try.func54 ?_; refine ch1_ (spec_ShowRec.calls A13.1) ?_; intro w33 hb; replace HO_5 := rb_ HO_5 hb; replace HO221 := rb_ HO221 hb; replace BK218 := bb_ BK218 hb; replace HK := ku_ HK hb; replace HB := bx_ HB hb; replace HI0 := am_ (IsS80.below (hi1_ HI0) hb); clear hb) | (refine gc_ 36 Try.func53 ?_; refine ch1_ (spec_Frame.calls A14.1) ?_; intro w34 hb; replace HO_5 := rb_ HO_5 hb; replace HO221 := rb_ HO221 hb; replace BK218 := bb_ BK218 hb; replace HK := ku_ HK hb; replace HB := bx_ HB hb; replace HI0 := am_ (IsS80.below (hi1_ HI0) hb); clear hb))
     go_roundg k1
     case measure => exact m1_ HK1
     case rel => exact ⟨_, _, _, _, _, rs_, rs_, H', ⟨m1_ HK1⟩, ⟨by (with_reducible repeat (first | apply Kd.R_alloc | apply Kd.R_drewN | apply Kd.R_drew)); exact Kd.R_mono HO221.1 (fun _ hk => trivial)⟩, ⟨rr_ HO_5⟩, ⟨hi1_ HI0⟩, ⟨hl_ HK⟩, ⟨hj1_ HB⟩⟩
    ·replace c8 := bF_ c8; subst c8; rw [if_neg ff_] at H; have H' := am_ H; clear H; obtain ⟨Ao35, co35, eo35⟩ := Kd.R_slice HO_5.1; subst eo35
     go_wp2_with (refine gc_ 18 Try.func30 ?_; refine ch1_ (spec_l1Once.calls g w0 A7.1) ?_; rintro w36 ⟨hi, hb, hk⟩; replace HO_4 := ro1_ HI0 HO_4 hk; replace HO_5 := ro1_ HI0 HO_5 hk; replace HK := kt_ HK hk; replace HB := am_ hb; replace HI0 := am_ hi; clear hb hk hi)
     go_roundg k1
     case measure => exact m1_ HK1
     case rel => exact ⟨_, _, _, _, _, rs_, rs_, H', ⟨m1_ HK1⟩, ⟨rr_ HO_4⟩, ⟨rr_ HO_5⟩, ⟨hi1_ HI0⟩, ⟨hk_ HK⟩, ⟨hj1_ HB⟩⟩
   ·rw [if_neg c6] at H; have c6b0 := df_ c6; clear c6; replace H := bnd_ H; obtain ⟨⟨t224, t225, t226⟩, A37, H⟩ := H; replace H := bnd_ H; obtain ⟨⟨t227, t228, t229, t230, t231, t232⟩, A38, H⟩ := H; replace H := bnd_ H; obtain ⟨⟨t234, t235, t236⟩, A39, H⟩ := H; have HC40 := am_ H; clear H; obtain ⟨Ao41, co41, eo41⟩ := Kd.R_slice HO_5.1; subst eo41
    go_upto_if 44 with (first | ((with_reducible refine gc0_ 45 ?_); refine gc_ 40 Try.func45 ?_; refine ch1_ (spec_l1Below.calls g w0 A37.1) ?_; rintro w42 ⟨hi, hb, hk⟩; replace HO_4 := ro1_ HI0 HO_4 hk; replace HO_5 := ro1_ HI0 HO_5 hk; replace HK := kt_ HK hk; replace HB := am_ hb; replace HI0 := am_ hi; clear hb hk hi; obtain ⟨Ao43, co43, eo43⟩ := Kd.R_slice HO_4.1; subst eo43) | ((with_reducible refine gc0_ 55 ?_); refine gc_ 42 Try.func55 ?_; refine ch1_ (spec_l9Seal.calls Ao43 co43 A38.1) ?_; intro w44 hb; replace HO_4 := rb_ HO_4 hb; replace HO_5 := rb_ HO_5 hb; replace HK := ku_ HK hb; replace HB := bx_ HB hb; replace HI0 := am_ (IsS80.below (hi1_ HI0) hb); clear hb) | ((with_reducible refine gd_ 8 ?_); refine bx1_ 8 #[.int .i64 0, .int .i64 0, .string (⟨#[]⟩ : ByteArray), .string (⟨#[]⟩ : ByteArray), .int .i64 0, .int .i64 0] 41 ?_; intro gb233 hg w45 hbox hb; replace HO_4 := re1_ HO_4 hg hb; replace HO_5 := rb_ HO_5 hb; replace HB := bx_ HB hb; have BK233 := am_ hbox; have GW233 := gw_ hg HK; have GE233 := gv_ HW0 GW233; replace HK := ku_ HK hb; have ⟨NB0_233, NB233_0⟩ := ni1_ g HI0 hg; replace HI0 := am_ (IsS80.below (hi1_ HI0) hb); clear hb hbox hg; have := NB233_0.1; have := NB0_233.1; obtain ⟨_, _, _, _, _, _, _, _, _, _, _, _⟩ := bc6_ BK233) | ((with_reducible refine gc0_ 30 ?_); refine gc_ 44 Try.func30 ?_; refine ch1_ (spec_l1Once.calls g w0 A39.1) ?_; rintro w48 ⟨hi, hb, hk⟩; replace HO_4 := am_ (Kd.R_mono (Kd.R_keep (IsS80.apart (show IsS80 w0 _ g s0_0 t225 t226 from hi1_ HI0) (by (with_reducible repeat (first | apply Kd.R_alloc | apply Kd.R_drewN | apply Kd.R_drew)); exact (Kd.R_mono (Kd.R_far (p := ⟨gb233, 5, none⟩) (Kd.R_far (p := ⟨gb233, 4, none⟩) (Kd.R_far (p := ⟨gb233, 3, none⟩) (Kd.R_far (p := ⟨gb233, 2, none⟩) (Kd.R_far (p := ⟨gb233, 1, none⟩) (Kd.R_far (p := ⟨gb233, 0, none⟩) (Kd.R_mono HO_4.1 (fun k_ hk => (⟨hk, hk.2⟩ : _ ∧ k_ ≠ gb233))) (fun _ hk => hk.2) (.int .i64 t227)) (fun _ hk => hk.2) (.int .i64 t228)) (fun _ hk => hk.2) (.string t229)) (fun _ hk => hk.2) (.string t230)) (fun _ hk => hk.2) (.int .i64 t231)) (fun _ hk => hk.2) (.int .i64 t232)) (fun _ h_ => h_.1))) (by decide)) hk (fun _ h => h.2)) (fun _ h => h.1)); replace HO_5 := am_ (Kd.R_mono (Kd.R_keep (IsS80.apart (show IsS80 w0 _ g s0_0 t225 t226 from hi1_ HI0) (by (with_reducible repeat (first | apply Kd.R_alloc | apply Kd.R_drewN | apply Kd.R_drew)); exact (Kd.R_mono (Kd.R_far (p := ⟨gb233, 5, none⟩) (Kd.R_far (p := ⟨gb233, 4, none⟩) (Kd.R_far (p := ⟨gb233, 3, none⟩) (Kd.R_far (p := ⟨gb233, 2, none⟩) (Kd.R_far (p := ⟨gb233, 1, none⟩) (Kd.R_far (p := ⟨gb233, 0, none⟩) (Kd.R_types HO_5.1 BK233.1 (by decide)) (fun _ hk => hk.2) (.int .i64 t227)) (fun _ hk => hk.2) (.int .i64 t228)) (fun _ hk => hk.2) (.string t229)) (fun _ hk => hk.2) (.string t230)) (fun _ hk => hk.2) (.int .i64 t231)) (fun _ hk => hk.2) (.int .i64 t232)) (fun _ h_ => h_.1))) (by decide)) hk (fun _ h => h.2)) (fun _ h => h.1)); replace BK233 := kp_ #[.int .i64 t227, .int .i64 t228, .string t229, .string t230, .int .i64 t231, .int .i64 t232] BK233 hk NB233_0; replace HK := kt_ HK hk; replace HB := am_ hb; replace HI0 := am_ hi; clear hb hk hi))
    (try simp only [Act.put, la_, lz_, ls_])
    go_cut [] (fun wc => ∃ (kq : Nat) (x234001_39 : Int), Aside0 (spec_l10Merged.j1 kq x3_1 s0_0 t235 t236 t227 x234001_39 t229 t230 t231 t232 = some (r1, r2, r3)) ∧ Aside0 (kq ≤ k1) ∧ Aside0 (wc.heap[gb233]? = some (.cells #[.int .i64 t227, .int .i64 x234001_39, .string t229, .string t230, .int .i64 t231, .int .i64 t232] 41 (0, 0))) ∧ Aside0 (IsS80 w0 wc g s0_0 t235 t236) ∧ Aside0 (KeepBut w wc g none) ∧ Aside0 (Below w0.heap.size w0 wc))
    case first =>
     have H := HC40.1; clear HC40; by_cases c49 : t234 = true
     ·subst c49; rw [if_pos rfl] at H; have H' := am_ H; clear H; have := NB233_0.1; have := NB0_233.1; obtain ⟨_, _, _, _, _, _, _, _, _, _, _, _⟩ := bc6_ BK233
      go_wp2
      go_meet
      case rel => exact ⟨_, _, H', ⟨m1_ HK1⟩, ⟨uk_ BK233⟩, ⟨hi1_ HI0⟩, ⟨hl_ HK⟩, ⟨hj1_ HB⟩⟩
     ·replace c49 := bF_ c49; subst c49; rw [if_neg ff_] at H; have H' := am_ H; clear H
      go_wp2
      go_meet
      case rel => exact ⟨_, _, H', ⟨m1_ HK1⟩, ⟨bk_ BK233⟩, ⟨hi1_ HI0⟩, ⟨hl_ HK⟩, ⟨hj1_ HB⟩⟩
    case rest =>
     clear HC40
     (try clear c6); (try clear c6b0); (try clear c8); (try clear c10); (try clear c12); (try clear c15); (try clear c15b0); (try clear c15b1); (try clear c15b2); (try clear c49); (try clear hx214_0); (try clear p214); (try clear q214)
     obtain ⟨kq, x234001_39, HA, HJ39, BK233, HI0, HK, HB⟩ := hcut
     cases kq with
     | zero => exact zz_ HA
     | succ kj39 =>
      have H := HA.1; clear HA; simp only [spec_l10Merged.j1] at H; replace H := bnd_ H; obtain ⟨t237, A52, H⟩ := H; replace H := bnd_ H; obtain ⟨t238, A53, H⟩ := H; replace H := ih_ H; obtain ⟨c54, H⟩ := H; have ⟨c54b0, c54b1, c54b2⟩ := dl_ c54
      replace H := bnd_ H; obtain ⟨⟨t239, t240, t241⟩, A55, H⟩ := H; by_cases c56 : t239 = true
      ·subst c56; rw [if_pos rfl] at H; replace H := bnd_ H; obtain ⟨⟨t242, t243, t244⟩, A57, H⟩ := H; obtain ⟨rfl, rfl, rfl⟩ := i3_ H; have := NB233_0.1; have := NB0_233.1; obtain ⟨_, _, _, _, _, _, _, _, _, _, _, _⟩ := bc6_ BK233
       go_wp2_with (first | (refine gc_ 48 Try.func54 ?_; refine ch1_ (spec_ShowRec.calls A52.1) ?_; intro w60 hb; replace BK233 := bb_ BK233 hb; replace HK := ku_ HK hb; replace HB := bx_ HB hb; replace HI0 := am_ (IsS80.below (hi1_ HI0) hb); clear hb) | (refine gc_ 49 Try.func53 ?_; refine ch1_ (spec_Frame.calls A53.1) ?_; intro w61 hb; replace BK233 := bb_ BK233 hb; replace HK := ku_ HK hb; replace HB := bx_ HB hb; replace HI0 := am_ (IsS80.below (hi1_ HI0) hb); clear hb) | (refine gc_ 52 Try.func30 ?_; refine ch1_ (spec_l1Once.calls g w0 A55.1) ?_; rintro w62 ⟨hi, hb, hk⟩; replace BK233 := kb_ BK233 hk NB233_0; replace HK := kt_ HK hk; replace HB := am_ hb; replace HI0 := am_ hi; clear hb hk hi) | (refine gc_ 55 Try.func56 ?_; refine ch1_ (spec_l1Spoil.calls g w0 A57.1) ?_; rintro w63 ⟨hi, hb, hk⟩; replace BK233 := kb_ BK233 hk NB233_0; replace HK := kt_ HK hk; replace HB := am_ hb; replace HI0 := am_ hi; clear hb hk hi))
       go_ret
       exact ⟨re_, hi1_ HI0, hj1_ HB, hl_ HK⟩
      ·replace c56 := bF_ c56; subst c56; rw [if_neg ff_] at H; obtain ⟨rfl, rfl, rfl⟩ := i3_ H; have := NB233_0.1; have := NB0_233.1; obtain ⟨_, _, _, _, _, _, _, _, _, _, _, _⟩ := bc6_ BK233
       go_wp2_with (first | (refine gc_ 48 Try.func54 ?_; refine ch1_ (spec_ShowRec.calls A52.1) ?_; intro w66 hb; replace BK233 := bb_ BK233 hb; replace HK := ku_ HK hb; replace HB := bx_ HB hb; replace HI0 := am_ (IsS80.below (hi1_ HI0) hb); clear hb) | (refine gc_ 49 Try.func53 ?_; refine ch1_ (spec_Frame.calls A53.1) ?_; intro w67 hb; replace BK233 := bb_ BK233 hb; replace HK := ku_ HK hb; replace HB := bx_ HB hb; replace HI0 := am_ (IsS80.below (hi1_ HI0) hb); clear hb) | (refine gc_ 52 Try.func30 ?_; refine ch1_ (spec_l1Once.calls g w0 A55.1) ?_; rintro w68 ⟨hi, hb, hk⟩; replace BK233 := kb_ BK233 hk NB233_0; replace HK := kt_ HK hk; replace HB := am_ hb; replace HI0 := am_ hi; clear hb hk hi))
       go_ret
       exact ⟨re_, hi1_ HI0, hj1_ HB, hl_ HK⟩
def spec_l1PickInt.f (s0_0 : List Int) (s0_1 : Int) (s0_2 : Int) (l1 : List Int) : Option (Int × Int × Int) := (spec_l1Below.f s0_0 s0_1 s0_2 (l1.length : Int)).bind fun bt245 => (if 0 ≤ bt245.1 then (if bt245.1 < (l1.length : Int) then (some (rd l1 bt245.1, bt245.2.1, bt245.2.2)) else (none)) else (none))
theorem spec_l1PickInt.calls {s0_0 : List Int} {s0_1 s0_2 : Int} {l1 : List Int} {r1 r2 r3 : Int} {w : World} (g : Nat) (A1 : Option Addr) (c1 : Nat) (w0 : World) (h : spec_l1PickInt.f s0_0 s0_1 s0_2 l1 = some (r1, r2, r3)) (hI : IsS80 w0 w g s0_0 s0_1 s0_2 := by exact si1_) (hB : Below w0.heap.size w0 w := by exact bw_) (hr1 : Kd.C (Kd.int .i64) w A1 l1.length l1 := by exact sr_) (hc1 : l1.length ≤ c1 := by exact sc_) (hf1 : ∀ ad, A1 = some ad → 0 < l1.length → ad.block ≠ g := by exact sf_) :
  Calls Try.prog 32 #[.pointer (some ⟨g, 0, none⟩), .slice A1 l1.length c1] w fun e w' => e = .returned (.int .i64 r1) ∧ IsS80 w0 w' g s0_0 r2 r3 ∧ Below w0.heap.size w0 w' ∧ KeepBut w w' g none := by
 have HR1 := am_ hr1; have HC1 := am_ hc1; clear hr1 hc1; have HI0 := am_ hI; have HK := am_ (KeepBut.refl w g none); have HL := am_ hB.size; clear hI; have HW0 := am_ hB.size; have HB := am_ hB; clear hB; unfold spec_l1PickInt.f at h; have H := h; clear h; replace H := bnd_ H; obtain ⟨⟨t245, t246, t247⟩, A3, H⟩ := H; replace H := ih_ H; obtain ⟨c4, H⟩ := H; have c4b0 := dq_ c4; clear c4; replace H := ih_ H; obtain ⟨c5, H⟩ := H; have c5b0 := dq_ c5; clear c5; obtain ⟨rfl, rfl, rfl⟩ := i3_ H
 go_enter Try.func32, Try.ntmps32
 go_wp2_with (refine gc_ 9 Try.func45 ?_; refine ch1_ (spec_l1Below.calls g w0 A3.1) ?_; rintro w6 ⟨hi, hb, hk⟩; replace HK := kt_ HK hk; replace HB := am_ hb; replace HI0 := am_ hi; clear hb hk hi; have p248 : 0 ≤ (t245 : Int) := od_; have q248 : t245 < (l1.length : Int) := od_; obtain ⟨ad248, e248, hx248_0⟩ := Kd.at_int HR1.1 t245 p248 q248; cases e248; replace hx248_0 := keep_cell HK.1 hx248_0 (by first | (rw [add_block]; exact hf1 _ rfl (by omega)) | exact hf1 _ rfl (by omega) | exact hf1 ad248 rfl (by omega)); replace p248 := eq_true p248; replace q248 := eq_true q248)
 go_ret
 exact ⟨re_, hi1_ HI0, hj1_ HB, hk_ HK⟩
mutual
def spec_ReadVar.l0 : Nat → ByteArray → Int → Option (Int × Int)
 | 0, _, _ => none
 | k + 1, x0, x4 => if x4 ≤ 7 then (spec_ReadVar.j1 k x0 x4 (decide (x4 ≤ (x0.size : Int)))) else (spec_ReadVar.j1 k x0 x4 false)
def spec_ReadVar.j1 : Nat → ByteArray → Int → Bool → Option (Int × Int)
 | 0, _, _, _ => none
 | k + 1, x0, x4, x14 => if x14 = true then (spec_ReadVar.l1 k x0 x4 0 (wrap64 (x4 - 1))) else (some (0, 0))
def spec_ReadVar.l1 : Nat → ByteArray → Int → Int → Int → Option (Int × Int)
 | 0, _, _, _, _ => none
 | k + 1, x0, x4, x5, x6 => if x6 ≥ 0 then (if 0 ≤ x6 then (if x6 < (x0.size : Int) then (spec_ReadVar.l1 k x0 x4 (wrap64 ((wrap64 (x5 * 128)) + (Int.tmod (wrap64 (bt x0 x6)) 128))) (wrap64 (x6 - 1))) else (none)) else (none)) else ((spec_Var.f k x5).bind fun t249 => (if 0 ≤ x4 then (if x4 ≤ (x0.size : Int) then (if t249.toList = (x0.extract 0 (x4 : Int).toNat).toList then (some (x5, x4)) else (spec_ReadVar.l0 k x0 (wrap64 (x4 + 1)))) else (none)) else (none)))
end
def spec_ReadVar.f (k : Nat) (a0 : ByteArray) : Option (Int × Int) := spec_ReadVar.l0 k a0 1
theorem spec_ReadVar.calls {k : Nat} {a0 : ByteArray} {r1 r2 : Int} {w : World} (h : spec_ReadVar.f k a0 = some (r1, r2)) :
  Calls Try.prog 61 #[.string a0] w fun e w' => e = .returned (.tuple #[.int .i64 r1, .int .i64 r2]) ∧ Below w.heap.size w w' := by
 have HB := am_ (Below.refl w.heap.size w); unfold spec_ReadVar.f at h; have H := h; clear h; have H' := am_ H; clear H
 go_enter Try.func61, Try.ntmps61
 go_wp2
 go_loopg [4] k (fun kq v4 w' => ∃ (x4_1 : Int), v4 = .int .i64 x4_1 ∧ Aside0 (spec_ReadVar.l0 kq a0 x4_1 = some (r1, r2)) ∧ Aside0 (kq ≤ k) ∧ Aside0 (Below w.heap.size w w'))
 case atStart => exact ⟨_, rs_, H', ⟨Nat.le_refl _⟩, ⟨hb_ HB⟩⟩
 case round =>
  clear H'; obtain ⟨x4_1, rfl, HA, HK1, HB⟩ := hrel
  cases gk with
  | zero => exact zz_ HA
  | succ k1 =>
   have H := HA.1; clear HA; simp only [spec_ReadVar.l0] at H; have HC2 := am_ H; clear H
   go_upto_region 2 with (fail)
   go_cut [14] (fun v14 wc => ∃ (kq : Nat) (x14_1 : Bool), v14 = .bool x14_1 ∧ Aside0 (spec_ReadVar.j1 kq a0 x4_1 x14_1 = some (r1, r2)) ∧ Aside0 (kq ≤ k1) ∧ Aside0 (Below w.heap.size w wc))
   case first =>
    have H := HC2.1; clear HC2; by_cases c3 : x4_1 ≤ 7
    ·rw [if_pos c3] at H; have c3b0 := dq_ c3; clear c3
     (first | rw [c3b0] | (simp only [i64_w, i32_w]; rw [c3b0]) | skip)
     have H' := am_ H; clear H
     go_wp2
     go_meet
     case rel => exact ⟨_, _, rs_, H', ⟨m1_ HK1⟩, ⟨hb_ HB⟩⟩
    ·rw [if_neg c3] at H; have c3b0 := df_ c3; clear c3
     (first | rw [c3b0] | (simp only [i64_w, i32_w]; rw [c3b0]) | skip)
     have H' := am_ H; clear H
     go_wp2
     go_meet
     case rel => exact ⟨_, _, rs_, H', ⟨m1_ HK1⟩, ⟨hb_ HB⟩⟩
   case rest =>
    clear HC2
    (try clear c3); (try clear c3b0)
    obtain ⟨kq, x14_1, rfl, HA, HJ1, HB⟩ := hcut
    cases kq with
    | zero => exact zz_ HA
    | succ kj1 =>
     have H := HA.1; clear HA; simp only [spec_ReadVar.j1] at H; by_cases c4 : x14_1 = true
     ·subst c4; rw [if_pos rfl] at H; have H' := am_ H; clear H
      go_wp2
      go_loopg [5, 6] kj1 (fun kq v5 v6 w' => ∃ (x5_3 : Int) (x6_3 : Int), v5 = .int .i64 x5_3 ∧ v6 = .int .i64 x6_3 ∧ Aside0 (spec_ReadVar.l1 kq a0 x4_1 x5_3 x6_3 = some (r1, r2)) ∧ Aside0 (kq ≤ kj1) ∧ Aside0 (Below w.heap.size w w'))
      case atStart => exact ⟨_, _, rs_, rs_, H', ⟨Nat.le_refl _⟩, ⟨hb_ HB⟩⟩
      case round =>
       clear H'
       (try clear c3); (try clear c3b0); (try clear c4)
       obtain ⟨x5_3, x6_3, rfl, rfl, HA, HK3, HB⟩ := hrel
       cases gk with
       | zero => exact zz_ HA
       | succ k3 =>
        have H := HA.1; clear HA; simp only [spec_ReadVar.l1] at H; by_cases c5 : x6_3 ≥ 0
        ·rw [if_pos c5] at H; have c5b0 := dq_ c5; clear c5; replace H := ih_ H; obtain ⟨c6, H⟩ := H; have c6b0 := dq_ c6; clear c6; replace H := ih_ H; obtain ⟨c7, H⟩ := H; have c7b0 := dq_ c7; clear c7; have H' := am_ H; clear H; have p8 : 0 ≤ (x6_3 : Int) := od_; have q8 : x6_3 < (a0.size : Int) := od_; have hx8 := bt_at a0 x6_3; replace p8 := eq_true p8; replace q8 := eq_true q8
         go_wp2
         go_roundg k3
         case measure => exact m3_ HK1 HJ1 HK3
         case rel => exact ⟨_, _, rs_, rs_, H', ⟨m3_ HK1 HJ1 HK3⟩, ⟨hb_ HB⟩⟩
        ·rw [if_neg c5] at H; have c5b0 := df_ c5; clear c5; replace H := bnd_ H; obtain ⟨t249, A9, H⟩ := H; replace H := ig_ H; obtain ⟨c10b0, c10b1, H⟩ := H; replace H := ig_ H; obtain ⟨c11b0, c11b1, H⟩ := H; by_cases c12 : t249.toList = (a0.extract 0 (x4_1 : Int).toNat).toList
         ·rw [if_pos c12] at H; have ⟨c12b0, c12b1⟩ := bq5_ c12; clear c12; obtain ⟨rfl, rfl⟩ := i2_ H
          try go_wp2
          replace HB := hd_ HB; refine start_ (n := 6) (S := fun w' => True) (ds := []) (on_ 0 6) (by kernel_rfl) rfl rfl trivial (fun hHeld => ?_)
          generalize wr.drew = w13 at HB hHeld ⊢
          refine pure_ (i := 0) (N := some 31) (v := ?_) (a' := ?_) (on_ 1 5) rfl rfl (by kernel_rfl) (fun _ _ _ h => h) (Or.inl ⟨by rfl, ?_⟩) ?_ ?_
          rotate_left;·intro w';go_simp;with_reducible rfl
          rotate_left;·simp only [Act.put, la_, lz_, ls_, i64_w, i32_w];rfl
          refine pure_ (i := 2) (N := some 33) (v := ?_) (a' := ?_) (of_ 6 5) rfl rfl (by kernel_rfl) (fun _ _ _ h => h) (Or.inl ⟨by rfl, ?_⟩) ?_ ?_
          rotate_left;·intro w';go_simp;with_reducible rfl
          rotate_left;·simp only [Act.put, la_, lz_, ls_, i64_w, i32_w];rfl
          refine pure_ (i := 3) (N := some 34) (v := ?_) (a' := ?_) (of_ 6 13) rfl rfl (by kernel_rfl) (fun _ _ _ h => h) (Or.inl ⟨by rfl, ?_⟩) ?_ ?_
          rotate_left;·intro w';go_simp;with_reducible rfl
          rotate_left;·simp only [Act.put, la_, lz_, ls_, i64_w, i32_w];rfl
          refine pure_ (i := 4) (N := some 35) (v := ?_) (a' := ?_) (of_ 6 29) rfl rfl (by kernel_rfl) (fun _ _ _ h => h) (Or.inl ⟨by rfl, ?_⟩) ?_ ?_
          rotate_left;·intro w';go_simp;with_reducible rfl
          rotate_left;·simp only [Act.put, la_, lz_, ls_, i64_w, i32_w];rfl
          refine one_ (i := 1) (N := some 32) (on_ 5 1) rfl rfl (by kernel_rfl) (by decide) (fun K hK => ?_); refine go2_ Try.func26 (spec_Var.calls A9.1) ?_; intro w14 hb; replace HB := bx_ HB hb
          (try clear hb)
          (try clear hb2)
          (try clear hk)
          (try clear hi)
          refine hK.out _ _ trivial (fun hHeld => ?_); clear hK K; refine nm_ ?_; refine pure_ (i := 5) (N := some 36) (v := ?_) (a' := ?_) (on_ 6 0) rfl rfl (by kernel_rfl) (fun _ _ _ h => h) (Or.inl ⟨by rfl, ?_⟩) ?_ ?_
          rotate_left;·intro w';go_simp;with_reducible rfl
          rotate_left;·simp only [Act.put, la_, lz_, ls_, i64_w, i32_w];rfl
          refine done_ (by kernel_rfl) ?_
          try go_wp2
          go_ret2
          exact ⟨re_, hb_ HB⟩
         ·rw [if_neg c12] at H; have ⟨c12b0, c12b1⟩ := bq6_ c12; have H' := am_ H; clear H
          try go_wp2
          replace HB := hd_ HB; refine start_ (n := 6) (S := fun w' => True) (ds := []) (on_ 0 6) (by kernel_rfl) rfl rfl trivial (fun hHeld => ?_)
          generalize wr.drew = w15 at HB hHeld ⊢
          refine pure_ (i := 0) (N := some 31) (v := ?_) (a' := ?_) (on_ 1 5) rfl rfl (by kernel_rfl) (fun _ _ _ h => h) (Or.inl ⟨by rfl, ?_⟩) ?_ ?_
          rotate_left;·intro w';go_simp;with_reducible rfl
          rotate_left;·simp only [Act.put, la_, lz_, ls_, i64_w, i32_w];rfl
          refine pure_ (i := 2) (N := some 33) (v := ?_) (a' := ?_) (of_ 6 5) rfl rfl (by kernel_rfl) (fun _ _ _ h => h) (Or.inl ⟨by rfl, ?_⟩) ?_ ?_
          rotate_left;·intro w';go_simp;with_reducible rfl
          rotate_left;·simp only [Act.put, la_, lz_, ls_, i64_w, i32_w];rfl
          refine pure_ (i := 3) (N := some 34) (v := ?_) (a' := ?_) (of_ 6 13) rfl rfl (by kernel_rfl) (fun _ _ _ h => h) (Or.inl ⟨by rfl, ?_⟩) ?_ ?_
          rotate_left;·intro w';go_simp;with_reducible rfl
          rotate_left;·simp only [Act.put, la_, lz_, ls_, i64_w, i32_w];rfl
          refine pure_ (i := 4) (N := some 35) (v := ?_) (a' := ?_) (of_ 6 29) rfl rfl (by kernel_rfl) (fun _ _ _ h => h) (Or.inl ⟨by rfl, ?_⟩) ?_ ?_
          rotate_left;·intro w';go_simp;with_reducible rfl
          rotate_left;·simp only [Act.put, la_, lz_, ls_, i64_w, i32_w];rfl
          refine one_ (i := 1) (N := some 32) (on_ 5 1) rfl rfl (by kernel_rfl) (by decide) (fun K hK => ?_); refine go2_ Try.func26 (spec_Var.calls A9.1) ?_; intro w16 hb; replace HB := bx_ HB hb
          (try clear hb)
          (try clear hb2)
          (try clear hk)
          (try clear hi)
          refine hK.out _ _ trivial (fun hHeld => ?_); clear hK K; refine nm_ ?_; refine pure_ (i := 5) (N := some 36) (v := ?_) (a' := ?_) (on_ 6 0) rfl rfl (by kernel_rfl) (fun _ _ _ h => h) (Or.inl ⟨by rfl, ?_⟩) ?_ ?_
          rotate_left;·intro w';go_simp;with_reducible rfl
          rotate_left;·simp only [Act.put, la_, lz_, ls_, i64_w, i32_w];rfl
          refine done_ (by kernel_rfl) ?_
          try go_wp2
          go_roundg k3
          case measure => exact m3_ HK1 HJ1 HK3
          case rel => exact ⟨_, rs_, H', ⟨m3_ HK1 HJ1 HK3⟩, ⟨hb_ HB⟩⟩
     ·replace c4 := bF_ c4; subst c4; rw [if_neg ff_] at H; obtain ⟨rfl, rfl⟩ := i2_ H
      go_wp2
      go_ret2
      exact ⟨re_, hb_ HB⟩
def spec_Unframe.j0 : Nat → ByteArray → Int → Int → Bool → Option (ByteArray × Int)
 | 0, _, _, _, _ => none
 | k + 1, x0, x4, x5, x30 => if x30 = true then (some ((⟨#[]⟩ : ByteArray), 0)) else (if 0 ≤ (wrap64 (4 + x5)) then (if (wrap64 (4 + x5)) ≤ (wrap64 ((wrap64 (4 + x5)) + x4)) then (if (wrap64 ((wrap64 (4 + x5)) + x4)) ≤ (x0.size : Int) then (if 0 ≤ (wrap64 ((wrap64 (4 + x5)) + x4)) then ((spec_Frame.f k (x0.extract ((wrap64 (4 + x5)) : Int).toNat ((wrap64 ((wrap64 (4 + x5)) + x4)) : Int).toNat)).bind fun t252 => (if (x0.extract 0 ((wrap64 ((wrap64 (4 + x5)) + x4)) : Int).toNat).toList = t252.toList then (some (x0.extract ((wrap64 (4 + x5)) : Int).toNat ((wrap64 ((wrap64 (4 + x5)) + x4)) : Int).toNat, wrap64 ((wrap64 (4 + x5)) + x4))) else (some ((⟨#[]⟩ : ByteArray), 0)))) else (none)) else (none)) else (none)) else (none))
def spec_Unframe.f (k : Nat) (a0 : ByteArray) : Option (ByteArray × Int) := if (a0.size : Int) < 5 then (some ((⟨#[]⟩ : ByteArray), 0)) else (if 4 ≤ (a0.size : Int) then ((spec_ReadVar.f k (a0.extract 4 a0.size)).bind fun bt250 => (if bt250.2 = 0 then (spec_Unframe.j0 k a0 bt250.1 bt250.2 true) else (if bt250.1 > 200 then (spec_Unframe.j0 k a0 bt250.1 bt250.2 true) else (spec_Unframe.j0 k a0 bt250.1 bt250.2 (decide (bt250.1 > (wrap64 ((wrap64 ((a0.size : Int) - 4)) - bt250.2)))))))) else (none))
def spec_Unframe.T7 : Bool × List (List Nat × List Nat) := (true, [([], []), ([], []), ([1], [1]), ([], []), ([2, 3], [2, 3]), ([0, 4], [0, 4]), ([], []), ([6], [6]), ([5, 7], [5, 7])])
def spec_Unframe.B7 : List Nat := [0, 0, 2, 0, 14, 31, 0, 64, 255]
theorem spec_Unframe.tab7 : rtab .any (opsOf Try.f38 7) = spec_Unframe.T7 := by kernel_rfl
theorem spec_Unframe.bits7 : waitsOk spec_Unframe.T7.2 spec_Unframe.B7 = true := by kernel_rfl
theorem spec_Unframe.calls {k : Nat} {a0 r1 : ByteArray} {r2 : Int} {w : World} (h : spec_Unframe.f k a0 = some (r1, r2)) :
  Calls Try.prog 38 #[.string a0] w fun e w' => e = .returned (.tuple #[.string r1, .int .i64 r2]) ∧ Below w.heap.size w w' := by
 have HB := am_ (Below.refl w.heap.size w); unfold spec_Unframe.f at h; have H := h; clear h; by_cases c2 : (a0.size : Int) < 5
 ·rw [if_pos c2] at H; have c2b0 := dq_ c2; have c2b1 : decide (a0.size < 5) = true := decide_eq_true (by omega); clear c2; obtain ⟨rfl, rfl⟩ := i2_ H
  go_enter Try.func38, Try.ntmps38
  go_wp2
  go_ret2
  exact ⟨re_, hb_ HB⟩
 ·rw [if_neg c2] at H; have c2b0 := df_ c2; have c2b1 : decide (a0.size < 5) = false := decide_eq_false (by omega); clear c2; replace H := ig_ H; obtain ⟨c3b0, c3b1, H⟩ := H; replace H := bnd_ H; obtain ⟨⟨t250, t251⟩, A4, H⟩ := H; have HC5 := am_ H; clear H
  go_enter Try.func38, Try.ntmps38
  go_upto_region 4 with ((with_reducible refine gc0_ 61 ?_); refine gc_ 13 Try.func61 ?_; refine ch1_ (spec_ReadVar.calls A4.1) ?_; intro w6 hb; replace HB := bx_ HB hb; clear hb)
  (try simp only [Act.put, la_, lz_, ls_])
  go_cut [30] (fun v30 wc => ∃ (kq : Nat) (x30_4 : Bool), v30 = .bool x30_4 ∧ Aside0 (spec_Unframe.j0 kq a0 t250 t251 x30_4 = some (r1, r2)) ∧ Aside0 (kq ≤ k) ∧ Aside0 (Below w.heap.size w wc))
  case first =>
   have H := HC5.1; clear HC5; by_cases c7 : t251 = 0
   ·rw [if_pos c7] at H; have ⟨c7b0, c7b1⟩ := bq5_ c7; clear c7
    (first | rw [c7b0] | (simp only [i64_w, i32_w]; rw [c7b0]) | skip)
    have H' := am_ H; clear H
    go_wp2
    go_meet
    case rel => exact ⟨_, _, rs_, H', ⟨m0_⟩, ⟨hb_ HB⟩⟩
   ·rw [if_neg c7] at H; have ⟨c7b0, c7b1⟩ := bq6_ c7
    (first | rw [c7b0] | (simp only [i64_w, i32_w]; rw [c7b0]) | skip)
    by_cases c8 : t250 > 200
    ·rw [if_pos c8] at H; have c8b0 := dq_ c8; clear c8; have H' := am_ H; clear H
     go_wp2
     go_meet
     case rel => exact ⟨_, _, rs_, H', ⟨m0_⟩, ⟨hb_ HB⟩⟩
    ·rw [if_neg c8] at H; have c8b0 := df_ c8; clear c8; have H' := am_ H; clear H
     go_wp2
     go_meet
     case rel => exact ⟨_, _, rs_, H', ⟨m0_⟩, ⟨hb_ HB⟩⟩
  case rest =>
   clear HC5
   (try clear c2); (try clear c2b0); (try clear c2b1); (try clear c3); (try clear c3b0); (try clear c3b1); (try clear c7); (try clear c7b0); (try clear c7b1); (try clear c8); (try clear c8b0)
   obtain ⟨kq, x30_4, rfl, HA, HJ4, HB⟩ := hcut
   cases kq with
   | zero => exact zz_ HA
   | succ kj4 =>
    have H := HA.1; clear HA; simp only [spec_Unframe.j0] at H; by_cases c9 : x30_4 = true
    ·subst c9; rw [if_pos rfl] at H; obtain ⟨rfl, rfl⟩ := i2_ H
     go_wp2
     go_ret2
     exact ⟨re_, hb_ HB⟩
    ·replace c9 := bF_ c9; subst c9; rw [if_neg ff_] at H; obtain ⟨ji10, hji10⟩ : ∃ j_ : Int, (wrap64 (4 + t251)) = j_ := ⟨_, rfl⟩
     (first | rw [hji10] at H | simp only [hji10] at H)
     have hji10w : (IntKind.i64.wrap (4 + t251)) = ji10 := (i64_w _).trans hji10; replace H := ig_ H; obtain ⟨c11b0, c11b1, H⟩ := H; replace H := ih_ H; obtain ⟨c12, H⟩ := H; have ⟨c12b0, c12b1⟩ := dt_ c12; replace H := ih_ H; obtain ⟨c13, H⟩ := H; have ⟨c13b0, c13b1⟩ := dt_ c13; obtain ⟨ji14, hji14⟩ : ∃ j_ : Int, (wrap64 ((ji10) + t250)) = j_ := ⟨_, rfl⟩
     (first | rw [hji14] at H | simp only [hji14] at H)
     (try rw [hji14] at c12b0)
     (try rw [hji14] at c12b1)
     (try rw [hji14] at c12)
     (try rw [hji14] at c13b0)
     (try rw [hji14] at c13b1)
     (try rw [hji14] at c13)
     have hji14w : (IntKind.i64.wrap ((ji10) + t250)) = ji14 := (i64_w _).trans hji14; replace H := ig_ H; obtain ⟨c15b0, c15b1, H⟩ := H; have c16b0 := eq_true (od_ : (ji14) ≤ (a0.size : Int)); replace H := bnd_ H; obtain ⟨t252, A17, H⟩ := H; by_cases c18 : (a0.extract 0 ((ji14) : Int).toNat).toList = t252.toList
     ·rw [if_pos c18] at H; have ⟨c18b0, c18b1⟩ := bq5_ c18; clear c18; obtain ⟨rfl, rfl⟩ := i2_ H
      try go_wp2
      replace HB := hd_ HB; refine st1_ 9 spec_Unframe.tab7 spec_Unframe.bits7 trivial (fun hHeld HT_ HW_ => ?_) (S := fun w' => True)
      generalize wc.drew = w19 at HB hHeld ⊢
      (iterate 7 refine pr_ ?_); refine o1_ 7 (some 46) (on_ 8 1) fun K hK => ?_; refine go2_ Try.func53 (spec_Frame.calls A17.1) ?_ (hargs := (by (try simp only [List.map_toArray, List.map_cons, List.map_nil]); first | done | (simp only [hji10, hji14]; rfl) | rfl | (simp only [List.length_drop, List.length_take]; rfl))); intro w20 hb; replace HB := bx_ HB hb
      (try clear hb)
      (try clear hb2)
      (try clear hk)
      (try clear hi)
      refine hK.out _ _ trivial (fun hHeld => ?_); clear hK K; refine nm_ ?_; refine pr_ ?_; refine dn_ ?_; have Nji14_ := am_ hji14; clear hji14
      (try clear hji14w)
      have Nji10_ := am_ hji10; clear hji10
      (try clear hji10w)
      try go_wp2
      have hji10 := Nji10_.1; clear Nji10_
      (try have hji10w := (i64_w _).trans hji10)
      have hji14 := Nji14_.1; clear Nji14_
      (try have hji14w := (i64_w _).trans hji14)
      go_ret2
      exact ⟨by first | rfl | (simp [errW_none, errW_some] <;> rfl) | (simp only [← hji10, ← hji14]; first | rfl | (simp [errW_none, errW_some] <;> rfl)) | (simp [*, errW_none, errW_some] <;> rfl), hb_ HB⟩
     ·rw [if_neg c18] at H; have ⟨c18b0, c18b1⟩ := bq6_ c18; obtain ⟨rfl, rfl⟩ := i2_ H
      try go_wp2
      replace HB := hd_ HB; refine st1_ 9 spec_Unframe.tab7 spec_Unframe.bits7 trivial (fun hHeld HT_ HW_ => ?_) (S := fun w' => True)
      generalize wc.drew = w21 at HB hHeld ⊢
      (iterate 7 refine pr_ ?_); refine o1_ 7 (some 46) (on_ 8 1) fun K hK => ?_; refine go2_ Try.func53 (spec_Frame.calls A17.1) ?_ (hargs := (by (try simp only [List.map_toArray, List.map_cons, List.map_nil]); first | done | (simp only [hji10, hji14]; rfl) | rfl | (simp only [List.length_drop, List.length_take]; rfl))); intro w22 hb; replace HB := bx_ HB hb
      (try clear hb)
      (try clear hb2)
      (try clear hk)
      (try clear hi)
      refine hK.out _ _ trivial (fun hHeld => ?_); clear hK K; refine nm_ ?_; refine pr_ ?_; refine dn_ ?_; have Nji14_ := am_ hji14; clear hji14
      (try clear hji14w)
      have Nji10_ := am_ hji10; clear hji10
      (try clear hji10w)
      try go_wp2
      have hji10 := Nji10_.1; clear Nji10_
      (try have hji10w := (i64_w _).trans hji10)
      have hji14 := Nji14_.1; clear Nji14_
      (try have hji14w := (i64_w _).trans hji14)
      go_ret2
      exact ⟨by first | rfl | (simp [errW_none, errW_some] <;> rfl) | (simp only [← hji10, ← hji14]; first | rfl | (simp [errW_none, errW_some] <;> rfl)) | (simp [*, errW_none, errW_some] <;> rfl), hb_ HB⟩
def spec_l5Text.f (k : Nat) (a0 : ByteArray) : Option (ByteArray × ByteArray × Bool) := (spec_ReadVar.f k a0).bind fun bt253 => (if bt253.2 = 0 then (some ((⟨#[]⟩ : ByteArray), (⟨#[]⟩ : ByteArray), false)) else (if bt253.1 > (wrap64 ((a0.size : Int) - bt253.2)) then (some ((⟨#[]⟩ : ByteArray), (⟨#[]⟩ : ByteArray), false)) else (if 0 ≤ bt253.2 then (if bt253.2 ≤ (wrap64 (bt253.2 + bt253.1)) then (if (wrap64 (bt253.2 + bt253.1)) ≤ (a0.size : Int) then (if 0 ≤ (wrap64 (bt253.2 + bt253.1)) then (some (a0.extract (bt253.2 : Int).toNat ((wrap64 (bt253.2 + bt253.1)) : Int).toNat, a0.extract ((wrap64 (bt253.2 + bt253.1)) : Int).toNat a0.size, true)) else (none)) else (none)) else (none)) else (none))))
theorem spec_l5Text.calls {k : Nat} {a0 r1 r2 : ByteArray} {r3 : Bool} {w : World} (h : spec_l5Text.f k a0 = some (r1, r2, r3)) :
  Calls Try.prog 62 #[.string a0] w fun e w' => e = .returned (.tuple #[.string r1, .string r2, .bool r3]) ∧ Below w.heap.size w w' := by
 have HB := am_ (Below.refl w.heap.size w); unfold spec_l5Text.f at h; have H := h; clear h; replace H := bnd_ H; obtain ⟨⟨t253, t254⟩, A2, H⟩ := H; by_cases c3 : t254 = 0
 ·rw [if_pos c3] at H; have ⟨c3b0, c3b1⟩ := bq5_ c3; clear c3; obtain ⟨rfl, rfl, rfl⟩ := i3_ H
  go_enter Try.func62, Try.ntmps62
  go_wp2_with (go_at_call 61; refine cm_ (spec_ReadVar.calls A2.1) ?_; rintro e w4 ⟨rfl, hb⟩; replace HB := bx_ HB hb; clear hb)
  repeat (go_quiet ((go_at_call 61; refine cm_ (spec_ReadVar.calls A2.1) ?_; rintro e w4 ⟨rfl, hb⟩; replace HB := bx_ HB hb; clear hb)); try go_wp2_with (go_at_call 61; refine cm_ (spec_ReadVar.calls A2.1) ?_; rintro e w4 ⟨rfl, hb⟩; replace HB := bx_ HB hb; clear hb))
  go_ret3
  exact ⟨re_, hb_ HB⟩
 ·rw [if_neg c3] at H; have ⟨c3b0, c3b1⟩ := bq6_ c3; by_cases c5 : t253 > (wrap64 ((a0.size : Int) - t254))
  ·rw [if_pos c5] at H; have c5b0 := dq_ c5; clear c5; obtain ⟨rfl, rfl, rfl⟩ := i3_ H
   go_enter Try.func62, Try.ntmps62
   go_wp2_with (go_at_call 61; refine cm_ (spec_ReadVar.calls A2.1) ?_; rintro e w6 ⟨rfl, hb⟩; replace HB := bx_ HB hb; clear hb)
   repeat (go_quiet ((go_at_call 61; refine cm_ (spec_ReadVar.calls A2.1) ?_; rintro e w6 ⟨rfl, hb⟩; replace HB := bx_ HB hb; clear hb)); try go_wp2_with (go_at_call 61; refine cm_ (spec_ReadVar.calls A2.1) ?_; rintro e w6 ⟨rfl, hb⟩; replace HB := bx_ HB hb; clear hb))
   go_ret3
   exact ⟨re_, hb_ HB⟩
  ·rw [if_neg c5] at H; have c5b0 := df_ c5; clear c5; replace H := ig_ H; obtain ⟨c7b0, c7b1, H⟩ := H; replace H := ih_ H; obtain ⟨c8, H⟩ := H; have ⟨c8b0, c8b1⟩ := dt_ c8; replace H := ih_ H; obtain ⟨c9, H⟩ := H; have ⟨c9b0, c9b1⟩ := dt_ c9; obtain ⟨ji10, hji10⟩ : ∃ j_ : Int, (wrap64 (t254 + t253)) = j_ := ⟨_, rfl⟩
   (first | rw [hji10] at H | simp only [hji10] at H)
   (try rw [hji10] at c8b0)
   (try rw [hji10] at c8b1)
   (try rw [hji10] at c8)
   (try rw [hji10] at c9b0)
   (try rw [hji10] at c9b1)
   (try rw [hji10] at c9)
   (try rw [hji10] at A2)
   have hji10w : (IntKind.i64.wrap (t254 + t253)) = ji10 := (i64_w _).trans hji10; replace H := ig_ H; obtain ⟨c11b0, c11b1, H⟩ := H; have c12b0 := eq_true (od_ : (ji10) ≤ (a0.size : Int)); obtain ⟨rfl, rfl, rfl⟩ := i3_ H
   go_enter Try.func62, Try.ntmps62
   go_wp2_with (go_at_call 61; refine cm_ (spec_ReadVar.calls A2.1) ?_; rintro e w13 ⟨rfl, hb⟩; replace HB := bx_ HB hb; clear hb)
   repeat (go_quiet ((go_at_call 61; refine cm_ (spec_ReadVar.calls A2.1) ?_; rintro e w13 ⟨rfl, hb⟩; replace HB := bx_ HB hb; clear hb)); try go_wp2_with (go_at_call 61; refine cm_ (spec_ReadVar.calls A2.1) ?_; rintro e w13 ⟨rfl, hb⟩; replace HB := bx_ HB hb; clear hb))
   go_ret3
   exact ⟨rj_ hji10, hb_ HB⟩
mutual
def spec_ReadFixed.j0 : Nat → ByteArray → Int → Bool → Option (Int × Bool)
 | 0, _, _, _ => none
 | k + 1, x0, x1, x16 => if x16 = true then (some (0, false)) else (spec_ReadFixed.l0 k x0 x1 0 0)
def spec_ReadFixed.l0 : Nat → ByteArray → Int → Int → Int → Option (Int × Bool)
 | 0, _, _, _, _ => none
 | k + 1, x0, x1, x6, x7 => if x7 < x1 then (if 0 ≤ x7 then (if x7 < (x0.size : Int) then (spec_ReadFixed.l0 k x0 x1 (wrap64 ((wrap64 (x6 * 256)) + (wrap64 (bt x0 x7)))) (wrap64 (x7 + 1))) else (none)) else (none)) else (some (x6, true))
end
def spec_ReadFixed.f (k : Nat) (a0 : ByteArray) (a1 : Int) : Option (Int × Bool) := (spec_l1In.f a1 1 7).bind fun t255 => (if t255 = true then (spec_ReadFixed.j0 k a0 a1 (decide ((a0.size : Int) < a1))) else (spec_ReadFixed.j0 k a0 a1 true))
theorem spec_ReadFixed.calls {k : Nat} {a0 : ByteArray} {a1 r1 : Int} {r2 : Bool} {w : World} (h : spec_ReadFixed.f k a0 a1 = some (r1, r2)) :
  Calls Try.prog 63 #[.string a0, .int .i64 a1] w fun e w' => e = .returned (.tuple #[.int .i64 r1, .bool r2]) ∧ Drawn0 w w' := by
 unfold spec_ReadFixed.f at h; have H := h; clear h; have HC3 := am_ H; clear H
 go_enter Try.func63, Try.ntmps63
 go_upto_region 1 with (fail)
 go_cut [16] (fun v16 wc => ∃ (kq : Nat) (x16_2 : Bool), v16 = .bool x16_2 ∧ Aside0 (spec_ReadFixed.j0 kq a0 a1 x16_2 = some (r1, r2)) ∧ Aside0 (kq ≤ k) ∧ Drawn0 w wc)
 case first =>
  have H := HC3.1; clear HC3; replace H := bnd_ H; obtain ⟨t255, A4, H⟩ := H; by_cases c5 : t255 = true
  ·subst c5; rw [if_pos rfl] at H; have H' := am_ H; clear H
   go_wp2_with (refine gc_ 9 Try.func50 ?_; refine ch1_ (spec_l1In.calls A4.1) ?_; rintro w' ⟨nd, rfl⟩)
   go_meet
   case rel => exact ⟨_, _, rs_, H', ⟨m0_⟩, by repeat (first | exact Drawn0.refl _ | apply Drawn0.step)⟩
  ·replace c5 := bF_ c5; subst c5; rw [if_neg ff_] at H; have H' := am_ H; clear H
   go_wp2_with (refine gc_ 9 Try.func50 ?_; refine ch1_ (spec_l1In.calls A4.1) ?_; rintro w' ⟨nd, rfl⟩)
   go_meet
   case rel => exact ⟨_, _, rs_, H', ⟨m0_⟩, by repeat (first | exact Drawn0.refl _ | apply Drawn0.step)⟩
 case rest =>
  clear HC3
  (try clear c5)
  obtain ⟨kq, x16_2, rfl, HA, HJ2, ⟨mc2, rfl⟩⟩ := hcut
  cases kq with
  | zero => exact zz_ HA
  | succ kj2 =>
   have H := HA.1; clear HA; simp only [spec_ReadFixed.j0] at H; by_cases c6 : x16_2 = true
   ·subst c6; rw [if_pos rfl] at H; obtain ⟨rfl, rfl⟩ := i2_ H
    go_wp2
    go_ret2
    exact ⟨by first | rfl | (simp; done) | (simp [*]; done), by repeat (first | exact Drawn0.refl _ | apply Drawn0.step)⟩
   ·replace c6 := bF_ c6; subst c6; rw [if_neg ff_] at H; have H' := am_ H; clear H
    go_wp2
    go_loopg [6, 7] kj2 (fun kq v6 v7 w' => ∃ (x6_2 : Int) (x7_2 : Int), v6 = .int .i64 x6_2 ∧ v7 = .int .i64 x7_2 ∧ Aside0 (spec_ReadFixed.l0 kq a0 a1 x6_2 x7_2 = some (r1, r2)) ∧ Aside0 (kq ≤ kj2) ∧ Drawn0 w w')
    case atStart => exact ⟨_, _, rs_, rs_, H', ⟨Nat.le_refl _⟩, by repeat (first | exact Drawn0.refl _ | apply Drawn0.step)⟩
    case round =>
     clear H'
     (try clear c5); (try clear c6)
     obtain ⟨x6_2, x7_2, rfl, rfl, HA, HK2, ⟨m2, rfl⟩⟩ := hrel
     cases gk with
     | zero => exact zz_ HA
     | succ k2 =>
      have H := HA.1; clear HA; simp only [spec_ReadFixed.l0] at H; by_cases c7 : x7_2 < a1
      ·rw [if_pos c7] at H; have c7b0 := dq_ c7; clear c7; replace H := ih_ H; obtain ⟨c8, H⟩ := H; have c8b0 := dq_ c8; clear c8; replace H := ih_ H; obtain ⟨c9, H⟩ := H; have c9b0 := dq_ c9; clear c9; have H' := am_ H; clear H; have p10 : 0 ≤ (x7_2 : Int) := od_; have q10 : x7_2 < (a0.size : Int) := od_; have hx10 := bt_at a0 x7_2; replace p10 := eq_true p10; replace q10 := eq_true q10
       go_wp2
       go_roundg k2
       case measure => exact m2_ HJ2 HK2
       case rel => exact ⟨_, _, rs_, rs_, H', ⟨m2_ HJ2 HK2⟩, by repeat (first | exact Drawn0.refl _ | apply Drawn0.step)⟩
      ·rw [if_neg c7] at H; have c7b0 := df_ c7; clear c7; obtain ⟨rfl, rfl⟩ := i2_ H
       go_wp2
       go_ret2
       exact ⟨by first | rfl | (simp; done) | (simp [*]; done), by repeat (first | exact Drawn0.refl _ | apply Drawn0.step)⟩
mutual
def spec_ReadRec.j0 : Nat → ByteArray → Int → Int → Int → Int → Bool → Option (Int × Int × ByteArray × ByteArray × Int × Int × Bool)
 | 0, _, _, _, _, _, _ => none
 | k + 1, x0, x4, x5, x6, x7, x40 => if x40 = true then (some (0, 0, (⟨#[]⟩ : ByteArray), (⟨#[]⟩ : ByteArray), 0, 0, false)) else (if 0 ≤ (wrap64 (x5 + x7)) then (if (wrap64 (x5 + x7)) ≤ (x0.size : Int) then (if x4 = 1 then (spec_ReadRec.j1 k x0 (x0.extract ((wrap64 (x5 + x7)) : Int).toNat x0.size) x4 (x4 == 1) x4 x6 (⟨#[]⟩ : ByteArray) (⟨#[]⟩ : ByteArray) 0 0) else (spec_ReadRec.j1 k x0 (x0.extract ((wrap64 (x5 + x7)) : Int).toNat x0.size) x4 (x4 == 4) x4 x6 (⟨#[]⟩ : ByteArray) (⟨#[]⟩ : ByteArray) 0 0)) else (none)) else (none))
def spec_ReadRec.j2 : Nat → ByteArray → Int → Int → ByteArray → ByteArray → Int → Int → Option (Int × Int × ByteArray × ByteArray × Int × Int × Bool)
 | 0, _, _, _, _, _, _, _ => none
 | k + 1, x0, x262000, x262001, x262002, x262003, x262004, x262005 => (spec_ShowRec.f k x262000 x262001 x262002 x262003 x262004 x262005).bind fun t275 => (if t275.toList = x0.toList then (if x0.toList = ([] : List UInt8) then (some (0, 0, (⟨#[]⟩ : ByteArray), (⟨#[]⟩ : ByteArray), 0, 0, false)) else (some (x262000, x262001, x262002, x262003, x262004, x262005, true))) else (some (0, 0, (⟨#[]⟩ : ByteArray), (⟨#[]⟩ : ByteArray), 0, 0, false)))
def spec_ReadRec.j1 : Nat → ByteArray → ByteArray → Int → Bool → Int → Int → ByteArray → ByteArray → Int → Int → Option (Int × Int × ByteArray × ByteArray × Int × Int × Bool)
 | 0, _, _, _, _, _, _, _, _, _, _ => none
 | k + 1, x0, x9, x50, x67, x262000, x262001, x262002, x262003, x262004, x262005 => if x67 = true then ((spec_l5Text.f k x9).bind fun bt262 => ((spec_l5Text.f k bt262.2.1).bind fun bt265 => (spec_ReadRec.j2 k x0 x262000 x262001 bt262.1 bt265.1 x262004 x262005))) else (if x50 = 2 then ((spec_l5Text.f k x9).bind fun bt268 => (spec_ReadRec.j2 k x0 x262000 x262001 bt268.1 x262003 x262004 x262005)) else ((spec_ReadVar.f k x9).bind fun bt271 => (if 0 ≤ bt271.2 then (if bt271.2 ≤ (x9.size : Int) then ((spec_ReadFixed.f k (x9.extract (bt271.2 : Int).toNat x9.size) 4).bind fun bt273 => (spec_ReadRec.j2 k x0 x262000 x262001 x262002 x262003 bt271.1 bt273.1)) else (none)) else (none))))
end
def spec_ReadRec.f (k : Nat) (a0 : ByteArray) : Option (Int × Int × ByteArray × ByteArray × Int × Int × Bool) := (spec_ReadVar.f k a0).bind fun bt257 => (if 0 ≤ bt257.2 then (if bt257.2 ≤ (a0.size : Int) then ((spec_ReadVar.f k (a0.extract (bt257.2 : Int).toNat a0.size)).bind fun bt259 => (if bt257.2 = 0 then (spec_ReadRec.j0 k a0 bt257.1 bt257.2 bt259.1 bt259.2 true) else (spec_ReadRec.j0 k a0 bt257.1 bt257.2 bt259.1 bt259.2 (bt259.2 == 0)))) else (none)) else (none))
theorem spec_ReadRec.calls {k : Nat} {a0 : ByteArray} {r1 r2 : Int} {r3 r4 : ByteArray} {r5 r6 : Int} {r7 : Bool} {w : World} (h : spec_ReadRec.f k a0 = some (r1, r2, r3, r4, r5, r6, r7)) :
  Calls Try.prog 39 #[.string a0] w fun e w' => e = .returned (.tuple #[.agg #[.int .i64 r1, .int .i64 r2, .string r3, .string r4, .int .i64 r5, .int .i64 r6], .bool r7]) ∧ Below w.heap.size w w' := by
 have hu41 := Try.underlying41; have HB := am_ (Below.refl w.heap.size w); unfold spec_ReadRec.f at h; have H := h; clear h; replace H := bnd_ H; obtain ⟨⟨t257, t258⟩, A2, H⟩ := H; replace H := ig_ H; obtain ⟨c3b0, c3b1, H⟩ := H; replace H := ig_ H; obtain ⟨c4b0, c4b1, H⟩ := H; replace H := bnd_ H; obtain ⟨⟨t259, t260⟩, A5, H⟩ := H; have HC6 := am_ H; clear H
 go_enter Try.func39, Try.ntmps39
 go_upto_region 3 with (first | ((with_reducible refine gd_ 2 ?_); refine bx1_ 2 #[.int .i64 0, .int .i64 0, .string (⟨#[]⟩ : ByteArray), .string (⟨#[]⟩ : ByteArray), .int .i64 0, .int .i64 0] 41 ?_; intro gb256 hg w7 hbox hb; have BK256 := am_ hbox; have GE256 := gx_ hg HB; replace HB := bx_ HB hb; clear hb hbox hg) | ((with_reducible refine gc0_ 61 ?_); refine gc_ 25 Try.func61 ?_; refine ch1_ (spec_ReadVar.calls A2.1) ?_; intro w8 hb; replace BK256 := bb_ BK256 hb; replace HB := bx_ HB hb; clear hb) | ((with_reducible refine gc0_ 61 ?_); refine gc_ 32 Try.func61 ?_; refine ch1_ (spec_ReadVar.calls A5.1) ?_; intro w9 hb; replace BK256 := bb_ BK256 hb; replace HB := bx_ HB hb; clear hb))
 (try simp only [Act.put, la_, lz_, ls_])
 go_cut [40] (fun v40 wc => ∃ (kq : Nat) (x40_5 : Bool), v40 = .bool x40_5 ∧ Aside0 (spec_ReadRec.j0 kq a0 t257 t258 t259 t260 x40_5 = some (r1, r2, r3, r4, r5, r6, r7)) ∧ Aside0 (kq ≤ k) ∧ Aside0 (wc.heap[gb256]? = some (.cells #[.int .i64 0, .int .i64 0, .string (⟨#[]⟩ : ByteArray), .string (⟨#[]⟩ : ByteArray), .int .i64 0, .int .i64 0] 41 (0, 0))) ∧ Aside0 (Below w.heap.size w wc))
 case first =>
  have H := HC6.1; clear HC6; by_cases c10 : t258 = 0
  ·rw [if_pos c10] at H; have ⟨c10b0, c10b1⟩ := bq5_ c10; clear c10
   (first | rw [c10b0] | (simp only [i64_w, i32_w]; rw [c10b0]) | skip)
   have H' := am_ H; clear H
   go_wp2
   go_meet
   case rel => exact ⟨_, _, rs_, H', ⟨m0_⟩, ⟨bk_ BK256⟩, ⟨hs_ HB GE256⟩⟩
  ·rw [if_neg c10] at H; have ⟨c10b0, c10b1⟩ := bq6_ c10
   (first | rw [c10b0] | (simp only [i64_w, i32_w]; rw [c10b0]) | skip)
   have H' := am_ H; clear H
   go_wp2
   go_meet
   case rel => exact ⟨_, _, rs_, H', ⟨m0_⟩, ⟨bk_ BK256⟩, ⟨hs_ HB GE256⟩⟩
 case rest =>
  clear HC6
  (try clear c3); (try clear c3b0); (try clear c3b1); (try clear c4); (try clear c4b0); (try clear c4b1); (try clear c10); (try clear c10b0); (try clear c10b1)
  obtain ⟨kq, x40_5, rfl, HA, HJ5, BK256, HB⟩ := hcut
  cases kq with
  | zero => exact zz_ HA
  | succ kj5 =>
   have H := HA.1; clear HA; simp only [spec_ReadRec.j0] at H; by_cases c11 : x40_5 = true
   ·subst c11; rw [if_pos rfl] at H; obtain ⟨rfl, rfl, rfl, rfl, rfl, rfl, rfl⟩ := i7_ H; obtain ⟨_, _, _, _, _, _, _, _, _, _, _, _⟩ := bc6_ BK256
    go_wp2
    refine bodyPost_ret (results_ct rfl _ _ gb256 41 #[.int .i64 0, .int .i64 0, .string (⟨#[]⟩ : ByteArray), .string (⟨#[]⟩ : ByteArray), .int .i64 0, .int .i64 0] (0, 0) _ rfl (uk_ BK256) Try.underlying41 rfl (by kernel_rfl)) rfl ?_; exact ⟨re_, hs_ HB GE256⟩
   ·replace c11 := bF_ c11; subst c11; rw [if_neg ff_] at H; obtain ⟨ji13, hji13⟩ : ∃ j_ : Int, (wrap64 (t258 + t260)) = j_ := ⟨_, rfl⟩
    (first | rw [hji13] at H | simp only [hji13] at H)
    have hji13w : (IntKind.i64.wrap (t258 + t260)) = ji13 := (i64_w _).trans hji13; replace H := ig_ H; obtain ⟨c14b0, c14b1, H⟩ := H; replace H := ig_ H; obtain ⟨c15b0, c15b1, H⟩ := H; have HC16 := am_ H; clear H
    go_upto_block 0 with ((with_reducible refine gd_ 8 ?_); refine bx1_ 8 #[.int .i64 0, .int .i64 0, .string (⟨#[]⟩ : ByteArray), .string (⟨#[]⟩ : ByteArray), .int .i64 0, .int .i64 0] 41 ?_; intro gb261 hg w17 hbox hb; have BK261 := am_ hbox; have GE261 := gx_ hg HB; replace HB := bx_ HB hb; have ⟨NB256_261, NB261_256⟩ := nn_ BK256 hg; replace BK256 := bb_ BK256 hb; clear hb hbox hg; have := NB261_256.1; have := NB256_261.1; obtain ⟨Z19_0, Z19_1, Z19_2, Z19_3, Z19_4, Z19_5, F19_0, F19_1, F19_2, F19_3, F19_4, F19_5⟩ := bc6_ BK261)
    (try simp only [Act.put, la_, lz_, ls_])
    go_cut [] (fun wc => ∃ (kq : Nat) (x262002_15 : ByteArray) (x262003_15 : ByteArray) (x262004_15 : Int) (x262005_15 : Int), Aside0 (spec_ReadRec.j2 kq a0 t257 t259 x262002_15 x262003_15 x262004_15 x262005_15 = some (r1, r2, r3, r4, r5, r6, r7)) ∧ Aside0 (kq ≤ kj5) ∧ Aside0 (wc.heap[gb256]? = some (.cells #[.int .i64 0, .int .i64 0, .string (⟨#[]⟩ : ByteArray), .string (⟨#[]⟩ : ByteArray), .int .i64 0, .int .i64 0] 41 (0, 0))) ∧ Aside0 (wc.heap[gb261]? = some (.cells #[.int .i64 t257, .int .i64 t259, .string x262002_15, .string x262003_15, .int .i64 x262004_15, .int .i64 x262005_15] 41 (0, 0))) ∧ Aside0 (Below w.heap.size w wc))
    case first =>
     have H := HC16.1; clear HC16; have HC20 := am_ H; clear H
     go_upto_if 67 with (fail)
     go_cut [67] (fun v67 wc => ∃ (kq : Nat) (x67_19 : Bool), v67 = .bool x67_19 ∧ Aside0 (spec_ReadRec.j1 kq a0 (a0.extract ((ji13) : Int).toNat a0.size) t257 x67_19 t257 t259 (⟨#[]⟩ : ByteArray) (⟨#[]⟩ : ByteArray) 0 0 = some (r1, r2, r3, r4, r5, r6, r7)) ∧ Aside0 (kq ≤ kj5) ∧ Aside0 (wc.heap[gb256]? = some (.cells #[.int .i64 0, .int .i64 0, .string (⟨#[]⟩ : ByteArray), .string (⟨#[]⟩ : ByteArray), .int .i64 0, .int .i64 0] 41 (0, 0))) ∧ Aside0 (wc.heap[gb261]? = some (.cells #[.int .i64 t257, .int .i64 t259, .string (⟨#[]⟩ : ByteArray), .string (⟨#[]⟩ : ByteArray), .int .i64 0, .int .i64 0] 41 (0, 0))) ∧ Aside0 (Below w.heap.size w wc))
     case first =>
      have H := HC20.1; clear HC20; by_cases c21 : t257 = 1
      ·rw [if_pos c21] at H; have ⟨c21b0, c21b1⟩ := bq5_ c21; clear c21
       (first | rw [c21b0] | (simp only [i64_w, i32_w]; rw [c21b0]) | skip)
       have H' := am_ H; clear H
       go_wp2
       go_meet
       case rel => exact ⟨_, ((t257 == 1)), rs_, (by first | exact H' | (simp only [hji13]; exact H')), ⟨m1_ HJ5⟩, ⟨uk_ BK256⟩, ⟨uk_ BK261⟩, ⟨hz_ HB⟩⟩
      ·rw [if_neg c21] at H; have ⟨c21b0, c21b1⟩ := bq6_ c21
       (first | rw [c21b0] | (simp only [i64_w, i32_w]; rw [c21b0]) | skip)
       have H' := am_ H; clear H
       go_wp2
       go_meet
       case rel => exact ⟨_, ((t257 == 4)), rs_, (by first | exact H' | (simp only [hji13]; exact H')), ⟨m1_ HJ5⟩, ⟨uk_ BK256⟩, ⟨uk_ BK261⟩, ⟨hz_ HB⟩⟩
     case rest =>
      clear HC20
      (try clear c3); (try clear c3b0); (try clear c3b1); (try clear c4); (try clear c4b0); (try clear c4b1); (try clear c10); (try clear c10b0); (try clear c10b1); (try clear c11); (try clear c14); (try clear c14b0); (try clear c14b1); (try clear c15); (try clear c15b0); (try clear c15b1); (try clear c21); (try clear c21b0); (try clear c21b1)
      obtain ⟨kq, x67_19, rfl, HA, HJ19, BK256, BK261, HB⟩ := hcut
      cases kq with
      | zero => exact zz_ HA
      | succ kj19 =>
       have H := HA.1; clear HA; simp only [spec_ReadRec.j1] at H; by_cases c22 : x67_19 = true
       ·subst c22; rw [if_pos rfl] at H; replace H := bnd_ H; obtain ⟨⟨t262, t263, t264⟩, A23, H⟩ := H; replace H := bnd_ H; obtain ⟨⟨t265, t266, t267⟩, A24, H⟩ := H; have H' := am_ H; clear H
        go_wp2_with (first | (refine gc_ 72 Try.func62 ?_; refine ch1_ (spec_l5Text.calls A23.1) ?_ (hargs := (by (try simp only [List.map_toArray, List.map_cons, List.map_nil]); first | done | (simp only [hji13]; rfl) | rfl | (simp only [List.length_drop, List.length_take]; rfl) | (simp only [ByteArray.size_extract, Nat.min_self]; first | done | rfl))); intro w25 hb; replace BK256 := bb_ BK256 hb; replace BK261 := bb_ BK261 hb; replace HB := bx_ HB hb; clear hb) | (refine gc_ 78 Try.func62 ?_; refine ch1_ (spec_l5Text.calls A24.1) ?_; intro w26 hb; replace BK256 := bb_ BK256 hb; replace BK261 := bb_ BK261 hb; replace HB := bx_ HB hb; clear hb; have := NB261_256.1; have := NB256_261.1; obtain ⟨_, _, _, _, _, _, _, _, _, _, _, _⟩ := bc6_ BK261))
        go_meet
        case rel => exact ⟨_, (t262), (t265), (0), (0), (by first | exact H' | (simp only [hji13]; exact H')), ⟨m2_ HJ5 HJ19⟩, ⟨uk_ BK256⟩, ⟨uk_ BK261⟩, ⟨hz_ HB⟩⟩
       ·replace c22 := bF_ c22; subst c22; rw [if_neg ff_] at H; by_cases c29 : t257 = 2
        ·rw [if_pos c29] at H; have ⟨c29b0, c29b1⟩ := bq5_ c29; clear c29; replace H := bnd_ H; obtain ⟨⟨t268, t269, t270⟩, A30, H⟩ := H; have H' := am_ H; clear H
         go_wp2_with (refine gc_ 90 Try.func62 ?_; refine ch1_ (spec_l5Text.calls A30.1) ?_ (hargs := (by (try simp only [List.map_toArray, List.map_cons, List.map_nil]); first | done | (simp only [hji13]; rfl) | rfl | (simp only [List.length_drop, List.length_take]; rfl) | (simp only [ByteArray.size_extract, Nat.min_self]; first | done | rfl))); intro w31 hb; replace BK256 := bb_ BK256 hb; replace BK261 := bb_ BK261 hb; replace HB := bx_ HB hb; clear hb; have := NB261_256.1; have := NB256_261.1; obtain ⟨_, _, _, _, _, _, _, _, _, _, _, _⟩ := bc6_ BK261)
         go_meet
         case rel => exact ⟨_, (t268), ((⟨#[]⟩ : ByteArray)), (0), (0), (by first | exact H' | (simp only [hji13]; exact H')), ⟨m2_ HJ5 HJ19⟩, ⟨uk_ BK256⟩, ⟨uk_ BK261⟩, ⟨hz_ HB⟩⟩
        ·rw [if_neg c29] at H; have ⟨c29b0, c29b1⟩ := bq6_ c29; replace H := bnd_ H; obtain ⟨⟨t271, t272⟩, A34, H⟩ := H; replace H := ig_ H; obtain ⟨c35b0, c35b1, H⟩ := H; replace H := ih_ H; obtain ⟨c36, H⟩ := H; have ⟨c36b0, c36b1⟩ := dt_ c36; have c36x := of_decide_eq_true c36b1
         (try simp only [ByteArray.size_extract, Nat.min_self] at c36x)
         (try have c36y := c36x)
         (try have c36xb0 := eq_true c36x)
         (try have c36xb1 := dq_ c36x)
         (try clear c36x)
         (try (simp only [ByteArray.size_append, ByteArray.size_extract, Nat.min_eq_left, Nat.sub_zero, Int.toNat_le, *] at c36y; have c36yb0 := eq_true c36y; have c36yb1 := dq_ c36y; have c36yb2 := eq_false (Nat.not_lt.2 c36y)))
         (try clear c36y)
         clear c36; replace H := bnd_ H; obtain ⟨⟨t273, t274⟩, A37, H⟩ := H; have H' := am_ H; clear H
         go_wp2_with (first | (refine gc_ 53 Try.func61 ?_; refine ch1_ (spec_ReadVar.calls A34.1) ?_ (hargs := (by (try simp only [List.map_toArray, List.map_cons, List.map_nil]); first | done | (simp only [hji13]; rfl) | rfl | (simp only [List.length_drop, List.length_take]; rfl) | (simp only [ByteArray.size_extract, Nat.min_self]; first | done | rfl))); intro w38 hb; replace BK256 := bb_ BK256 hb; replace BK261 := bb_ BK261 hb; replace HB := bx_ HB hb; clear hb) | (refine gc_ 60 Try.func63 ?_; refine ch1_ (spec_ReadFixed.calls A37.1) ?_ (hargs := (by (try simp only [List.map_toArray, List.map_cons, List.map_nil]); first | done | (simp only [hji13]; rfl) | rfl | (simp only [List.length_drop, List.length_take]; rfl) | (simp only [ByteArray.size_extract, Nat.min_self]; first | done | rfl))); rintro w' ⟨nd, rfl⟩; (try (rw [drewN_self w38]; generalize hq_ : World.drewN w38 _ = w38; have n0_ : Aside0 (w38.heap[gb256]? = some (.cells #[.int .i64 0, .int .i64 0, .string (⟨#[]⟩ : ByteArray), .string (⟨#[]⟩ : ByteArray), .int .i64 0, .int .i64 0] 41 (0, 0))) := ⟨by rw [← hq_]; exact (bk_ BK256)⟩; have n1_ : Aside0 (w38.heap[gb261]? = some (.cells #[.int .i64 t257, .int .i64 t259, .string (⟨#[]⟩ : ByteArray), .string (⟨#[]⟩ : ByteArray), .int .i64 0, .int .i64 0] 41 (0, 0))) := ⟨by rw [← hq_]; exact (bk_ BK261)⟩; have n2_ : Aside0 (Below w.heap.size w w38) := ⟨by rw [← hq_]; exact (hu_ HB GE256 GE261)⟩; clear BK256 BK261 HB hq_; have BK256 := n0_; have BK261 := n1_; have HB := n2_; clear n0_ n1_ n2_)); have := NB261_256.1; have := NB256_261.1; obtain ⟨_, _, _, _, _, _, _, _, _, _, _, _⟩ := bc6_ BK261))
         go_meet
         case rel => exact ⟨_, ((⟨#[]⟩ : ByteArray)), ((⟨#[]⟩ : ByteArray)), (t271), (t273), (by first | exact H' | (simp only [hji13]; exact H')), ⟨m2_ HJ5 HJ19⟩, ⟨uk_ BK256⟩, ⟨uk_ BK261⟩, ⟨hz_ HB⟩⟩
    case rest =>
     clear HC16
     (try clear c3); (try clear c3b0); (try clear c3b1); (try clear c4); (try clear c4b0); (try clear c4b1); (try clear c10); (try clear c10b0); (try clear c10b1); (try clear c11); (try clear c14); (try clear c14b0); (try clear c14b1); (try clear c15); (try clear c15b0); (try clear c15b1); (try clear c21); (try clear c21b0); (try clear c21b1); (try clear c22); (try clear c29); (try clear c29b0); (try clear c29b1); (try clear c35); (try clear c35b0); (try clear c35b1); (try clear c36); (try clear c36b0); (try clear c36b1)
     obtain ⟨kq, x262002_15, x262003_15, x262004_15, x262005_15, HA, HJ15, BK256, BK261, HB⟩ := hcut
     cases kq with
     | zero => exact zz_ HA
     | succ kj15 =>
      have H := HA.1; clear HA; simp only [spec_ReadRec.j2] at H; replace H := bnd_ H; obtain ⟨t275, A41, H⟩ := H; by_cases c42 : t275.toList = a0.toList
      ·rw [if_pos c42] at H; have ⟨c42b0, c42b1⟩ := bq5_ c42; clear c42; by_cases c43 : a0.toList = ([] : List UInt8)
       ·rw [if_pos c43] at H; have ⟨c43b0, c43b1⟩ := bq5_ c43; clear c43; obtain ⟨rfl, rfl, rfl, rfl, rfl, rfl, rfl⟩ := i7_ H; have := NB261_256.1; have := NB256_261.1; obtain ⟨Z45_0, Z45_1, Z45_2, Z45_3, Z45_4, Z45_5, F45_0, F45_1, F45_2, F45_3, F45_4, F45_5⟩ := bc6_ BK261
        go_wp2_with (refine gc_ 97 Try.func54 ?_; refine ch1_ (spec_ShowRec.calls A41.1) ?_; intro w46 hb; replace BK256 := bb_ BK256 hb; replace BK261 := bb_ BK261 hb; replace HB := bx_ HB hb; clear hb; obtain ⟨_, _, _, _, _, _, _, _, _, _, _, _⟩ := bc6_ BK256)
        refine bodyPost_ret (results_ct rfl _ _ gb256 41 #[.int .i64 0, .int .i64 0, .string (⟨#[]⟩ : ByteArray), .string (⟨#[]⟩ : ByteArray), .int .i64 0, .int .i64 0] (0, 0) _ rfl (uk_ BK256) Try.underlying41 rfl (by kernel_rfl)) rfl ?_; exact ⟨rj_ hji13, hz_ HB⟩
       ·rw [if_neg c43] at H; have ⟨c43b0, c43b1⟩ := bq6_ c43; obtain ⟨rfl, rfl, rfl, rfl, rfl, rfl, rfl⟩ := i7_ H; have := NB261_256.1; have := NB256_261.1; obtain ⟨Z49_0, Z49_1, Z49_2, Z49_3, Z49_4, Z49_5, F49_0, F49_1, F49_2, F49_3, F49_4, F49_5⟩ := bc6_ BK261
        go_wp2_with (refine gc_ 97 Try.func54 ?_; refine ch1_ (spec_ShowRec.calls A41.1) ?_; intro w50 hb; replace BK256 := bb_ BK256 hb; replace BK261 := bb_ BK261 hb; replace HB := bx_ HB hb; clear hb; obtain ⟨_, _, _, _, _, _, _, _, _, _, _, _⟩ := bc6_ BK261; obtain ⟨_, _, _, _, _, _, _, _, _, _, _, _⟩ := bc6_ BK256)
        refine bodyPost_ret (results_ct rfl _ _ gb256 41 #[.int .i64 t257, .int .i64 t259, .string x262002_15, .string x262003_15, .int .i64 x262004_15, .int .i64 x262005_15] (0, 0) _ rfl (uk_ BK256) Try.underlying41 rfl (by kernel_rfl)) rfl ?_; exact ⟨rj_ hji13, hz_ HB⟩
      ·rw [if_neg c42] at H; have ⟨c42b0, c42b1⟩ := bq6_ c42; obtain ⟨rfl, rfl, rfl, rfl, rfl, rfl, rfl⟩ := i7_ H; have := NB261_256.1; have := NB256_261.1; obtain ⟨_, _, _, _, _, _, _, _, _, _, _, _⟩ := bc6_ BK261
       go_wp2_with (refine gc_ 97 Try.func54 ?_; refine ch1_ (spec_ShowRec.calls A41.1) ?_; intro w55 hb; replace BK256 := bb_ BK256 hb; replace BK261 := bb_ BK261 hb; replace HB := bx_ HB hb; clear hb; obtain ⟨_, _, _, _, _, _, _, _, _, _, _, _⟩ := bc6_ BK256)
       refine bodyPost_ret (results_ct rfl _ _ gb256 41 #[.int .i64 0, .int .i64 0, .string (⟨#[]⟩ : ByteArray), .string (⟨#[]⟩ : ByteArray), .int .i64 0, .int .i64 0] (0, 0) _ rfl (uk_ BK256) Try.underlying41 rfl (by kernel_rfl)) rfl ?_; exact ⟨rj_ hji13, hz_ HB⟩
def spec_ScanRecs.l0 : Nat → ByteArray → List (S43) → Int → Option ((List (S43)) × Int)
 | 0, _, _, _ => none
 | k + 1, x0, x4, x5 => if x5 < (x0.size : Int) then (if 0 ≤ x5 then (if x5 ≤ (x0.size : Int) then ((spec_Unframe.f k (x0.extract (x5 : Int).toNat x0.size)).bind fun bt279 => ((spec_ReadRec.f k bt279.1).bind fun bt281 => (if bt279.2 = 0 then (some (x4, x5)) else (if bt281.2.2.2.2.2.2 = true then (if x4.length < 1759218604441 then (spec_ScanRecs.l0 k x0 (x4 ++ [(⟨x5, bt279.2, (⟨bt281.1, bt281.2.1, bt281.2.2.1, bt281.2.2.2.1, bt281.2.2.2.2.1, bt281.2.2.2.2.2.1⟩ : S41)⟩ : S43)]) (wrap64 (x5 + bt279.2))) else (none)) else (some (x4, x5)))))) else (none)) else (none)) else (some (x4, x5))
def spec_ScanRecs.f (k : Nat) (a0 : ByteArray) : Option ((List (S43)) × Int) := spec_ScanRecs.l0 k a0 (([] : List (S43))) 0
theorem spec_ScanRecs.calls {k : Nat} {a0 : ByteArray} {r1 : List (S43)} {r2 : Int} {w : World} (h : spec_ScanRecs.f k a0 = some (r1, r2)) :
  Calls Try.prog 13 #[.string a0] w fun e w' => ∃ v0_ : Value, e = .returned (.tuple #[v0_, .int .i64 r2]) ∧ Kd.R k43 43 w' w.heap.size (fun _ => True) v0_ r1 ∧ Below w.heap.size w w' := by
 have hu41 := Try.underlying41; have hu43 := Try.underlying43; have HB := am_ (Below.refl w.heap.size w); unfold spec_ScanRecs.f at h; have H := h; clear h; obtain ⟨y276, hy276⟩ : ∃ y_ : List (S43), y_ = (([] : List (S43))) := ⟨_, rfl⟩
 replace H : (spec_ScanRecs.l0 k a0 y276 0) = some (r1, r2) := by first | (rw [hy276]; with_reducible exact H) | (have H2_ := (Option.bind_some _ _).symm.trans H; rw [hy276]; with_reducible exact H2_) | (have H2_ := (Option.bind_some _ _).symm.trans H; with_reducible exact H2_) | with_reducible exact H | (rw [hy276]; exact H) | exact H
 have Ny276 := am_ hy276; clear hy276; have H' := am_ H; clear H
 go_enter Try.func13, Try.ntmps13
 go_wp2_with (refine gd_ 10 ?_; refine li_ 10 k43 43 ([] : List (S43)) [] ?_; intro v277 w2 ho3 hb hg_ hnew_; clear hg_ hnew_; (first | rw [← Ny276.1] at ho3 | (simp only [Int.reduceToNat] at ho3; rw [← Ny276.1] at ho3)); have HO278 := rm_ ho3 HB; replace HB := bx_ HB hb; clear hb ho3)
 go_loopg [4, 5] k (fun kq v4 v5 w' => ∃ (x4_1 : List (S43)) (x5_1 : Int), v5 = .int .i64 x5_1 ∧ Aside0 (spec_ScanRecs.l0 kq a0 x4_1 x5_1 = some (r1, r2)) ∧ Aside0 (kq ≤ k) ∧ Aside0 (Kd.R k43 43 w' w.heap.size (fun _ => True) v4 x4_1) ∧ Aside0 (Below w.heap.size w w'))
 case atStart => exact ⟨_, _, rs_, H', ⟨Nat.le_refl _⟩, ⟨rr_ HO278⟩, ⟨hb_ HB⟩⟩
 case round =>
  clear H'; obtain ⟨x4_1, x5_1, rfl, HA, HK1, HO_4, HB⟩ := hrel
  cases gk with
  | zero => exact zz_ HA
  | succ k1 =>
   have H := HA.1; clear HA; simp only [spec_ScanRecs.l0] at H; by_cases c4 : x5_1 < (a0.size : Int)
   ·rw [if_pos c4] at H; have c4b0 := dq_ c4; clear c4; replace H := ig_ H; obtain ⟨c5b0, c5b1, H⟩ := H; replace H := ig_ H; obtain ⟨c6b0, c6b1, H⟩ := H; replace H := bnd_ H; obtain ⟨⟨t279, t280⟩, A7, H⟩ := H; replace H := bnd_ H; obtain ⟨⟨t281, t282, t283, t284, t285, t286, t287⟩, A8, H⟩ := H; by_cases c9 : t280 = 0
    ·rw [if_pos c9] at H; have ⟨c9b0, c9b1⟩ := bq5_ c9; clear c9; obtain ⟨rfl, rfl⟩ := i2_ H
     go_wp2_with (first | (refine gc_ 19 Try.func38 ?_; refine ch1_ (spec_Unframe.calls A7.1) ?_; intro w10 hb; replace HO_4 := rb_ HO_4 hb; replace HB := bx_ HB hb; clear hb) | (refine gc_ 24 Try.func39 ?_; refine ch1_ (spec_ReadRec.calls A8.1) ?_; intro w11 hb; replace HO_4 := rb_ HO_4 hb; replace HB := bx_ HB hb; clear hb) | (refine gd_ 8 ?_; refine bx1_ 8 #[.int .i64 0, .int .i64 0, .string (⟨#[]⟩ : ByteArray), .string (⟨#[]⟩ : ByteArray), .int .i64 0, .int .i64 0] 41 ?_; intro gb288 hg w12 hbox hb; replace HO_4 := rb_ HO_4 hb; have BK288 := am_ hbox; have GE288 := gx_ hg HB; replace HB := bx_ HB hb; clear hb hbox hg; obtain ⟨_, _, _, _, _, _, _, _, _, _, _, _⟩ := bc6_ BK288))
     go_ret2
     exact ⟨_, re_, rf_ HO_4 BK288, hs_ HB GE288⟩
    ·rw [if_neg c9] at H; have ⟨c9b0, c9b1⟩ := bq6_ c9; by_cases c14 : t287 = true
     ·subst c14; rw [if_pos rfl] at H; replace H := il_ H; obtain ⟨LMc15, H⟩ := H; obtain ⟨y289, hy289⟩ : ∃ y_ : List (S43), y_ = (x4_1 ++ [(⟨x5_1, t280, (⟨t281, t282, t283, t284, t285, t286⟩ : S41)⟩ : S43)]) := ⟨_, rfl⟩
      rw [← hy289] at H; have Ny289 := am_ hy289; clear hy289; have H' := am_ H; clear H
      go_wp2_with (first | (refine gc_ 19 Try.func38 ?_; refine ch1_ (spec_Unframe.calls A7.1) ?_; intro w16 hb; replace HO_4 := rb_ HO_4 hb; replace HB := bx_ HB hb; clear hb) | (refine gc_ 24 Try.func39 ?_; refine ch1_ (spec_ReadRec.calls A8.1) ?_; intro w17 hb; replace HO_4 := rb_ HO_4 hb; replace HB := bx_ HB hb; clear hb) | (refine gd_ 8 ?_; refine bx1_ 8 #[.int .i64 0, .int .i64 0, .string (⟨#[]⟩ : ByteArray), .string (⟨#[]⟩ : ByteArray), .int .i64 0, .int .i64 0] 41 ?_; intro gb288 hg w18 hbox hb; replace HO_4 := rb_ HO_4 hb; have BK288 := am_ hbox; have GE288 := gx_ hg HB; replace HB := bx_ HB hb; clear hb hbox hg; obtain ⟨Z19_0, Z19_1, Z19_2, Z19_3, Z19_4, Z19_5, F19_0, F19_1, F19_2, F19_3, F19_4, F19_5⟩ := bc6_ BK288) | (at_builtin; refine gb_ #[.tmp 35, .tmp 40] ?_; refine Kd.R_append k43 (w0 := w) w.heap.size rfl (.tmp 35) (.tmp 40) 37 43 (.agg #[(.int .i64 0), (.int .i64 0), (.int .i64 0), (.int .i64 0), (.string ⟨#[]⟩), (.string ⟨#[]⟩), (.int .i64 0), (.int .i64 0)]) 80 rfl Try.underlying37 info43 rfl (by decide) (by omega) u4 x4_1 (⟨x5_1, t280, (⟨t281, t282, t283, t284, t285, t286⟩ : S41)⟩ : S43) [.int .i64 x5_1, .int .i64 t280, .int .i64 t281, .int .i64 t282, .string t283, .string t284, .int .i64 t285, .int .i64 t286] (fun _ => True) (fun _ => False) rfl gr_ ?aP (fun _ hk => hk.elim) ?aF ?aO ?aB ?aS ?aL ?_; (case aP => exact k43_mkM _ _ _ (⟨x5_1, t280, (⟨t281, t282, t283, t284, t285, t286⟩ : S41)⟩ : S43)); (case aB => exact (hs_ HB GE288)); (case aF => exact (fun _ _ => trivial)); (case aO => exact (rf_ HO_4 BK288)); (case aS => exact (below_size (hs_ HB GE288))); (case aL => have := LMc15.1; omega); intro v290 w20 ho hb hg hat; rw [← Ny289.1] at ho; replace BK288 := am_ (blk_grown (g := gb288) (o := .cells #[.int .i64 t281, .int .i64 t282, .string t283, .string t284, .int .i64 t285, .int .i64 t286] 41 (0, 0)) (uk_ BK288) hg (Kd.R_ne HO_4.1 BK288.1 (by decide))); replace HB := am_ hb; have HO291 := am_ ho; clear HO_4; clear ho hb hg hat))
      go_roundg k1
      case measure => exact m1_ HK1
      case rel => exact ⟨_, _, rs_, H', ⟨m1_ HK1⟩, ⟨rr_ HO291⟩, ⟨hs_ HB GE288⟩⟩
     ·replace c14 := bF_ c14; subst c14; rw [if_neg ff_] at H; obtain ⟨rfl, rfl⟩ := i2_ H
      go_wp2_with (first | (refine gc_ 19 Try.func38 ?_; refine ch1_ (spec_Unframe.calls A7.1) ?_; intro w21 hb; replace HO_4 := rb_ HO_4 hb; replace HB := bx_ HB hb; clear hb) | (refine gc_ 24 Try.func39 ?_; refine ch1_ (spec_ReadRec.calls A8.1) ?_; intro w22 hb; replace HO_4 := rb_ HO_4 hb; replace HB := bx_ HB hb; clear hb) | (refine gd_ 8 ?_; refine bx1_ 8 #[.int .i64 0, .int .i64 0, .string (⟨#[]⟩ : ByteArray), .string (⟨#[]⟩ : ByteArray), .int .i64 0, .int .i64 0] 41 ?_; intro gb288 hg w23 hbox hb; replace HO_4 := rb_ HO_4 hb; have BK288 := am_ hbox; have GE288 := gx_ hg HB; replace HB := bx_ HB hb; clear hb hbox hg; obtain ⟨_, _, _, _, _, _, _, _, _, _, _, _⟩ := bc6_ BK288))
      go_ret2
      exact ⟨_, re_, rf_ HO_4 BK288, hs_ HB GE288⟩
   ·rw [if_neg c4] at H; have c4b0 := df_ c4; clear c4; obtain ⟨rfl, rfl⟩ := i2_ H
    go_wp2
    go_ret2
    exact ⟨_, re_, rr_ HO_4, hb_ HB⟩
def spec_Dec.l0 : Nat → Int → ByteArray → Bool → Option (ByteArray)
 | 0, _, _, _ => none
 | k + 1, x0, x3, x4 => if x0 = 0 then (if x4 = true then (if 1 + x3.size ≤ 9223372036854775807 then (some ((⟨#[45]⟩ : ByteArray) ++ x3)) else (none)) else (some x3)) else (if (Int.tmod x0 10) < 0 then ((some (([(wrap64 (48 + (wrap64 (-(Int.tmod x0 10))))) % 256] : List Int) : List Int)).bind fun y292 => (if (strOfNums y292).size + x3.size ≤ 9223372036854775807 then (spec_Dec.l0 k (wrap64 (Int.tdiv x0 10)) ((strOfNums y292) ++ x3) x4) else (none))) else ((some (([(wrap64 (48 + (Int.tmod x0 10))) % 256] : List Int) : List Int)).bind fun y295 => (if (strOfNums y295).size + x3.size ≤ 9223372036854775807 then (spec_Dec.l0 k (wrap64 (Int.tdiv x0 10)) ((strOfNums y295) ++ x3) x4) else (none))))
def spec_Dec.f (k : Nat) (a0 : Int) : Option (ByteArray) := if a0 = 0 then (some (⟨#[48]⟩ : ByteArray)) else (spec_Dec.l0 k a0 (⟨#[]⟩ : ByteArray) (decide (a0 < 0)))
theorem spec_Dec.calls {k : Nat} {a0 : Int} {r : ByteArray} {w : World} (h : spec_Dec.f k a0 = some r) :
  Calls Try.prog 80 #[.int .i64 a0] w fun e w' => e = .returned (.string r) ∧ Below w.heap.size w w' := by
 have HB := am_ (Below.refl w.heap.size w); unfold spec_Dec.f at h; have H := h; clear h; by_cases c2 : a0 = 0
 ·rw [if_pos c2] at H; have ⟨c2b0, c2b1⟩ := bq5_ c2; clear c2; obtain rfl := in_ H
  go_enter Try.func80, Try.ntmps80
  go_wp2
  go_ret
  exact ⟨re_, hb_ HB⟩
 ·rw [if_neg c2] at H; have ⟨c2b0, c2b1⟩ := bq6_ c2; have H' := am_ H; clear H
  go_enter Try.func80, Try.ntmps80
  go_wp2
  go_loopg [0, 3] k (fun kq v0 v3 w' => ∃ (x0_1 : Int) (x3_1 : ByteArray), v0 = .int .i64 x0_1 ∧ v3 = .string x3_1 ∧ Aside0 (spec_Dec.l0 kq x0_1 x3_1 (decide (a0 < 0)) = some r) ∧ Aside0 (kq ≤ k) ∧ Aside0 (Below w.heap.size w w'))
  case atStart => exact ⟨_, _, rs_, rs_, H', ⟨Nat.le_refl _⟩, ⟨hb_ HB⟩⟩
  case round =>
   clear H'
   (try clear c2); (try clear c2b0); (try clear c2b1)
   obtain ⟨x0_1, x3_1, rfl, rfl, HA, HK1, HB⟩ := hrel
   cases gk with
   | zero => exact zz_ HA
   | succ k1 =>
    have H := HA.1; clear HA; simp only [spec_Dec.l0] at H; by_cases c3 : x0_1 = 0
    ·rw [if_pos c3] at H; have ⟨c3b0, c3b1⟩ := bq5_ c3; clear c3; by_cases c4 : (decide (a0 < 0)) = true
     ·rw [if_pos c4] at H; have c4b0 : (decide (a0 < 0)) = true := c4; have c4b9 := of_decide_eq_true c4b0; have c4b8 := eq_true c4b9; clear c4b9
      (try simp only [c4b0])
      clear c4; replace H := ih_ H; obtain ⟨c5, H⟩ := H; have ⟨c5b0, c5b1, c5b2⟩ := dl_ c5
      obtain rfl := in_ H
      go_wp2
      go_ret
      exact ⟨re_, hb_ HB⟩
     ·rw [if_neg c4] at H; have c4b0 : (decide (a0 < 0)) = false := by simpa using c4
      have c4b9 := of_decide_eq_false c4b0; have c4b8 := eq_false c4b9; clear c4b9
      (try simp only [c4b0])
      clear c4; obtain rfl := in_ H
      go_wp2
      go_ret
      exact ⟨re_, hb_ HB⟩
    ·rw [if_neg c3] at H; have ⟨c3b0, c3b1⟩ := bq6_ c3; by_cases c6 : (Int.tmod x0_1 10) < 0
     ·rw [if_pos c6] at H; have c6b0 := dq_ c6; clear c6; obtain ⟨y292, hy292, H⟩ := ov_ H; have Ny292 := am_ hy292; clear hy292; replace H := ih_ H; obtain ⟨c7, H⟩ := H; have ⟨c7b0, c7b1, c7b2⟩ := dl_ c7
      have H' := am_ H; clear H
      go_wp2_with (refine gd_ 21 ?_; refine li_ 21 (Kd.int .u8) 5 ([(wrap64 (48 + (wrap64 (-(Int.tmod x0_1 10))))) % 256] : List Int) [.int .u8 ((wrap64 (48 + (wrap64 (-(Int.tmod x0_1 10))))) % 256)] ?_ (hp := (Reps.one (show Kd.M (Kd.int .u8) _ _ _ ((wrap64 (48 + (wrap64 (-(Int.tmod x0_1 10))))) % 256) [.int .u8 ((wrap64 (48 + (wrap64 (-(Int.tmod x0_1 10))))) % 256)] from rfl) (Reps.none _ _))); intro v293 w8 ho9 hb hg_ hnew_; clear hg_ hnew_; (first | rw [← Ny292.1] at ho9 | (simp only [Int.reduceToNat] at ho9; rw [← Ny292.1] at ho9)); have HO294 := rm_ ho9 HB; replace HB := bx_ HB hb; clear hb ho9; have hcv10 := own_string (P := Try.prog) Try.underlying22 Try.underlying5 Try.underlying9 (Kd.own_of_R HO294.1))
      go_roundg k1
      case measure => exact m1_ HK1
      case rel => exact ⟨_, _, rs_, rs_, H', ⟨m1_ HK1⟩, ⟨hb_ HB⟩⟩
     ·rw [if_neg c6] at H; have c6b0 := df_ c6; clear c6; obtain ⟨y295, hy295, H⟩ := ov_ H; have Ny295 := am_ hy295; clear hy295; replace H := ih_ H; obtain ⟨c11, H⟩ := H; have ⟨c11b0, c11b1, c11b2⟩ := dl_ c11
      have H' := am_ H; clear H
      go_wp2_with (refine gd_ 21 ?_; refine li_ 21 (Kd.int .u8) 5 ([(wrap64 (48 + (Int.tmod x0_1 10))) % 256] : List Int) [.int .u8 ((wrap64 (48 + (Int.tmod x0_1 10))) % 256)] ?_ (hp := (Reps.one (show Kd.M (Kd.int .u8) _ _ _ ((wrap64 (48 + (Int.tmod x0_1 10))) % 256) [.int .u8 ((wrap64 (48 + (Int.tmod x0_1 10))) % 256)] from rfl) (Reps.none _ _))); intro v296 w12 ho13 hb hg_ hnew_; clear hg_ hnew_; (first | rw [← Ny295.1] at ho13 | (simp only [Int.reduceToNat] at ho13; rw [← Ny295.1] at ho13)); have HO297 := rm_ ho13 HB; replace HB := bx_ HB hb; clear hb ho13; have hcv14 := own_string (P := Try.prog) Try.underlying22 Try.underlying5 Try.underlying9 (Kd.own_of_R HO297.1))
      go_roundg k1
      case measure => exact m1_ HK1
      case rel => exact ⟨_, _, rs_, rs_, H', ⟨m1_ HK1⟩, ⟨hb_ HB⟩⟩
def spec_SegName.f (k : Nat) (a0 : Int) : Option (ByteArray) := (spec_l1In.f a0 1 100000).bind fun t298 => (if t298 = true then ((spec_Dec.f k a0).bind fun t299 => (if 3 + t299.size ≤ 9223372036854775807 then (some ((⟨#[115, 101, 103]⟩ : ByteArray) ++ t299)) else (none))) else (some (⟨#[]⟩ : ByteArray)))
theorem spec_SegName.calls {k : Nat} {a0 : Int} {r : ByteArray} {w : World} (h : spec_SegName.f k a0 = some r) :
  Calls Try.prog 68 #[.int .i64 a0] w fun e w' => e = .returned (.string r) ∧ Below w.heap.size w w' := by
 have HB := am_ (Below.refl w.heap.size w); unfold spec_SegName.f at h; have H := h; clear h; replace H := bnd_ H; obtain ⟨t298, A2, H⟩ := H; by_cases c3 : t298 = true
 ·subst c3; rw [if_pos rfl] at H; replace H := bnd_ H; obtain ⟨t299, A4, H⟩ := H; replace H := ih_ H; obtain ⟨c5, H⟩ := H; have ⟨c5b0, c5b1, c5b2⟩ := dl_ c5
  obtain rfl := in_ H
  go_enter Try.func68, Try.ntmps68
  go_wp2_with (first | (refine gc_ 4 Try.func50 ?_; refine ch1_ (spec_l1In.calls A2.1) ?_; rintro w' ⟨nd, rfl⟩) | (refine gc_ 7 Try.func80 ?_; refine ch1_ (spec_Dec.calls A4.1) ?_; intro w6 hb; replace HB := bx_ HB hb; clear hb))
  go_ret
  exact ⟨re_, hb_ HB⟩
 ·replace c3 := bF_ c3; subst c3; rw [if_neg ff_] at H; obtain rfl := in_ H
  go_enter Try.func68, Try.ntmps68
  go_wp2_with (refine gc_ 4 Try.func50 ?_; refine ch1_ (spec_l1In.calls A2.1) ?_; rintro w' ⟨nd, rfl⟩)
  go_ret
  exact ⟨re_, hb_ HB⟩
end Go.Proofs.Ytohfcgdodgdiiaa.PFnHints
