import Derived.Test.YtohfcgdodgdiiaaPFnHintsx26
namespace Go.Proofs.Ytohfcgdodgdiiaa.PFnHints
open Go.RowKit Go.Proofs.YtohfcgdodgdiiaaW.PrintWords Go.Proofs.YtohfcgdodgdiiaaW.PrintLast Go.Proofs.YtohfcgdodgdiiaaW.PrintMore
attribute [local go_sem] max2_int min2_int max_two min_two max_three min_three max_four min_four
set_option linter.unusedVariables false
set_option linter.unusedSimpArgs false
set_option maxHeartbeats 80000000
set_option maxRecDepth 100000
mutual
def impl_ReadRec.j1 : Nat → ByteArray → Bool → Int → Int → ByteArray → ByteArray → Int → Int → Option (Int × Int × ByteArray × ByteArray × Int × Int × Bool)
 | 0, _, _, _, _, _, _, _, _ => none
 | k + 1, x702000, x702001, x703000, x703001, x703002, x703003, x703004, x703005 => if x702001 = true then (impl_ReadRec.j2 k true x703000 x703001 x703002 x703003 x703004 x703005) else (if x702000.toList = ([] : List UInt8) then ((impl_RecOk.f k x703000 x703001 x703002 x703003 x703004 x703005).bind fun t726 => (impl_ReadRec.j2 k (!t726) x703000 x703001 x703002 x703003 x703004 x703005)) else (impl_ReadRec.j2 k true x703000 x703001 x703002 x703003 x703004 x703005))
def impl_ReadRec.j2 : Nat → Bool → Int → Int → ByteArray → ByteArray → Int → Int → Option (Int × Int × ByteArray × ByteArray × Int × Int × Bool)
 | 0, _, _, _, _, _, _, _ => none
 | k + 1, x56, x703000, x703001, x703002, x703003, x703004, x703005 => if x56 = true then (some (0, 0, (⟨#[]⟩ : ByteArray), (⟨#[]⟩ : ByteArray), 0, 0, false)) else (some (x703000, x703001, x703002, x703003, x703004, x703005, true))
def impl_ReadRec.j0 : Nat → Int → Bool → ByteArray → Bool → Int → Int → ByteArray → ByteArray → Int → Int → Option (Int × Int × ByteArray × ByteArray × Int × Int × Bool)
 | 0, _, _, _, _, _, _, _, _, _, _ => none
 | k + 1, x16, x27, x702000, x702001, x703000, x703001, x703002, x703003, x703004, x703005 => if x27 = true then ((impl_scanner_text.f k x702000 x702001).bind fun bt709 => ((impl_scanner_text.f k bt709.2.1 bt709.2.2).bind fun bt712 => (impl_ReadRec.j1 k bt712.2.1 bt712.2.2 x703000 x703001 bt709.1 bt712.1 x703004 x703005))) else (if x16 = 2 then ((impl_scanner_text.f k x702000 x702001).bind fun bt715 => (impl_ReadRec.j1 k bt715.2.1 bt715.2.2 x703000 x703001 bt715.1 x703003 x703004 x703005)) else ((impl_scanner_num.f k x702000 x702001).bind fun bt718 => ((impl_scanner_bytes.f bt718.2.1 bt718.2.2 4).bind fun bt721 => ((impl_ReadFixed.f k bt721.1 4).bind fun bt724 => (impl_ReadRec.j1 k bt721.2.1 bt721.2.2 x703000 x703001 x703002 x703003 bt718.1 bt724.1)))))
end
def impl_ReadRec.f (k : Nat) (a0 : ByteArray) : Option (Int × Int × ByteArray × ByteArray × Int × Int × Bool) := (impl_scanner_num.f k a0 false).bind fun bt703 => ((impl_scanner_num.f k bt703.2.1 bt703.2.2).bind fun bt706 => (if bt703.1 = 1 then (impl_ReadRec.j0 k bt703.1 (bt703.1 == 1) bt706.2.1 bt706.2.2 bt703.1 bt706.1 (⟨#[]⟩ : ByteArray) (⟨#[]⟩ : ByteArray) 0 0) else (impl_ReadRec.j0 k bt703.1 (bt703.1 == 4) bt706.2.1 bt706.2.2 bt703.1 bt706.1 (⟨#[]⟩ : ByteArray) (⟨#[]⟩ : ByteArray) 0 0)))
theorem impl_ReadRec.calls {k : Nat} {a0 : ByteArray} {r1 r2 : Int} {r3 r4 : ByteArray} {r5 r6 : Int} {r7 : Bool} {w : World} (h : impl_ReadRec.f k a0 = some (r1, r2, r3, r4, r5, r6, r7)) :
  Calls Try.prog 59 #[.string a0] w fun e w' => e = .returned (.tuple #[.agg #[.int .i64 r1, .int .i64 r2, .string r3, .string r4, .int .i64 r5, .int .i64 r6], .bool r7]) ∧ Below w.heap.size w w' := by
 have hu41 := Try.underlying41; have hu61 := Try.underlying61; have HB := am_ (Below.refl w.heap.size w); unfold impl_ReadRec.f at h; have H := h; clear h; replace H := bnd_ H; obtain ⟨⟨t703, t704, t705⟩, A2, H⟩ := H; replace H := bnd_ H; obtain ⟨⟨t706, t707, t708⟩, A3, H⟩ := H; have HC4 := am_ H; clear H
 go_enter Try.func59, Try.ntmps59
 go_upto_block 0 with (first | ((with_reducible refine gd_ 2 ?_); refine bx1_ 2 #[.int .i64 0, .int .i64 0, .string (⟨#[]⟩ : ByteArray), .string (⟨#[]⟩ : ByteArray), .int .i64 0, .int .i64 0] 41 ?_; intro gb700 hg w5 hbox hb; have BK700 := am_ hbox; have GE700 := gx_ hg HB; replace HB := bx_ HB hb; clear hb hbox hg) | ((with_reducible refine gd_ 8 ?_); refine bx1_ 8 #[.string a0, .bool false] 61 ?_; intro gb701 hg w6 hbox hb; have BK701 := am_ hbox; have GE701 := gx_ hg HB; replace HB := bx_ HB hb; have ⟨NB700_701, NB701_700⟩ := nn_ BK700 hg; replace BK700 := bb_ BK700 hb; clear hb hbox hg) | ((with_reducible refine gd_ 5 ?_); refine bx1_ 5 #[.int .i64 0, .int .i64 0, .string (⟨#[]⟩ : ByteArray), .string (⟨#[]⟩ : ByteArray), .int .i64 0, .int .i64 0] 41 ?_; intro gb702 hg w7 hbox hb; have BK702 := am_ hbox; have GE702 := gx_ hg HB; replace HB := bx_ HB hb; have ⟨NB700_702, NB702_700⟩ := nn_ BK700 hg; replace BK700 := bb_ BK700 hb; have ⟨NB701_702, NB702_701⟩ := nn_ BK701 hg; replace BK701 := bb_ BK701 hb; clear hb hbox hg; have HI701 := am_ (show IsS61 w w7 gb701 a0 false from ⟨BK701.1, GE701.1⟩); clear BK701) | ((with_reducible refine gc0_ 23 ?_); refine gc_ 10 Try.func23 ?_; refine ch1_ (impl_scanner_num.calls gb701 w A2.1) ?_; rintro w8 ⟨hi, hb, hk⟩; replace BK700 := kb_ BK700 hk NB700_701; replace BK702 := kb_ BK702 hk NB702_701; replace HB := am_ hb; replace HI701 := am_ hi; clear hb hk hi; have := NB702_700.1; have := NB700_702.1; have := NB702_701.1; have := NB701_702.1; obtain ⟨Z11_0, Z11_1, Z11_2, Z11_3, Z11_4, Z11_5, F11_0, F11_1, F11_2, F11_3, F11_4, F11_5⟩ := bc6_ BK702) | ((with_reducible refine gc0_ 23 ?_); refine gc_ 13 Try.func23 ?_; refine ch1_ (impl_scanner_num.calls gb701 w A3.1) ?_; rintro w12 ⟨hi, hb, hk⟩; replace BK700 := kp_ #[.int .i64 0, .int .i64 0, .string (⟨#[]⟩ : ByteArray), .string (⟨#[]⟩ : ByteArray), .int .i64 0, .int .i64 0] BK700 hk NB700_701; replace BK702 := kp_ #[.int .i64 t703, .int .i64 0, .string (⟨#[]⟩ : ByteArray), .string (⟨#[]⟩ : ByteArray), .int .i64 0, .int .i64 0] BK702 hk NB702_701; replace HB := am_ hb; replace HI701 := am_ hi; clear hb hk hi; obtain ⟨_, _, _, _, _, _, _, _, _, _, _, _⟩ := bc6_ BK702))
 (try simp only [Act.put, la_, lz_, ls_])
 go_cut [] (fun wc => ∃ (kq : Nat) (x702000_3 : ByteArray) (x702001_3 : Bool) (x703002_3 : ByteArray) (x703003_3 : ByteArray) (x703004_3 : Int) (x703005_3 : Int), Aside0 (impl_ReadRec.j1 kq x702000_3 x702001_3 t703 t706 x703002_3 x703003_3 x703004_3 x703005_3 = some (r1, r2, r3, r4, r5, r6, r7)) ∧ Aside0 (kq ≤ k) ∧ Aside0 (wc.heap[gb700]? = some (.cells #[.int .i64 0, .int .i64 0, .string (⟨#[]⟩ : ByteArray), .string (⟨#[]⟩ : ByteArray), .int .i64 0, .int .i64 0] 41 (0, 0))) ∧ Aside0 (wc.heap[gb702]? = some (.cells #[.int .i64 t703, .int .i64 t706, .string x703002_3, .string x703003_3, .int .i64 x703004_3, .int .i64 x703005_3] 41 (0, 0))) ∧ Aside0 (IsS61 w wc gb701 x702000_3 x702001_3) ∧ Aside0 (Below w.heap.size w wc))
 case first =>
  have H := HC4.1; clear HC4; have HC14 := am_ H; clear H
  go_upto_if 27 with (fail)
  go_cut [27] (fun v27 wc => ∃ (kq : Nat) (x27_13 : Bool), v27 = .bool x27_13 ∧ Aside0 (impl_ReadRec.j0 kq t703 x27_13 t707 t708 t703 t706 (⟨#[]⟩ : ByteArray) (⟨#[]⟩ : ByteArray) 0 0 = some (r1, r2, r3, r4, r5, r6, r7)) ∧ Aside0 (kq ≤ k) ∧ Aside0 (wc.heap[gb700]? = some (.cells #[.int .i64 0, .int .i64 0, .string (⟨#[]⟩ : ByteArray), .string (⟨#[]⟩ : ByteArray), .int .i64 0, .int .i64 0] 41 (0, 0))) ∧ Aside0 (wc.heap[gb702]? = some (.cells #[.int .i64 t703, .int .i64 t706, .string (⟨#[]⟩ : ByteArray), .string (⟨#[]⟩ : ByteArray), .int .i64 0, .int .i64 0] 41 (0, 0))) ∧ Aside0 (IsS61 w wc gb701 t707 t708) ∧ Aside0 (Below w.heap.size w wc))
  case first =>
   have H := HC14.1; clear HC14; by_cases c15 : t703 = 1
   ·rw [if_pos c15] at H; have ⟨c15b0, c15b1⟩ := bq5_ c15; clear c15
    (first | rw [c15b0] | (simp only [i64_w, i32_w]; rw [c15b0]) | skip)
    have H' := am_ H; clear H
    go_wp2
    go_meet
    case rel => exact ⟨_, _, rs_, H', ⟨m0_⟩, ⟨uk_ BK700⟩, ⟨uk_ BK702⟩, ⟨hi_ HI701⟩, ⟨hj_ HB⟩⟩
   ·rw [if_neg c15] at H; have ⟨c15b0, c15b1⟩ := bq6_ c15
    (first | rw [c15b0] | (simp only [i64_w, i32_w]; rw [c15b0]) | skip)
    have H' := am_ H; clear H
    go_wp2
    go_meet
    case rel => exact ⟨_, _, rs_, H', ⟨m0_⟩, ⟨uk_ BK700⟩, ⟨uk_ BK702⟩, ⟨hi_ HI701⟩, ⟨hj_ HB⟩⟩
  case rest =>
   clear HC14
   (try clear c15); (try clear c15b0); (try clear c15b1)
   obtain ⟨kq, x27_13, rfl, HA, HJ13, BK700, BK702, HI701, HB⟩ := hcut
   cases kq with
   | zero => exact zz_ HA
   | succ kj13 =>
    have H := HA.1; clear HA; simp only [impl_ReadRec.j0] at H; by_cases c16 : x27_13 = true
    ·subst c16; rw [if_pos rfl] at H; replace H := bnd_ H; obtain ⟨⟨t709, t710, t711⟩, A17, H⟩ := H; replace H := bnd_ H; obtain ⟨⟨t712, t713, t714⟩, A18, H⟩ := H; have H' := am_ H; clear H
     go_wp2_with (first | (refine gc_ 31 Try.func24 ?_; refine ch1_ (impl_scanner_text.calls gb701 w A17.1) ?_; rintro w19 ⟨hi, hb, hk⟩; replace BK700 := kb_ BK700 hk NB700_701; replace BK702 := kb_ BK702 hk NB702_701; replace HB := am_ hb; replace HI701 := am_ hi; clear hb hk hi; have := NB702_700.1; have := NB700_702.1; have := NB702_701.1; have := NB701_702.1; obtain ⟨_, _, _, _, _, _, _, _, _, _, _, _⟩ := bc6_ BK702) | (refine gc_ 34 Try.func24 ?_; refine ch1_ (impl_scanner_text.calls gb701 w A18.1) ?_; rintro w23 ⟨hi, hb, hk⟩; replace BK700 := kp_ #[.int .i64 0, .int .i64 0, .string (⟨#[]⟩ : ByteArray), .string (⟨#[]⟩ : ByteArray), .int .i64 0, .int .i64 0] BK700 hk NB700_701; replace BK702 := kp_ #[.int .i64 t703, .int .i64 t706, .string t709, .string (⟨#[]⟩ : ByteArray), .int .i64 0, .int .i64 0] BK702 hk NB702_701; replace HB := am_ hb; replace HI701 := am_ hi; clear hb hk hi; obtain ⟨_, _, _, _, _, _, _, _, _, _, _, _⟩ := bc6_ BK702))
     go_meet
     case rel => exact ⟨_, _, _, _, _, _, _, H', ⟨m1_ HJ13⟩, ⟨uk_ BK700⟩, ⟨uk_ BK702⟩, ⟨hi_ HI701⟩, ⟨hj_ HB⟩⟩
    ·replace c16 := bF_ c16; subst c16; rw [if_neg ff_] at H; by_cases c25 : t703 = 2
     ·rw [if_pos c25] at H; have ⟨c25b0, c25b1⟩ := bq5_ c25; clear c25; replace H := bnd_ H; obtain ⟨⟨t715, t716, t717⟩, A26, H⟩ := H; have H' := am_ H; clear H
      go_wp2_with (refine gc_ 39 Try.func24 ?_; refine ch1_ (impl_scanner_text.calls gb701 w A26.1) ?_; rintro w27 ⟨hi, hb, hk⟩; replace BK700 := kb_ BK700 hk NB700_701; replace BK702 := kb_ BK702 hk NB702_701; replace HB := am_ hb; replace HI701 := am_ hi; clear hb hk hi; have := NB702_700.1; have := NB700_702.1; have := NB702_701.1; have := NB701_702.1; obtain ⟨_, _, _, _, _, _, _, _, _, _, _, _⟩ := bc6_ BK702)
      go_meet
      case rel => exact ⟨_, _, _, _, _, _, _, H', ⟨m1_ HJ13⟩, ⟨uk_ BK700⟩, ⟨uk_ BK702⟩, ⟨hi_ HI701⟩, ⟨hj_ HB⟩⟩
     ·rw [if_neg c25] at H; have ⟨c25b0, c25b1⟩ := bq6_ c25; replace H := bnd_ H; obtain ⟨⟨t718, t719, t720⟩, A31, H⟩ := H; replace H := bnd_ H; obtain ⟨⟨t721, t722, t723⟩, A32, H⟩ := H; replace H := bnd_ H; obtain ⟨⟨t724, t725⟩, A33, H⟩ := H; have H' := am_ H; clear H
      go_wp2_with (first | (refine gc_ 18 Try.func23 ?_; refine ch1_ (impl_scanner_num.calls gb701 w A31.1) ?_; rintro w34 ⟨hi, hb, hk⟩; replace BK700 := kb_ BK700 hk NB700_701; replace BK702 := kb_ BK702 hk NB702_701; replace HB := am_ hb; replace HI701 := am_ hi; clear hb hk hi; have := NB702_700.1; have := NB700_702.1; have := NB702_701.1; have := NB701_702.1; obtain ⟨_, _, _, _, _, _, _, _, _, _, _, _⟩ := bc6_ BK702) | (refine gc_ 22 Try.func22 ?_; refine ch1_ (impl_scanner_bytes.calls gb701 w A32.1) ?_; rintro w38 ⟨hi, hb, hk⟩; replace BK700 := kp_ #[.int .i64 0, .int .i64 0, .string (⟨#[]⟩ : ByteArray), .string (⟨#[]⟩ : ByteArray), .int .i64 0, .int .i64 0] BK700 hk NB700_701; replace BK702 := kp_ #[.int .i64 t703, .int .i64 t706, .string (⟨#[]⟩ : ByteArray), .string (⟨#[]⟩ : ByteArray), .int .i64 t718, .int .i64 0] BK702 hk NB702_701; replace HB := am_ hb; replace HI701 := am_ hi; clear hb hk hi) | (refine gc_ 23 Try.func77 ?_; refine ch1_ (impl_ReadFixed.calls A33.1) ?_; rintro w' ⟨nd, rfl⟩; (try (rw [drewN_self w38]; generalize hq_ : World.drewN w38 _ = w38; have n0_ : Aside0 (w38.heap[gb700]? = some (.cells #[.int .i64 0, .int .i64 0, .string (⟨#[]⟩ : ByteArray), .string (⟨#[]⟩ : ByteArray), .int .i64 0, .int .i64 0] 41 (0, 0))) := ⟨by rw [← hq_]; exact (bk_ BK700)⟩; have n1_ : Aside0 (w38.heap[gb702]? = some (.cells #[.int .i64 t703, .int .i64 t706, .string (⟨#[]⟩ : ByteArray), .string (⟨#[]⟩ : ByteArray), .int .i64 t718, .int .i64 0] 41 (0, 0))) := ⟨by rw [← hq_]; exact (bk_ BK702)⟩; have n2_ : Aside0 (IsS61 w w38 gb701 t722 t723) := ⟨by rw [← hq_]; exact (hi_ HI701)⟩; have n3_ : Aside0 (Below w.heap.size w w38) := ⟨by rw [← hq_]; exact (hj_ HB)⟩; clear BK700 BK702 HI701 HB hq_; have BK700 := n0_; have BK702 := n1_; have HI701 := n2_; have HB := n3_; clear n0_ n1_ n2_ n3_)); obtain ⟨_, _, _, _, _, _, _, _, _, _, _, _⟩ := bc6_ BK702))
      go_meet
      case rel => exact ⟨_, _, _, _, _, _, _, H', ⟨m1_ HJ13⟩, ⟨uk_ BK700⟩, ⟨uk_ BK702⟩, ⟨hi_ HI701⟩, ⟨hj_ HB⟩⟩
 case rest =>
  clear HC4
  (try clear c15); (try clear c15b0); (try clear c15b1); (try clear c16); (try clear c25); (try clear c25b0); (try clear c25b1)
  obtain ⟨kq, x702000_3, x702001_3, x703002_3, x703003_3, x703004_3, x703005_3, HA, HJ3, BK700, BK702, HI701, HB⟩ := hcut
  cases kq with
  | zero => exact zz_ HA
  | succ kj3 =>
   have H := HA.1; clear HA; simp only [impl_ReadRec.j1] at H; have HC40 := am_ H; clear H
   go_upto_region 14 with (fail)
   go_cut [56] (fun v56 wc => ∃ (kq : Nat) (x56_39 : Bool), v56 = .bool x56_39 ∧ Aside0 (impl_ReadRec.j2 kq x56_39 t703 t706 x703002_3 x703003_3 x703004_3 x703005_3 = some (r1, r2, r3, r4, r5, r6, r7)) ∧ Aside0 (kq ≤ kj3) ∧ Aside0 (wc.heap[gb700]? = some (.cells #[.int .i64 0, .int .i64 0, .string (⟨#[]⟩ : ByteArray), .string (⟨#[]⟩ : ByteArray), .int .i64 0, .int .i64 0] 41 (0, 0))) ∧ Aside0 (wc.heap[gb702]? = some (.cells #[.int .i64 t703, .int .i64 t706, .string x703002_3, .string x703003_3, .int .i64 x703004_3, .int .i64 x703005_3] 41 (0, 0))) ∧ Aside0 (Below w.heap.size w wc))
   case first =>
    have H := HC40.1; clear HC40; by_cases c41 : x702001_3 = true
    ·subst c41; rw [if_pos rfl] at H; have H' := am_ H; clear H; obtain ⟨HGz42, hgz42⟩ := HI701.1; have Z42_0 := cellS61_0 HGz42; have Z42_1 := cellS61_1 HGz42; have F42_0 := blk_frozen HGz42 0; have F42_1 := blk_frozen HGz42 1; clear HGz42 hgz42
     go_wp2
     go_meet
     case rel => exact ⟨_, _, rs_, H', ⟨m1_ HJ3⟩, ⟨bk_ BK700⟩, ⟨bk_ BK702⟩, ⟨hj_ HB⟩⟩
    ·replace c41 := bF_ c41; subst c41; rw [if_neg ff_] at H; by_cases c43 : x702000_3.toList = ([] : List UInt8)
     ·rw [if_pos c43] at H; have ⟨c43b0, c43b1⟩ := bq5_ c43; clear c43
      (first | rw [c43b0] | (simp only [i64_w, i32_w]; rw [c43b0]) | skip)
      replace H := bnd_ H; obtain ⟨t726, A44, H⟩ := H; have H' := am_ H; clear H; obtain ⟨HGz45, hgz45⟩ := HI701.1; have Z45_0 := cellS61_0 HGz45; have Z45_1 := cellS61_1 HGz45; have F45_0 := blk_frozen HGz45 0; have F45_1 := blk_frozen HGz45 1; clear HGz45 hgz45; have := NB702_700.1; have := NB700_702.1; have := NB702_701.1; have := NB701_702.1; obtain ⟨_, _, _, _, _, _, _, _, _, _, _, _⟩ := bc6_ BK702
      go_wp2_with (go_at_call 78; refine cm_ (impl_RecOk.calls A44.1) ?_; rintro e w49 ⟨rfl, hb⟩; replace BK700 := bb_ BK700 hb; replace BK702 := bb_ BK702 hb; replace HB := bx_ HB hb; replace HI701 := am_ (IsS61.below (hi_ HI701) hb); clear hb)
      go_meet
      case rel => exact ⟨_, _, rs_, H', ⟨m1_ HJ3⟩, ⟨bk_ BK700⟩, ⟨bk_ BK702⟩, ⟨hj_ HB⟩⟩
     ·rw [if_neg c43] at H; have ⟨c43b0, c43b1⟩ := bq6_ c43
      (first | rw [c43b0] | (simp only [i64_w, i32_w]; rw [c43b0]) | skip)
      have H' := am_ H; clear H; obtain ⟨HGz50, hgz50⟩ := HI701.1; have Z50_0 := cellS61_0 HGz50; have Z50_1 := cellS61_1 HGz50; have F50_0 := blk_frozen HGz50 0; have F50_1 := blk_frozen HGz50 1; clear HGz50 hgz50
      go_wp2
      go_meet
      case rel => exact ⟨_, _, rs_, H', ⟨m1_ HJ3⟩, ⟨bk_ BK700⟩, ⟨bk_ BK702⟩, ⟨hj_ HB⟩⟩
   case rest =>
    clear HC40
    (try clear c15); (try clear c15b0); (try clear c15b1); (try clear c16); (try clear c25); (try clear c25b0); (try clear c25b1); (try clear c41); (try clear c43); (try clear c43b0); (try clear c43b1)
    obtain ⟨kq, x56_39, rfl, HA, HJ39, BK700, BK702, HB⟩ := hcut
    cases kq with
    | zero => exact zz_ HA
    | succ kj39 =>
     have H := HA.1; clear HA; simp only [impl_ReadRec.j2] at H; by_cases c51 : x56_39 = true
     ·subst c51; rw [if_pos rfl] at H; obtain ⟨rfl, rfl, rfl, rfl, rfl, rfl, rfl⟩ := i7_ H; have := NB700_702.1; have := NB702_700.1; obtain ⟨Z53_0, Z53_1, Z53_2, Z53_3, Z53_4, Z53_5, F53_0, F53_1, F53_2, F53_3, F53_4, F53_5⟩ := bc6_ BK700
      go_wp2
      refine bodyPost_ret (results_ct rfl _ _ gb700 41 #[.int .i64 0, .int .i64 0, .string (⟨#[]⟩ : ByteArray), .string (⟨#[]⟩ : ByteArray), .int .i64 0, .int .i64 0] (0, 0) _ rfl (uk_ BK700) Try.underlying41 rfl (by kernel_rfl)) rfl ?_; exact ⟨re_, hz_ HB⟩
     ·replace c51 := bF_ c51; subst c51; rw [if_neg ff_] at H; obtain ⟨rfl, rfl, rfl, rfl, rfl, rfl, rfl⟩ := i7_ H; have := NB702_700.1; have := NB700_702.1; obtain ⟨_, _, _, _, _, _, _, _, _, _, _, _⟩ := bc6_ BK702; obtain ⟨_, _, _, _, _, _, _, _, _, _, _, _⟩ := bc6_ BK700
      go_wp2
      refine bodyPost_ret (results_ct rfl _ _ gb700 41 #[.int .i64 t703, .int .i64 t706, .string x703002_3, .string x703003_3, .int .i64 x703004_3, .int .i64 x703005_3] (0, 0) _ rfl (uk_ BK700) Try.underlying41 rfl (by kernel_rfl)) rfl ?_; exact ⟨re_, hz_ HB⟩
def impl_ScanRecs.l0 : Nat → ByteArray → List (S43) → Int → Option ((List (S43)) × Int)
 | 0, _, _, _ => none
 | k + 1, x0, x4, x5 => if 0 ≤ x5 then (if x5 ≤ (x0.size : Int) then ((impl_Unframe.f k (x0.extract (x5 : Int).toNat x0.size)).bind fun bt727 => ((impl_ReadRec.f k bt727.1).bind fun bt729 => (if bt727.2 = 0 then (some (x4, x5)) else (if bt729.2.2.2.2.2.2 = true then (if x4.length < 1759218604441 then (impl_ScanRecs.l0 k x0 (x4 ++ [(⟨x5, bt727.2, (⟨bt729.1, bt729.2.1, bt729.2.2.1, bt729.2.2.2.1, bt729.2.2.2.2.1, bt729.2.2.2.2.2.1⟩ : S41)⟩ : S43)]) (wrap64 (x5 + bt727.2))) else (none)) else (some (x4, x5)))))) else (none)) else (none)
def impl_ScanRecs.f (k : Nat) (a0 : ByteArray) : Option ((List (S43)) × Int) := impl_ScanRecs.l0 k a0 ([] : List (S43)) 0
theorem impl_ScanRecs.calls {k : Nat} {a0 : ByteArray} {r1 : List (S43)} {r2 : Int} {w : World} (h : impl_ScanRecs.f k a0 = some (r1, r2)) :
  Calls Try.prog 33 #[.string a0] w fun e w' => ∃ v0_ : Value, e = .returned (.tuple #[v0_, .int .i64 r2]) ∧ Kd.R k43 43 w' w.heap.size (fun _ => True) v0_ r1 ∧ Below w.heap.size w w' := by
 have hu41 := Try.underlying41; have hu43 := Try.underlying43; have HB := am_ (Below.refl w.heap.size w); unfold impl_ScanRecs.f at h; have H := h; clear h; have H' := am_ H; clear H
 go_enter Try.func33, Try.ntmps33
 go_wp2
 go_loopg [4, 5] k (fun kq v4 v5 w' => ∃ (x4_1 : List (S43)) (x5_1 : Int), v5 = .int .i64 x5_1 ∧ Aside0 (impl_ScanRecs.l0 kq a0 x4_1 x5_1 = some (r1, r2)) ∧ Aside0 (kq ≤ k) ∧ Aside0 (Kd.R k43 43 w' w.heap.size (fun _ => True) v4 x4_1) ∧ Aside0 (Below w.heap.size w w'))
 case atStart => exact ⟨_, _, rs_, H', ⟨Nat.le_refl _⟩, ⟨by first | exact Kd.R_nil _ _ _ _ _ | exact Kd.N_nil _ _ _ _ _ | exact Kd.V_nil _ _ _ _ _ | exact Kd.Q_nil _ _ _ _ _ | exact Kd.S_nil _ _ _ _ _⟩, ⟨hb_ HB⟩⟩
 case round =>
  clear H'; obtain ⟨x4_1, x5_1, rfl, HA, HK1, HO_4, HB⟩ := hrel
  cases gk with
  | zero => exact zz_ HA
  | succ k1 =>
   have H := HA.1; clear HA; simp only [impl_ScanRecs.l0] at H; replace H := ig_ H; obtain ⟨c2b0, c2b1, H⟩ := H; replace H := ig_ H; obtain ⟨c3b0, c3b1, H⟩ := H; replace H := bnd_ H; obtain ⟨⟨t727, t728⟩, A4, H⟩ := H; replace H := bnd_ H; obtain ⟨⟨t729, t730, t731, t732, t733, t734, t735⟩, A5, H⟩ := H; by_cases c6 : t728 = 0
   ·rw [if_pos c6] at H; have ⟨c6b0, c6b1⟩ := bq5_ c6; clear c6; obtain ⟨rfl, rfl⟩ := i2_ H
    go_wp2_with (first | (refine gc_ 14 Try.func58 ?_; refine ch1_ (impl_Unframe.calls A4.1) ?_; intro w7 hb; replace HO_4 := rb_ HO_4 hb; replace HB := bx_ HB hb; clear hb) | (refine gc_ 19 Try.func59 ?_; refine ch1_ (impl_ReadRec.calls A5.1) ?_; intro w8 hb; replace HO_4 := rb_ HO_4 hb; replace HB := bx_ HB hb; clear hb) | (refine gd_ 8 ?_; refine bx1_ 8 #[.int .i64 0, .int .i64 0, .string (⟨#[]⟩ : ByteArray), .string (⟨#[]⟩ : ByteArray), .int .i64 0, .int .i64 0] 41 ?_; intro gb736 hg w9 hbox hb; replace HO_4 := rb_ HO_4 hb; have BK736 := am_ hbox; have GE736 := gx_ hg HB; replace HB := bx_ HB hb; clear hb hbox hg; obtain ⟨_, _, _, _, _, _, _, _, _, _, _, _⟩ := bc6_ BK736))
    go_ret2
    exact ⟨_, re_, rf_ HO_4 BK736, hs_ HB GE736⟩
   ·rw [if_neg c6] at H; have ⟨c6b0, c6b1⟩ := bq6_ c6; by_cases c11 : t735 = true
    ·subst c11; rw [if_pos rfl] at H; replace H := il_ H; obtain ⟨LMc12, H⟩ := H; obtain ⟨y737, hy737⟩ : ∃ y_ : List (S43), y_ = (x4_1 ++ [(⟨x5_1, t728, (⟨t729, t730, t731, t732, t733, t734⟩ : S41)⟩ : S43)]) := ⟨_, rfl⟩
     rw [← hy737] at H; have Ny737 := am_ hy737; clear hy737; have H' := am_ H; clear H
     go_wp2_with (first | (refine gc_ 14 Try.func58 ?_; refine ch1_ (impl_Unframe.calls A4.1) ?_; intro w13 hb; replace HO_4 := rb_ HO_4 hb; replace HB := bx_ HB hb; clear hb) | (refine gc_ 19 Try.func59 ?_; refine ch1_ (impl_ReadRec.calls A5.1) ?_; intro w14 hb; replace HO_4 := rb_ HO_4 hb; replace HB := bx_ HB hb; clear hb) | (refine gd_ 8 ?_; refine bx1_ 8 #[.int .i64 0, .int .i64 0, .string (⟨#[]⟩ : ByteArray), .string (⟨#[]⟩ : ByteArray), .int .i64 0, .int .i64 0] 41 ?_; intro gb736 hg w15 hbox hb; replace HO_4 := rb_ HO_4 hb; have BK736 := am_ hbox; have GE736 := gx_ hg HB; replace HB := bx_ HB hb; clear hb hbox hg; obtain ⟨_, _, _, _, _, _, _, _, _, _, _, _⟩ := bc6_ BK736) | (at_builtin; refine gb_ #[.tmp 30, .tmp 35] ?_; refine Kd.R_append k43 (w0 := w) w.heap.size rfl (.tmp 30) (.tmp 35) 37 43 (.agg #[(.int .i64 0), (.int .i64 0), (.int .i64 0), (.int .i64 0), (.string ⟨#[]⟩), (.string ⟨#[]⟩), (.int .i64 0), (.int .i64 0)]) 80 rfl Try.underlying37 info43 rfl (by decide) (by omega) u4 x4_1 (⟨x5_1, t728, (⟨t729, t730, t731, t732, t733, t734⟩ : S41)⟩ : S43) [.int .i64 x5_1, .int .i64 t728, .int .i64 t729, .int .i64 t730, .string t731, .string t732, .int .i64 t733, .int .i64 t734] (fun _ => True) (fun _ => False) rfl gr_ ?aP (fun _ hk => hk.elim) ?aF ?aO ?aB ?aS ?aL ?_; (case aP => exact k43_mkM _ _ _ (⟨x5_1, t728, (⟨t729, t730, t731, t732, t733, t734⟩ : S41)⟩ : S43)); (case aB => exact (hs_ HB GE736)); (case aF => exact (fun _ _ => trivial)); (case aO => exact (rf_ HO_4 BK736)); (case aS => exact (below_size (hs_ HB GE736))); (case aL => have := LMc12.1; omega); intro v738 w17 ho hb hg hat; rw [← Ny737.1] at ho; replace BK736 := am_ (blk_grown (g := gb736) (o := .cells #[.int .i64 t729, .int .i64 t730, .string t731, .string t732, .int .i64 t733, .int .i64 t734] 41 (0, 0)) (uk_ BK736) hg (Kd.R_ne HO_4.1 BK736.1 (by decide))); replace HB := am_ hb; have HO739 := am_ ho; clear HO_4; clear ho hb hg hat))
     go_roundg k1
     case measure => exact m1_ HK1
     case rel => exact ⟨_, _, rs_, H', ⟨m1_ HK1⟩, ⟨rr_ HO739⟩, ⟨hs_ HB GE736⟩⟩
    ·replace c11 := bF_ c11; subst c11; rw [if_neg ff_] at H; obtain ⟨rfl, rfl⟩ := i2_ H
     go_wp2_with (first | (refine gc_ 14 Try.func58 ?_; refine ch1_ (impl_Unframe.calls A4.1) ?_; intro w18 hb; replace HO_4 := rb_ HO_4 hb; replace HB := bx_ HB hb; clear hb) | (refine gc_ 19 Try.func59 ?_; refine ch1_ (impl_ReadRec.calls A5.1) ?_; intro w19 hb; replace HO_4 := rb_ HO_4 hb; replace HB := bx_ HB hb; clear hb) | (refine gd_ 8 ?_; refine bx1_ 8 #[.int .i64 0, .int .i64 0, .string (⟨#[]⟩ : ByteArray), .string (⟨#[]⟩ : ByteArray), .int .i64 0, .int .i64 0] 41 ?_; intro gb736 hg w20 hbox hb; replace HO_4 := rb_ HO_4 hb; have BK736 := am_ hbox; have GE736 := gx_ hg HB; replace HB := bx_ HB hb; clear hb hbox hg; obtain ⟨_, _, _, _, _, _, _, _, _, _, _, _⟩ := bc6_ BK736))
     go_ret2
     exact ⟨_, re_, rf_ HO_4 BK736, hs_ HB GE736⟩
def impl_ShowRec.j0 : Nat → ByteArray → Int → Bool → Int → Int → ByteArray → ByteArray → Int → Int → Option (ByteArray)
 | 0, _, _, _, _, _, _, _, _, _ => none
 | k + 1, x3, x14, x15, x741000, x741001, x741002, x741003, x741004, x741005 => if x15 = true then ((impl_textOf.f k x741002).bind fun t746 => (if x3.size + t746.size ≤ 9223372036854775807 then ((impl_textOf.f k x741003).bind fun t747 => (if (x3 ++ t746).size + t747.size ≤ 9223372036854775807 then (some ((x3 ++ t746) ++ t747)) else (none))) else (none))) else (if x14 = 2 then ((impl_textOf.f k x741002).bind fun t748 => (if x3.size + t748.size ≤ 9223372036854775807 then (some (x3 ++ t748)) else (none))) else ((impl_Var.f k x741004).bind fun t749 => (if x3.size + t749.size ≤ 9223372036854775807 then ((impl_Fixed.f k x741005 4).bind fun t750 => (if (x3 ++ t749).size + t750.size ≤ 9223372036854775807 then (some ((x3 ++ t749) ++ t750)) else (none))) else (none))))
def impl_ShowRec.f (k : Nat) (a0_0 : Int) (a0_1 : Int) (a0_2 : ByteArray) (a0_3 : ByteArray) (a0_4 : Int) (a0_5 : Int) : Option (ByteArray) := (impl_RecOk.f k a0_0 a0_1 a0_2 a0_3 a0_4 a0_5).bind fun t741 => (if t741 = true then ((impl_vars.f k (([a0_0, a0_1] : List Int))).bind fun t745 => (if a0_0 = 1 then (impl_ShowRec.j0 k t745 a0_0 (a0_0 == 1) a0_0 a0_1 a0_2 a0_3 a0_4 a0_5) else (impl_ShowRec.j0 k t745 a0_0 (a0_0 == 4) a0_0 a0_1 a0_2 a0_3 a0_4 a0_5))) else (some (⟨#[]⟩ : ByteArray)))
def impl_ShowRec.T7 : Bool × List (List Nat × List Nat) := (true, [([], []), ([], []), ([1], [1]), ([2], [2]), ([0, 3], [0, 3]), ([], []), ([5], [5]), ([6, 3], [6]), ([4, 7], [4, 7]), ([8, 7, 0, 1, 2, 3, 4, 5, 6, 7, 8], [8])])
def impl_ShowRec.B7 : List Nat := [0, 0, 2, 6, 15, 0, 32, 110, 255, 511]
theorem impl_ShowRec.tab7 : rtab .any (opsOf Try.f79 7) = impl_ShowRec.T7 := by kernel_rfl
theorem impl_ShowRec.bits7 : waitsOk impl_ShowRec.T7.2 impl_ShowRec.B7 = true := by kernel_rfl
def impl_ShowRec.T10 : Bool × List (List Nat × List Nat) := (true, [([], []), ([], []), ([1], [1]), ([2], [2]), ([0, 3], [0, 3]), ([], []), ([5], [5]), ([6, 3], [6]), ([4, 7], [4, 7]), ([8, 7, 0, 1, 2, 3, 4, 5, 6, 7, 8], [8])])
def impl_ShowRec.B10 : List Nat := [0, 0, 2, 6, 15, 0, 32, 110, 255, 511]
theorem impl_ShowRec.tab10 : rtab .any (opsOf Try.f79 10) = impl_ShowRec.T10 := by kernel_rfl
theorem impl_ShowRec.bits10 : waitsOk impl_ShowRec.T10.2 impl_ShowRec.B10 = true := by kernel_rfl
theorem impl_ShowRec.calls {k : Nat} {a0_0 a0_1 : Int} {a0_2 a0_3 : ByteArray} {a0_4 a0_5 : Int} {r : ByteArray} {w : World} (h : impl_ShowRec.f k a0_0 a0_1 a0_2 a0_3 a0_4 a0_5 = some r) :
  Calls Try.prog 79 #[.agg #[.int .i64 a0_0, .int .i64 a0_1, .string a0_2, .string a0_3, .int .i64 a0_4, .int .i64 a0_5]] w fun e w' => e = .returned (.string r) ∧ Below w.heap.size w w' := by
 have hu41 := Try.underlying41; have HB := am_ (Below.refl w.heap.size w); unfold impl_ShowRec.f at h; have H := h; clear h; replace H := bnd_ H; obtain ⟨t741, A2, H⟩ := H; by_cases c3 : t741 = true
 ·subst c3; rw [if_pos rfl] at H; obtain ⟨y742, hy742⟩ : ∃ y_ : List Int, y_ = (([a0_0, a0_1] : List Int)) := ⟨_, rfl⟩
  rw [← hy742] at H; have Ny742 := am_ hy742; clear hy742; replace H := bnd_ H; obtain ⟨t745, A4, H⟩ := H; have HC5 := am_ H; clear H
  go_enter Try.func79, Try.ntmps79
  go_upto_if 15 with (first | ((with_reducible refine gd_ 1 ?_); refine bx1_ 1 #[.int .i64 a0_0, .int .i64 a0_1, .string a0_2, .string a0_3, .int .i64 a0_4, .int .i64 a0_5] 41 ?_; intro gb740 hg w6 hbox hb; have BK740 := am_ hbox; have GE740 := gx_ hg HB; replace HB := bx_ HB hb; clear hb hbox hg; obtain ⟨_, _, _, _, _, _, _, _, _, _, _, _⟩ := bc6_ BK740) | ((with_reducible refine gc0_ 78 ?_); refine gc_ 5 Try.func78 ?_; refine ch1_ (impl_RecOk.calls A2.1) ?_; intro w8 hb; replace BK740 := bb_ BK740 hb; replace HB := bx_ HB hb; clear hb; obtain ⟨Z9_0, Z9_1, Z9_2, Z9_3, Z9_4, Z9_5, F9_0, F9_1, F9_2, F9_3, F9_4, F9_5⟩ := bc6_ BK740) | ((with_reducible refine gd_ 11 ?_); refine li_ 11 (Kd.int .i64) 3 ([a0_0, a0_1] : List Int) [.int .i64 a0_0, .int .i64 a0_1] ?_ (hp := (Reps.one (show Kd.M (Kd.int .i64) _ _ _ a0_0 [.int .i64 a0_0] from rfl) (Reps.one (show Kd.M (Kd.int .i64) _ _ _ a0_1 [.int .i64 a0_1] from rfl) (Reps.none _ _)))); intro v743 w10 ho11 hb hg_ hnew_; clear hg_ hnew_; (first | rw [← Ny742.1] at ho11 | (simp only [Int.reduceToNat] at ho11; rw [← Ny742.1] at ho11)); have HO744 := rm_ ho11 HB; replace BK740 := bb_ BK740 hb; replace HB := bx_ HB hb; clear hb ho11; obtain ⟨Ao12, co12, eo12⟩ := Kd.R_slice HO744.1; subst eo12) | ((with_reducible refine gc0_ 18 ?_); refine gc_ 12 Try.func18 ?_; refine ch1_ (impl_vars.calls Ao12 co12 A4.1) ?_; intro w13 hb; replace HO744 := rb_ HO744 hb; replace BK740 := bb_ BK740 hb; replace HB := bx_ HB hb; clear hb; obtain ⟨_, _, _, _, _, _, _, _, _, _, _, _⟩ := bc6_ BK740))
  (try simp only [Act.put, la_, lz_, ls_])
  go_cut [15] (fun v15 wc => ∃ (kq : Nat) (x15_4 : Bool), v15 = .bool x15_4 ∧ Aside0 (impl_ShowRec.j0 kq t745 a0_0 x15_4 a0_0 a0_1 a0_2 a0_3 a0_4 a0_5 = some r) ∧ Aside0 (kq ≤ k) ∧ Aside0 (wc.heap[gb740]? = some (.cells #[.int .i64 a0_0, .int .i64 a0_1, .string a0_2, .string a0_3, .int .i64 a0_4, .int .i64 a0_5] 41 (0, 0))) ∧ Aside0 (Below w.heap.size w wc))
  case first =>
   have H := HC5.1; clear HC5; by_cases c15 : a0_0 = 1
   ·rw [if_pos c15] at H; have ⟨c15b0, c15b1⟩ := bq5_ c15; clear c15
    (first | rw [c15b0] | (simp only [i64_w, i32_w]; rw [c15b0]) | skip)
    have H' := am_ H; clear H
    go_wp2
    go_meet
    case rel => exact ⟨_, _, rs_, H', ⟨m0_⟩, ⟨bk_ BK740⟩, ⟨hs_ HB GE740⟩⟩
   ·rw [if_neg c15] at H; have ⟨c15b0, c15b1⟩ := bq6_ c15
    (first | rw [c15b0] | (simp only [i64_w, i32_w]; rw [c15b0]) | skip)
    have H' := am_ H; clear H
    go_wp2
    go_meet
    case rel => exact ⟨_, _, rs_, H', ⟨m0_⟩, ⟨bk_ BK740⟩, ⟨hs_ HB GE740⟩⟩
  case rest =>
   clear HC5
   (try clear c3); (try clear c15); (try clear c15b0); (try clear c15b1)
   obtain ⟨kq, x15_4, rfl, HA, HJ4, BK740, HB⟩ := hcut
   cases kq with
   | zero => exact zz_ HA
   | succ kj4 =>
    have H := HA.1; clear HA; simp only [impl_ShowRec.j0] at H; by_cases c16 : x15_4 = true
    ·subst c16; rw [if_pos rfl] at H; replace H := bnd_ H; obtain ⟨t746, A17, H⟩ := H; replace H := ih_ H; obtain ⟨c18, H⟩ := H; have ⟨c18b0, c18b1, c18b2⟩ := dl_ c18
     replace H := bnd_ H; obtain ⟨t747, A19, H⟩ := H; replace H := ih_ H; obtain ⟨c20, H⟩ := H; have ⟨c20b0, c20b1, c20b2⟩ := dl_ c20; (try have c20b3 := sp_ c20b2)
     obtain rfl := in_ H
     try go_wp2
     replace BK740 := bd_ BK740; replace HB := hd_ HB; refine st1_ 10 impl_ShowRec.tab7 impl_ShowRec.bits7 (p6e_ BK740) (fun hHeld HT_ HW_ => ?_)
     generalize wc.drew = w21 at BK740 HB hHeld ⊢
     (iterate 2 refine pr_ ?_); refine pv_' 5 23 (of_ 10 35) rfl rfl HT_ ?_; refine tk6_ 2 20 (of_ 10 39) hHeld ?_
     refine tk6_ 6 24 (of_ 10 103) hHeld ?_
     refine o1_ 3 (some 21) (of_ 10 111) fun K hK => ?_; refine go2_ Try.func19 (impl_textOf.calls A17.1) ?_; intro w22 hb; replace BK740 := bb_ BK740 hb; replace HB := bx_ HB hb
     (try clear hb)
     (try clear hb2)
     (try clear hk)
     (try clear hi)
     refine hK.out _ _ (p6e_ BK740) (fun hHeld => ?_); clear hK K; refine nm_ ?_; refine pq_ 4 22 7 3 ?_; refine o1_ 7 (some 25) (on_ 8 2) fun K hK => ?_; refine go2_ Try.func19 (impl_textOf.calls A19.1) ?_; intro w23 hb; replace BK740 := bb_ BK740 hb; replace HB := bx_ HB hb
     (try clear hb)
     (try clear hb2)
     (try clear hk)
     (try clear hi)
     refine hK.out _ _ (p6e_ BK740) (fun hHeld => ?_); clear hK K; refine nm_ ?_; (iterate 2 refine pr_ ?_); refine dn_ ?_
     try go_wp2
     go_ret
     exact ⟨re_, hs_ HB GE740⟩
    ·replace c16 := bF_ c16; subst c16; rw [if_neg ff_] at H; by_cases c24 : a0_0 = 2
     ·rw [if_pos c24] at H; have ⟨c24b0, c24b1⟩ := bq5_ c24; clear c24; replace H := bnd_ H; obtain ⟨t748, A25, H⟩ := H; replace H := ih_ H; obtain ⟨c26, H⟩ := H; have ⟨c26b0, c26b1, c26b2⟩ := dl_ c26
      obtain rfl := in_ H; obtain ⟨_, _, _, _, _, _, _, _, _, _, _, _⟩ := bc6_ BK740
      go_wp2_with (refine gc_ 32 Try.func19 ?_; refine ch1_ (impl_textOf.calls A25.1) ?_; intro w28 hb; replace BK740 := bb_ BK740 hb; replace HB := bx_ HB hb; clear hb)
      go_ret
      exact ⟨re_, hs_ HB GE740⟩
     ·rw [if_neg c24] at H; have ⟨c24b0, c24b1⟩ := bq6_ c24; replace H := bnd_ H; obtain ⟨t749, A29, H⟩ := H; replace H := ih_ H; obtain ⟨c30, H⟩ := H; have ⟨c30b0, c30b1, c30b2⟩ := dl_ c30
      replace H := bnd_ H; obtain ⟨t750, A31, H⟩ := H; replace H := ih_ H; obtain ⟨c32, H⟩ := H; have ⟨c32b0, c32b1, c32b2⟩ := dl_ c32; (try have c32b3 := sp_ c32b2)
      obtain rfl := in_ H
      try go_wp2
      replace BK740 := bd_ BK740; replace HB := hd_ HB; refine st1_ 10 impl_ShowRec.tab10 impl_ShowRec.bits10 (p6e_ BK740) (fun hHeld HT_ HW_ => ?_)
      generalize wc.drew = w33 at BK740 HB hHeld ⊢
      (iterate 2 refine pr_ ?_); refine pv_' 5 39 (of_ 10 35) rfl rfl HT_ ?_; refine tk6_ 2 36 (of_ 10 39) hHeld ?_
      refine tk6_ 6 40 (of_ 10 103) hHeld ?_
      refine o1_ 3 (some 37) (of_ 10 111) fun K hK => ?_; refine go2_ Try.func48 (impl_Var.calls A29.1) ?_; intro w34 hb; replace BK740 := bb_ BK740 hb; replace HB := bx_ HB hb
      (try clear hb)
      (try clear hb2)
      (try clear hk)
      (try clear hi)
      refine hK.out _ _ (p6e_ BK740) (fun hHeld => ?_); clear hK K; refine nm_ ?_; refine pq_ 4 38 7 3 ?_; refine o1_ 7 (some 41) (on_ 8 2) fun K hK => ?_; refine go2_ Try.func20 (impl_Fixed.calls A31.1) ?_; intro w35 hb; replace BK740 := bb_ BK740 hb; replace HB := bx_ HB hb
      (try clear hb)
      (try clear hb2)
      (try clear hk)
      (try clear hi)
      refine hK.out _ _ (p6e_ BK740) (fun hHeld => ?_); clear hK K; refine nm_ ?_; (iterate 2 refine pr_ ?_); refine dn_ ?_
      try go_wp2
      go_ret
      exact ⟨re_, hs_ HB GE740⟩
 ·replace c3 := bF_ c3; subst c3; rw [if_neg ff_] at H; obtain rfl := in_ H
  go_enter Try.func79, Try.ntmps79
  go_wp2_with (first | (refine gd_ 1 ?_; refine bx1_ 1 #[.int .i64 a0_0, .int .i64 a0_1, .string a0_2, .string a0_3, .int .i64 a0_4, .int .i64 a0_5] 41 ?_; intro gb740 hg w36 hbox hb; have BK740 := am_ hbox; have GE740 := gx_ hg HB; replace HB := bx_ HB hb; clear hb hbox hg; obtain ⟨_, _, _, _, _, _, _, _, _, _, _, _⟩ := bc6_ BK740) | (refine gc_ 5 Try.func78 ?_; refine ch1_ (impl_RecOk.calls A2.1) ?_; intro w38 hb; replace BK740 := bb_ BK740 hb; replace HB := bx_ HB hb; clear hb))
  go_ret
  exact ⟨re_, hs_ HB GE740⟩
def impl_SumOf.l0 : Nat → ByteArray → List (S41) → Int → Int → Option (Int)
 | 0, _, _, _, _ => none
 | k + 1, x3, x6, x7, x8 => if x8 < x7 then (if 0 ≤ x8 then (if x8 < (x6.length : Int) then ((impl_ShowRec.f k ((rd_T41 x6 x8).f0) ((rd_T41 x6 x8).f1) ((rd_T41 x6 x8).f2) ((rd_T41 x6 x8).f3) ((rd_T41 x6 x8).f4) ((rd_T41 x6 x8).f5)).bind fun t753 => (if x3.size + t753.size ≤ 9223372036854775807 then (impl_SumOf.l0 k (x3 ++ t753) x6 x7 (wrap64 (x8 + 1))) else (none))) else (none)) else (none)) else ((impl_Crc.f k x3).bind fun t754 => (some t754))
def impl_SumOf.f (k : Nat) (l0 : List (S41)) : Option (Int) := impl_SumOf.l0 k (⟨#[]⟩ : ByteArray) l0 (l0.length : Int) 0
theorem impl_SumOf.calls {k : Nat} {l0 : List (S41)} {r : Int} {w : World} (A0 : Option Addr) (c0 : Nat) (h : impl_SumOf.f k l0 = some r) (hr0 : Kd.C k41 w A0 l0.length l0 := by exact sr_) (hc0 : l0.length ≤ c0 := by exact sc_) :
  Calls Try.prog 60 #[.slice A0 l0.length c0] w fun e w' => e = .returned (.int .i64 r) ∧ Below w.heap.size w w' := by
 have hu41 := Try.underlying41; have HR0 := am_ hr0; have HC0 := am_ hc0; clear hr0 hc0; have HB := am_ (Below.refl w.heap.size w); unfold impl_SumOf.f at h; have H := h; clear h; have H' := am_ H; clear H
 go_enter Try.func60, Try.ntmps60
 go_wp2
 go_loopg [3, 8] k (fun kq v3 v8 w' => ∃ (x3_1 : ByteArray) (x8_1 : Int), v3 = .string x3_1 ∧ v8 = .int .i64 x8_1 ∧ Aside0 (impl_SumOf.l0 kq x3_1 l0 (l0.length : Int) x8_1 = some r) ∧ Aside0 (kq ≤ k) ∧ Aside0 (Below w.heap.size w w'))
 case atStart => exact ⟨_, _, rs_, rs_, H', ⟨Nat.le_refl _⟩, ⟨hb_ HB⟩⟩
 case round =>
  clear H'; obtain ⟨x3_1, x8_1, rfl, rfl, HA, HK1, HB⟩ := hrel
  cases gk with
  | zero => exact zz_ HA
  | succ k1 =>
   have H := HA.1; clear HA; simp only [impl_SumOf.l0] at H; by_cases c2 : x8_1 < (l0.length : Int)
   ·rw [if_pos c2] at H; have c2b0 := dq_ c2; clear c2; replace H := ih_ H; obtain ⟨c3, H⟩ := H; have c3b0 := dq_ c3; clear c3; replace H := ih_ H; obtain ⟨c4, H⟩ := H; have c4b0 := dq_ c4; clear c4; replace H := bnd_ H; obtain ⟨t753, A5, H⟩ := H; replace H := ih_ H; obtain ⟨c6, H⟩ := H; have ⟨c6b0, c6b1, c6b2⟩ := dl_ c6
    have H' := am_ H; clear H; have p751 : 0 ≤ (x8_1 : Int) := od_; have q751 : x8_1 < (l0.length : Int) := od_; obtain ⟨ad751, e751, hx751_0, hx751_1, hx751_2, hx751_3, hx751_4, hx751_5⟩ := at_T41 HR0.1 x8_1 p751 q751
    cases e751
    (try replace hx751_0 := cb_ HB hx751_0)
    (try replace hx751_1 := cb_ HB hx751_1)
    (try replace hx751_2 := cb_ HB hx751_2)
    (try replace hx751_3 := cb_ HB hx751_3)
    (try replace hx751_4 := cb_ HB hx751_4)
    (try replace hx751_5 := cb_ HB hx751_5)
    replace p751 := eq_true p751; replace q751 := eq_true q751
    go_wp2_with (first | (refine gd_ 5 ?_; refine bx1_ 5 #[.int .i64 0, .int .i64 0, .string (⟨#[]⟩ : ByteArray), .string (⟨#[]⟩ : ByteArray), .int .i64 0, .int .i64 0] 41 ?_; intro gb752 hg w7 hbox hb; have BK752 := am_ hbox; have GE752 := gx_ hg HB; replace HB := bx_ HB hb; (try replace hx751_0 := cx_ hb hx751_0); (try replace hx751_1 := cx_ hb hx751_1); (try replace hx751_2 := cx_ hb hx751_2); (try replace hx751_3 := cx_ hb hx751_3); (try replace hx751_4 := cx_ hb hx751_4); (try replace hx751_5 := cx_ hb hx751_5); clear hb hbox hg; obtain ⟨_, _, _, _, _, _, _, _, _, _, _, _⟩ := bc6_ BK752) | (refine gc_ 14 Try.func79 ?_; refine ch1_ (impl_ShowRec.calls A5.1) ?_; intro w9 hb; replace BK752 := bp_ #[.int .i64 ((rd_T41 l0 x8_1).f0), .int .i64 ((rd_T41 l0 x8_1).f1), .string ((rd_T41 l0 x8_1).f2), .string ((rd_T41 l0 x8_1).f3), .int .i64 ((rd_T41 l0 x8_1).f4), .int .i64 ((rd_T41 l0 x8_1).f5)] BK752 hb; replace HB := bx_ HB hb; clear hb))
    go_roundg k1
    case measure => exact m1_ HK1
    case rel => exact ⟨_, _, rs_, rs_, H', ⟨m1_ HK1⟩, ⟨hs_ HB GE752⟩⟩
   ·rw [if_neg c2] at H; have c2b0 := df_ c2; clear c2; replace H := bnd_ H; obtain ⟨t754, A10, H⟩ := H; obtain rfl := in_ H
    go_wp2_with (refine gc_ 18 Try.func21 ?_; refine ch1_ (impl_Crc.calls A10.1) ?_; rintro w' ⟨nd, rfl⟩)
    go_ret
    exact ⟨re_, hb_ HB⟩
def impl_fits.l0 : Nat → List (S41) → List (S45) → Int → Int → Int → Int → ByteArray → ByteArray → Int → Int → Option (Bool)
 | 0, _, _, _, _, _, _, _, _, _, _ => none
 | k + 1, x5, x8, x9, x10, x756000, x756001, x756002, x756003, x756004, x756005 => if x10 < x9 then (if 0 ≤ x10 then (if x10 < (x8.length : Int) then (if x5.length < 2199023255552 then (impl_fits.l0 k (x5 ++ [(⟨(rd_T45 x8 x10).f3.f0, (rd_T45 x8 x10).f3.f1, (rd_T45 x8 x10).f3.f2, (rd_T45 x8 x10).f3.f3, (rd_T45 x8 x10).f3.f4, (rd_T45 x8 x10).f3.f5⟩ : S41)]) x8 x9 (wrap64 (x10 + 1)) x756000 x756001 x756002 x756003 x756004 x756005) else (none)) else (none)) else (none)) else (if x756004 = (x5.length : Int) then ((impl_SumOf.f k x5).bind fun t761 => (some (x756005 == t761))) else (some false))
def impl_fits.f (k : Nat) (a0_0 : Int) (a0_1 : Int) (a0_2 : ByteArray) (a0_3 : ByteArray) (a0_4 : Int) (a0_5 : Int) (l1 : List (S45)) : Option (Bool) := impl_fits.l0 k ([] : List (S41)) l1 (l1.length : Int) 0 a0_0 a0_1 a0_2 a0_3 a0_4 a0_5
def impl_fits.T7 : Bool × List (List Nat × List Nat) := (true, [([], []), ([0], [0]), ([], []), ([2], [2]), ([1, 3], [1, 3]), ([4], [4]), ([5], [5]), ([6, 5], [5, 6]), ([5], [5]), ([8, 5, 5], [5, 8]), ([7, 9, 5], [5, 7, 9]), ([5, 10], [5, 10]), ([11, 9, 0, 1, 2, 3, 4, 5, 6, 7, 8, 9, 10, 11], [11])])
def impl_fits.B7 : List Nat := [0, 1, 0, 4, 15, 31, 63, 127, 63, 319, 1023, 2047, 4095]
theorem impl_fits.tab7 : rtab .any (opsOf Try.f35 7) = impl_fits.T7 := by kernel_rfl
theorem impl_fits.bits7 : waitsOk impl_fits.T7.2 impl_fits.B7 = true := by kernel_rfl
theorem impl_fits.calls {k : Nat} {a0_0 a0_1 : Int} {a0_2 a0_3 : ByteArray} {a0_4 a0_5 : Int} {l1 : List (S45)} {r : Bool} {w : World} (A1 : Option Addr) (c1 : Nat) (h : impl_fits.f k a0_0 a0_1 a0_2 a0_3 a0_4 a0_5 l1 = some r) (hr1 : Kd.C k45 w A1 l1.length l1 := by exact sr_) (hc1 : l1.length ≤ c1 := by exact sc_) :
  Calls Try.prog 35 #[.agg #[.int .i64 a0_0, .int .i64 a0_1, .string a0_2, .string a0_3, .int .i64 a0_4, .int .i64 a0_5], .slice A1 l1.length c1] w fun e w' => e = .returned (.bool r) ∧ Below w.heap.size w w' := by
 have hu41 := Try.underlying41; have hu45 := Try.underlying45; have HR1 := am_ hr1; have HC1 := am_ hc1; clear hr1 hc1; have HB := am_ (Below.refl w.heap.size w); unfold impl_fits.f at h; have H := h; clear h; have H' := am_ H; clear H
 go_enter Try.func35, Try.ntmps35
 go_wp2_with (refine gd_ 2 ?_; refine bx1_ 2 #[.int .i64 a0_0, .int .i64 a0_1, .string a0_2, .string a0_3, .int .i64 a0_4, .int .i64 a0_5] 41 ?_; intro gb755 hg w3 hbox hb; have BK755 := am_ hbox; have GE755 := gx_ hg HB; replace HB := bx_ HB hb; clear hb hbox hg)
 go_loopg [5, 10] k (fun kq v5 v10 w' => ∃ (x5_1 : List (S41)) (x10_1 : Int), v10 = .int .i64 x10_1 ∧ Aside0 (impl_fits.l0 kq x5_1 l1 (l1.length : Int) x10_1 a0_0 a0_1 a0_2 a0_3 a0_4 a0_5 = some r) ∧ Aside0 (kq ≤ k) ∧ Aside0 (Kd.R k41 41 w' w.heap.size (fun k_ => k_ ≠ gb755) v5 x5_1) ∧ Aside0 (w'.heap[gb755]? = some (.cells #[.int .i64 a0_0, .int .i64 a0_1, .string a0_2, .string a0_3, .int .i64 a0_4, .int .i64 a0_5] 41 (0, 0))) ∧ Aside0 (Below w.heap.size w w'))
 case atStart => exact ⟨_, _, rs_, H', ⟨Nat.le_refl _⟩, ⟨by first | exact Kd.R_nil _ _ _ _ _ | exact Kd.N_nil _ _ _ _ _ | exact Kd.V_nil _ _ _ _ _ | exact Kd.Q_nil _ _ _ _ _ | exact Kd.S_nil _ _ _ _ _⟩, ⟨bk_ BK755⟩, ⟨hs_ HB GE755⟩⟩
 case round =>
  clear H'
  (try clear c1)
  obtain ⟨x5_1, x10_1, rfl, HA, HK1, HO_5, BK755, HB⟩ := hrel
  cases gk with
  | zero => exact zz_ HA
  | succ k1 =>
   have H := HA.1; clear HA; simp only [impl_fits.l0] at H; by_cases c4 : x10_1 < (l1.length : Int)
   ·rw [if_pos c4] at H; have c4b0 := dq_ c4; clear c4; replace H := ih_ H; obtain ⟨c5, H⟩ := H; have c5b0 := dq_ c5; clear c5; replace H := ih_ H; obtain ⟨c6, H⟩ := H; have c6b0 := dq_ c6; clear c6; replace H := il_ H; obtain ⟨LMc7, H⟩ := H; obtain ⟨y758, hy758⟩ : ∃ y_ : List (S41), y_ = (x5_1 ++ [(⟨(rd_T45 l1 x10_1).f3.f0, (rd_T45 l1 x10_1).f3.f1, (rd_T45 l1 x10_1).f3.f2, (rd_T45 l1 x10_1).f3.f3, (rd_T45 l1 x10_1).f3.f4, (rd_T45 l1 x10_1).f3.f5⟩ : S41)]) := ⟨_, rfl⟩
    rw [← hy758] at H; have Ny758 := am_ hy758; clear hy758; have H' := am_ H; clear H; have p756 : 0 ≤ (x10_1 : Int) := od_; have q756 : x10_1 < (l1.length : Int) := od_; obtain ⟨ad756, e756, hx756_0, hx756_1, hx756_2, hx756_3, hx756_4, hx756_5, hx756_6, hx756_7, hx756_8⟩ := at_T45 HR1.1 x10_1 p756 q756
    cases e756
    (try replace hx756_0 := cb_ HB hx756_0)
    (try replace hx756_1 := cb_ HB hx756_1)
    (try replace hx756_2 := cb_ HB hx756_2)
    (try replace hx756_3 := cb_ HB hx756_3)
    (try replace hx756_4 := cb_ HB hx756_4)
    (try replace hx756_5 := cb_ HB hx756_5)
    (try replace hx756_6 := cb_ HB hx756_6)
    (try replace hx756_7 := cb_ HB hx756_7)
    (try replace hx756_8 := cb_ HB hx756_8)
    replace p756 := eq_true p756; replace q756 := eq_true q756
    go_wp2_with (first | (refine gd_ 7 ?_; refine bx1_ 7 #[.int .i64 0, .int .i64 0, .int .i64 0, .int .i64 0, .int .i64 0, .string (⟨#[]⟩ : ByteArray), .string (⟨#[]⟩ : ByteArray), .int .i64 0, .int .i64 0] 45 ?_; intro gb757 hg w8 hbox hb; replace HO_5 := rb_ HO_5 hb; have BK757 := am_ hbox; have GE757 := gx_ hg HB; replace HB := bx_ HB hb; have ⟨NB755_757, NB757_755⟩ := nn_ BK755 hg; replace BK755 := bb_ BK755 hb; (try replace hx756_0 := cx_ hb hx756_0); (try replace hx756_1 := cx_ hb hx756_1); (try replace hx756_2 := cx_ hb hx756_2); (try replace hx756_3 := cx_ hb hx756_3); (try replace hx756_4 := cx_ hb hx756_4); (try replace hx756_5 := cx_ hb hx756_5); (try replace hx756_6 := cx_ hb hx756_6); (try replace hx756_7 := cx_ hb hx756_7); (try replace hx756_8 := cx_ hb hx756_8); clear hb hbox hg; have := NB757_755.1; have := NB755_757.1; obtain ⟨_, _, _, _, _, _, _, _, _, _, _, _, _, _, _, _, _, _⟩ := bc9_ BK757) | (at_builtin; refine gb_ #[.tmp 14, .tmp 17] ?_; refine Kd.R_append k41 (w0 := w) w.heap.size rfl (.tmp 14) (.tmp 17) 88 41 _ _ rfl Try.underlying88 info41 rfl (by decide) (by omega) u5 x5_1 (⟨(rd_T45 l1 x10_1).f3.f0, (rd_T45 l1 x10_1).f3.f1, (rd_T45 l1 x10_1).f3.f2, (rd_T45 l1 x10_1).f3.f3, (rd_T45 l1 x10_1).f3.f4, (rd_T45 l1 x10_1).f3.f5⟩ : S41) _ (fun k_ => k_ ≠ gb755) (fun _ => False) rfl gr_ (k41_mkM _ _ _ _) (fun _ hk => hk.elim) ?aF ?aO ?aB ?aS ?aL ?_; (case aB => exact (hu_ HB GE755 GE757)); (case aF => exact fu_ BK755); (case aO => exact (rf_ HO_5 BK757)); (case aS => exact (below_size (hu_ HB GE755 GE757))); (case aL => have := LMc7.1; omega); intro v759 w11 ho hb hg hat; rw [← Ny758.1] at ho; replace BK755 := am_ (blk_grown (g := gb755) (o := .cells #[.int .i64 a0_0, .int .i64 a0_1, .string a0_2, .string a0_3, .int .i64 a0_4, .int .i64 a0_5] 41 (0, 0)) (uk_ BK755) hg (Kd.R_away HO_5.1 (fun _ hk => hk))); replace BK757 := am_ (blk_grown (g := gb757) (o := .cells #[.int .i64 ((rd_T45 l1 x10_1).f0), .int .i64 ((rd_T45 l1 x10_1).f1), .int .i64 ((rd_T45 l1 x10_1).f2), .int .i64 ((rd_T45 l1 x10_1).f3.f0), .int .i64 ((rd_T45 l1 x10_1).f3.f1), .string ((rd_T45 l1 x10_1).f3.f2), .string ((rd_T45 l1 x10_1).f3.f3), .int .i64 ((rd_T45 l1 x10_1).f3.f4), .int .i64 ((rd_T45 l1 x10_1).f3.f5)] 45 (0, 0)) (uk_ BK757) hg (Kd.R_ne HO_5.1 BK757.1 (by decide))); replace HB := am_ hb; have HO760 := am_ ho; clear HO_5; clear ho hb hg hat))
    go_roundg k1
    case measure => exact m1_ HK1
    case rel => exact ⟨_, _, rs_, H', ⟨m1_ HK1⟩, ⟨rr_ HO760⟩, ⟨bk_ BK755⟩, ⟨hz_ HB⟩⟩
   ·rw [if_neg c4] at H; have c4b0 := df_ c4; clear c4; by_cases c12 : a0_4 = (x5_1.length : Int)
    ·rw [if_pos c12] at H; have ⟨c12b0, c12b1⟩ := bq5_ c12; clear c12; replace H := bnd_ H; obtain ⟨t761, A13, H⟩ := H; obtain rfl := in_ H
     try go_wp2
     replace HO_5 := rd_ HO_5; replace BK755 := bd_ BK755; replace HB := hd_ HB; obtain ⟨Ao15, co15, eo15⟩ := Kd.R_slice HO_5.1
     (first | subst eo15 | (injection eo15 with f1_ f2_ f3_; have f4_ := f1_.symm; have f5_ := f3_.symm; clear f1_ f2_ f3_; subst f4_; subst f5_))
     refine st1_ 13 impl_fits.tab7 impl_fits.bits7 (p6e_ BK755) (fun hHeld HT_ HW_ => ?_)
     generalize wr.drew = w14 at HO_5 BK755 HB hHeld ⊢
     refine pr_ ?_; refine pv_' 2 22 (of_ 13 5) rfl rfl HT_ ?_; refine pv_' 3 23 (of_ 13 13) rfl rfl HT_ ?_; refine tk6_ 1 21 (on_ 4 9) hHeld ?_
     (iterate 3 refine pr_ ?_); refine pv_' 8 28 (of_ 13 383) rfl rfl HT_ ?_; refine tk6_ 7 27 (on_ 9 4) hHeld ?_
     refine o1_ 9 (some 29) (on_ 10 3) fun K hK => ?_; refine go2_ Try.func60 (impl_SumOf.calls Ao15 co15 A13.1) ?_; intro w16 hb; replace HO_5 := rb_ HO_5 hb; replace BK755 := bb_ BK755 hb; replace HB := bx_ HB hb
     (try clear hb)
     (try clear hb2)
     (try clear hk)
     (try clear hi)
     refine hK.out _ _ (p6e_ BK755) (fun hHeld => ?_); clear hK K; refine nm_ ?_; (iterate 3 refine pr_ ?_); refine dn_ ?_
     try go_wp2
     go_ret
     exact ⟨re_, hs_ HB GE755⟩
    ·rw [if_neg c12] at H; have ⟨c12b0, c12b1⟩ := bq6_ c12; obtain rfl := in_ H
     try go_wp2
     replace HO_5 := rd_ HO_5; replace BK755 := bd_ BK755; replace HB := hd_ HB; obtain ⟨Ao18, co18, eo18⟩ := Kd.R_slice HO_5.1
     (first | subst eo18 | (injection eo18 with f1_ f2_ f3_; have f4_ := f1_.symm; have f5_ := f3_.symm; clear f1_ f2_ f3_; subst f4_; subst f5_))
     refine st1_ 13 impl_fits.tab7 impl_fits.bits7 (p6e_ BK755) (fun hHeld HT_ HW_ => ?_)
     generalize wr.drew = w17 at HO_5 BK755 HB hHeld ⊢
     refine pr_ ?_; refine pv_' 2 22 (of_ 13 5) rfl rfl HT_ ?_; refine pv_' 3 23 (of_ 13 13) rfl rfl HT_ ?_; refine tk6_ 1 21 (on_ 4 9) hHeld ?_
     (iterate 2 refine pr_ ?_); (iterate 5 refine pt_ ?_); (iterate 2 refine pr_ ?_); refine dn_ ?_
     try go_wp2
     go_ret
     exact ⟨re_, hs_ HB GE755⟩
def impl_placed.l0 : Nat → Int → List (S45) → List (S43) → Int → Int → Option ((List (S45)))
 | 0, _, _, _, _, _ => none
 | k + 1, x0, x5, x8, x9, x10 => if x10 < x9 then (if 0 ≤ x10 then (if x10 < (x8.length : Int) then (if x5.length < 1599289640401 then (impl_placed.l0 k x0 (x5 ++ [(⟨x0, (rd_T43 x8 x10).f0, (rd_T43 x8 x10).f1, (⟨(rd_T43 x8 x10).f2.f0, (rd_T43 x8 x10).f2.f1, (rd_T43 x8 x10).f2.f2, (rd_T43 x8 x10).f2.f3, (rd_T43 x8 x10).f2.f4, (rd_T43 x8 x10).f2.f5⟩ : S41)⟩ : S45)]) x8 x9 (wrap64 (x10 + 1))) else (none)) else (none)) else (none)) else (some x5)
def impl_placed.f (k : Nat) (a0 : Int) (l1 : List (S43)) : Option ((List (S45))) := impl_placed.l0 k a0 ([] : List (S45)) l1 (l1.length : Int) 0
theorem impl_placed.calls {k : Nat} {a0 : Int} {l1 : List (S43)} {r : List (S45)} {w : World} (A1 : Option Addr) (c1 : Nat) (h : impl_placed.f k a0 l1 = some r) (hr1 : Kd.C k43 w A1 l1.length l1 := by exact sr_) (hc1 : l1.length ≤ c1 := by exact sc_) :
  Calls Try.prog 36 #[.int .i64 a0, .slice A1 l1.length c1] w fun e w' => ∃ v0_ : Value, e = .returned (v0_) ∧ Kd.R k45 45 w' w.heap.size (fun _ => True) v0_ r ∧ Below w.heap.size w w' := by
 have hu43 := Try.underlying43; have hu41 := Try.underlying41; have hu45 := Try.underlying45; have HR1 := am_ hr1; have HC1 := am_ hc1; clear hr1 hc1; have HB := am_ (Below.refl w.heap.size w); unfold impl_placed.f at h; have H := h; clear h; have H' := am_ H; clear H
 go_enter Try.func36, Try.ntmps36
 go_wp2
 go_loopg [5, 10] k (fun kq v5 v10 w' => ∃ (x5_1 : List (S45)) (x10_1 : Int), v10 = .int .i64 x10_1 ∧ Aside0 (impl_placed.l0 kq a0 x5_1 l1 (l1.length : Int) x10_1 = some r) ∧ Aside0 (kq ≤ k) ∧ Aside0 (Kd.R k45 45 w' w.heap.size (fun _ => True) v5 x5_1) ∧ Aside0 (Below w.heap.size w w'))
 case atStart => exact ⟨_, _, rs_, H', ⟨Nat.le_refl _⟩, ⟨by first | exact Kd.R_nil _ _ _ _ _ | exact Kd.N_nil _ _ _ _ _ | exact Kd.V_nil _ _ _ _ _ | exact Kd.Q_nil _ _ _ _ _ | exact Kd.S_nil _ _ _ _ _⟩, ⟨hb_ HB⟩⟩
 case round =>
  clear H'
  (try clear c1)
  obtain ⟨x5_1, x10_1, rfl, HA, HK1, HO_5, HB⟩ := hrel
  cases gk with
  | zero => exact zz_ HA
  | succ k1 =>
   have H := HA.1; clear HA; simp only [impl_placed.l0] at H; by_cases c3 : x10_1 < (l1.length : Int)
   ·rw [if_pos c3] at H; have c3b0 := dq_ c3; clear c3; replace H := ih_ H; obtain ⟨c4, H⟩ := H; have c4b0 := dq_ c4; clear c4; replace H := ih_ H; obtain ⟨c5, H⟩ := H; have c5b0 := dq_ c5; clear c5; replace H := il_ H; obtain ⟨LMc6, H⟩ := H; obtain ⟨y764, hy764⟩ : ∃ y_ : List (S45), y_ = (x5_1 ++ [(⟨a0, (rd_T43 l1 x10_1).f0, (rd_T43 l1 x10_1).f1, (⟨(rd_T43 l1 x10_1).f2.f0, (rd_T43 l1 x10_1).f2.f1, (rd_T43 l1 x10_1).f2.f2, (rd_T43 l1 x10_1).f2.f3, (rd_T43 l1 x10_1).f2.f4, (rd_T43 l1 x10_1).f2.f5⟩ : S41)⟩ : S45)]) := ⟨_, rfl⟩
    rw [← hy764] at H; have Ny764 := am_ hy764; clear hy764; have H' := am_ H; clear H; have p762 : 0 ≤ (x10_1 : Int) := od_; have q762 : x10_1 < (l1.length : Int) := od_; obtain ⟨ad762, e762, hx762_0, hx762_1, hx762_2, hx762_3, hx762_4, hx762_5, hx762_6, hx762_7⟩ := at_T43 HR1.1 x10_1 p762 q762
    cases e762
    (try replace hx762_0 := cb_ HB hx762_0)
    (try replace hx762_1 := cb_ HB hx762_1)
    (try replace hx762_2 := cb_ HB hx762_2)
    (try replace hx762_3 := cb_ HB hx762_3)
    (try replace hx762_4 := cb_ HB hx762_4)
    (try replace hx762_5 := cb_ HB hx762_5)
    (try replace hx762_6 := cb_ HB hx762_6)
    (try replace hx762_7 := cb_ HB hx762_7)
    replace p762 := eq_true p762; replace q762 := eq_true q762
    go_wp2_with (first | (refine gd_ 7 ?_; refine bx1_ 7 #[.int .i64 0, .int .i64 0, .int .i64 0, .int .i64 0, .string (⟨#[]⟩ : ByteArray), .string (⟨#[]⟩ : ByteArray), .int .i64 0, .int .i64 0] 43 ?_; intro gb763 hg w7 hbox hb; replace HO_5 := rb_ HO_5 hb; have BK763 := am_ hbox; have GE763 := gx_ hg HB; replace HB := bx_ HB hb; (try replace hx762_0 := cx_ hb hx762_0); (try replace hx762_1 := cx_ hb hx762_1); (try replace hx762_2 := cx_ hb hx762_2); (try replace hx762_3 := cx_ hb hx762_3); (try replace hx762_4 := cx_ hb hx762_4); (try replace hx762_5 := cx_ hb hx762_5); (try replace hx762_6 := cx_ hb hx762_6); (try replace hx762_7 := cx_ hb hx762_7); clear hb hbox hg; obtain ⟨_, _, _, _, _, _, _, _, _, _, _, _, _, _, _, _⟩ := bc8_ BK763) | (at_builtin; refine gb_ #[.tmp 14, .tmp 23] ?_; refine Kd.R_append k45 (w0 := w) w.heap.size rfl (.tmp 14) (.tmp 23) 36 45 (.agg #[(.int .i64 0), (.int .i64 0), (.int .i64 0), (.int .i64 0), (.int .i64 0), (.string ⟨#[]⟩), (.string ⟨#[]⟩), (.int .i64 0), (.int .i64 0)]) 88 rfl Try.underlying36 info45 rfl (by decide) (by omega) u5 x5_1 (⟨a0, (rd_T43 l1 x10_1).f0, (rd_T43 l1 x10_1).f1, (⟨(rd_T43 l1 x10_1).f2.f0, (rd_T43 l1 x10_1).f2.f1, (rd_T43 l1 x10_1).f2.f2, (rd_T43 l1 x10_1).f2.f3, (rd_T43 l1 x10_1).f2.f4, (rd_T43 l1 x10_1).f2.f5⟩ : S41)⟩ : S45) [.int .i64 a0, .int .i64 ((rd_T43 l1 x10_1).f0), .int .i64 ((rd_T43 l1 x10_1).f1), .int .i64 ((rd_T43 l1 x10_1).f2.f0), .int .i64 ((rd_T43 l1 x10_1).f2.f1), .string ((rd_T43 l1 x10_1).f2.f2), .string ((rd_T43 l1 x10_1).f2.f3), .int .i64 ((rd_T43 l1 x10_1).f2.f4), .int .i64 ((rd_T43 l1 x10_1).f2.f5)] (fun _ => True) (fun _ => False) rfl gr_ ?aP (fun _ hk => hk.elim) ?aF ?aO ?aB ?aS ?aL ?_; (case aP => exact k45_mkM _ _ _ (⟨a0, (rd_T43 l1 x10_1).f0, (rd_T43 l1 x10_1).f1, (⟨(rd_T43 l1 x10_1).f2.f0, (rd_T43 l1 x10_1).f2.f1, (rd_T43 l1 x10_1).f2.f2, (rd_T43 l1 x10_1).f2.f3, (rd_T43 l1 x10_1).f2.f4, (rd_T43 l1 x10_1).f2.f5⟩ : S41)⟩ : S45)); (case aB => exact (hs_ HB GE763)); (case aF => exact (fun _ _ => trivial)); (case aO => exact (rf_ HO_5 BK763)); (case aS => exact (below_size (hs_ HB GE763))); (case aL => have := LMc6.1; omega); intro v765 w9 ho hb hg hat; rw [← Ny764.1] at ho; replace BK763 := am_ (blk_grown (g := gb763) (o := .cells #[.int .i64 ((rd_T43 l1 x10_1).f0), .int .i64 ((rd_T43 l1 x10_1).f1), .int .i64 ((rd_T43 l1 x10_1).f2.f0), .int .i64 ((rd_T43 l1 x10_1).f2.f1), .string ((rd_T43 l1 x10_1).f2.f2), .string ((rd_T43 l1 x10_1).f2.f3), .int .i64 ((rd_T43 l1 x10_1).f2.f4), .int .i64 ((rd_T43 l1 x10_1).f2.f5)] 43 (0, 0)) (uk_ BK763) hg (Kd.R_ne HO_5.1 BK763.1 (by decide))); replace HB := am_ hb; have HO766 := am_ ho; clear HO_5; clear ho hb hg hat))
    go_roundg k1
    case measure => exact m1_ HK1
    case rel => exact ⟨_, _, rs_, H', ⟨m1_ HK1⟩, ⟨rr_ HO766⟩, ⟨hs_ HB GE763⟩⟩
   ·rw [if_neg c3] at H; have c3b0 := df_ c3; clear c3; obtain rfl := in_ H
    go_wp2
    go_ret
    exact ⟨_, re_, rr_ HO_5, hb_ HB⟩
end Go.Proofs.Ytohfcgdodgdiiaa.PFnHints
