-- Laid by a program of this session, a copy of the kit's printer with additions (wip/patch_print.py): myhead. Lean checks it.
import Derived.Test.YtnjmehiploelnaaPFnExactHintOfx0
import Derived.Test.YtnjmehiploelnaaPFnExactHintOfx10
import Derived.Test.YtnjmehiploelnaaPFnExactHintOfx11
namespace Go.Proofs.Ytnjmehiploelnaa.PFnExactHintOf
open Go.RowKit Go.Proofs.YtnjmehiploelnaaW.PrintWords Go.Proofs.YtnjmehiploelnaaW.PrintLast Go.Proofs.YtnjmehiploelnaaW.PrintMore
attribute [local go_sem] max2_int min2_int max_two min_two max_three min_three max_four min_four   -- for this text's walks alone
set_option linter.unusedVariables false
set_option linter.unusedSimpArgs false

/-! ### impl_ReadRec: function 33 -/
mutual
def impl_ReadRec.j1 : Nat → ByteArray → Bool → Int → Int → ByteArray → ByteArray → Int → Int → Option (Int × Int × ByteArray × ByteArray × Int × Int × Bool)
 | 0, _, _, _, _, _, _, _, _ => none
 | k + 1, x260000, x260001, x261000, x261001, x261002, x261003, x261004, x261005 => if x260001 = true then (impl_ReadRec.j2 k true x261000 x261001 x261002 x261003 x261004 x261005) else (if x260000.toList = ([] : List UInt8) then ((impl_RecOk.f k x261000 x261001 x261002 x261003 x261004 x261005).bind fun t284 => (impl_ReadRec.j2 k (!t284) x261000 x261001 x261002 x261003 x261004 x261005)) else (impl_ReadRec.j2 k true x261000 x261001 x261002 x261003 x261004 x261005))
def impl_ReadRec.j2 : Nat → Bool → Int → Int → ByteArray → ByteArray → Int → Int → Option (Int × Int × ByteArray × ByteArray × Int × Int × Bool)
 | 0, _, _, _, _, _, _, _ => none
 | k + 1, x56, x261000, x261001, x261002, x261003, x261004, x261005 => if x56 = true then (some (0, 0, (⟨#[]⟩ : ByteArray), (⟨#[]⟩ : ByteArray), 0, 0, false)) else (some (x261000, x261001, x261002, x261003, x261004, x261005, true))
def impl_ReadRec.j0 : Nat → Int → Bool → ByteArray → Bool → Int → Int → ByteArray → ByteArray → Int → Int → Option (Int × Int × ByteArray × ByteArray × Int × Int × Bool)
 | 0, _, _, _, _, _, _, _, _, _, _ => none
 | k + 1, x16, x27, x260000, x260001, x261000, x261001, x261002, x261003, x261004, x261005 => if x27 = true then ((impl_scanner_text.f k x260000 x260001).bind fun bt267 => ((impl_scanner_text.f k bt267.2.1 bt267.2.2).bind fun bt270 => (impl_ReadRec.j1 k bt270.2.1 bt270.2.2 x261000 x261001 bt267.1 bt270.1 x261004 x261005))) else (if x16 = 2 then ((impl_scanner_text.f k x260000 x260001).bind fun bt273 => (impl_ReadRec.j1 k bt273.2.1 bt273.2.2 x261000 x261001 bt273.1 x261003 x261004 x261005)) else ((impl_scanner_num.f k x260000 x260001).bind fun bt276 => ((impl_scanner_bytes.f bt276.2.1 bt276.2.2 4).bind fun bt279 => ((impl_ReadFixed.f k bt279.1 4).bind fun bt282 => (impl_ReadRec.j1 k bt279.2.1 bt279.2.2 x261000 x261001 x261002 x261003 bt276.1 bt282.1)))))
end
def impl_ReadRec.f (k : Nat) (a0 : ByteArray) : Option (Int × Int × ByteArray × ByteArray × Int × Int × Bool) := (impl_scanner_num.f k a0 false).bind fun bt261 => ((impl_scanner_num.f k bt261.2.1 bt261.2.2).bind fun bt264 => (if bt261.1 = 1 then (impl_ReadRec.j0 k bt261.1 (bt261.1 == 1) bt264.2.1 bt264.2.2 bt261.1 bt264.1 (⟨#[]⟩ : ByteArray) (⟨#[]⟩ : ByteArray) 0 0) else (impl_ReadRec.j0 k bt261.1 (bt261.1 == 4) bt264.2.1 bt264.2.2 bt261.1 bt264.1 (⟨#[]⟩ : ByteArray) (⟨#[]⟩ : ByteArray) 0 0)))
theorem impl_ReadRec.mono_l : ∀ k, (∀ y0 y1 y2 y3 y4 y5 y6 y7, LeO (impl_ReadRec.j1 k y0 y1 y2 y3 y4 y5 y6 y7) (impl_ReadRec.j1 (k + 1) y0 y1 y2 y3 y4 y5 y6 y7)) ∧ (∀ y0 y1 y2 y3 y4 y5 y6, LeO (impl_ReadRec.j2 k y0 y1 y2 y3 y4 y5 y6) (impl_ReadRec.j2 (k + 1) y0 y1 y2 y3 y4 y5 y6)) ∧ (∀ y0 y1 y2 y3 y4 y5 y6 y7 y8 y9, LeO (impl_ReadRec.j0 k y0 y1 y2 y3 y4 y5 y6 y7 y8 y9) (impl_ReadRec.j0 (k + 1) y0 y1 y2 y3 y4 y5 y6 y7 y8 y9))
 | 0 => ⟨fun _ _ _ _ _ _ _ _ r h => by simp [impl_ReadRec.j1] at h, fun _ _ _ _ _ _ _ r h => by simp [impl_ReadRec.j2] at h, fun _ _ _ _ _ _ _ _ _ _ r h => by simp [impl_ReadRec.j0] at h⟩
 | k + 1 => by
  obtain ⟨ih0, ih1, ih2⟩ := impl_ReadRec.mono_l k
  refine ⟨?_, ?_, ?_⟩
  ·intro y0 y1 y2 y3 y4 y5 y6 y7
   unfold impl_ReadRec.j1
   repeat' first | (with_reducible first | exact ih0 .. | exact ih1 .. | exact ih2 .. | exact impl_ReadFixed.mono .. | exact impl_RecOk.mono .. | exact impl_scanner_num.mono .. | exact impl_scanner_text.mono .. | exact LeO.refl .. | exact LeO.none .. | refine LeO.ite ?_ ?_ | refine LeO.bind ?_ (fun _ => ?_)) | exact ih0 .. | exact ih1 .. | exact ih2 .. | exact impl_ReadFixed.mono .. | exact impl_RecOk.mono .. | exact impl_scanner_num.mono .. | exact impl_scanner_text.mono .. | exact LeO.none .. | refine LeO.ite ?_ ?_ | refine LeO.bind ?_ (fun _ => ?_)
  ·intro y0 y1 y2 y3 y4 y5 y6
   unfold impl_ReadRec.j2
   repeat' first | (with_reducible first | exact ih0 .. | exact ih1 .. | exact ih2 .. | exact impl_ReadFixed.mono .. | exact impl_RecOk.mono .. | exact impl_scanner_num.mono .. | exact impl_scanner_text.mono .. | exact LeO.refl .. | exact LeO.none .. | refine LeO.ite ?_ ?_ | refine LeO.bind ?_ (fun _ => ?_)) | exact ih0 .. | exact ih1 .. | exact ih2 .. | exact impl_ReadFixed.mono .. | exact impl_RecOk.mono .. | exact impl_scanner_num.mono .. | exact impl_scanner_text.mono .. | exact LeO.none .. | refine LeO.ite ?_ ?_ | refine LeO.bind ?_ (fun _ => ?_)
  ·intro y0 y1 y2 y3 y4 y5 y6 y7 y8 y9
   unfold impl_ReadRec.j0
   repeat' first | (with_reducible first | exact ih0 .. | exact ih1 .. | exact ih2 .. | exact impl_ReadFixed.mono .. | exact impl_RecOk.mono .. | exact impl_scanner_num.mono .. | exact impl_scanner_text.mono .. | exact LeO.refl .. | exact LeO.none .. | refine LeO.ite ?_ ?_ | refine LeO.bind ?_ (fun _ => ?_)) | exact ih0 .. | exact ih1 .. | exact ih2 .. | exact impl_ReadFixed.mono .. | exact impl_RecOk.mono .. | exact impl_scanner_num.mono .. | exact impl_scanner_text.mono .. | exact LeO.none .. | refine LeO.ite ?_ ?_ | refine LeO.bind ?_ (fun _ => ?_)
theorem impl_ReadRec.mono : ∀ a0 k, LeO (impl_ReadRec.f k a0) (impl_ReadRec.f (k + 1) a0) := by
 intro a0 k
 obtain ⟨ih0, ih1, ih2⟩ := impl_ReadRec.mono_l k
 unfold impl_ReadRec.f
 repeat' first | (with_reducible first | exact ih0 .. | exact ih1 .. | exact ih2 .. | exact impl_ReadFixed.mono .. | exact impl_RecOk.mono .. | exact impl_scanner_num.mono .. | exact impl_scanner_text.mono .. | exact LeO.refl .. | exact LeO.none .. | refine LeO.ite ?_ ?_ | refine LeO.bind ?_ (fun _ => ?_)) | exact ih0 .. | exact ih1 .. | exact ih2 .. | exact impl_ReadFixed.mono .. | exact impl_RecOk.mono .. | exact impl_scanner_num.mono .. | exact impl_scanner_text.mono .. | exact LeO.none .. | refine LeO.ite ?_ ?_ | refine LeO.bind ?_ (fun _ => ?_)
set_option maxHeartbeats 80000000 in
set_option maxRecDepth 100000 in
theorem impl_ReadRec.calls (k : Nat) (a0 : ByteArray) (r1 : Int) (r2 : Int) (r3 : ByteArray) (r4 : ByteArray) (r5 : Int) (r6 : Int) (r7 : Bool) (w : World) (h : impl_ReadRec.f k a0 = some (r1, r2, r3, r4, r5, r6, r7)) :
  Calls Try.prog 33 #[.string a0] w fun e w' => e = .returned (.tuple #[.agg #[.int .i64 r1, .int .i64 r2, .string r3, .string r4, .int .i64 r5, .int .i64 r6], .bool r7]) ∧ Below w.heap.size w w' := by
 have hu33 := Try.underlying33
 have hu87 := Try.underlying87
 have HB := Aside0.mk (Below.refl w.heap.size w)
 have H : ((impl_scanner_num.f k a0 false).bind fun bt261 => ((impl_scanner_num.f k bt261.2.1 bt261.2.2).bind fun bt264 => (if bt261.1 = 1 then (impl_ReadRec.j0 k bt261.1 (bt261.1 == 1) bt264.2.1 bt264.2.2 bt261.1 bt264.1 (⟨#[]⟩ : ByteArray) (⟨#[]⟩ : ByteArray) 0 0) else (impl_ReadRec.j0 k bt261.1 (bt261.1 == 4) bt264.2.1 bt264.2.2 bt261.1 bt264.1 (⟨#[]⟩ : ByteArray) (⟨#[]⟩ : ByteArray) 0 0)))) = some (r1, r2, r3, r4, r5, r6, r7) := h
 clear h
 replace H := Option.bind_eq_some_iff.mp H
 obtain ⟨⟨t261, t262, t263⟩, A20, H⟩ := H
 replace H : ((impl_scanner_num.f k t262 t263).bind fun bt264 => (if t261 = 1 then (impl_ReadRec.j0 k t261 (t261 == 1) bt264.2.1 bt264.2.2 t261 bt264.1 (⟨#[]⟩ : ByteArray) (⟨#[]⟩ : ByteArray) 0 0) else (impl_ReadRec.j0 k t261 (t261 == 4) bt264.2.1 bt264.2.2 t261 bt264.1 (⟨#[]⟩ : ByteArray) (⟨#[]⟩ : ByteArray) 0 0))) = some (r1, r2, r3, r4, r5, r6, r7) := H
 have A2 := Aside0.mk A20
 clear A20
 replace H := Option.bind_eq_some_iff.mp H
 obtain ⟨⟨t264, t265, t266⟩, A30, H⟩ := H
 replace H : (if t261 = 1 then (impl_ReadRec.j0 k t261 (t261 == 1) t265 t266 t261 t264 (⟨#[]⟩ : ByteArray) (⟨#[]⟩ : ByteArray) 0 0) else (impl_ReadRec.j0 k t261 (t261 == 4) t265 t266 t261 t264 (⟨#[]⟩ : ByteArray) (⟨#[]⟩ : ByteArray) 0 0)) = some (r1, r2, r3, r4, r5, r6, r7) := H
 have A3 := Aside0.mk A30
 clear A30
 have HC4 := Aside0.mk H
 clear H
 go_enter Try.func33, Try.ntmps33
 go_upto_block 0 with (first | ((with_reducible refine gate_dst (N := 2) rfl ?_); refine box_event ?hg (N := 2) ?hd (cs := #[.int .i64 0, .int .i64 0, .string (⟨#[]⟩ : ByteArray), .string (⟨#[]⟩ : ByteArray), .int .i64 0, .int .i64 0]) (t := 33) ?hr ?_; (case hd => rfl); (case hg => rfl); (case hr => first | (go_simp; done) | (go_simp; rfl)); intro gb258 hg w5 hbox hb; have BK258 := Aside0.mk (hbox); have GW258 := ge_ hg (hb_ HB); have GE258 := ge_ hg (hb_ HB); replace HB := bs_ HB hb; clear hb hbox hg) | ((with_reducible refine gate_dst (N := 8) rfl ?_); refine box_event ?hg (N := 8) ?hd (cs := #[.string a0, .bool false]) (t := 87) ?hr ?_; (case hd => rfl); (case hg => rfl); (case hr => first | (go_simp; done) | (go_simp; rfl)); intro gb259 hg w6 hbox hb; have BK259 := Aside0.mk (hbox); have GW259 := ge_ hg (hs_ HB GE258); have GE259 := ge_ hg (hs_ HB GE258); replace HB := bt_ HB GE258 hb; have NB258_259 := nl_ BK258 hg; have NB259_258 := ng_ BK258 hg; replace BK258 := bb_ BK258 hb; clear hb hbox hg) | ((with_reducible refine gate_dst (N := 5) rfl ?_); refine box_event ?hg (N := 5) ?hd (cs := #[.int .i64 0, .int .i64 0, .string (⟨#[]⟩ : ByteArray), .string (⟨#[]⟩ : ByteArray), .int .i64 0, .int .i64 0]) (t := 33) ?hr ?_; (case hd => rfl); (case hg => rfl); (case hr => first | (go_simp; done) | (go_simp; rfl)); intro gb260 hg w7 hbox hb; have BK260 := Aside0.mk (hbox); have GW260 := ge_ hg (hu_ HB GE258 GE259); have GE260 := ge_ hg (hu_ HB GE258 GE259); replace HB := bu_ HB GE258 GE259 hb; have NB258_260 := nl_ BK258 hg; have NB260_258 := ng_ BK258 hg; replace BK258 := bb_ BK258 hb; have NB259_260 := nl_ BK259 hg; have NB260_259 := ng_ BK259 hg; replace BK259 := bb_ BK259 hb; clear hb hbox hg; have HI259 := Aside0.mk (show IsS87 w w7 gb259 a0 false from ⟨BK259.out, GE259.out⟩); clear BK259) | ((with_reducible refine gate_callee (f := 54) rfl ?_); refine goesL_ (some 10) rfl rfl Try.func54 (by kernel_rfl) rfl #[.pointer (some ⟨gb259, 0, none⟩)] rfl ar_ ?_; (with_reducible refine (impl_scanner_num.calls k gb259 a0 false t261 t262 t263 w _ ?side1 ?side2 A2.out).mono ?_); (case side1 => repeat (first | (with_reducible first | exact HI259.out | apply IsS87.alloc | apply IsS87.drewN | apply IsS87.drew | apply IsS87.set_0 | apply IsS87.set_1 | refine IsS87.far ?_ NB259_258.out _ | refine IsS87.far ?_ NB259_260.out _) | exact HI259.out)); (case side2 => repeat (first | (with_reducible first | exact HB.out | apply below_alloc | apply pw_below_drewN | apply below_drew1 | refine below_set ?_ (IsS87.ge HI259.out) | refine below_set ?_ GE258.out | refine below_set ?_ GE260.out) | exact HB.out)); rintro e w8 ⟨rfl, hi, hb, hk⟩; refine ⟨_, rfl, ?_⟩; replace BK258 := Aside0.mk (KeepBut.blk hk (g' := gb258) (o := .cells #[.int .i64 0, .int .i64 0, .string (⟨#[]⟩ : ByteArray), .string (⟨#[]⟩ : ByteArray), .int .i64 0, .int .i64 0] 33 (0, 0)) (bk_ BK258) NB258_259.out (by simp)); replace BK260 := Aside0.mk (KeepBut.blk hk (g' := gb260) (o := .cells #[.int .i64 0, .int .i64 0, .string (⟨#[]⟩ : ByteArray), .string (⟨#[]⟩ : ByteArray), .int .i64 0, .int .i64 0] 33 (0, 0)) (bk_ BK260) NB260_259.out (by simp)); replace HB := Aside0.mk (hb); replace HI259 := Aside0.mk (hi); (try clear hb); (try clear hb2); (try clear hk); (try clear hi); have hnb9 := NB260_258.out; have hnc9 := NB258_260.out; have hnb10 := NB260_259.out; have hnc10 := NB259_260.out; obtain ⟨hcz11_0, hcz11_1, hcz11_2, hcz11_3, hcz11_4, hcz11_5, hfz11_0, hfz11_1, hfz11_2, hfz11_3, hfz11_4, hfz11_5⟩ := bc6_ BK260) | ((with_reducible refine gate_callee (f := 54) rfl ?_); refine goesL_ (some 13) rfl rfl Try.func54 (by kernel_rfl) rfl #[.pointer (some ⟨gb259, 0, none⟩)] rfl ar_ ?_; (with_reducible refine (impl_scanner_num.calls k gb259 t262 t263 t264 t265 t266 w _ ?side1 ?side2 A3.out).mono ?_); (case side1 => repeat (first | (with_reducible first | exact HI259.out | apply IsS87.alloc | apply IsS87.drewN | apply IsS87.drew | apply IsS87.set_0 | apply IsS87.set_1 | refine IsS87.far ?_ NB259_258.out _ | refine IsS87.far ?_ NB259_260.out _) | exact HI259.out)); (case side2 => repeat (first | (with_reducible first | exact HB.out | apply below_alloc | apply pw_below_drewN | apply below_drew1 | refine below_set ?_ (IsS87.ge HI259.out) | refine below_set ?_ GE258.out | refine below_set ?_ GE260.out) | exact HB.out)); rintro e w12 ⟨rfl, hi, hb, hk⟩; refine ⟨_, rfl, ?_⟩; replace BK258 := Aside0.mk (KeepBut.blk hk (g' := gb258) (o := .cells #[.int .i64 0, .int .i64 0, .string (⟨#[]⟩ : ByteArray), .string (⟨#[]⟩ : ByteArray), .int .i64 0, .int .i64 0] 33 (0, 0)) (by (with_reducible repeat (first | refine blk_drewN ?_ _ | refine blk_drew ?_ | refine blk_alloc ?_ _)); refine blk_far ?_ NB258_260.out _; (with_reducible repeat (first | refine blk_drewN ?_ _ | refine blk_drew ?_ | refine blk_alloc ?_ _)); exact BK258.out) NB258_259.out (by simp)); replace BK260 := Aside0.mk (KeepBut.blk hk (g' := gb260) (o := .cells #[.int .i64 t261, .int .i64 0, .string (⟨#[]⟩ : ByteArray), .string (⟨#[]⟩ : ByteArray), .int .i64 0, .int .i64 0] 33 (0, 0)) (by (with_reducible repeat (first | refine blk_drewN ?_ _ | refine blk_drew ?_ | refine blk_alloc ?_ _)); refine blk_put (cs := #[.int .i64 0, .int .i64 0, .string (⟨#[]⟩ : ByteArray), .string (⟨#[]⟩ : ByteArray), .int .i64 0, .int .i64 0]) ?_ 0 _ rfl; (with_reducible repeat (first | refine blk_drewN ?_ _ | refine blk_drew ?_ | refine blk_alloc ?_ _)); exact BK260.out) NB260_259.out (by simp)); replace HB := Aside0.mk (hb); replace HI259 := Aside0.mk (hi); (try clear hb); (try clear hb2); (try clear hk); (try clear hi); obtain ⟨hcz13_0, hcz13_1, hcz13_2, hcz13_3, hcz13_4, hcz13_5, hfz13_0, hfz13_1, hfz13_2, hfz13_3, hfz13_4, hfz13_5⟩ := bc6_ BK260))
 (try simp only [Act.put, la_, lz_, ls_])
 go_cut [] (fun wc => ∃ (kq : Nat) (x260000_3 : ByteArray) (x260001_3 : Bool) (x261002_3 : ByteArray) (x261003_3 : ByteArray) (x261004_3 : Int) (x261005_3 : Int), Aside0 (impl_ReadRec.j1 kq x260000_3 x260001_3 t261 t264 x261002_3 x261003_3 x261004_3 x261005_3 = some (r1, r2, r3, r4, r5, r6, r7)) ∧ Aside0 (kq ≤ k) ∧ Aside0 (wc.heap[gb258]? = some (.cells #[.int .i64 0, .int .i64 0, .string (⟨#[]⟩ : ByteArray), .string (⟨#[]⟩ : ByteArray), .int .i64 0, .int .i64 0] 33 (0, 0))) ∧ Aside0 (wc.heap[gb260]? = some (.cells #[.int .i64 t261, .int .i64 t264, .string x261002_3, .string x261003_3, .int .i64 x261004_3, .int .i64 x261005_3] 33 (0, 0))) ∧ Aside0 (IsS87 w wc gb259 x260000_3 x260001_3) ∧ Aside0 (Below w.heap.size w wc))
 case first =>
  have H := HC4.out
  clear HC4
  have HC14 := Aside0.mk H
  clear H
  go_upto_if 27 with (fail)
  go_cut [27] (fun v27 wc => ∃ (kq : Nat) (x27_13 : Bool), v27 = .bool x27_13 ∧ Aside0 (impl_ReadRec.j0 kq t261 x27_13 t265 t266 t261 t264 (⟨#[]⟩ : ByteArray) (⟨#[]⟩ : ByteArray) 0 0 = some (r1, r2, r3, r4, r5, r6, r7)) ∧ Aside0 (kq ≤ k) ∧ Aside0 (wc.heap[gb258]? = some (.cells #[.int .i64 0, .int .i64 0, .string (⟨#[]⟩ : ByteArray), .string (⟨#[]⟩ : ByteArray), .int .i64 0, .int .i64 0] 33 (0, 0))) ∧ Aside0 (wc.heap[gb260]? = some (.cells #[.int .i64 t261, .int .i64 t264, .string (⟨#[]⟩ : ByteArray), .string (⟨#[]⟩ : ByteArray), .int .i64 0, .int .i64 0] 33 (0, 0))) ∧ Aside0 (IsS87 w wc gb259 t265 t266) ∧ Aside0 (Below w.heap.size w wc))
  case first =>
   have H := HC14.out
   clear HC14
   by_cases c15 : t261 = 1
   ·rw [if_pos c15] at H
    have c15b0 : (t261 == 1) = true := beq_iff_eq.mpr c15
    have c15b1 : (t261 != 1) = false := bne_eq_false_iff_eq.mpr c15
    clear c15
    (first | rw [c15b0] | (simp only [i64_w, i32_w]; rw [c15b0]) | skip)
    have H' := Aside0.mk H
    clear H
    go_wp2
    go_meet
    case rel => exact ⟨_, ((t261 == 1)), rs_, H', ⟨by first | exact Nat.le_refl _ | exact Nat.le_of_succ_le this | omega⟩, ⟨by (with_reducible repeat (first | refine blk_drewN ?_ _ | refine blk_drew ?_ | refine blk_alloc ?_ _)); refine blk_far ?_ NB258_260.out _; (with_reducible repeat (first | refine blk_drewN ?_ _ | refine blk_drew ?_ | refine blk_alloc ?_ _)); exact BK258.out⟩, ⟨by (with_reducible repeat (first | refine blk_drewN ?_ _ | refine blk_drew ?_ | refine blk_alloc ?_ _)); refine blk_put (cs := #[.int .i64 t261, .int .i64 0, .string (⟨#[]⟩ : ByteArray), .string (⟨#[]⟩ : ByteArray), .int .i64 0, .int .i64 0]) ?_ 1 _ rfl; (with_reducible repeat (first | refine blk_drewN ?_ _ | refine blk_drew ?_ | refine blk_alloc ?_ _)); exact BK260.out⟩, ⟨by repeat (first | (with_reducible first | exact HI259.out | apply IsS87.alloc | apply IsS87.drewN | apply IsS87.drew | apply IsS87.set_0 | apply IsS87.set_1 | refine IsS87.far ?_ NB259_258.out _ | refine IsS87.far ?_ NB259_260.out _) | exact HI259.out)⟩, ⟨by repeat (first | (with_reducible first | exact HB.out | apply below_alloc | apply pw_below_drewN | apply below_drew1 | refine below_set ?_ (IsS87.ge HI259.out) | refine below_set ?_ GE258.out | refine below_set ?_ GE260.out) | exact HB.out)⟩⟩
   ·rw [if_neg c15] at H
    have c15b0 : (t261 == 1) = false := beq_eq_false_iff_ne.mpr c15
    have c15b1 : (t261 != 1) = true := bne_iff_ne.mpr c15
    (first | rw [c15b0] | (simp only [i64_w, i32_w]; rw [c15b0]) | skip)
    have H' := Aside0.mk H
    clear H
    go_wp2
    go_meet
    case rel => exact ⟨_, ((t261 == 4)), rs_, H', ⟨by first | exact Nat.le_refl _ | exact Nat.le_of_succ_le this | omega⟩, ⟨by (with_reducible repeat (first | refine blk_drewN ?_ _ | refine blk_drew ?_ | refine blk_alloc ?_ _)); refine blk_far ?_ NB258_260.out _; (with_reducible repeat (first | refine blk_drewN ?_ _ | refine blk_drew ?_ | refine blk_alloc ?_ _)); exact BK258.out⟩, ⟨by (with_reducible repeat (first | refine blk_drewN ?_ _ | refine blk_drew ?_ | refine blk_alloc ?_ _)); refine blk_put (cs := #[.int .i64 t261, .int .i64 0, .string (⟨#[]⟩ : ByteArray), .string (⟨#[]⟩ : ByteArray), .int .i64 0, .int .i64 0]) ?_ 1 _ rfl; (with_reducible repeat (first | refine blk_drewN ?_ _ | refine blk_drew ?_ | refine blk_alloc ?_ _)); exact BK260.out⟩, ⟨by repeat (first | (with_reducible first | exact HI259.out | apply IsS87.alloc | apply IsS87.drewN | apply IsS87.drew | apply IsS87.set_0 | apply IsS87.set_1 | refine IsS87.far ?_ NB259_258.out _ | refine IsS87.far ?_ NB259_260.out _) | exact HI259.out)⟩, ⟨by repeat (first | (with_reducible first | exact HB.out | apply below_alloc | apply pw_below_drewN | apply below_drew1 | refine below_set ?_ (IsS87.ge HI259.out) | refine below_set ?_ GE258.out | refine below_set ?_ GE260.out) | exact HB.out)⟩⟩
  case rest =>
   clear HC14
   try clear c1
   try clear p2
   try clear c3
   try clear c5
   try clear c9
   try clear c10
   try clear c15
   try clear c15b0
   try clear c15b1
   try clear hcz11_0
   try clear hcz11_1
   try clear hcz11_2
   try clear hcz11_3
   try clear hcz11_4
   try clear hcz11_5
   try clear hcz13_0
   try clear hcz13_1
   try clear hcz13_2
   try clear hcz13_3
   try clear hcz13_4
   try clear hcz13_5
   try clear hfz11_0
   try clear hfz11_1
   try clear hfz11_2
   try clear hfz11_3
   try clear hfz11_4
   try clear hfz11_5
   try clear hfz13_0
   try clear hfz13_1
   try clear hfz13_2
   try clear hfz13_3
   try clear hfz13_4
   try clear hfz13_5
   obtain ⟨kq, x27_13, rfl, HA, HJ13, BK258, BK260, HI259, HB⟩ := hcut
   cases kq with
   | zero => exact absurd HA.out (by simp [impl_ReadRec.j0])
   | succ kj13 =>
    have H := HA.out
    clear HA
    simp only [impl_ReadRec.j0] at H
    by_cases c16 : x27_13 = true
    ·subst c16
     have H1 : ((impl_scanner_text.f kj13 t265 t266).bind fun bt267 => ((impl_scanner_text.f kj13 bt267.2.1 bt267.2.2).bind fun bt270 => (impl_ReadRec.j1 kj13 bt270.2.1 bt270.2.2 t261 t264 bt267.1 bt270.1 0 0))) = some (r1, r2, r3, r4, r5, r6, r7) := by rw [if_pos rfl] at H; exact H
     clear H
     have H := H1
     clear H1
     replace H := Option.bind_eq_some_iff.mp H
     obtain ⟨⟨t267, t268, t269⟩, A170, H⟩ := H
     replace H : ((impl_scanner_text.f kj13 t268 t269).bind fun bt270 => (impl_ReadRec.j1 kj13 bt270.2.1 bt270.2.2 t261 t264 t267 bt270.1 0 0)) = some (r1, r2, r3, r4, r5, r6, r7) := H
     have A17 := Aside0.mk A170
     clear A170
     replace H := Option.bind_eq_some_iff.mp H
     obtain ⟨⟨t270, t271, t272⟩, A180, H⟩ := H
     replace H : (impl_ReadRec.j1 kj13 t271 t272 t261 t264 t267 t270 0 0) = some (r1, r2, r3, r4, r5, r6, r7) := H
     have A18 := Aside0.mk A180
     clear A180
     have H' := Aside0.mk H
     clear H
     go_wp2_with (first | ((with_reducible refine gate_callee (f := 55) rfl ?_); refine goesL_ (some 31) rfl rfl Try.func55 (by kernel_rfl) rfl #[.pointer (some ⟨gb259, 0, none⟩)] rfl ar_ ?_; (with_reducible refine (impl_scanner_text.calls kj13 gb259 t265 t266 t267 t268 t269 w _ ?side1 ?side2 A17.out).mono ?_); (case side1 => repeat (first | (with_reducible first | exact HI259.out | apply IsS87.alloc | apply IsS87.drewN | apply IsS87.drew | apply IsS87.set_0 | apply IsS87.set_1 | refine IsS87.far ?_ NB259_258.out _ | refine IsS87.far ?_ NB259_260.out _) | exact HI259.out)); (case side2 => repeat (first | (with_reducible first | exact HB.out | apply below_alloc | apply pw_below_drewN | apply below_drew1 | refine below_set ?_ (IsS87.ge HI259.out) | refine below_set ?_ GE258.out | refine below_set ?_ GE260.out) | exact HB.out)); rintro e w19 ⟨rfl, hi, hb, hk⟩; refine ⟨_, rfl, ?_⟩; replace BK258 := Aside0.mk (KeepBut.blk hk (g' := gb258) (o := .cells #[.int .i64 0, .int .i64 0, .string (⟨#[]⟩ : ByteArray), .string (⟨#[]⟩ : ByteArray), .int .i64 0, .int .i64 0] 33 (0, 0)) (bk_ BK258) NB258_259.out (by simp)); replace BK260 := Aside0.mk (KeepBut.blk hk (g' := gb260) (o := .cells #[.int .i64 t261, .int .i64 t264, .string (⟨#[]⟩ : ByteArray), .string (⟨#[]⟩ : ByteArray), .int .i64 0, .int .i64 0] 33 (0, 0)) (bk_ BK260) NB260_259.out (by simp)); replace HB := Aside0.mk (hb); replace HI259 := Aside0.mk (hi); (try clear hb); (try clear hb2); (try clear hk); (try clear hi); have hnb20 := NB260_258.out; have hnc20 := NB258_260.out; have hnb21 := NB260_259.out; have hnc21 := NB259_260.out; obtain ⟨hcz22_0, hcz22_1, hcz22_2, hcz22_3, hcz22_4, hcz22_5, hfz22_0, hfz22_1, hfz22_2, hfz22_3, hfz22_4, hfz22_5⟩ := bc6_ BK260) | ((with_reducible refine gate_callee (f := 55) rfl ?_); refine goesL_ (some 34) rfl rfl Try.func55 (by kernel_rfl) rfl #[.pointer (some ⟨gb259, 0, none⟩)] rfl ar_ ?_; (with_reducible refine (impl_scanner_text.calls kj13 gb259 t268 t269 t270 t271 t272 w _ ?side1 ?side2 A18.out).mono ?_); (case side1 => repeat (first | (with_reducible first | exact HI259.out | apply IsS87.alloc | apply IsS87.drewN | apply IsS87.drew | apply IsS87.set_0 | apply IsS87.set_1 | refine IsS87.far ?_ NB259_258.out _ | refine IsS87.far ?_ NB259_260.out _) | exact HI259.out)); (case side2 => repeat (first | (with_reducible first | exact HB.out | apply below_alloc | apply pw_below_drewN | apply below_drew1 | refine below_set ?_ (IsS87.ge HI259.out) | refine below_set ?_ GE258.out | refine below_set ?_ GE260.out) | exact HB.out)); rintro e w23 ⟨rfl, hi, hb, hk⟩; refine ⟨_, rfl, ?_⟩; replace BK258 := Aside0.mk (KeepBut.blk hk (g' := gb258) (o := .cells #[.int .i64 0, .int .i64 0, .string (⟨#[]⟩ : ByteArray), .string (⟨#[]⟩ : ByteArray), .int .i64 0, .int .i64 0] 33 (0, 0)) (by (with_reducible repeat (first | refine blk_drewN ?_ _ | refine blk_drew ?_ | refine blk_alloc ?_ _)); refine blk_far ?_ NB258_260.out _; (with_reducible repeat (first | refine blk_drewN ?_ _ | refine blk_drew ?_ | refine blk_alloc ?_ _)); exact BK258.out) NB258_259.out (by simp)); replace BK260 := Aside0.mk (KeepBut.blk hk (g' := gb260) (o := .cells #[.int .i64 t261, .int .i64 t264, .string t267, .string (⟨#[]⟩ : ByteArray), .int .i64 0, .int .i64 0] 33 (0, 0)) (by (with_reducible repeat (first | refine blk_drewN ?_ _ | refine blk_drew ?_ | refine blk_alloc ?_ _)); refine blk_put (cs := #[.int .i64 t261, .int .i64 t264, .string (⟨#[]⟩ : ByteArray), .string (⟨#[]⟩ : ByteArray), .int .i64 0, .int .i64 0]) ?_ 2 _ rfl; (with_reducible repeat (first | refine blk_drewN ?_ _ | refine blk_drew ?_ | refine blk_alloc ?_ _)); exact BK260.out) NB260_259.out (by simp)); replace HB := Aside0.mk (hb); replace HI259 := Aside0.mk (hi); (try clear hb); (try clear hb2); (try clear hk); (try clear hi); obtain ⟨hcz24_0, hcz24_1, hcz24_2, hcz24_3, hcz24_4, hcz24_5, hfz24_0, hfz24_1, hfz24_2, hfz24_3, hfz24_4, hfz24_5⟩ := bc6_ BK260))
     go_meet
     case rel => exact ⟨_, (t271), (t272), (t267), (t270), (0), (0), H', ⟨by have := HJ13.out; first | exact Nat.le_refl _ | exact Nat.le_of_succ_le this | omega⟩, ⟨by (with_reducible repeat (first | refine blk_drewN ?_ _ | refine blk_drew ?_ | refine blk_alloc ?_ _)); refine blk_far ?_ NB258_260.out _; (with_reducible repeat (first | refine blk_drewN ?_ _ | refine blk_drew ?_ | refine blk_alloc ?_ _)); exact BK258.out⟩, ⟨by (with_reducible repeat (first | refine blk_drewN ?_ _ | refine blk_drew ?_ | refine blk_alloc ?_ _)); refine blk_put (cs := #[.int .i64 t261, .int .i64 t264, .string t267, .string (⟨#[]⟩ : ByteArray), .int .i64 0, .int .i64 0]) ?_ 3 _ rfl; (with_reducible repeat (first | refine blk_drewN ?_ _ | refine blk_drew ?_ | refine blk_alloc ?_ _)); exact BK260.out⟩, ⟨by repeat (first | (with_reducible first | exact HI259.out | apply IsS87.alloc | apply IsS87.drewN | apply IsS87.drew | apply IsS87.set_0 | apply IsS87.set_1 | refine IsS87.far ?_ NB259_258.out _ | refine IsS87.far ?_ NB259_260.out _) | exact HI259.out)⟩, ⟨by repeat (first | (with_reducible first | exact HB.out | apply below_alloc | apply pw_below_drewN | apply below_drew1 | refine below_set ?_ (IsS87.ge HI259.out) | refine below_set ?_ GE258.out | refine below_set ?_ GE260.out) | exact HB.out)⟩⟩
    ·replace c16 := Bool.eq_false_iff.mpr c16
     subst c16
     have H1 : (if t261 = 2 then ((impl_scanner_text.f kj13 t265 t266).bind fun bt273 => (impl_ReadRec.j1 kj13 bt273.2.1 bt273.2.2 t261 t264 bt273.1 (⟨#[]⟩ : ByteArray) 0 0)) else ((impl_scanner_num.f kj13 t265 t266).bind fun bt276 => ((impl_scanner_bytes.f bt276.2.1 bt276.2.2 4).bind fun bt279 => ((impl_ReadFixed.f kj13 bt279.1 4).bind fun bt282 => (impl_ReadRec.j1 kj13 bt279.2.1 bt279.2.2 t261 t264 (⟨#[]⟩ : ByteArray) (⟨#[]⟩ : ByteArray) bt276.1 bt282.1))))) = some (r1, r2, r3, r4, r5, r6, r7) := by rw [if_neg (show ¬ (false = true) by decide)] at H; exact H
     clear H
     have H := H1
     clear H1
     by_cases c25 : t261 = 2
     ·rw [if_pos c25] at H
      have c25b0 : (t261 == 2) = true := beq_iff_eq.mpr c25
      have c25b1 : (t261 != 2) = false := bne_eq_false_iff_eq.mpr c25
      clear c25
      replace H := Option.bind_eq_some_iff.mp H
      obtain ⟨⟨t273, t274, t275⟩, A260, H⟩ := H
      replace H : (impl_ReadRec.j1 kj13 t274 t275 t261 t264 t273 (⟨#[]⟩ : ByteArray) 0 0) = some (r1, r2, r3, r4, r5, r6, r7) := H
      have A26 := Aside0.mk A260
      clear A260
      have H' := Aside0.mk H
      clear H
      go_wp2_with (first | ((with_reducible refine gate_callee (f := 55) rfl ?_); refine goesL_ (some 39) rfl rfl Try.func55 (by kernel_rfl) rfl #[.pointer (some ⟨gb259, 0, none⟩)] rfl ar_ ?_; (with_reducible refine (impl_scanner_text.calls kj13 gb259 t265 t266 t273 t274 t275 w _ ?side1 ?side2 A26.out).mono ?_); (case side1 => repeat (first | (with_reducible first | exact HI259.out | apply IsS87.alloc | apply IsS87.drewN | apply IsS87.drew | apply IsS87.set_0 | apply IsS87.set_1 | refine IsS87.far ?_ NB259_258.out _ | refine IsS87.far ?_ NB259_260.out _) | exact HI259.out)); (case side2 => repeat (first | (with_reducible first | exact HB.out | apply below_alloc | apply pw_below_drewN | apply below_drew1 | refine below_set ?_ (IsS87.ge HI259.out) | refine below_set ?_ GE258.out | refine below_set ?_ GE260.out) | exact HB.out)); rintro e w27 ⟨rfl, hi, hb, hk⟩; refine ⟨_, rfl, ?_⟩; replace BK258 := Aside0.mk (KeepBut.blk hk (g' := gb258) (o := .cells #[.int .i64 0, .int .i64 0, .string (⟨#[]⟩ : ByteArray), .string (⟨#[]⟩ : ByteArray), .int .i64 0, .int .i64 0] 33 (0, 0)) (bk_ BK258) NB258_259.out (by simp)); replace BK260 := Aside0.mk (KeepBut.blk hk (g' := gb260) (o := .cells #[.int .i64 t261, .int .i64 t264, .string (⟨#[]⟩ : ByteArray), .string (⟨#[]⟩ : ByteArray), .int .i64 0, .int .i64 0] 33 (0, 0)) (bk_ BK260) NB260_259.out (by simp)); replace HB := Aside0.mk (hb); replace HI259 := Aside0.mk (hi); (try clear hb); (try clear hb2); (try clear hk); (try clear hi); have hnb28 := NB260_258.out; have hnc28 := NB258_260.out; have hnb29 := NB260_259.out; have hnc29 := NB259_260.out; obtain ⟨hcz30_0, hcz30_1, hcz30_2, hcz30_3, hcz30_4, hcz30_5, hfz30_0, hfz30_1, hfz30_2, hfz30_3, hfz30_4, hfz30_5⟩ := bc6_ BK260))
      go_meet
      case rel => exact ⟨_, (t274), (t275), (t273), ((⟨#[]⟩ : ByteArray)), (0), (0), H', ⟨by have := HJ13.out; first | exact Nat.le_refl _ | exact Nat.le_of_succ_le this | omega⟩, ⟨by (with_reducible repeat (first | refine blk_drewN ?_ _ | refine blk_drew ?_ | refine blk_alloc ?_ _)); refine blk_far ?_ NB258_260.out _; (with_reducible repeat (first | refine blk_drewN ?_ _ | refine blk_drew ?_ | refine blk_alloc ?_ _)); exact BK258.out⟩, ⟨by (with_reducible repeat (first | refine blk_drewN ?_ _ | refine blk_drew ?_ | refine blk_alloc ?_ _)); refine blk_put (cs := #[.int .i64 t261, .int .i64 t264, .string (⟨#[]⟩ : ByteArray), .string (⟨#[]⟩ : ByteArray), .int .i64 0, .int .i64 0]) ?_ 2 _ rfl; (with_reducible repeat (first | refine blk_drewN ?_ _ | refine blk_drew ?_ | refine blk_alloc ?_ _)); exact BK260.out⟩, ⟨by repeat (first | (with_reducible first | exact HI259.out | apply IsS87.alloc | apply IsS87.drewN | apply IsS87.drew | apply IsS87.set_0 | apply IsS87.set_1 | refine IsS87.far ?_ NB259_258.out _ | refine IsS87.far ?_ NB259_260.out _) | exact HI259.out)⟩, ⟨by repeat (first | (with_reducible first | exact HB.out | apply below_alloc | apply pw_below_drewN | apply below_drew1 | refine below_set ?_ (IsS87.ge HI259.out) | refine below_set ?_ GE258.out | refine below_set ?_ GE260.out) | exact HB.out)⟩⟩
     ·rw [if_neg c25] at H
      have c25b0 : (t261 == 2) = false := beq_eq_false_iff_ne.mpr c25
      have c25b1 : (t261 != 2) = true := bne_iff_ne.mpr c25
      replace H := Option.bind_eq_some_iff.mp H
      obtain ⟨⟨t276, t277, t278⟩, A310, H⟩ := H
      replace H : ((impl_scanner_bytes.f t277 t278 4).bind fun bt279 => ((impl_ReadFixed.f kj13 bt279.1 4).bind fun bt282 => (impl_ReadRec.j1 kj13 bt279.2.1 bt279.2.2 t261 t264 (⟨#[]⟩ : ByteArray) (⟨#[]⟩ : ByteArray) t276 bt282.1))) = some (r1, r2, r3, r4, r5, r6, r7) := H
      have A31 := Aside0.mk A310
      clear A310
      replace H := Option.bind_eq_some_iff.mp H
      obtain ⟨⟨t279, t280, t281⟩, A320, H⟩ := H
      replace H : ((impl_ReadFixed.f kj13 t279 4).bind fun bt282 => (impl_ReadRec.j1 kj13 t280 t281 t261 t264 (⟨#[]⟩ : ByteArray) (⟨#[]⟩ : ByteArray) t276 bt282.1)) = some (r1, r2, r3, r4, r5, r6, r7) := H
      have A32 := Aside0.mk A320
      clear A320
      replace H := Option.bind_eq_some_iff.mp H
      obtain ⟨⟨t282, t283⟩, A330, H⟩ := H
      replace H : (impl_ReadRec.j1 kj13 t280 t281 t261 t264 (⟨#[]⟩ : ByteArray) (⟨#[]⟩ : ByteArray) t276 t282) = some (r1, r2, r3, r4, r5, r6, r7) := H
      have A33 := Aside0.mk A330
      clear A330
      have H' := Aside0.mk H
      clear H
      go_wp2_with (first | ((with_reducible refine gate_callee (f := 54) rfl ?_); refine goesL_ (some 18) rfl rfl Try.func54 (by kernel_rfl) rfl #[.pointer (some ⟨gb259, 0, none⟩)] rfl ar_ ?_; (with_reducible refine (impl_scanner_num.calls kj13 gb259 t265 t266 t276 t277 t278 w _ ?side1 ?side2 A31.out).mono ?_); (case side1 => repeat (first | (with_reducible first | exact HI259.out | apply IsS87.alloc | apply IsS87.drewN | apply IsS87.drew | apply IsS87.set_0 | apply IsS87.set_1 | refine IsS87.far ?_ NB259_258.out _ | refine IsS87.far ?_ NB259_260.out _) | exact HI259.out)); (case side2 => repeat (first | (with_reducible first | exact HB.out | apply below_alloc | apply pw_below_drewN | apply below_drew1 | refine below_set ?_ (IsS87.ge HI259.out) | refine below_set ?_ GE258.out | refine below_set ?_ GE260.out) | exact HB.out)); rintro e w34 ⟨rfl, hi, hb, hk⟩; refine ⟨_, rfl, ?_⟩; replace BK258 := Aside0.mk (KeepBut.blk hk (g' := gb258) (o := .cells #[.int .i64 0, .int .i64 0, .string (⟨#[]⟩ : ByteArray), .string (⟨#[]⟩ : ByteArray), .int .i64 0, .int .i64 0] 33 (0, 0)) (bk_ BK258) NB258_259.out (by simp)); replace BK260 := Aside0.mk (KeepBut.blk hk (g' := gb260) (o := .cells #[.int .i64 t261, .int .i64 t264, .string (⟨#[]⟩ : ByteArray), .string (⟨#[]⟩ : ByteArray), .int .i64 0, .int .i64 0] 33 (0, 0)) (bk_ BK260) NB260_259.out (by simp)); replace HB := Aside0.mk (hb); replace HI259 := Aside0.mk (hi); (try clear hb); (try clear hb2); (try clear hk); (try clear hi); have hnb35 := NB260_258.out; have hnc35 := NB258_260.out; have hnb36 := NB260_259.out; have hnc36 := NB259_260.out; obtain ⟨hcz37_0, hcz37_1, hcz37_2, hcz37_3, hcz37_4, hcz37_5, hfz37_0, hfz37_1, hfz37_2, hfz37_3, hfz37_4, hfz37_5⟩ := bc6_ BK260) | ((with_reducible refine gate_callee (f := 57) rfl ?_); refine goesL_ (some 22) rfl rfl Try.func57 (by kernel_rfl) rfl #[.pointer (some ⟨gb259, 0, none⟩), .int .i64 4] rfl ar_ ?_; (with_reducible refine (impl_scanner_bytes.calls gb259 t277 t278 4 t279 t280 t281 w _ ?side1 ?side2 A32.out).mono ?_); (case side1 => repeat (first | (with_reducible first | exact HI259.out | apply IsS87.alloc | apply IsS87.drewN | apply IsS87.drew | apply IsS87.set_0 | apply IsS87.set_1 | refine IsS87.far ?_ NB259_258.out _ | refine IsS87.far ?_ NB259_260.out _) | exact HI259.out)); (case side2 => repeat (first | (with_reducible first | exact HB.out | apply below_alloc | apply pw_below_drewN | apply below_drew1 | refine below_set ?_ (IsS87.ge HI259.out) | refine below_set ?_ GE258.out | refine below_set ?_ GE260.out) | exact HB.out)); rintro e w38 ⟨rfl, hi, hb, hk⟩; refine ⟨_, rfl, ?_⟩; replace BK258 := Aside0.mk (KeepBut.blk hk (g' := gb258) (o := .cells #[.int .i64 0, .int .i64 0, .string (⟨#[]⟩ : ByteArray), .string (⟨#[]⟩ : ByteArray), .int .i64 0, .int .i64 0] 33 (0, 0)) (by (with_reducible repeat (first | refine blk_drewN ?_ _ | refine blk_drew ?_ | refine blk_alloc ?_ _)); refine blk_far ?_ NB258_260.out _; (with_reducible repeat (first | refine blk_drewN ?_ _ | refine blk_drew ?_ | refine blk_alloc ?_ _)); exact BK258.out) NB258_259.out (by simp)); replace BK260 := Aside0.mk (KeepBut.blk hk (g' := gb260) (o := .cells #[.int .i64 t261, .int .i64 t264, .string (⟨#[]⟩ : ByteArray), .string (⟨#[]⟩ : ByteArray), .int .i64 t276, .int .i64 0] 33 (0, 0)) (by (with_reducible repeat (first | refine blk_drewN ?_ _ | refine blk_drew ?_ | refine blk_alloc ?_ _)); refine blk_put (cs := #[.int .i64 t261, .int .i64 t264, .string (⟨#[]⟩ : ByteArray), .string (⟨#[]⟩ : ByteArray), .int .i64 0, .int .i64 0]) ?_ 4 _ rfl; (with_reducible repeat (first | refine blk_drewN ?_ _ | refine blk_drew ?_ | refine blk_alloc ?_ _)); exact BK260.out) NB260_259.out (by simp)); replace HB := Aside0.mk (hb); replace HI259 := Aside0.mk (hi); (try clear hb); (try clear hb2); (try clear hk); (try clear hi)) | ((with_reducible refine gate_callee (f := 56) rfl ?_); refine goesL_ (some 23) rfl rfl Try.func56 (by kernel_rfl) rfl #[.string t279, .int .i64 4] rfl ar_ ?_; (with_reducible refine (impl_ReadFixed.calls kj13 t279 4 t282 t283 _ A33.out).mono ?_); rintro e w' ⟨rfl, ⟨nd, rfl⟩⟩; refine ⟨_, rfl, ?_⟩; (try (rw [drewN_self w38]; generalize hq_ : World.drewN w38 _ = w38; have n0_ : Aside0 (w38.heap[gb258]? = some (.cells #[.int .i64 0, .int .i64 0, .string (⟨#[]⟩ : ByteArray), .string (⟨#[]⟩ : ByteArray), .int .i64 0, .int .i64 0] 33 (0, 0))) := ⟨by rw [← hq_]; exact (bk_ BK258)⟩; have n1_ : Aside0 (w38.heap[gb260]? = some (.cells #[.int .i64 t261, .int .i64 t264, .string (⟨#[]⟩ : ByteArray), .string (⟨#[]⟩ : ByteArray), .int .i64 t276, .int .i64 0] 33 (0, 0))) := ⟨by rw [← hq_]; exact (bk_ BK260)⟩; have n2_ : Aside0 (IsS87 w w38 gb259 t280 t281) := ⟨by rw [← hq_]; exact (by repeat (first | (with_reducible first | exact HI259.out | apply IsS87.alloc | apply IsS87.drewN | apply IsS87.drew | apply IsS87.set_0 | apply IsS87.set_1 | refine IsS87.far ?_ NB259_258.out _ | refine IsS87.far ?_ NB259_260.out _) | exact HI259.out))⟩; have n3_ : Aside0 (Below w.heap.size w w38) := ⟨by rw [← hq_]; exact (by repeat (first | (with_reducible first | exact HB.out | apply below_alloc | apply pw_below_drewN | apply below_drew1 | refine below_set ?_ (IsS87.ge HI259.out) | refine below_set ?_ GE258.out | refine below_set ?_ GE260.out) | exact HB.out))⟩; clear BK258 BK260 HI259 HB hq_; have BK258 := n0_; have BK260 := n1_; have HI259 := n2_; have HB := n3_; clear n0_ n1_ n2_ n3_)); obtain ⟨hcz39_0, hcz39_1, hcz39_2, hcz39_3, hcz39_4, hcz39_5, hfz39_0, hfz39_1, hfz39_2, hfz39_3, hfz39_4, hfz39_5⟩ := bc6_ BK260))
      go_meet
      case rel => exact ⟨_, (t280), (t281), ((⟨#[]⟩ : ByteArray)), ((⟨#[]⟩ : ByteArray)), (t276), (t282), H', ⟨by have := HJ13.out; first | exact Nat.le_refl _ | exact Nat.le_of_succ_le this | omega⟩, ⟨by (with_reducible repeat (first | refine blk_drewN ?_ _ | refine blk_drew ?_ | refine blk_alloc ?_ _)); refine blk_far ?_ NB258_260.out _; (with_reducible repeat (first | refine blk_drewN ?_ _ | refine blk_drew ?_ | refine blk_alloc ?_ _)); exact BK258.out⟩, ⟨by (with_reducible repeat (first | refine blk_drewN ?_ _ | refine blk_drew ?_ | refine blk_alloc ?_ _)); refine blk_put (cs := #[.int .i64 t261, .int .i64 t264, .string (⟨#[]⟩ : ByteArray), .string (⟨#[]⟩ : ByteArray), .int .i64 t276, .int .i64 0]) ?_ 5 _ rfl; (with_reducible repeat (first | refine blk_drewN ?_ _ | refine blk_drew ?_ | refine blk_alloc ?_ _)); exact BK260.out⟩, ⟨by repeat (first | (with_reducible first | exact HI259.out | apply IsS87.alloc | apply IsS87.drewN | apply IsS87.drew | apply IsS87.set_0 | apply IsS87.set_1 | refine IsS87.far ?_ NB259_258.out _ | refine IsS87.far ?_ NB259_260.out _) | exact HI259.out)⟩, ⟨by repeat (first | (with_reducible first | exact HB.out | apply below_alloc | apply pw_below_drewN | apply below_drew1 | refine below_set ?_ (IsS87.ge HI259.out) | refine below_set ?_ GE258.out | refine below_set ?_ GE260.out) | exact HB.out)⟩⟩
 case rest =>
  clear HC4
  try clear c1
  try clear c2
  try clear p2
  try clear c3
  try clear c5
  try clear c9
  try clear c10
  try clear c15
  try clear c15b0
  try clear c15b1
  try clear c16
  try clear c20
  try clear c21
  try clear c25
  try clear c25b0
  try clear c25b1
  try clear c28
  try clear c29
  try clear c33
  try clear c35
  try clear c36
  try clear hcz11_0
  try clear hcz11_1
  try clear hcz11_2
  try clear hcz11_3
  try clear hcz11_4
  try clear hcz11_5
  try clear hcz13_0
  try clear hcz13_1
  try clear hcz13_2
  try clear hcz13_3
  try clear hcz13_4
  try clear hcz13_5
  try clear hcz22_0
  try clear hcz22_1
  try clear hcz22_2
  try clear hcz22_3
  try clear hcz22_4
  try clear hcz22_5
  try clear hcz24_0
  try clear hcz24_1
  try clear hcz24_2
  try clear hcz24_3
  try clear hcz24_4
  try clear hcz24_5
  try clear hcz30_0
  try clear hcz30_1
  try clear hcz30_2
  try clear hcz30_3
  try clear hcz30_4
  try clear hcz30_5
  try clear hcz37_0
  try clear hcz37_1
  try clear hcz37_2
  try clear hcz37_3
  try clear hcz37_4
  try clear hcz37_5
  try clear hcz39_0
  try clear hcz39_1
  try clear hcz39_2
  try clear hcz39_3
  try clear hcz39_4
  try clear hcz39_5
  try clear hfz11_0
  try clear hfz11_1
  try clear hfz11_2
  try clear hfz11_3
  try clear hfz11_4
  try clear hfz11_5
  try clear hfz13_0
  try clear hfz13_1
  try clear hfz13_2
  try clear hfz13_3
  try clear hfz13_4
  try clear hfz13_5
  try clear hfz22_0
  try clear hfz22_1
  try clear hfz22_2
  try clear hfz22_3
  try clear hfz22_4
  try clear hfz22_5
  try clear hfz24_0
  try clear hfz24_1
  try clear hfz24_2
  try clear hfz24_3
  try clear hfz24_4
  try clear hfz24_5
  try clear hfz30_0
  try clear hfz30_1
  try clear hfz30_2
  try clear hfz30_3
  try clear hfz30_4
  try clear hfz30_5
  try clear hfz37_0
  try clear hfz37_1
  try clear hfz37_2
  try clear hfz37_3
  try clear hfz37_4
  try clear hfz37_5
  try clear hfz39_0
  try clear hfz39_1
  try clear hfz39_2
  try clear hfz39_3
  try clear hfz39_4
  try clear hfz39_5
  try clear p2
  obtain ⟨kq, x260000_3, x260001_3, x261002_3, x261003_3, x261004_3, x261005_3, HA, HJ3, BK258, BK260, HI259, HB⟩ := hcut
  cases kq with
  | zero => exact absurd HA.out (by simp [impl_ReadRec.j1])
  | succ kj3 =>
   have H := HA.out
   clear HA
   simp only [impl_ReadRec.j1] at H
   have HC40 := Aside0.mk H
   clear H
   go_upto_region 14 with (fail)
   go_cut [56] (fun v56 wc => ∃ (kq : Nat) (x56_39 : Bool), v56 = .bool x56_39 ∧ Aside0 (impl_ReadRec.j2 kq x56_39 t261 t264 x261002_3 x261003_3 x261004_3 x261005_3 = some (r1, r2, r3, r4, r5, r6, r7)) ∧ Aside0 (kq ≤ kj3) ∧ Aside0 (wc.heap[gb258]? = some (.cells #[.int .i64 0, .int .i64 0, .string (⟨#[]⟩ : ByteArray), .string (⟨#[]⟩ : ByteArray), .int .i64 0, .int .i64 0] 33 (0, 0))) ∧ Aside0 (wc.heap[gb260]? = some (.cells #[.int .i64 t261, .int .i64 t264, .string x261002_3, .string x261003_3, .int .i64 x261004_3, .int .i64 x261005_3] 33 (0, 0))) ∧ Aside0 (Below w.heap.size w wc))
   case first =>
    have H := HC40.out
    clear HC40
    by_cases c41 : x260001_3 = true
    ·subst c41
     have H1 : (impl_ReadRec.j2 kj3 true t261 t264 x261002_3 x261003_3 x261004_3 x261005_3) = some (r1, r2, r3, r4, r5, r6, r7) := by rw [if_pos rfl] at H; exact H
     clear H
     have H := H1
     clear H1
     have H' := Aside0.mk H
     clear H
     obtain ⟨HGz42, hgz42⟩ := HI259.out
     have hcz42_0 := cellS87_0 HGz42
     have hcz42_1 := cellS87_1 HGz42
     have hfz42_0 := blk_frozen HGz42 0
     have hfz42_1 := blk_frozen HGz42 1
     clear HGz42 hgz42
     go_wp2
     go_meet
     case rel => exact ⟨_, (true), rs_, H', ⟨by have := HJ3.out; first | exact Nat.le_refl _ | exact Nat.le_of_succ_le this | omega⟩, ⟨bk_ BK258⟩, ⟨bk_ BK260⟩, ⟨by repeat (first | (with_reducible first | exact HB.out | apply below_alloc | apply pw_below_drewN | apply below_drew1 | refine below_set ?_ (IsS87.ge HI259.out) | refine below_set ?_ GE258.out | refine below_set ?_ GE260.out) | exact HB.out)⟩⟩
    ·replace c41 := Bool.eq_false_iff.mpr c41
     subst c41
     have H1 : (if x260000_3.toList = ([] : List UInt8) then ((impl_RecOk.f kj3 t261 t264 x261002_3 x261003_3 x261004_3 x261005_3).bind fun t284 => (impl_ReadRec.j2 kj3 (!t284) t261 t264 x261002_3 x261003_3 x261004_3 x261005_3)) else (impl_ReadRec.j2 kj3 true t261 t264 x261002_3 x261003_3 x261004_3 x261005_3)) = some (r1, r2, r3, r4, r5, r6, r7) := by rw [if_neg (show ¬ (false = true) by decide)] at H; exact H
     clear H
     have H := H1
     clear H1
     by_cases c43 : x260000_3.toList = ([] : List UInt8)
     ·rw [if_pos c43] at H
      have c43b0 : (x260000_3.toList == ([] : List UInt8)) = true := beq_iff_eq.mpr c43
      have c43b1 : (x260000_3.toList != ([] : List UInt8)) = false := bne_eq_false_iff_eq.mpr c43
      clear c43
      (first | rw [c43b0] | (simp only [i64_w, i32_w]; rw [c43b0]) | skip)
      replace H := Option.bind_eq_some_iff.mp H
      obtain ⟨t284, A440, H⟩ := H
      replace H : (impl_ReadRec.j2 kj3 (!t284) t261 t264 x261002_3 x261003_3 x261004_3 x261005_3) = some (r1, r2, r3, r4, r5, r6, r7) := H
      have A44 := Aside0.mk A440
      clear A440
      have H' := Aside0.mk H
      clear H
      obtain ⟨HGz45, hgz45⟩ := HI259.out
      have hcz45_0 := cellS87_0 HGz45
      have hcz45_1 := cellS87_1 HGz45
      have hfz45_0 := blk_frozen HGz45 0
      have hfz45_1 := blk_frozen HGz45 1
      clear HGz45 hgz45
      have hnb46 := NB260_258.out
      have hnc46 := NB258_260.out
      have hnb47 := NB260_259.out
      have hnc47 := NB259_260.out
      obtain ⟨hcz48_0, hcz48_1, hcz48_2, hcz48_3, hcz48_4, hcz48_5, hfz48_0, hfz48_1, hfz48_2, hfz48_3, hfz48_4, hfz48_5⟩ := bc6_ BK260
      go_wp2_with (first | (go_at_call 58; (with_reducible refine (impl_RecOk.calls kj3 t261 t264 x261002_3 x261003_3 x261004_3 x261005_3 t284 _ A44.out).mono ?_); rintro e w49 ⟨rfl, hb⟩; replace BK258 := bb_ BK258 hb; replace BK260 := bb_ BK260 hb; replace HB := Aside0.mk (below_step (by repeat (first | (with_reducible first | exact HB.out | apply below_alloc | apply pw_below_drewN | apply below_drew1 | refine below_set ?_ (IsS87.ge HI259.out) | refine below_set ?_ GE258.out | refine below_set ?_ GE260.out) | exact HB.out)) hb); replace HI259 := Aside0.mk (IsS87.below (by repeat (first | (with_reducible first | exact HI259.out | apply IsS87.alloc | apply IsS87.drewN | apply IsS87.drew | apply IsS87.set_0 | apply IsS87.set_1 | refine IsS87.far ?_ NB259_258.out _ | refine IsS87.far ?_ NB259_260.out _) | exact HI259.out)) hb); (try clear hb); (try clear hb2); (try clear hk); (try clear hi)))
      go_meet
      case rel => exact ⟨_, (!t284), rs_, H', ⟨by have := HJ3.out; first | exact Nat.le_refl _ | exact Nat.le_of_succ_le this | omega⟩, ⟨bk_ BK258⟩, ⟨bk_ BK260⟩, ⟨by repeat (first | (with_reducible first | exact HB.out | apply below_alloc | apply pw_below_drewN | apply below_drew1 | refine below_set ?_ (IsS87.ge HI259.out) | refine below_set ?_ GE258.out | refine below_set ?_ GE260.out) | exact HB.out)⟩⟩
     ·rw [if_neg c43] at H
      have c43b0 : (x260000_3.toList == ([] : List UInt8)) = false := beq_eq_false_iff_ne.mpr c43
      have c43b1 : (x260000_3.toList != ([] : List UInt8)) = true := bne_iff_ne.mpr c43
      (first | rw [c43b0] | (simp only [i64_w, i32_w]; rw [c43b0]) | skip)
      have H' := Aside0.mk H
      clear H
      obtain ⟨HGz50, hgz50⟩ := HI259.out
      have hcz50_0 := cellS87_0 HGz50
      have hcz50_1 := cellS87_1 HGz50
      have hfz50_0 := blk_frozen HGz50 0
      have hfz50_1 := blk_frozen HGz50 1
      clear HGz50 hgz50
      go_wp2
      go_meet
      case rel => exact ⟨_, (true), rs_, H', ⟨by have := HJ3.out; first | exact Nat.le_refl _ | exact Nat.le_of_succ_le this | omega⟩, ⟨bk_ BK258⟩, ⟨bk_ BK260⟩, ⟨by repeat (first | (with_reducible first | exact HB.out | apply below_alloc | apply pw_below_drewN | apply below_drew1 | refine below_set ?_ (IsS87.ge HI259.out) | refine below_set ?_ GE258.out | refine below_set ?_ GE260.out) | exact HB.out)⟩⟩
   case rest =>
    clear HC40
    try clear c1
    try clear c2
    try clear p2
    try clear c3
    try clear c4
    try clear c5
    try clear c9
    try clear c10
    try clear c15
    try clear c15b0
    try clear c15b1
    try clear c16
    try clear c20
    try clear c21
    try clear c25
    try clear c25b0
    try clear c25b1
    try clear c28
    try clear c29
    try clear c33
    try clear c35
    try clear c36
    try clear c41
    try clear c43
    try clear c43b0
    try clear c43b1
    try clear c46
    try clear c47
    try clear hcz11_0
    try clear hcz11_1
    try clear hcz11_2
    try clear hcz11_3
    try clear hcz11_4
    try clear hcz11_5
    try clear hcz13_0
    try clear hcz13_1
    try clear hcz13_2
    try clear hcz13_3
    try clear hcz13_4
    try clear hcz13_5
    try clear hcz22_0
    try clear hcz22_1
    try clear hcz22_2
    try clear hcz22_3
    try clear hcz22_4
    try clear hcz22_5
    try clear hcz24_0
    try clear hcz24_1
    try clear hcz24_2
    try clear hcz24_3
    try clear hcz24_4
    try clear hcz24_5
    try clear hcz30_0
    try clear hcz30_1
    try clear hcz30_2
    try clear hcz30_3
    try clear hcz30_4
    try clear hcz30_5
    try clear hcz37_0
    try clear hcz37_1
    try clear hcz37_2
    try clear hcz37_3
    try clear hcz37_4
    try clear hcz37_5
    try clear hcz39_0
    try clear hcz39_1
    try clear hcz39_2
    try clear hcz39_3
    try clear hcz39_4
    try clear hcz39_5
    try clear hcz42_0
    try clear hcz42_1
    try clear hcz45_0
    try clear hcz45_1
    try clear hcz48_0
    try clear hcz48_1
    try clear hcz48_2
    try clear hcz48_3
    try clear hcz48_4
    try clear hcz48_5
    try clear hcz50_0
    try clear hcz50_1
    try clear hfz11_0
    try clear hfz11_1
    try clear hfz11_2
    try clear hfz11_3
    try clear hfz11_4
    try clear hfz11_5
    try clear hfz13_0
    try clear hfz13_1
    try clear hfz13_2
    try clear hfz13_3
    try clear hfz13_4
    try clear hfz13_5
    try clear hfz22_0
    try clear hfz22_1
    try clear hfz22_2
    try clear hfz22_3
    try clear hfz22_4
    try clear hfz22_5
    try clear hfz24_0
    try clear hfz24_1
    try clear hfz24_2
    try clear hfz24_3
    try clear hfz24_4
    try clear hfz24_5
    try clear hfz30_0
    try clear hfz30_1
    try clear hfz30_2
    try clear hfz30_3
    try clear hfz30_4
    try clear hfz30_5
    try clear hfz37_0
    try clear hfz37_1
    try clear hfz37_2
    try clear hfz37_3
    try clear hfz37_4
    try clear hfz37_5
    try clear hfz39_0
    try clear hfz39_1
    try clear hfz39_2
    try clear hfz39_3
    try clear hfz39_4
    try clear hfz39_5
    try clear hfz42_0
    try clear hfz42_1
    try clear hfz45_0
    try clear hfz45_1
    try clear hfz48_0
    try clear hfz48_1
    try clear hfz48_2
    try clear hfz48_3
    try clear hfz48_4
    try clear hfz48_5
    try clear hfz50_0
    try clear hfz50_1
    try clear p2
    obtain ⟨kq, x56_39, rfl, HA, HJ39, BK258, BK260, HB⟩ := hcut
    cases kq with
    | zero => exact absurd HA.out (by simp [impl_ReadRec.j2])
    | succ kj39 =>
     have H := HA.out
     clear HA
     simp only [impl_ReadRec.j2] at H
     by_cases c51 : x56_39 = true
     ·subst c51
      have H1 : (some (0, 0, (⟨#[]⟩ : ByteArray), (⟨#[]⟩ : ByteArray), 0, 0, false)) = some (r1, r2, r3, r4, r5, r6, r7) := by rw [if_pos rfl] at H; exact H
      clear H
      have H := H1
      clear H1
      simp only [Option.some.injEq, Prod.mk.injEq] at H
      obtain ⟨rfl, rfl, rfl, rfl, rfl, rfl, rfl⟩ := H
      have hnb52 := NB258_260.out
      have hnc52 := NB260_258.out
      obtain ⟨hcz53_0, hcz53_1, hcz53_2, hcz53_3, hcz53_4, hcz53_5, hfz53_0, hfz53_1, hfz53_2, hfz53_3, hfz53_4, hfz53_5⟩ := bc6_ BK258
      go_wp2
      refine bodyPost_ret (results_ct rfl _ _ gb258 33 #[.int .i64 0, .int .i64 0, .string (⟨#[]⟩ : ByteArray), .string (⟨#[]⟩ : ByteArray), .int .i64 0, .int .i64 0] (0, 0) _ rfl (by (with_reducible repeat (first | refine blk_drewN ?_ _ | refine blk_drew ?_ | refine blk_alloc ?_ _)); refine blk_put (cs := #[.int .i64 0, .int .i64 0, .string (⟨#[]⟩ : ByteArray), .string (⟨#[]⟩ : ByteArray), .int .i64 0, .int .i64 0]) ?_ 5 _ rfl; (with_reducible repeat (first | refine blk_drewN ?_ _ | refine blk_drew ?_ | refine blk_alloc ?_ _)); refine blk_put (cs := #[.int .i64 0, .int .i64 0, .string (⟨#[]⟩ : ByteArray), .string (⟨#[]⟩ : ByteArray), .int .i64 0, .int .i64 0]) ?_ 4 _ rfl; (with_reducible repeat (first | refine blk_drewN ?_ _ | refine blk_drew ?_ | refine blk_alloc ?_ _)); refine blk_put (cs := #[.int .i64 0, .int .i64 0, .string (⟨#[]⟩ : ByteArray), .string (⟨#[]⟩ : ByteArray), .int .i64 0, .int .i64 0]) ?_ 3 _ rfl; (with_reducible repeat (first | refine blk_drewN ?_ _ | refine blk_drew ?_ | refine blk_alloc ?_ _)); refine blk_put (cs := #[.int .i64 0, .int .i64 0, .string (⟨#[]⟩ : ByteArray), .string (⟨#[]⟩ : ByteArray), .int .i64 0, .int .i64 0]) ?_ 2 _ rfl; (with_reducible repeat (first | refine blk_drewN ?_ _ | refine blk_drew ?_ | refine blk_alloc ?_ _)); refine blk_put (cs := #[.int .i64 0, .int .i64 0, .string (⟨#[]⟩ : ByteArray), .string (⟨#[]⟩ : ByteArray), .int .i64 0, .int .i64 0]) ?_ 1 _ rfl; (with_reducible repeat (first | refine blk_drewN ?_ _ | refine blk_drew ?_ | refine blk_alloc ?_ _)); refine blk_put (cs := #[.int .i64 0, .int .i64 0, .string (⟨#[]⟩ : ByteArray), .string (⟨#[]⟩ : ByteArray), .int .i64 0, .int .i64 0]) ?_ 0 _ rfl; (with_reducible repeat (first | refine blk_drewN ?_ _ | refine blk_drew ?_ | refine blk_alloc ?_ _)); exact BK258.out) Try.underlying33 rfl (by kernel_rfl)) rfl ?_
      exact ⟨re_, by repeat (first | (with_reducible first | exact HB.out | apply below_alloc | apply pw_below_drewN | apply below_drew1 | refine below_set ?_ GE258.out | refine below_set ?_ GE260.out) | exact HB.out)⟩
     ·replace c51 := Bool.eq_false_iff.mpr c51
      subst c51
      have H1 : (some (t261, t264, x261002_3, x261003_3, x261004_3, x261005_3, true)) = some (r1, r2, r3, r4, r5, r6, r7) := by rw [if_neg (show ¬ (false = true) by decide)] at H; exact H
      clear H
      have H := H1
      clear H1
      simp only [Option.some.injEq, Prod.mk.injEq] at H
      obtain ⟨rfl, rfl, rfl, rfl, rfl, rfl, rfl⟩ := H
      have hnb54 := NB260_258.out
      have hnc54 := NB258_260.out
      obtain ⟨hcz55_0, hcz55_1, hcz55_2, hcz55_3, hcz55_4, hcz55_5, hfz55_0, hfz55_1, hfz55_2, hfz55_3, hfz55_4, hfz55_5⟩ := bc6_ BK260
      obtain ⟨hcz56_0, hcz56_1, hcz56_2, hcz56_3, hcz56_4, hcz56_5, hfz56_0, hfz56_1, hfz56_2, hfz56_3, hfz56_4, hfz56_5⟩ := bc6_ BK258
      go_wp2
      refine bodyPost_ret (results_ct rfl _ _ gb258 33 #[.int .i64 t261, .int .i64 t264, .string x261002_3, .string x261003_3, .int .i64 x261004_3, .int .i64 x261005_3] (0, 0) _ rfl (by (with_reducible repeat (first | refine blk_drewN ?_ _ | refine blk_drew ?_ | refine blk_alloc ?_ _)); refine blk_put (cs := #[.int .i64 t261, .int .i64 t264, .string x261002_3, .string x261003_3, .int .i64 x261004_3, .int .i64 0]) ?_ 5 _ rfl; (with_reducible repeat (first | refine blk_drewN ?_ _ | refine blk_drew ?_ | refine blk_alloc ?_ _)); refine blk_put (cs := #[.int .i64 t261, .int .i64 t264, .string x261002_3, .string x261003_3, .int .i64 0, .int .i64 0]) ?_ 4 _ rfl; (with_reducible repeat (first | refine blk_drewN ?_ _ | refine blk_drew ?_ | refine blk_alloc ?_ _)); refine blk_put (cs := #[.int .i64 t261, .int .i64 t264, .string x261002_3, .string (⟨#[]⟩ : ByteArray), .int .i64 0, .int .i64 0]) ?_ 3 _ rfl; (with_reducible repeat (first | refine blk_drewN ?_ _ | refine blk_drew ?_ | refine blk_alloc ?_ _)); refine blk_put (cs := #[.int .i64 t261, .int .i64 t264, .string (⟨#[]⟩ : ByteArray), .string (⟨#[]⟩ : ByteArray), .int .i64 0, .int .i64 0]) ?_ 2 _ rfl; (with_reducible repeat (first | refine blk_drewN ?_ _ | refine blk_drew ?_ | refine blk_alloc ?_ _)); refine blk_put (cs := #[.int .i64 t261, .int .i64 0, .string (⟨#[]⟩ : ByteArray), .string (⟨#[]⟩ : ByteArray), .int .i64 0, .int .i64 0]) ?_ 1 _ rfl; (with_reducible repeat (first | refine blk_drewN ?_ _ | refine blk_drew ?_ | refine blk_alloc ?_ _)); refine blk_put (cs := #[.int .i64 0, .int .i64 0, .string (⟨#[]⟩ : ByteArray), .string (⟨#[]⟩ : ByteArray), .int .i64 0, .int .i64 0]) ?_ 0 _ rfl; (with_reducible repeat (first | refine blk_drewN ?_ _ | refine blk_drew ?_ | refine blk_alloc ?_ _)); exact BK258.out) Try.underlying33 rfl (by kernel_rfl)) rfl ?_
      exact ⟨re_, by repeat (first | (with_reducible first | exact HB.out | apply below_alloc | apply pw_below_drewN | apply below_drew1 | refine below_set ?_ GE258.out | refine below_set ?_ GE260.out) | exact HB.out)⟩

/-! ### impl_ScanRecs: function 11 -/
def impl_ScanRecs.l0 : Nat → ByteArray → List (S37) → Int → Option ((List (S37)) × Int)
 | 0, _, _, _ => none
 | k + 1, x0, x4, x5 => if 0 ≤ x5 then (if x5 ≤ (x0.size : Int) then ((impl_Unframe.f k (x0.extract (x5 : Int).toNat x0.size)).bind fun bt285 => ((impl_ReadRec.f k bt285.1).bind fun bt287 => (if bt285.2 = 0 then (some (x4, x5)) else (if bt287.2.2.2.2.2.2 = true then (if x4.length < 1759218604441 then (impl_ScanRecs.l0 k x0 (x4 ++ [(⟨x5, bt285.2, (⟨bt287.1, bt287.2.1, bt287.2.2.1, bt287.2.2.2.1, bt287.2.2.2.2.1, bt287.2.2.2.2.2.1⟩ : S33)⟩ : S37)]) (wrap64 (x5 + bt285.2))) else (none)) else (some (x4, x5)))))) else (none)) else (none)
def impl_ScanRecs.f (k : Nat) (a0 : ByteArray) : Option ((List (S37)) × Int) := impl_ScanRecs.l0 k a0 ([] : List (S37)) 0
theorem impl_ScanRecs.mono_l : ∀ k, (∀ y0 y1 y2, LeO (impl_ScanRecs.l0 k y0 y1 y2) (impl_ScanRecs.l0 (k + 1) y0 y1 y2))
 | 0 => fun _ _ _ r h => by simp [impl_ScanRecs.l0] at h
 | k + 1 => by
  have ih0 := impl_ScanRecs.mono_l k
  ·intro y0 y1 y2
   unfold impl_ScanRecs.l0
   repeat' first | (with_reducible first | exact ih0 .. | exact impl_ReadRec.mono .. | exact impl_Unframe.mono .. | exact LeO.refl .. | exact LeO.none .. | refine LeO.ite ?_ ?_ | refine LeO.bind ?_ (fun _ => ?_)) | exact ih0 .. | exact impl_ReadRec.mono .. | exact impl_Unframe.mono .. | exact LeO.none .. | refine LeO.ite ?_ ?_ | refine LeO.bind ?_ (fun _ => ?_)
theorem impl_ScanRecs.mono : ∀ a0 k, LeO (impl_ScanRecs.f k a0) (impl_ScanRecs.f (k + 1) a0) := by
 intro a0 k
 have ih0 := impl_ScanRecs.mono_l k
 unfold impl_ScanRecs.f
 repeat' first | (with_reducible first | exact ih0 .. | exact impl_ReadRec.mono .. | exact impl_Unframe.mono .. | exact LeO.refl .. | exact LeO.none .. | refine LeO.ite ?_ ?_ | refine LeO.bind ?_ (fun _ => ?_)) | exact ih0 .. | exact impl_ReadRec.mono .. | exact impl_Unframe.mono .. | exact LeO.none .. | refine LeO.ite ?_ ?_ | refine LeO.bind ?_ (fun _ => ?_)
set_option maxHeartbeats 80000000 in
set_option maxRecDepth 100000 in
theorem impl_ScanRecs.calls (k : Nat) (a0 : ByteArray) (r1 : List (S37)) (r2 : Int) (w : World) (h : impl_ScanRecs.f k a0 = some (r1, r2)) :
  Calls Try.prog 11 #[.string a0] w fun e w' => ∃ v0_ : Value, e = .returned (.tuple #[v0_, .int .i64 r2]) ∧ Kd.R k37 37 w' w.heap.size (fun _ => True) v0_ r1 ∧ Below w.heap.size w w' := by
 have hu33 := Try.underlying33
 have hu37 := Try.underlying37
 have HB := Aside0.mk (Below.refl w.heap.size w)
 have H : (impl_ScanRecs.l0 k a0 ([] : List (S37)) 0) = some (r1, r2) := h
 clear h
 have H' := Aside0.mk H
 clear H
 go_enter Try.func11, Try.ntmps11
 go_wp2
 go_loopg [4, 5] k (fun kq v4 v5 w' => ∃ (x4_1 : List (S37)) (x5_1 : Int), v5 = .int .i64 x5_1 ∧ Aside0 (impl_ScanRecs.l0 kq a0 x4_1 x5_1 = some (r1, r2)) ∧ Aside0 (kq ≤ k) ∧ Aside0 (Kd.R k37 37 w' w.heap.size (fun _ => True) v4 x4_1) ∧ Aside0 (Below w.heap.size w w'))
 case atStart => exact ⟨(([] : List (S37))), (0), rs_, H', ⟨Nat.le_refl _⟩, ⟨by first | exact Kd.R_nil _ _ _ _ _ | exact Kd.N_nil _ _ _ _ _ | exact Kd.V_nil _ _ _ _ _ | exact Kd.Q_nil _ _ _ _ _ | exact Kd.S_nil _ _ _ _ _⟩, ⟨hb_ HB⟩⟩
 case round =>
  clear H'
  try clear c1
  obtain ⟨x4_1, x5_1, rfl, HA, HK1, HO_4, HB⟩ := hrel
  cases gk with
  | zero => exact absurd HA.out (by simp [impl_ScanRecs.l0])
  | succ k1 =>
   have H := HA.out
   clear HA
   simp only [impl_ScanRecs.l0] at H
   by_cases c2 : 0 ≤ x5_1
   ·rw [if_pos c2] at H
    have c2b0 := eq_true c2
    have c2b1 : decide (0 ≤ x5_1) = true := decide_eq_true c2
    clear c2
    by_cases c3 : x5_1 ≤ (a0.size : Int)
    ·rw [if_pos c3] at H
     have c3b0 := eq_true c3
     have c3b1 : decide (x5_1 ≤ (a0.size : Int)) = true := decide_eq_true c3
     clear c3
     replace H := Option.bind_eq_some_iff.mp H
     obtain ⟨⟨t285, t286⟩, A40, H⟩ := H
     replace H : ((impl_ReadRec.f k1 t285).bind fun bt287 => (if t286 = 0 then (some (x4_1, x5_1)) else (if bt287.2.2.2.2.2.2 = true then (if x4_1.length < 1759218604441 then (impl_ScanRecs.l0 k1 a0 (x4_1 ++ [(⟨x5_1, t286, (⟨bt287.1, bt287.2.1, bt287.2.2.1, bt287.2.2.2.1, bt287.2.2.2.2.1, bt287.2.2.2.2.2.1⟩ : S33)⟩ : S37)]) (wrap64 (x5_1 + t286))) else (none)) else (some (x4_1, x5_1))))) = some (r1, r2) := H
     have A4 := Aside0.mk A40
     clear A40
     replace H := Option.bind_eq_some_iff.mp H
     obtain ⟨⟨t287, t288, t289, t290, t291, t292, t293⟩, A50, H⟩ := H
     replace H : (if t286 = 0 then (some (x4_1, x5_1)) else (if t293 = true then (if x4_1.length < 1759218604441 then (impl_ScanRecs.l0 k1 a0 (x4_1 ++ [(⟨x5_1, t286, (⟨t287, t288, t289, t290, t291, t292⟩ : S33)⟩ : S37)]) (wrap64 (x5_1 + t286))) else (none)) else (some (x4_1, x5_1)))) = some (r1, r2) := H
     have A5 := Aside0.mk A50
     clear A50
     by_cases c6 : t286 = 0
     ·rw [if_pos c6] at H
      have c6b0 : (t286 == 0) = true := beq_iff_eq.mpr c6
      have c6b1 : (t286 != 0) = false := bne_eq_false_iff_eq.mpr c6
      clear c6
      simp only [Option.some.injEq, Prod.mk.injEq] at H
      obtain ⟨rfl, rfl⟩ := H
      go_wp2_with (first | ((with_reducible refine gate_callee (f := 9) rfl ?_); refine goesL_ (some 14) rfl rfl Try.func9 (by kernel_rfl) rfl #[.string (a0.extract (x5_1 : Int).toNat a0.size)] rfl ar_ ?_; (with_reducible refine (impl_Unframe.calls k1 (a0.extract (x5_1 : Int).toNat a0.size) t285 t286 _ A4.out).mono ?_); rintro e w7 ⟨rfl, hb⟩; refine ⟨_, rfl, ?_⟩; replace HO_4 := rb_ HO_4 hb; replace HB := bs_ HB hb; (try clear hb); (try clear hb2); (try clear hk); (try clear hi)) | ((with_reducible refine gate_callee (f := 33) rfl ?_); refine goesL_ (some 19) rfl rfl Try.func33 (by kernel_rfl) rfl #[.string t285] rfl ar_ ?_; (with_reducible refine (impl_ReadRec.calls k1 t285 t287 t288 t289 t290 t291 t292 t293 _ A5.out).mono ?_); rintro e w8 ⟨rfl, hb⟩; refine ⟨_, rfl, ?_⟩; replace HO_4 := rb_ HO_4 hb; replace HB := bs_ HB hb; (try clear hb); (try clear hb2); (try clear hk); (try clear hi)) | ((with_reducible refine gate_dst (N := 8) rfl ?_); refine box_event ?hg (N := 8) ?hd (cs := #[.int .i64 0, .int .i64 0, .string (⟨#[]⟩ : ByteArray), .string (⟨#[]⟩ : ByteArray), .int .i64 0, .int .i64 0]) (t := 33) ?hr ?_; (case hd => rfl); (case hg => rfl); (case hr => first | (go_simp; done) | (go_simp; rfl)); intro gb294 hg w9 hbox hb; replace HO_4 := rb_ HO_4 hb; have BK294 := Aside0.mk (hbox); have GW294 := ge_ hg (hb_ HB); have GE294 := ge_ hg (hb_ HB); replace HB := bs_ HB hb; clear hb hbox hg; obtain ⟨hcz10_0, hcz10_1, hcz10_2, hcz10_3, hcz10_4, hcz10_5, hfz10_0, hfz10_1, hfz10_2, hfz10_3, hfz10_4, hfz10_5⟩ := bc6_ BK294))
      go_ret2
      exact ⟨_, by first | rfl | (simp [errW_none, errW_some] <;> rfl) | (simp [*, errW_none, errW_some] <;> rfl), by (with_reducible repeat (first | apply Kd.R_alloc | apply Kd.R_drewN | apply Kd.R_drew)); exact Kd.R_mono (Kd.R_far (p := ⟨gb294, 5, none⟩) (Kd.R_far (p := ⟨gb294, 4, none⟩) (Kd.R_far (p := ⟨gb294, 3, none⟩) (Kd.R_far (p := ⟨gb294, 2, none⟩) (Kd.R_far (p := ⟨gb294, 1, none⟩) (Kd.R_far (p := ⟨gb294, 0, none⟩) (Kd.R_types HO_4.out BK294.out (by decide)) (fun _ hk => hk.2) (.int .i64 t287)) (fun _ hk => hk.2) (.int .i64 t288)) (fun _ hk => hk.2) (.string t289)) (fun _ hk => hk.2) (.string t290)) (fun _ hk => hk.2) (.int .i64 t291)) (fun _ hk => hk.2) (.int .i64 t292)) (fun _ hk => trivial), hs_ HB GE294⟩
     ·rw [if_neg c6] at H
      have c6b0 : (t286 == 0) = false := beq_eq_false_iff_ne.mpr c6
      have c6b1 : (t286 != 0) = true := bne_iff_ne.mpr c6
      by_cases c11 : t293 = true
      ·subst c11
       have H1 : (if x4_1.length < 1759218604441 then (impl_ScanRecs.l0 k1 a0 (x4_1 ++ [(⟨x5_1, t286, (⟨t287, t288, t289, t290, t291, t292⟩ : S33)⟩ : S37)]) (wrap64 (x5_1 + t286))) else (none)) = some (r1, r2) := by rw [if_pos rfl] at H; exact H
       clear H
       have H := H1
       clear H1
       by_cases c12 : x4_1.length < 1759218604441
       ·rw [if_pos c12] at H
        have LMc12 := Aside0.mk c12
        clear c12
        obtain ⟨y295, hy295⟩ : ∃ y_ : List (S37), y_ = (x4_1 ++ [(⟨x5_1, t286, (⟨t287, t288, t289, t290, t291, t292⟩ : S33)⟩ : S37)]) := ⟨_, rfl⟩
        replace H : (impl_ScanRecs.l0 k1 a0 y295 (wrap64 (x5_1 + t286))) = some (r1, r2) := by first | (rw [hy295]; with_reducible exact H) | (have H2_ := (Option.bind_some _ _).symm.trans H; rw [hy295]; with_reducible exact H2_) | (have H2_ := (Option.bind_some _ _).symm.trans H; with_reducible exact H2_) | with_reducible exact H | (rw [hy295]; exact H) | exact H
        have Ny295 := Aside0.mk hy295
        clear hy295
        have H' := Aside0.mk H
        clear H
        go_wp2_with (first | ((with_reducible refine gate_callee (f := 9) rfl ?_); refine goesL_ (some 14) rfl rfl Try.func9 (by kernel_rfl) rfl #[.string (a0.extract (x5_1 : Int).toNat a0.size)] rfl ar_ ?_; (with_reducible refine (impl_Unframe.calls k1 (a0.extract (x5_1 : Int).toNat a0.size) t285 t286 _ A4.out).mono ?_); rintro e w13 ⟨rfl, hb⟩; refine ⟨_, rfl, ?_⟩; replace HO_4 := rb_ HO_4 hb; replace HB := bs_ HB hb; (try clear hb); (try clear hb2); (try clear hk); (try clear hi)) | ((with_reducible refine gate_callee (f := 33) rfl ?_); refine goesL_ (some 19) rfl rfl Try.func33 (by kernel_rfl) rfl #[.string t285] rfl ar_ ?_; (with_reducible refine (impl_ReadRec.calls k1 t285 t287 t288 t289 t290 t291 t292 true _ A5.out).mono ?_); rintro e w14 ⟨rfl, hb⟩; refine ⟨_, rfl, ?_⟩; replace HO_4 := rb_ HO_4 hb; replace HB := bs_ HB hb; (try clear hb); (try clear hb2); (try clear hk); (try clear hi)) | ((with_reducible refine gate_dst (N := 8) rfl ?_); refine box_event ?hg (N := 8) ?hd (cs := #[.int .i64 0, .int .i64 0, .string (⟨#[]⟩ : ByteArray), .string (⟨#[]⟩ : ByteArray), .int .i64 0, .int .i64 0]) (t := 33) ?hr ?_; (case hd => rfl); (case hg => rfl); (case hr => first | (go_simp; done) | (go_simp; rfl)); intro gb294 hg w15 hbox hb; replace HO_4 := rb_ HO_4 hb; have BK294 := Aside0.mk (hbox); have GW294 := ge_ hg (hb_ HB); have GE294 := ge_ hg (hb_ HB); replace HB := bs_ HB hb; clear hb hbox hg; obtain ⟨hcz16_0, hcz16_1, hcz16_2, hcz16_3, hcz16_4, hcz16_5, hfz16_0, hfz16_1, hfz16_2, hfz16_3, hfz16_4, hfz16_5⟩ := bc6_ BK294) | (at_builtin; (with_reducible refine gate_builtin (b := .append) (xs := #[.tmp 30, .tmp 35]) rfl ?_); refine Kd.R_append k37 (w0 := w) w.heap.size rfl (.tmp 30) (.tmp 35) 28 37 (.agg #[(.int .i64 0), (.int .i64 0), (.int .i64 0), (.int .i64 0), (.string ⟨#[]⟩), (.string ⟨#[]⟩), (.int .i64 0), (.int .i64 0)]) 80 rfl Try.underlying28 info37 rfl (by decide) (by omega) u4 x4_1 (⟨x5_1, t286, (⟨t287, t288, t289, t290, t291, t292⟩ : S33)⟩ : S37) [.int .i64 x5_1, .int .i64 t286, .int .i64 t287, .int .i64 t288, .string t289, .string t290, .int .i64 t291, .int .i64 t292] (fun _ => True) (fun _ => False) rfl (by first | (go_simp; done) | (go_simp; rfl)) ?aP (fun _ hk => hk.elim) ?aF ?aO ?aB ?aS ?aL ?_; (case aP => exact k37_mkM _ _ _ (⟨x5_1, t286, (⟨t287, t288, t289, t290, t291, t292⟩ : S33)⟩ : S37)); (case aB => exact (hs_ HB GE294)); (case aF => exact (fun _ _ => trivial)); (case aO => exact (by (with_reducible repeat (first | apply Kd.R_alloc | apply Kd.R_drewN | apply Kd.R_drew)); exact Kd.R_mono (Kd.R_far (p := ⟨gb294, 5, none⟩) (Kd.R_far (p := ⟨gb294, 4, none⟩) (Kd.R_far (p := ⟨gb294, 3, none⟩) (Kd.R_far (p := ⟨gb294, 2, none⟩) (Kd.R_far (p := ⟨gb294, 1, none⟩) (Kd.R_far (p := ⟨gb294, 0, none⟩) (Kd.R_types HO_4.out BK294.out (by decide)) (fun _ hk => hk.2) (.int .i64 t287)) (fun _ hk => hk.2) (.int .i64 t288)) (fun _ hk => hk.2) (.string t289)) (fun _ hk => hk.2) (.string t290)) (fun _ hk => hk.2) (.int .i64 t291)) (fun _ hk => hk.2) (.int .i64 t292)) (fun _ hk => trivial))); (case aS => exact (below_size (hs_ HB GE294))); (case aL => have := LMc12.out; omega); intro v296 w17 ho hb hg hat; rw [← Ny295.out] at ho; replace BK294 := Aside0.mk (blk_grown (g := gb294) (o := .cells #[.int .i64 t287, .int .i64 t288, .string t289, .string t290, .int .i64 t291, .int .i64 t292] 33 (0, 0)) (by (with_reducible repeat (first | refine blk_drewN ?_ _ | refine blk_drew ?_ | refine blk_alloc ?_ _)); refine blk_put (cs := #[.int .i64 t287, .int .i64 t288, .string t289, .string t290, .int .i64 t291, .int .i64 0]) ?_ 5 _ rfl; (with_reducible repeat (first | refine blk_drewN ?_ _ | refine blk_drew ?_ | refine blk_alloc ?_ _)); refine blk_put (cs := #[.int .i64 t287, .int .i64 t288, .string t289, .string t290, .int .i64 0, .int .i64 0]) ?_ 4 _ rfl; (with_reducible repeat (first | refine blk_drewN ?_ _ | refine blk_drew ?_ | refine blk_alloc ?_ _)); refine blk_put (cs := #[.int .i64 t287, .int .i64 t288, .string t289, .string (⟨#[]⟩ : ByteArray), .int .i64 0, .int .i64 0]) ?_ 3 _ rfl; (with_reducible repeat (first | refine blk_drewN ?_ _ | refine blk_drew ?_ | refine blk_alloc ?_ _)); refine blk_put (cs := #[.int .i64 t287, .int .i64 t288, .string (⟨#[]⟩ : ByteArray), .string (⟨#[]⟩ : ByteArray), .int .i64 0, .int .i64 0]) ?_ 2 _ rfl; (with_reducible repeat (first | refine blk_drewN ?_ _ | refine blk_drew ?_ | refine blk_alloc ?_ _)); refine blk_put (cs := #[.int .i64 t287, .int .i64 0, .string (⟨#[]⟩ : ByteArray), .string (⟨#[]⟩ : ByteArray), .int .i64 0, .int .i64 0]) ?_ 1 _ rfl; (with_reducible repeat (first | refine blk_drewN ?_ _ | refine blk_drew ?_ | refine blk_alloc ?_ _)); refine blk_put (cs := #[.int .i64 0, .int .i64 0, .string (⟨#[]⟩ : ByteArray), .string (⟨#[]⟩ : ByteArray), .int .i64 0, .int .i64 0]) ?_ 0 _ rfl; (with_reducible repeat (first | refine blk_drewN ?_ _ | refine blk_drew ?_ | refine blk_alloc ?_ _)); exact BK294.out) hg (Kd.R_ne HO_4.out BK294.out (by decide))); replace HB := Aside0.mk (hb); have HO297 := Aside0.mk (ho); clear HO_4; clear ho hb hg hat))
        go_roundg k1
        case measure => have := HK1.out; first | exact this | exact Nat.le_of_succ_le this | exact Nat.le_refl _ | omega
        case rel => exact ⟨(y295), (wrap64 (x5_1 + t286)), rs_, H', ⟨by have := HK1.out; first | exact this | exact Nat.le_of_succ_le this | exact Nat.le_refl _ | omega⟩, ⟨rr_ HO297⟩, ⟨hs_ HB GE294⟩⟩
       ·rw [if_neg c12] at H
        exact absurd H (by simp)
      ·replace c11 := Bool.eq_false_iff.mpr c11
       subst c11
       have H1 : (some (x4_1, x5_1)) = some (r1, r2) := by rw [if_neg (show ¬ (false = true) by decide)] at H; exact H
       clear H
       have H := H1
       clear H1
       simp only [Option.some.injEq, Prod.mk.injEq] at H
       obtain ⟨rfl, rfl⟩ := H
       go_wp2_with (first | ((with_reducible refine gate_callee (f := 9) rfl ?_); refine goesL_ (some 14) rfl rfl Try.func9 (by kernel_rfl) rfl #[.string (a0.extract (x5_1 : Int).toNat a0.size)] rfl ar_ ?_; (with_reducible refine (impl_Unframe.calls k1 (a0.extract (x5_1 : Int).toNat a0.size) t285 t286 _ A4.out).mono ?_); rintro e w18 ⟨rfl, hb⟩; refine ⟨_, rfl, ?_⟩; replace HO_4 := rb_ HO_4 hb; replace HB := bs_ HB hb; (try clear hb); (try clear hb2); (try clear hk); (try clear hi)) | ((with_reducible refine gate_callee (f := 33) rfl ?_); refine goesL_ (some 19) rfl rfl Try.func33 (by kernel_rfl) rfl #[.string t285] rfl ar_ ?_; (with_reducible refine (impl_ReadRec.calls k1 t285 t287 t288 t289 t290 t291 t292 false _ A5.out).mono ?_); rintro e w19 ⟨rfl, hb⟩; refine ⟨_, rfl, ?_⟩; replace HO_4 := rb_ HO_4 hb; replace HB := bs_ HB hb; (try clear hb); (try clear hb2); (try clear hk); (try clear hi)) | ((with_reducible refine gate_dst (N := 8) rfl ?_); refine box_event ?hg (N := 8) ?hd (cs := #[.int .i64 0, .int .i64 0, .string (⟨#[]⟩ : ByteArray), .string (⟨#[]⟩ : ByteArray), .int .i64 0, .int .i64 0]) (t := 33) ?hr ?_; (case hd => rfl); (case hg => rfl); (case hr => first | (go_simp; done) | (go_simp; rfl)); intro gb294 hg w20 hbox hb; replace HO_4 := rb_ HO_4 hb; have BK294 := Aside0.mk (hbox); have GW294 := ge_ hg (hb_ HB); have GE294 := ge_ hg (hb_ HB); replace HB := bs_ HB hb; clear hb hbox hg; obtain ⟨hcz21_0, hcz21_1, hcz21_2, hcz21_3, hcz21_4, hcz21_5, hfz21_0, hfz21_1, hfz21_2, hfz21_3, hfz21_4, hfz21_5⟩ := bc6_ BK294))
       go_ret2
       exact ⟨_, by first | rfl | (simp [errW_none, errW_some] <;> rfl) | (simp [*, errW_none, errW_some] <;> rfl), by (with_reducible repeat (first | apply Kd.R_alloc | apply Kd.R_drewN | apply Kd.R_drew)); exact Kd.R_mono (Kd.R_far (p := ⟨gb294, 5, none⟩) (Kd.R_far (p := ⟨gb294, 4, none⟩) (Kd.R_far (p := ⟨gb294, 3, none⟩) (Kd.R_far (p := ⟨gb294, 2, none⟩) (Kd.R_far (p := ⟨gb294, 1, none⟩) (Kd.R_far (p := ⟨gb294, 0, none⟩) (Kd.R_types HO_4.out BK294.out (by decide)) (fun _ hk => hk.2) (.int .i64 t287)) (fun _ hk => hk.2) (.int .i64 t288)) (fun _ hk => hk.2) (.string t289)) (fun _ hk => hk.2) (.string t290)) (fun _ hk => hk.2) (.int .i64 t291)) (fun _ hk => hk.2) (.int .i64 t292)) (fun _ hk => trivial), hs_ HB GE294⟩
    ·rw [if_neg c3] at H
     exact absurd H (by simp)
   ·rw [if_neg c2] at H
    exact absurd H (by simp)

end Go.Proofs.Ytnjmehiploelnaa.PFnExactHintOf
