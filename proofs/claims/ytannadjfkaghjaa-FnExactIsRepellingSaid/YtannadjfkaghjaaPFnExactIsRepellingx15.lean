-- Written by this session's program wip/pp (the kit's print tool with additions) 35421559b90ae4d0a3588c463048766b98c2df88dd9212a6774a882060cdf62d
import Derived.Test.YtannadjfkaghjaaPFnExactIsRepellingx0
import Derived.Test.YtannadjfkaghjaaPFnExactIsRepellingx13
import Derived.Test.YtannadjfkaghjaaPFnExactIsRepellingx14
namespace Go.Proofs.Ytannadjfkaghjaa.PFnExactIsRepelling
open Go.RowKit Go.Proofs.YtannadjfkaghjaaW.PrintWords Go.Proofs.YtannadjfkaghjaaW.PrintLast Go.Proofs.YtannadjfkaghjaaW.PrintMore
attribute [local go_sem] max2_int min2_int max_two min_two max_three min_three max_four min_four   -- for this text's walks alone
set_option linter.unusedVariables false
set_option linter.unusedSimpArgs false

/-! ### impl_SubtractRats: function 145 -/
def impl_SubtractRats.f (k : Nat) (a0_0 : Int) (a0_1 : Int) (a1_0 : Int) (a1_1 : Int) : Option (Int × Int × Bool) := (impl_negated.f a1_0 a1_1).bind fun bt407 => ((impl_AddRats.f k a0_0 a0_1 bt407.1 bt407.2).bind fun bt409 => (some (bt409.1, bt409.2.1, bt409.2.2)))
def impl_SubtractRats.T1 : Bool × List (List Nat × List Nat) := (true, [([], []), ([], []), ([1], [1]), ([0, 2, 2], [0, 2]), ([3], [3]), ([3], [3]), ([4, 3, 0, 1, 2, 3, 4, 5], [4]), ([5, 6, 0, 1, 2, 3, 4, 5, 6], [5])])
def impl_SubtractRats.B1 : List Nat := [0, 0, 2, 7, 15, 15, 63, 127]
theorem impl_SubtractRats.tab1 : rtab .any (opsOf Try.f145 1) = impl_SubtractRats.T1 := by kernel_rfl
theorem impl_SubtractRats.bits1 : waitsOk impl_SubtractRats.T1.2 impl_SubtractRats.B1 = true := by kernel_rfl
set_option maxHeartbeats 8000000 in
set_option maxRecDepth 100000 in
theorem impl_SubtractRats.calls (k : Nat) (a0_0 : Int) (a0_1 : Int) (a1_0 : Int) (a1_1 : Int) (r1 : Int) (r2 : Int) (r3 : Bool) (w : World) (h : impl_SubtractRats.f k a0_0 a0_1 a1_0 a1_1 = some (r1, r2, r3)) :
  Calls Try.prog 145 #[.agg #[.int .i64 a0_0, .int .i64 a0_1], .agg #[.int .i64 a1_0, .int .i64 a1_1]] w fun e w' => e = .returned (.tuple #[.agg #[.int .i64 r1, .int .i64 r2], .bool r3]) ∧ Below w.heap.size w w' := by
 have hu53 := Try.underlying53
 have HB := Aside0.mk (Below.refl w.heap.size w)
 have H : ((impl_negated.f a1_0 a1_1).bind fun bt407 => ((impl_AddRats.f k a0_0 a0_1 bt407.1 bt407.2).bind fun bt409 => (some (bt409.1, bt409.2.1, bt409.2.2)))) = some (r1, r2, r3) := h
 clear h
 replace H := Option.bind_eq_some_iff.mp H
 obtain ⟨⟨t407, t408⟩, A30, H⟩ := H
 replace H : ((impl_AddRats.f k a0_0 a0_1 t407 t408).bind fun bt409 => (some (bt409.1, bt409.2.1, bt409.2.2))) = some (r1, r2, r3) := H
 have A3 := Aside0.mk A30
 clear A30
 replace H := Option.bind_eq_some_iff.mp H
 obtain ⟨⟨t409, t410, t411⟩, A40, H⟩ := H
 replace H : (some (t409, t410, t411)) = some (r1, r2, r3) := H
 have A4 := Aside0.mk A40
 clear A40
 simp only [Option.some.injEq, Prod.mk.injEq] at H
 obtain ⟨rfl, rfl, rfl⟩ := H
 go_enter Try.func145, Try.ntmps145
 try go_wp2_with (first | ((with_reducible refine gate_dst (N := 2) rfl ?_); refine bx 2 #[.int .i64 a0_0, .int .i64 a0_1] 53 ?_; intro gb404 hg w5 hbox hb; have BK404 := Aside0.mk (hbox); have GW404 := Aside0.mk (bz hg); have GE404 := GW404; replace HB := kh hb; clear hb hbox hg) | ((with_reducible refine gate_dst (N := 3) rfl ?_); refine bx 3 #[.int .i64 a1_0, .int .i64 a1_1] 53 ?_; intro gb405 hg w6 hbox hb; have BK405 := Aside0.mk (hbox); have GW405 := Aside0.mk (bz hg); have GE405 := GW405; have NB404_405 := Aside0.mk (bn gb404 hg); have NB405_404 := sy NB404_405; replace BK404 := kb BK404 hb; replace HB := kh hb; clear hb hbox hg) | ((with_reducible refine gate_dst (N := 4) rfl ?_); refine bx 4 #[.int .i64 0, .int .i64 0] 53 ?_; intro gb406 hg w7 hbox hb; have BK406 := Aside0.mk (hbox); have GW406 := Aside0.mk (bz hg); have GE406 := GW406; have NB404_406 := Aside0.mk (bn gb404 hg); have NB406_404 := sy NB404_406; have NB405_406 := Aside0.mk (bn gb405 hg); have NB406_405 := sy NB405_406; replace BK404 := kb BK404 hb; replace BK405 := kb BK405 hb; replace HB := kh hb; clear hb hbox hg))
 replace BK404 := Aside0.mk (blk_drew BK404.out)
 replace BK405 := Aside0.mk (blk_drew BK405.out)
 replace BK406 := Aside0.mk (blk_drew BK406.out)
 replace HB := Aside0.mk (below_drew1 HB.out)
 refine start_ (n := 8) (S := fun w' => w'.cell? ⟨gb404, 0, none⟩ = some (.int .i64 a0_0) ∧ w'.cell? ⟨gb404, 1, none⟩ = some (.int .i64 a0_1) ∧ w'.cell? ⟨gb405, 0, none⟩ = some (.int .i64 a1_0) ∧ w'.cell? ⟨gb405, 1, none⟩ = some (.int .i64 a1_1)) (ds := []) (tb 0 8) (by kernel_rfl) rfl rfl ⟨(blk_cell BK404.out 0).trans rfl, (blk_cell BK404.out 1).trans rfl, (blk_cell BK405.out 0).trans rfl, (blk_cell BK405.out 1).trans rfl⟩ (fun hHeld => ?_); refine with_tabW impl_SubtractRats.tab1 impl_SubtractRats.bits1 (fun HT_ HW_ => ?_)
 generalize w7.drew = w8 at BK404 BK405 BK406 HB hHeld ⊢
 refine tk 0 6 (tb 1 7) (hy := by rintro w' ⟨s0, s1, s2, s3⟩; go_simp; with_reducible rfl) (h := ?_)
 refine tk 1 7 (tb 2 6) (hy := by rintro w' ⟨s0, s1, s2, s3⟩; go_simp; with_reducible rfl) (h := ?_)
 refine on 2 8 (tb 3 5) (fun K hK => ?_)
 refine gs Try.func147 #[.agg #[.int .i64 a1_0, .int .i64 a1_1]] ?_
 with_reducible refine (impl_negated.calls a1_0 a1_1 t407 t408 _ A3.out).mono ?_
 rintro e w9 ⟨rfl, hb⟩
 refine ⟨_, rfl, ?_⟩
 replace BK404 := kb BK404 hb
 replace BK405 := kb BK405 hb
 replace BK406 := kb BK406 hb
 replace HB := kh hb
 (try clear hb)
 (try clear hb2)
 (try clear hk)
 (try clear hi)
 refine hK.out _ _ ⟨(blk_cell BK404.out 0).trans rfl, (blk_cell BK404.out 1).trans rfl, (blk_cell BK405.out 0).trans rfl, (blk_cell BK405.out 1).trans rfl⟩ (fun hHeld => ?_)
 clear hK K
 refine nm 8 ?_
 refine on 3 9 (tb 4 4) (fun K hK => ?_)
 refine gs Try.func146 #[.agg #[.int .i64 a0_0, .int .i64 a0_1], .agg #[.int .i64 t407, .int .i64 t408]] ?_
 with_reducible refine (impl_AddRats.calls k a0_0 a0_1 t407 t408 t409 t410 t411 _ A4.out).mono ?_
 rintro e w10 ⟨rfl, hb⟩
 refine ⟨_, rfl, ?_⟩
 replace BK404 := kb BK404 hb
 replace BK405 := kb BK405 hb
 replace BK406 := kb BK406 hb
 replace HB := kh hb
 (try clear hb)
 (try clear hb2)
 (try clear hk)
 (try clear hi)
 refine hK.out _ _ ⟨(blk_cell BK404.out 0).trans rfl, (blk_cell BK404.out 1).trans rfl, (blk_cell BK405.out 0).trans rfl, (blk_cell BK405.out 1).trans rfl⟩ (fun hHeld => ?_)
 clear hK K
 refine nm 9 ?_
 refine pu 4 10 (tb 5 3) ?_
 refine pu 5 11 (tb 6 2) ?_
 refine one_ (i := 6) (N := none) (tb 7 1) rfl rfl (one_of HT_.out (by kernel_rfl)) (by decide) (fun K hK => ?_)
 have hs11 : w10.cell? ⟨gb406, 0, none⟩ = some (.int .i64 0) := (blk_cell BK406.out 0).trans rfl
 have hfs11 := blk_frozen BK406.out 0
 have hns11_0 := NB404_406.out
 have hns11_1 := NB405_406.out
 have hms11_0 := NB406_404.out
 have hms11_1 := NB406_405.out
 have hs12 : w10.cell? ⟨gb406, 1, none⟩ = some (.int .i64 0) := (blk_cell BK406.out 1).trans rfl
 have hfs12 := blk_frozen BK406.out 1
 have hns12_0 := NB404_406.out
 have hns12_1 := NB405_406.out
 have hms12_0 := NB406_404.out
 have hms12_1 := NB406_405.out
 refine skip_ (w1 := ?_) (by rfl) rfl ?_ ?_
 rotate_left
 ·go_simp
  rfl
 refine hK.out _ _ ⟨(by (iterate 2 refine (cell_far (p := ⟨gb406, _, none⟩) NB404_406.out _).trans ?_); exact hHeld.1), (by (iterate 2 refine (cell_far (p := ⟨gb406, _, none⟩) NB404_406.out _).trans ?_); exact hHeld.2.1), (by (iterate 2 refine (cell_far (p := ⟨gb406, _, none⟩) NB405_406.out _).trans ?_); exact hHeld.2.2.1), (by (iterate 2 refine (cell_far (p := ⟨gb406, _, none⟩) NB405_406.out _).trans ?_); exact hHeld.2.2.2)⟩ (fun hHeld => ?_)
 clear hK K
 refine pu 7 5 (tb 8 0) ?_
 refine done_ (done_of HT_.out (by kernel_rfl)) ?_
 try go_wp2
 refine bodyPost_ret (results_ct rfl _ _ gb406 53 #[.int .i64 t409, .int .i64 t410] (0, 0) _ rfl (by (with_reducible repeat (first | refine blk_drewN ?_ _ | refine blk_drew ?_ | refine blk_alloc ?_ _)); refine blk_put (cs := #[.int .i64 t409, .int .i64 0]) ?_ 1 _ rfl; (with_reducible repeat (first | refine blk_drewN ?_ _ | refine blk_drew ?_ | refine blk_alloc ?_ _)); refine blk_put (cs := #[.int .i64 0, .int .i64 0]) ?_ 0 _ rfl; (with_reducible repeat (first | refine blk_drewN ?_ _ | refine blk_drew ?_ | refine blk_alloc ?_ _)); exact BK406.out) Try.underlying53 rfl (by kernel_rfl)) rfl ?_
 exact ⟨rt, bl⟩

/-! ### impl_calc_sub: function 140 -/
def impl_calc_sub.f (k : Nat) (s0_0 : Bool) (a1_0 : Int) (a1_1 : Int) (a2_0 : Int) (a2_1 : Int) : Option (Int × Int × Bool) := (impl_SubtractRats.f k a1_0 a1_1 a2_0 a2_1).bind fun bt415 => ((impl_calc_keep.f s0_0 bt415.1 bt415.2.1 bt415.2.2).bind fun bt418 => (some (bt418.1, bt418.2.1, bt418.2.2)))
set_option maxHeartbeats 8000000 in
set_option maxRecDepth 100000 in
theorem impl_calc_sub.calls (k : Nat) (g : Nat) (s0_0 : Bool) (a1_0 : Int) (a1_1 : Int) (a2_0 : Int) (a2_1 : Int) (r1 : Int) (r2 : Int) (r3 : Bool) (w0 w : World) (hI : IsS103 w0 w g s0_0) (hB : Below w0.heap.size w0 w) (h : impl_calc_sub.f k s0_0 a1_0 a1_1 a2_0 a2_1 = some (r1, r2, r3)) :
  Calls Try.prog 140 #[.pointer (some ⟨g, 0, none⟩), .agg #[.int .i64 a1_0, .int .i64 a1_1], .agg #[.int .i64 a2_0, .int .i64 a2_1]] w fun e w' => e = .returned (.agg #[.int .i64 r1, .int .i64 r2]) ∧ IsS103 w0 w' g r3 ∧ Below w0.heap.size w0 w' ∧ KeepBut w w' g none := by
 have hu53 := Try.underlying53
 have HI0 := Aside0.mk hI
 have HK := Aside0.mk (KeepBut.refl w g none)
 have HL := Aside0.mk hB.size
 clear hI
 have HW0 := Aside0.mk hB.size
 have HB := Aside0.mk hB
 clear hB
 have H : ((impl_SubtractRats.f k a1_0 a1_1 a2_0 a2_1).bind fun bt415 => ((impl_calc_keep.f s0_0 bt415.1 bt415.2.1 bt415.2.2).bind fun bt418 => (some (bt418.1, bt418.2.1, bt418.2.2)))) = some (r1, r2, r3) := h
 clear h
 replace H := Option.bind_eq_some_iff.mp H
 obtain ⟨⟨t415, t416, t417⟩, A40, H⟩ := H
 replace H : ((impl_calc_keep.f s0_0 t415 t416 t417).bind fun bt418 => (some (bt418.1, bt418.2.1, bt418.2.2))) = some (r1, r2, r3) := H
 have A4 := Aside0.mk A40
 clear A40
 replace H := Option.bind_eq_some_iff.mp H
 obtain ⟨⟨t418, t419, t420⟩, A50, H⟩ := H
 replace H : (some (t418, t419, t420)) = some (r1, r2, r3) := H
 have A5 := Aside0.mk A50
 clear A50
 simp only [Option.some.injEq, Prod.mk.injEq] at H
 obtain ⟨rfl, rfl, rfl⟩ := H
 go_enter Try.func140, Try.ntmps140
 go_wp2_with (first | ((with_reducible refine gate_dst (N := 4) rfl ?_); refine bx 4 #[.int .i64 a1_0, .int .i64 a1_1] 53 ?_; intro gb412 hg w6 hbox hb; have BK412 := Aside0.mk (hbox); have GW412 := Aside0.mk ((by rw [hg]; exact (keep_size (w := w) (g := g) (row := none) (by repeat (first | (with_reducible first | exact HK.out | apply KeepBut.set_ | apply keep_drewN | apply keep_drew | apply keep_alloc) | exact HK.out))) : w.heap.size ≤ gb412)); have GE412 := Aside0.mk ((Nat.le_trans HW0.out GW412.out : w0.heap.size ≤ gb412)); have NB0_412 := Aside0.mk ((by rw [hg]; exact Nat.ne_of_lt (IsS103.lt (show IsS103 w0 _ g s0_0 from by repeat (first | (with_reducible first | exact HI0.out | apply IsS103.alloc | apply IsS103.drewN | apply IsS103.drew | apply IsS103.set_0) | exact HI0.out))) : g ≠ gb412)); have NB412_0 := sy NB0_412; replace HK := Aside0.mk (KeepBut.trans (by repeat (first | (with_reducible first | exact HK.out | apply KeepBut.set_ | apply keep_drewN | apply keep_drew | apply keep_alloc) | exact HK.out)) (KeepBut.of_below hb g none) (.inl rfl)); replace HB := Aside0.mk (below_step (by repeat (first | (with_reducible first | exact HB.out | apply below_alloc | apply pw_below_drewN | apply below_drew1 | refine below_set ?_ (IsS103.ge HI0.out)) | exact HB.out)) hb); replace HI0 := Aside0.mk (IsS103.below (by repeat (first | (with_reducible first | exact HI0.out | apply IsS103.alloc | apply IsS103.drewN | apply IsS103.drew | apply IsS103.set_0) | exact HI0.out)) hb); clear hb hbox hg) | ((with_reducible refine gate_dst (N := 5) rfl ?_); refine bx 5 #[.int .i64 a2_0, .int .i64 a2_1] 53 ?_; intro gb413 hg w7 hbox hb; have BK413 := Aside0.mk (hbox); have GW413 := Aside0.mk ((by rw [hg]; exact (keep_size (w := w) (g := g) (row := none) (by repeat (first | (with_reducible first | exact HK.out | apply KeepBut.set_ | apply keep_drewN | apply keep_drew | apply keep_alloc | refine keep_far ?_ GW412.out _) | exact HK.out))) : w.heap.size ≤ gb413)); have GE413 := Aside0.mk ((Nat.le_trans HW0.out GW413.out : w0.heap.size ≤ gb413)); have NB412_413 := Aside0.mk (bn gb412 hg); have NB413_412 := sy NB412_413; have NB0_413 := Aside0.mk ((by rw [hg]; exact Nat.ne_of_lt (IsS103.lt (show IsS103 w0 _ g s0_0 from by repeat (first | (with_reducible first | exact HI0.out | apply IsS103.alloc | apply IsS103.drewN | apply IsS103.drew | apply IsS103.set_0 | refine IsS103.far ?_ NB0_412.out _) | exact HI0.out))) : g ≠ gb413)); have NB413_0 := sy NB0_413; replace BK412 := kb BK412 hb; replace HK := Aside0.mk (KeepBut.trans (by repeat (first | (with_reducible first | exact HK.out | apply KeepBut.set_ | apply keep_drewN | apply keep_drew | apply keep_alloc | refine keep_far ?_ GW412.out _) | exact HK.out)) (KeepBut.of_below hb g none) (.inl rfl)); replace HB := Aside0.mk (below_step (by repeat (first | (with_reducible first | exact HB.out | apply below_alloc | apply pw_below_drewN | apply below_drew1 | refine below_set ?_ (IsS103.ge HI0.out) | refine below_set ?_ GE412.out) | exact HB.out)) hb); replace HI0 := Aside0.mk (IsS103.below (by repeat (first | (with_reducible first | exact HI0.out | apply IsS103.alloc | apply IsS103.drewN | apply IsS103.drew | apply IsS103.set_0 | refine IsS103.far ?_ NB0_412.out _) | exact HI0.out)) hb); clear hb hbox hg) | ((with_reducible refine gate_dst (N := 6) rfl ?_); refine bx 6 #[.int .i64 0, .int .i64 0] 53 ?_; intro gb414 hg w8 hbox hb; have BK414 := Aside0.mk (hbox); have GW414 := Aside0.mk ((by rw [hg]; exact (keep_size (w := w) (g := g) (row := none) (by repeat (first | (with_reducible first | exact HK.out | apply KeepBut.set_ | apply keep_drewN | apply keep_drew | apply keep_alloc | refine keep_far ?_ GW412.out _ | refine keep_far ?_ GW413.out _) | exact HK.out))) : w.heap.size ≤ gb414)); have GE414 := Aside0.mk ((Nat.le_trans HW0.out GW414.out : w0.heap.size ≤ gb414)); have NB412_414 := Aside0.mk (bn gb412 hg); have NB414_412 := sy NB412_414; have NB413_414 := Aside0.mk (bn gb413 hg); have NB414_413 := sy NB413_414; have NB0_414 := Aside0.mk ((by rw [hg]; exact Nat.ne_of_lt (IsS103.lt (show IsS103 w0 _ g s0_0 from by repeat (first | (with_reducible first | exact HI0.out | apply IsS103.alloc | apply IsS103.drewN | apply IsS103.drew | apply IsS103.set_0 | refine IsS103.far ?_ NB0_412.out _ | refine IsS103.far ?_ NB0_413.out _) | exact HI0.out))) : g ≠ gb414)); have NB414_0 := sy NB0_414; replace BK412 := kb BK412 hb; replace BK413 := kb BK413 hb; replace HK := Aside0.mk (KeepBut.trans (by repeat (first | (with_reducible first | exact HK.out | apply KeepBut.set_ | apply keep_drewN | apply keep_drew | apply keep_alloc | refine keep_far ?_ GW412.out _ | refine keep_far ?_ GW413.out _) | exact HK.out)) (KeepBut.of_below hb g none) (.inl rfl)); replace HB := Aside0.mk (below_step (by repeat (first | (with_reducible first | exact HB.out | apply below_alloc | apply pw_below_drewN | apply below_drew1 | refine below_set ?_ (IsS103.ge HI0.out) | refine below_set ?_ GE412.out | refine below_set ?_ GE413.out) | exact HB.out)) hb); replace HI0 := Aside0.mk (IsS103.below (by repeat (first | (with_reducible first | exact HI0.out | apply IsS103.alloc | apply IsS103.drewN | apply IsS103.drew | apply IsS103.set_0 | refine IsS103.far ?_ NB0_412.out _ | refine IsS103.far ?_ NB0_413.out _) | exact HI0.out)) hb); clear hb hbox hg; have hnb9 := NB412_413.out; have hnc9 := NB413_412.out; have hnb10 := NB412_414.out; have hnc10 := NB414_412.out; have hnb11 := NB412_0.out; have hnc11 := NB0_412.out; obtain ⟨hcz12_0, hcz12_1, hfz12_0, hfz12_1⟩ := b2 BK412; have hnb13 := NB413_414.out; have hnc13 := NB414_413.out; have hnb14 := NB413_0.out; have hnc14 := NB0_413.out; obtain ⟨hcz15_0, hcz15_1, hfz15_0, hfz15_1⟩ := b2 BK413) | ((with_reducible refine gate_callee (f := 145) rfl ?_); refine gl 10 Try.func145 #[.agg #[.int .i64 a1_0, .int .i64 a1_1], .agg #[.int .i64 a2_0, .int .i64 a2_1]] ?_; (with_reducible refine (impl_SubtractRats.calls k a1_0 a1_1 a2_0 a2_1 t415 t416 t417 _ A4.out).mono ?_); rintro e w16 ⟨rfl, hb⟩; refine ⟨_, rfl, ?_⟩; replace BK412 := kb BK412 hb; replace BK413 := kb BK413 hb; replace BK414 := kb BK414 hb; replace HK := Aside0.mk (KeepBut.trans (by repeat (first | (with_reducible first | exact HK.out | apply KeepBut.set_ | apply keep_drewN | apply keep_drew | apply keep_alloc | refine keep_far ?_ GW412.out _ | refine keep_far ?_ GW413.out _ | refine keep_far ?_ GW414.out _) | exact HK.out)) (KeepBut.of_below hb g none) (.inl rfl)); replace HB := Aside0.mk (below_step (by repeat (first | (with_reducible first | exact HB.out | apply below_alloc | apply pw_below_drewN | apply below_drew1 | refine below_set ?_ (IsS103.ge HI0.out) | refine below_set ?_ GE412.out | refine below_set ?_ GE413.out | refine below_set ?_ GE414.out) | exact HB.out)) hb); replace HI0 := Aside0.mk (IsS103.below (by repeat (first | (with_reducible first | exact HI0.out | apply IsS103.alloc | apply IsS103.drewN | apply IsS103.drew | apply IsS103.set_0 | refine IsS103.far ?_ NB0_412.out _ | refine IsS103.far ?_ NB0_413.out _ | refine IsS103.far ?_ NB0_414.out _) | exact HI0.out)) hb); (try clear hb); (try clear hb2); (try clear hk); (try clear hi)) | ((with_reducible refine gate_callee (f := 117) rfl ?_); refine gl 13 Try.func117 #[.pointer (some ⟨g, 0, none⟩), .agg #[.int .i64 t415, .int .i64 t416], .bool t417] ?_; (with_reducible refine (impl_calc_keep.calls g s0_0 t415 t416 t417 t418 t419 t420 w0 _ ?side1 ?side2 A5.out).mono ?_); (case side1 => repeat (first | (with_reducible first | exact HI0.out | apply IsS103.alloc | apply IsS103.drewN | apply IsS103.drew | apply IsS103.set_0 | refine IsS103.far ?_ NB0_412.out _ | refine IsS103.far ?_ NB0_413.out _ | refine IsS103.far ?_ NB0_414.out _) | exact HI0.out)); (case side2 => repeat (first | (with_reducible first | exact HB.out | apply below_alloc | apply pw_below_drewN | apply below_drew1 | refine below_set ?_ (IsS103.ge HI0.out) | refine below_set ?_ GE412.out | refine below_set ?_ GE413.out | refine below_set ?_ GE414.out) | exact HB.out)); rintro e w17 ⟨rfl, hi, hb, hk⟩; refine ⟨_, rfl, ?_⟩; replace BK412 := Aside0.mk (KeepBut.blk hk (g' := gb412) (o := .cells #[.int .i64 a1_0, .int .i64 a1_1] 53 (0, 0)) (bo gb412) NB412_0.out (by simp)); replace BK413 := Aside0.mk (KeepBut.blk hk (g' := gb413) (o := .cells #[.int .i64 a2_0, .int .i64 a2_1] 53 (0, 0)) (bo gb413) NB413_0.out (by simp)); replace BK414 := Aside0.mk (KeepBut.blk hk (g' := gb414) (o := .cells #[.int .i64 0, .int .i64 0] 53 (0, 0)) (bo gb414) NB414_0.out (by simp)); replace HK := Aside0.mk (KeepBut.trans (by repeat (first | (with_reducible first | exact HK.out | apply KeepBut.set_ | apply keep_drewN | apply keep_drew | apply keep_alloc | refine keep_far ?_ GW412.out _ | refine keep_far ?_ GW413.out _ | refine keep_far ?_ GW414.out _) | exact HK.out)) hk (.inl rfl)); replace HB := Aside0.mk (hb); replace HI0 := Aside0.mk (hi); (try clear hb); (try clear hb2); (try clear hk); (try clear hi); have hnb18 := NB414_0.out; have hnc18 := NB0_414.out; obtain ⟨hcz19_0, hcz19_1, hfz19_0, hfz19_1⟩ := b2 BK414))
 refine bodyPost_ret (results_cell_row rfl _ _ gb414 53 #[.int .i64 t418, .int .i64 t419] (0, 0) _ rfl (by (with_reducible repeat (first | refine blk_drewN ?_ _ | refine blk_drew ?_ | refine blk_alloc ?_ _)); refine blk_put (cs := #[.int .i64 t418, .int .i64 0]) ?_ 1 _ rfl; (with_reducible repeat (first | refine blk_drewN ?_ _ | refine blk_drew ?_ | refine blk_alloc ?_ _)); refine blk_put (cs := #[.int .i64 0, .int .i64 0]) ?_ 0 _ rfl; (with_reducible repeat (first | refine blk_drewN ?_ _ | refine blk_drew ?_ | refine blk_alloc ?_ _)); exact BK414.out) Try.underlying53 rfl (by kernel_rfl)) rfl ?_
 exact ⟨rt, by repeat (first | (with_reducible first | exact HI0.out | apply IsS103.alloc | apply IsS103.drewN | apply IsS103.drew | apply IsS103.set_0 | refine IsS103.far ?_ NB0_412.out _ | refine IsS103.far ?_ NB0_413.out _ | refine IsS103.far ?_ NB0_414.out _) | exact HI0.out), by repeat (first | (with_reducible first | exact HB.out | apply below_alloc | apply pw_below_drewN | apply below_drew1 | refine below_set ?_ (IsS103.ge HI0.out) | refine below_set ?_ GE412.out | refine below_set ?_ GE413.out | refine below_set ?_ GE414.out) | exact HB.out), by repeat (first | (with_reducible first | exact HK.out | apply KeepBut.set_ | apply keep_drewN | apply keep_drew | apply keep_alloc | refine keep_far ?_ GW412.out _ | refine keep_far ?_ GW413.out _ | refine keep_far ?_ GW414.out _) | exact HK.out)⟩

/-! ### impl_calc_slope: function 124 -/
def impl_calc_slope.f (k : Nat) (s0_0 : Bool) (a1_0 : Int) (a1_1 : Int) (a1_2 : Int) (a1_3 : Int) (a2_0 : Int) (a2_1 : Int) (a2_2 : Int) (a2_3 : Int) : Option (Int × Int × Bool) := (impl_calc_sub.f k s0_0 a2_2 a2_3 a1_2 a1_3).bind fun bt424 => ((impl_calc_sub.f k bt424.2.2 a2_0 a2_1 a1_0 a1_1).bind fun bt427 => ((impl_calc_div.f k bt427.2.2 bt424.1 bt424.2.1 bt427.1 bt427.2.1).bind fun bt430 => (some (bt430.1, bt430.2.1, bt430.2.2))))
def impl_calc_slope.T1 : Bool × List (List Nat × List Nat) := (true, [([], []), ([], []), ([], []), ([2], [2]), ([], []), ([4], [4]), ([1, 3, 5], [1, 3, 5]), ([], []), ([], []), ([8], [8]), ([], []), ([10], [10]), ([7, 9, 11, 6], [7, 9, 11]), ([0, 6, 12, 12], [0, 6, 12]), ([13, 13, 0, 1, 2, 3, 4, 5, 6, 7, 8, 9, 10, 11, 12, 13], [13])])
def impl_calc_slope.B1 : List Nat := [0, 0, 0, 4, 0, 16, 62, 0, 0, 256, 0, 1024, 4094, 8191, 16383]
theorem impl_calc_slope.tab1 : rtab .any (opsOf Try.f124 1) = impl_calc_slope.T1 := by kernel_rfl
theorem impl_calc_slope.bits1 : waitsOk impl_calc_slope.T1.2 impl_calc_slope.B1 = true := by kernel_rfl
set_option maxHeartbeats 8000000 in
set_option maxRecDepth 100000 in
theorem impl_calc_slope.calls (k : Nat) (g : Nat) (s0_0 : Bool) (a1_0 : Int) (a1_1 : Int) (a1_2 : Int) (a1_3 : Int) (a2_0 : Int) (a2_1 : Int) (a2_2 : Int) (a2_3 : Int) (r1 : Int) (r2 : Int) (r3 : Bool) (w0 w : World) (hI : IsS103 w0 w g s0_0) (hB : Below w0.heap.size w0 w) (h : impl_calc_slope.f k s0_0 a1_0 a1_1 a1_2 a1_3 a2_0 a2_1 a2_2 a2_3 = some (r1, r2, r3)) :
  Calls Try.prog 124 #[.pointer (some ⟨g, 0, none⟩), .agg #[.int .i64 a1_0, .int .i64 a1_1, .int .i64 a1_2, .int .i64 a1_3], .agg #[.int .i64 a2_0, .int .i64 a2_1, .int .i64 a2_2, .int .i64 a2_3]] w fun e w' => e = .returned (.agg #[.int .i64 r1, .int .i64 r2]) ∧ IsS103 w0 w' g r3 ∧ Below w0.heap.size w0 w' ∧ KeepBut w w' g none := by
 have hu73 := Try.underlying73
 have hu53 := Try.underlying53
 have HI0 := Aside0.mk hI
 have HK := Aside0.mk (KeepBut.refl w g none)
 have HL := Aside0.mk hB.size
 clear hI
 have HW0 := Aside0.mk hB.size
 have HB := Aside0.mk hB
 clear hB
 have H : ((impl_calc_sub.f k s0_0 a2_2 a2_3 a1_2 a1_3).bind fun bt424 => ((impl_calc_sub.f k bt424.2.2 a2_0 a2_1 a1_0 a1_1).bind fun bt427 => ((impl_calc_div.f k bt427.2.2 bt424.1 bt424.2.1 bt427.1 bt427.2.1).bind fun bt430 => (some (bt430.1, bt430.2.1, bt430.2.2))))) = some (r1, r2, r3) := h
 clear h
 replace H := Option.bind_eq_some_iff.mp H
 obtain ⟨⟨t424, t425, t426⟩, A40, H⟩ := H
 replace H : ((impl_calc_sub.f k t426 a2_0 a2_1 a1_0 a1_1).bind fun bt427 => ((impl_calc_div.f k bt427.2.2 t424 t425 bt427.1 bt427.2.1).bind fun bt430 => (some (bt430.1, bt430.2.1, bt430.2.2)))) = some (r1, r2, r3) := H
 have A4 := Aside0.mk A40
 clear A40
 replace H := Option.bind_eq_some_iff.mp H
 obtain ⟨⟨t427, t428, t429⟩, A50, H⟩ := H
 replace H : ((impl_calc_div.f k t429 t424 t425 t427 t428).bind fun bt430 => (some (bt430.1, bt430.2.1, bt430.2.2))) = some (r1, r2, r3) := H
 have A5 := Aside0.mk A50
 clear A50
 replace H := Option.bind_eq_some_iff.mp H
 obtain ⟨⟨t430, t431, t432⟩, A60, H⟩ := H
 replace H : (some (t430, t431, t432)) = some (r1, r2, r3) := H
 have A6 := Aside0.mk A60
 clear A60
 simp only [Option.some.injEq, Prod.mk.injEq] at H
 obtain ⟨rfl, rfl, rfl⟩ := H
 go_enter Try.func124, Try.ntmps124
 try go_wp2_with (first | ((with_reducible refine gate_dst (N := 4) rfl ?_); refine bx 4 #[.int .i64 a1_0, .int .i64 a1_1, .int .i64 a1_2, .int .i64 a1_3] 73 ?_; intro gb421 hg w7 hbox hb; have BK421 := Aside0.mk (hbox); have GW421 := Aside0.mk ((by rw [hg]; exact (keep_size (w := w) (g := g) (row := none) (by repeat (first | (with_reducible first | exact HK.out | apply KeepBut.set_ | apply keep_drewN | apply keep_drew | apply keep_alloc) | exact HK.out))) : w.heap.size ≤ gb421)); have GE421 := Aside0.mk ((Nat.le_trans HW0.out GW421.out : w0.heap.size ≤ gb421)); have NB0_421 := Aside0.mk ((by rw [hg]; exact Nat.ne_of_lt (IsS103.lt (show IsS103 w0 _ g s0_0 from by repeat (first | (with_reducible first | exact HI0.out | apply IsS103.alloc | apply IsS103.drewN | apply IsS103.drew | apply IsS103.set_0) | exact HI0.out))) : g ≠ gb421)); have NB421_0 := sy NB0_421; replace HK := Aside0.mk (KeepBut.trans (by repeat (first | (with_reducible first | exact HK.out | apply KeepBut.set_ | apply keep_drewN | apply keep_drew | apply keep_alloc) | exact HK.out)) (KeepBut.of_below hb g none) (.inl rfl)); replace HB := Aside0.mk (below_step (by repeat (first | (with_reducible first | exact HB.out | apply below_alloc | apply pw_below_drewN | apply below_drew1 | refine below_set ?_ (IsS103.ge HI0.out)) | exact HB.out)) hb); replace HI0 := Aside0.mk (IsS103.below (by repeat (first | (with_reducible first | exact HI0.out | apply IsS103.alloc | apply IsS103.drewN | apply IsS103.drew | apply IsS103.set_0) | exact HI0.out)) hb); clear hb hbox hg) | ((with_reducible refine gate_dst (N := 5) rfl ?_); refine bx 5 #[.int .i64 a2_0, .int .i64 a2_1, .int .i64 a2_2, .int .i64 a2_3] 73 ?_; intro gb422 hg w8 hbox hb; have BK422 := Aside0.mk (hbox); have GW422 := Aside0.mk ((by rw [hg]; exact (keep_size (w := w) (g := g) (row := none) (by repeat (first | (with_reducible first | exact HK.out | apply KeepBut.set_ | apply keep_drewN | apply keep_drew | apply keep_alloc | refine keep_far ?_ GW421.out _) | exact HK.out))) : w.heap.size ≤ gb422)); have GE422 := Aside0.mk ((Nat.le_trans HW0.out GW422.out : w0.heap.size ≤ gb422)); have NB421_422 := Aside0.mk (bn gb421 hg); have NB422_421 := sy NB421_422; have NB0_422 := Aside0.mk ((by rw [hg]; exact Nat.ne_of_lt (IsS103.lt (show IsS103 w0 _ g s0_0 from by repeat (first | (with_reducible first | exact HI0.out | apply IsS103.alloc | apply IsS103.drewN | apply IsS103.drew | apply IsS103.set_0 | refine IsS103.far ?_ NB0_421.out _) | exact HI0.out))) : g ≠ gb422)); have NB422_0 := sy NB0_422; replace BK421 := kb BK421 hb; replace HK := Aside0.mk (KeepBut.trans (by repeat (first | (with_reducible first | exact HK.out | apply KeepBut.set_ | apply keep_drewN | apply keep_drew | apply keep_alloc | refine keep_far ?_ GW421.out _) | exact HK.out)) (KeepBut.of_below hb g none) (.inl rfl)); replace HB := Aside0.mk (below_step (by repeat (first | (with_reducible first | exact HB.out | apply below_alloc | apply pw_below_drewN | apply below_drew1 | refine below_set ?_ (IsS103.ge HI0.out) | refine below_set ?_ GE421.out) | exact HB.out)) hb); replace HI0 := Aside0.mk (IsS103.below (by repeat (first | (with_reducible first | exact HI0.out | apply IsS103.alloc | apply IsS103.drewN | apply IsS103.drew | apply IsS103.set_0 | refine IsS103.far ?_ NB0_421.out _) | exact HI0.out)) hb); clear hb hbox hg) | ((with_reducible refine gate_dst (N := 6) rfl ?_); refine bx 6 #[.int .i64 0, .int .i64 0] 53 ?_; intro gb423 hg w9 hbox hb; have BK423 := Aside0.mk (hbox); have GW423 := Aside0.mk ((by rw [hg]; exact (keep_size (w := w) (g := g) (row := none) (by repeat (first | (with_reducible first | exact HK.out | apply KeepBut.set_ | apply keep_drewN | apply keep_drew | apply keep_alloc | refine keep_far ?_ GW421.out _ | refine keep_far ?_ GW422.out _) | exact HK.out))) : w.heap.size ≤ gb423)); have GE423 := Aside0.mk ((Nat.le_trans HW0.out GW423.out : w0.heap.size ≤ gb423)); have NB421_423 := Aside0.mk (bn gb421 hg); have NB423_421 := sy NB421_423; have NB422_423 := Aside0.mk (bn gb422 hg); have NB423_422 := sy NB422_423; have NB0_423 := Aside0.mk ((by rw [hg]; exact Nat.ne_of_lt (IsS103.lt (show IsS103 w0 _ g s0_0 from by repeat (first | (with_reducible first | exact HI0.out | apply IsS103.alloc | apply IsS103.drewN | apply IsS103.drew | apply IsS103.set_0 | refine IsS103.far ?_ NB0_421.out _ | refine IsS103.far ?_ NB0_422.out _) | exact HI0.out))) : g ≠ gb423)); have NB423_0 := sy NB0_423; replace BK421 := kb BK421 hb; replace BK422 := kb BK422 hb; replace HK := Aside0.mk (KeepBut.trans (by repeat (first | (with_reducible first | exact HK.out | apply KeepBut.set_ | apply keep_drewN | apply keep_drew | apply keep_alloc | refine keep_far ?_ GW421.out _ | refine keep_far ?_ GW422.out _) | exact HK.out)) (KeepBut.of_below hb g none) (.inl rfl)); replace HB := Aside0.mk (below_step (by repeat (first | (with_reducible first | exact HB.out | apply below_alloc | apply pw_below_drewN | apply below_drew1 | refine below_set ?_ (IsS103.ge HI0.out) | refine below_set ?_ GE421.out | refine below_set ?_ GE422.out) | exact HB.out)) hb); replace HI0 := Aside0.mk (IsS103.below (by repeat (first | (with_reducible first | exact HI0.out | apply IsS103.alloc | apply IsS103.drewN | apply IsS103.drew | apply IsS103.set_0 | refine IsS103.far ?_ NB0_421.out _ | refine IsS103.far ?_ NB0_422.out _) | exact HI0.out)) hb); clear hb hbox hg))
 replace BK421 := Aside0.mk (blk_drew BK421.out)
 replace BK422 := Aside0.mk (blk_drew BK422.out)
 replace BK423 := Aside0.mk (blk_drew BK423.out)
 replace HI0 := Aside0.mk (IsS103.drew HI0.out)
 replace HK := Aside0.mk (keep_drew HK.out)
 replace HB := Aside0.mk (below_drew1 HB.out)
 refine start_ (n := 15) (S := fun w' => w'.cell? ⟨gb422, 0, none⟩ = some (.int .i64 a2_0) ∧ w'.cell? ⟨gb422, 1, none⟩ = some (.int .i64 a2_1) ∧ w'.cell? ⟨gb422, 2, none⟩ = some (.int .i64 a2_2) ∧ w'.cell? ⟨gb422, 3, none⟩ = some (.int .i64 a2_3) ∧ w'.cell? ⟨gb421, 0, none⟩ = some (.int .i64 a1_0) ∧ w'.cell? ⟨gb421, 1, none⟩ = some (.int .i64 a1_1) ∧ w'.cell? ⟨gb421, 2, none⟩ = some (.int .i64 a1_2) ∧ w'.cell? ⟨gb421, 3, none⟩ = some (.int .i64 a1_3)) (ds := []) (tb 0 15) (by kernel_rfl) rfl rfl ⟨(blk_cell BK422.out 0).trans rfl, (blk_cell BK422.out 1).trans rfl, (blk_cell BK422.out 2).trans rfl, (blk_cell BK422.out 3).trans rfl, (blk_cell BK421.out 0).trans rfl, (blk_cell BK421.out 1).trans rfl, (blk_cell BK421.out 2).trans rfl, (blk_cell BK421.out 3).trans rfl⟩ (fun hHeld => ?_); refine with_tabW impl_calc_slope.tab1 impl_calc_slope.bits1 (fun HT_ HW_ => ?_)
 generalize w9.drew = w10 at BK421 BK422 BK423 HI0 HK HB hHeld ⊢
 refine pu 0 7 (tb 1 14) ?_
 refine pu 1 8 (tb 2 13) ?_
 refine pu 2 9 (tb 3 12) ?_
 refine pu 4 11 #[true, true, true, false, true, false, false, false, false, false, false, false, false, false, false] ?_
 refine pu 7 14 #[true, true, true, false, true, false, false, true, false, false, false, false, false, false, false] ?_
 refine pu 8 15 #[true, true, true, false, true, false, false, true, true, false, false, false, false, false, false] ?_
 refine pu 10 17 #[true, true, true, false, true, false, false, true, true, false, true, false, false, false, false] ?_
 refine tk 3 10 #[true, true, true, true, true, false, false, true, true, false, true, false, false, false, false] (hy := by rintro w' ⟨s0, s1, s2, s3, s4, s5, s6, s7⟩; go_simp; with_reducible rfl) (h := ?_)
 refine tk 5 12 #[true, true, true, true, true, true, false, true, true, false, true, false, false, false, false] (hy := by rintro w' ⟨s0, s1, s2, s3, s4, s5, s6, s7⟩; go_simp; with_reducible rfl) (h := ?_)
 refine tk 9 16 #[true, true, true, true, true, true, false, true, true, true, true, false, false, false, false] (hy := by rintro w' ⟨s0, s1, s2, s3, s4, s5, s6, s7⟩; go_simp; with_reducible rfl) (h := ?_)
 refine tk 11 18 #[true, true, true, true, true, true, false, true, true, true, true, true, false, false, false] (hy := by rintro w' ⟨s0, s1, s2, s3, s4, s5, s6, s7⟩; go_simp; with_reducible rfl) (h := ?_)
 refine on 6 13 (tb 12 3) (fun K hK => ?_)
 refine gs Try.func140 #[.pointer (some ⟨g, 0, none⟩), .agg #[.int .i64 a2_2, .int .i64 a2_3], .agg #[.int .i64 a1_2, .int .i64 a1_3]] ?_
 with_reducible refine (impl_calc_sub.calls k g s0_0 a2_2 a2_3 a1_2 a1_3 t424 t425 t426 w0 _ ?side1 ?side2 A4.out).mono ?_
 (case side1 => repeat (first | (with_reducible first | exact HI0.out | apply IsS103.alloc | apply IsS103.drewN | apply IsS103.drew | apply IsS103.set_0 | refine IsS103.far ?_ NB0_421.out _ | refine IsS103.far ?_ NB0_422.out _ | refine IsS103.far ?_ NB0_423.out _) | exact HI0.out))
 (case side2 => repeat (first | (with_reducible first | exact HB.out | apply below_alloc | apply pw_below_drewN | apply below_drew1 | refine below_set ?_ (IsS103.ge HI0.out) | refine below_set ?_ GE421.out | refine below_set ?_ GE422.out | refine below_set ?_ GE423.out) | exact HB.out))
 rintro e w11 ⟨rfl, hi, hb, hk⟩
 refine ⟨_, rfl, ?_⟩
 replace BK421 := Aside0.mk (KeepBut.blk hk (g' := gb421) (o := .cells #[.int .i64 a1_0, .int .i64 a1_1, .int .i64 a1_2, .int .i64 a1_3] 73 (0, 0)) (bo gb421) NB421_0.out (by simp))
 replace BK422 := Aside0.mk (KeepBut.blk hk (g' := gb422) (o := .cells #[.int .i64 a2_0, .int .i64 a2_1, .int .i64 a2_2, .int .i64 a2_3] 73 (0, 0)) (bo gb422) NB422_0.out (by simp))
 replace BK423 := Aside0.mk (KeepBut.blk hk (g' := gb423) (o := .cells #[.int .i64 0, .int .i64 0] 53 (0, 0)) (bo gb423) NB423_0.out (by simp))
 replace HK := Aside0.mk (KeepBut.trans (by repeat (first | (with_reducible first | exact HK.out | apply KeepBut.set_ | apply keep_drewN | apply keep_drew | apply keep_alloc | refine keep_far ?_ GW421.out _ | refine keep_far ?_ GW422.out _ | refine keep_far ?_ GW423.out _) | exact HK.out)) hk (.inl rfl))
 replace HB := Aside0.mk (hb)
 replace HI0 := Aside0.mk (hi)
 (try clear hb)
 (try clear hb2)
 (try clear hk)
 (try clear hi)
 refine hK.out _ _ ⟨(blk_cell BK422.out 0).trans rfl, (blk_cell BK422.out 1).trans rfl, (blk_cell BK422.out 2).trans rfl, (blk_cell BK422.out 3).trans rfl, (blk_cell BK421.out 0).trans rfl, (blk_cell BK421.out 1).trans rfl, (blk_cell BK421.out 2).trans rfl, (blk_cell BK421.out 3).trans rfl⟩ (fun hHeld => ?_)
 clear hK K
 refine nm 13 ?_
 refine on 12 19 (tb 13 2) (fun K hK => ?_)
 refine gs Try.func140 #[.pointer (some ⟨g, 0, none⟩), .agg #[.int .i64 a2_0, .int .i64 a2_1], .agg #[.int .i64 a1_0, .int .i64 a1_1]] ?_
 with_reducible refine (impl_calc_sub.calls k g t426 a2_0 a2_1 a1_0 a1_1 t427 t428 t429 w0 _ ?side1 ?side2 A5.out).mono ?_
 (case side1 => repeat (first | (with_reducible first | exact HI0.out | apply IsS103.alloc | apply IsS103.drewN | apply IsS103.drew | apply IsS103.set_0 | refine IsS103.far ?_ NB0_421.out _ | refine IsS103.far ?_ NB0_422.out _ | refine IsS103.far ?_ NB0_423.out _) | exact HI0.out))
 (case side2 => repeat (first | (with_reducible first | exact HB.out | apply below_alloc | apply pw_below_drewN | apply below_drew1 | refine below_set ?_ (IsS103.ge HI0.out) | refine below_set ?_ GE421.out | refine below_set ?_ GE422.out | refine below_set ?_ GE423.out) | exact HB.out))
 rintro e w12 ⟨rfl, hi, hb, hk⟩
 refine ⟨_, rfl, ?_⟩
 replace BK421 := Aside0.mk (KeepBut.blk hk (g' := gb421) (o := .cells #[.int .i64 a1_0, .int .i64 a1_1, .int .i64 a1_2, .int .i64 a1_3] 73 (0, 0)) (bo gb421) NB421_0.out (by simp))
 replace BK422 := Aside0.mk (KeepBut.blk hk (g' := gb422) (o := .cells #[.int .i64 a2_0, .int .i64 a2_1, .int .i64 a2_2, .int .i64 a2_3] 73 (0, 0)) (bo gb422) NB422_0.out (by simp))
 replace BK423 := Aside0.mk (KeepBut.blk hk (g' := gb423) (o := .cells #[.int .i64 0, .int .i64 0] 53 (0, 0)) (bo gb423) NB423_0.out (by simp))
 replace HK := Aside0.mk (KeepBut.trans (by repeat (first | (with_reducible first | exact HK.out | apply KeepBut.set_ | apply keep_drewN | apply keep_drew | apply keep_alloc | refine keep_far ?_ GW421.out _ | refine keep_far ?_ GW422.out _ | refine keep_far ?_ GW423.out _) | exact HK.out)) hk (.inl rfl))
 replace HB := Aside0.mk (hb)
 replace HI0 := Aside0.mk (hi)
 (try clear hb)
 (try clear hb2)
 (try clear hk)
 (try clear hi)
 refine hK.out _ _ ⟨(blk_cell BK422.out 0).trans rfl, (blk_cell BK422.out 1).trans rfl, (blk_cell BK422.out 2).trans rfl, (blk_cell BK422.out 3).trans rfl, (blk_cell BK421.out 0).trans rfl, (blk_cell BK421.out 1).trans rfl, (blk_cell BK421.out 2).trans rfl, (blk_cell BK421.out 3).trans rfl⟩ (fun hHeld => ?_)
 clear hK K
 refine nm 19 ?_
 refine on 13 20 (tb 14 1) (fun K hK => ?_)
 refine gs Try.func139 #[.pointer (some ⟨g, 0, none⟩), .agg #[.int .i64 t424, .int .i64 t425], .agg #[.int .i64 t427, .int .i64 t428]] ?_
 with_reducible refine (impl_calc_div.calls k g t429 t424 t425 t427 t428 t430 t431 t432 w0 _ ?side1 ?side2 A6.out).mono ?_
 (case side1 => repeat (first | (with_reducible first | exact HI0.out | apply IsS103.alloc | apply IsS103.drewN | apply IsS103.drew | apply IsS103.set_0 | refine IsS103.far ?_ NB0_421.out _ | refine IsS103.far ?_ NB0_422.out _ | refine IsS103.far ?_ NB0_423.out _) | exact HI0.out))
 (case side2 => repeat (first | (with_reducible first | exact HB.out | apply below_alloc | apply pw_below_drewN | apply below_drew1 | refine below_set ?_ (IsS103.ge HI0.out) | refine below_set ?_ GE421.out | refine below_set ?_ GE422.out | refine below_set ?_ GE423.out) | exact HB.out))
 rintro e w13 ⟨rfl, hi, hb, hk⟩
 refine ⟨_, rfl, ?_⟩
 replace BK421 := Aside0.mk (KeepBut.blk hk (g' := gb421) (o := .cells #[.int .i64 a1_0, .int .i64 a1_1, .int .i64 a1_2, .int .i64 a1_3] 73 (0, 0)) (bo gb421) NB421_0.out (by simp))
 replace BK422 := Aside0.mk (KeepBut.blk hk (g' := gb422) (o := .cells #[.int .i64 a2_0, .int .i64 a2_1, .int .i64 a2_2, .int .i64 a2_3] 73 (0, 0)) (bo gb422) NB422_0.out (by simp))
 replace BK423 := Aside0.mk (KeepBut.blk hk (g' := gb423) (o := .cells #[.int .i64 0, .int .i64 0] 53 (0, 0)) (bo gb423) NB423_0.out (by simp))
 replace HK := Aside0.mk (KeepBut.trans (by repeat (first | (with_reducible first | exact HK.out | apply KeepBut.set_ | apply keep_drewN | apply keep_drew | apply keep_alloc | refine keep_far ?_ GW421.out _ | refine keep_far ?_ GW422.out _ | refine keep_far ?_ GW423.out _) | exact HK.out)) hk (.inl rfl))
 replace HB := Aside0.mk (hb)
 replace HI0 := Aside0.mk (hi)
 (try clear hb)
 (try clear hb2)
 (try clear hk)
 (try clear hi)
 refine hK.out _ _ ⟨(blk_cell BK422.out 0).trans rfl, (blk_cell BK422.out 1).trans rfl, (blk_cell BK422.out 2).trans rfl, (blk_cell BK422.out 3).trans rfl, (blk_cell BK421.out 0).trans rfl, (blk_cell BK421.out 1).trans rfl, (blk_cell BK421.out 2).trans rfl, (blk_cell BK421.out 3).trans rfl⟩ (fun hHeld => ?_)
 clear hK K
 refine nm 20 ?_
 refine one_ (i := 14) (N := none) (tb 15 0) rfl rfl (one_of HT_.out (by kernel_rfl)) (by decide) (fun K hK => ?_)
 have hs14 : w13.cell? ⟨gb423, 0, none⟩ = some (.int .i64 0) := (blk_cell BK423.out 0).trans rfl
 have hfs14 := blk_frozen BK423.out 0
 have hns14_0 := NB421_423.out
 have hns14_1 := NB422_423.out
 have hms14_0 := NB423_421.out
 have hms14_1 := NB423_422.out
 have hs15 : w13.cell? ⟨gb423, 1, none⟩ = some (.int .i64 0) := (blk_cell BK423.out 1).trans rfl
 have hfs15 := blk_frozen BK423.out 1
 have hns15_0 := NB421_423.out
 have hns15_1 := NB422_423.out
 have hms15_0 := NB423_421.out
 have hms15_1 := NB423_422.out
 refine skip_ (w1 := ?_) (by rfl) rfl ?_ ?_
 rotate_left
 ·go_simp
  rfl
 refine hK.out _ _ ⟨(by (iterate 2 refine (cell_far (p := ⟨gb423, _, none⟩) NB422_423.out _).trans ?_); exact hHeld.1), (by (iterate 2 refine (cell_far (p := ⟨gb423, _, none⟩) NB422_423.out _).trans ?_); exact hHeld.2.1), (by (iterate 2 refine (cell_far (p := ⟨gb423, _, none⟩) NB422_423.out _).trans ?_); exact hHeld.2.2.1), (by (iterate 2 refine (cell_far (p := ⟨gb423, _, none⟩) NB422_423.out _).trans ?_); exact hHeld.2.2.2.1), (by (iterate 2 refine (cell_far (p := ⟨gb423, _, none⟩) NB421_423.out _).trans ?_); exact hHeld.2.2.2.2.1), (by (iterate 2 refine (cell_far (p := ⟨gb423, _, none⟩) NB421_423.out _).trans ?_); exact hHeld.2.2.2.2.2.1), (by (iterate 2 refine (cell_far (p := ⟨gb423, _, none⟩) NB421_423.out _).trans ?_); exact hHeld.2.2.2.2.2.2.1), (by (iterate 2 refine (cell_far (p := ⟨gb423, _, none⟩) NB421_423.out _).trans ?_); exact hHeld.2.2.2.2.2.2.2)⟩ (fun hHeld => ?_)
 clear hK K
 refine done_ (done_of HT_.out (by kernel_rfl)) ?_
 try go_wp2
 refine bodyPost_ret (results_cell_row rfl _ _ gb423 53 #[.int .i64 t430, .int .i64 t431] (0, 0) _ rfl (by (with_reducible repeat (first | refine blk_drewN ?_ _ | refine blk_drew ?_ | refine blk_alloc ?_ _)); refine blk_put (cs := #[.int .i64 t430, .int .i64 0]) ?_ 1 _ rfl; (with_reducible repeat (first | refine blk_drewN ?_ _ | refine blk_drew ?_ | refine blk_alloc ?_ _)); refine blk_put (cs := #[.int .i64 0, .int .i64 0]) ?_ 0 _ rfl; (with_reducible repeat (first | refine blk_drewN ?_ _ | refine blk_drew ?_ | refine blk_alloc ?_ _)); exact BK423.out) Try.underlying53 rfl (by kernel_rfl)) rfl ?_
 exact ⟨rt, by repeat (first | (with_reducible first | exact HI0.out | apply IsS103.alloc | apply IsS103.drewN | apply IsS103.drew | apply IsS103.set_0 | refine IsS103.far ?_ NB0_421.out _ | refine IsS103.far ?_ NB0_422.out _ | refine IsS103.far ?_ NB0_423.out _) | exact HI0.out), by repeat (first | (with_reducible first | exact HB.out | apply below_alloc | apply pw_below_drewN | apply below_drew1 | refine below_set ?_ (IsS103.ge HI0.out) | refine below_set ?_ GE421.out | refine below_set ?_ GE422.out | refine below_set ?_ GE423.out) | exact HB.out), by repeat (first | (with_reducible first | exact HK.out | apply KeepBut.set_ | apply keep_drewN | apply keep_drew | apply keep_alloc | refine keep_far ?_ GW421.out _ | refine keep_far ?_ GW422.out _ | refine keep_far ?_ GW423.out _) | exact HK.out)⟩

/-! ### impl_MultiplyRats: function 118 -/
def impl_MultiplyRats.f (k : Nat) (a0_0 : Int) (a0_1 : Int) (a1_0 : Int) (a1_1 : Int) : Option (Int × Int × Bool) := (impl_areRats.f k (([(⟨a0_0, a0_1⟩ : S53), (⟨a1_0, a1_1⟩ : S53)] : List (S53)))).bind fun t439 => (if t439 = true then ((impl_lowest.f k (wrap64 (a0_0 * a1_0)) (wrap64 (a0_1 * a1_1))).bind fun bt440 => (some (bt440.1, bt440.2.1, bt440.2.2))) else (some (0, 0, false)))
set_option maxHeartbeats 8000000 in
set_option maxRecDepth 100000 in
theorem impl_MultiplyRats.calls (k : Nat) (a0_0 : Int) (a0_1 : Int) (a1_0 : Int) (a1_1 : Int) (r1 : Int) (r2 : Int) (r3 : Bool) (w : World) (h : impl_MultiplyRats.f k a0_0 a0_1 a1_0 a1_1 = some (r1, r2, r3)) :
  Calls Try.prog 118 #[.agg #[.int .i64 a0_0, .int .i64 a0_1], .agg #[.int .i64 a1_0, .int .i64 a1_1]] w fun e w' => e = .returned (.tuple #[.agg #[.int .i64 r1, .int .i64 r2], .bool r3]) ∧ Below w.heap.size w w' := by
 have hu53 := Try.underlying53
 have HB := Aside0.mk (Below.refl w.heap.size w)
 have H : ((impl_areRats.f k (([(⟨a0_0, a0_1⟩ : S53), (⟨a1_0, a1_1⟩ : S53)] : List (S53)))).bind fun t439 => (if t439 = true then ((impl_lowest.f k (wrap64 (a0_0 * a1_0)) (wrap64 (a0_1 * a1_1))).bind fun bt440 => (some (bt440.1, bt440.2.1, bt440.2.2))) else (some (0, 0, false)))) = some (r1, r2, r3) := h
 clear h
 obtain ⟨y436, hy436⟩ : ∃ y_ : List (S53), y_ = (([(⟨a0_0, a0_1⟩ : S53), (⟨a1_0, a1_1⟩ : S53)] : List (S53))) := ⟨_, rfl⟩
 replace H : ((impl_areRats.f k y436).bind fun t439 => (if t439 = true then ((impl_lowest.f k (wrap64 (a0_0 * a1_0)) (wrap64 (a0_1 * a1_1))).bind fun bt440 => (some (bt440.1, bt440.2.1, bt440.2.2))) else (some (0, 0, false)))) = some (r1, r2, r3) := by first | (rw [hy436]; with_reducible exact H) | (have H2_ := (Option.bind_some _ _).symm.trans H; rw [hy436]; with_reducible exact H2_) | (have H2_ := (Option.bind_some _ _).symm.trans H; with_reducible exact H2_) | with_reducible exact H | (rw [hy436]; exact H) | exact H
 have Ny436 := Aside0.mk hy436
 clear hy436
 replace H := Option.bind_eq_some_iff.mp H
 obtain ⟨t439, A30, H⟩ := H
 replace H : (if t439 = true then ((impl_lowest.f k (wrap64 (a0_0 * a1_0)) (wrap64 (a0_1 * a1_1))).bind fun bt440 => (some (bt440.1, bt440.2.1, bt440.2.2))) else (some (0, 0, false))) = some (r1, r2, r3) := H
 have A3 := Aside0.mk A30
 clear A30
 by_cases c4 : t439 = true
 ·subst c4
  have H1 : ((impl_lowest.f k (wrap64 (a0_0 * a1_0)) (wrap64 (a0_1 * a1_1))).bind fun bt440 => (some (bt440.1, bt440.2.1, bt440.2.2))) = some (r1, r2, r3) := by rw [if_pos rfl] at H; exact H
  clear H
  have H := H1
  clear H1
  replace H := Option.bind_eq_some_iff.mp H
  obtain ⟨⟨t440, t441, t442⟩, A50, H⟩ := H
  replace H : (some (t440, t441, t442)) = some (r1, r2, r3) := H
  have A5 := Aside0.mk A50
  clear A50
  simp only [Option.some.injEq, Prod.mk.injEq] at H
  obtain ⟨rfl, rfl, rfl⟩ := H
  go_enter Try.func118, Try.ntmps118
  go_wp2_with (first | ((with_reducible refine gate_dst (N := 2) rfl ?_); refine bx 2 #[.int .i64 a0_0, .int .i64 a0_1] 53 ?_; intro gb433 hg w6 hbox hb; have BK433 := Aside0.mk (hbox); have GW433 := Aside0.mk (bz hg); have GE433 := GW433; replace HB := kh hb; clear hb hbox hg) | ((with_reducible refine gate_dst (N := 3) rfl ?_); refine bx 3 #[.int .i64 a1_0, .int .i64 a1_1] 53 ?_; intro gb434 hg w7 hbox hb; have BK434 := Aside0.mk (hbox); have GW434 := Aside0.mk (bz hg); have GE434 := GW434; have NB433_434 := Aside0.mk (bn gb433 hg); have NB434_433 := sy NB433_434; replace BK433 := kb BK433 hb; replace HB := kh hb; clear hb hbox hg) | ((with_reducible refine gate_dst (N := 4) rfl ?_); refine bx 4 #[.int .i64 0, .int .i64 0] 53 ?_; intro gb435 hg w8 hbox hb; have BK435 := Aside0.mk (hbox); have GW435 := Aside0.mk (bz hg); have GE435 := GW435; have NB433_435 := Aside0.mk (bn gb433 hg); have NB435_433 := sy NB433_435; have NB434_435 := Aside0.mk (bn gb434 hg); have NB435_434 := sy NB434_435; replace BK433 := kb BK433 hb; replace BK434 := kb BK434 hb; replace HB := kh hb; clear hb hbox hg; have hnb9 := NB433_434.out; have hnc9 := NB434_433.out; have hnb10 := NB433_435.out; have hnc10 := NB435_433.out; obtain ⟨hcz11_0, hcz11_1, hfz11_0, hfz11_1⟩ := b2 BK433; have hnb12 := NB434_435.out; have hnc12 := NB435_434.out; obtain ⟨hcz13_0, hcz13_1, hfz13_0, hfz13_1⟩ := b2 BK434) | ((with_reducible refine gate_dst (N := 8) rfl ?_); refine Kd.R_lit k53 _ 53 ?hg (N := 8) ?hd (xs := ([(⟨a0_0, a0_1⟩ : S53), (⟨a1_0, a1_1⟩ : S53)] : List (S53))) (inner := [.int .i64 a0_0, .int .i64 a0_1, .int .i64 a1_0, .int .i64 a1_1]) (ok := fun _ => True) (okp := fun _ => True) ?hr ?hp (fun _ hk => hk) trivial (Below.refl _ _) (Nat.le_refl _) (by simp) ?_; (case hd => rfl); (case hg => rfl); (case hr => first | (go_simp; done) | (go_simp; rfl)); (case hp => exact (Reps.c2 (show Kd.M k53 _ _ _ (⟨a0_0, a0_1⟩ : S53) [.int .i64 a0_0, .int .i64 a0_1] from (k53_mkM _ _ _ (⟨a0_0, a0_1⟩ : S53) )) (Reps.c2 (show Kd.M k53 _ _ _ (⟨a1_0, a1_1⟩ : S53) [.int .i64 a1_0, .int .i64 a1_1] from (k53_mkM _ _ _ (⟨a1_0, a1_1⟩ : S53) )) (Reps.none _ _)))); intro v437 w14 ho15 hb hg_ hnew_; clear hg_ hnew_; (first | rw [← Ny436.out] at ho15 | (simp only [Int.reduceToNat] at ho15; rw [← Ny436.out] at ho15)); have HO438 := Aside0.mk (Kd.R_lower (Kd.R_newB (Kd.R_newB (Kd.R_newB ho15 (g := gb433) (o := .cells #[.int .i64 a0_0, .int .i64 a0_1] 53 (0, 0)) (bo gb433)) (g := gb434) (o := .cells #[.int .i64 a1_0, .int .i64 a1_1] 53 (0, 0)) (bo gb434)) (g := gb435) (o := .cells #[.int .i64 0, .int .i64 0] 53 (0, 0)) (bo gb435)) (below_size bl)); replace BK433 := kb BK433 hb; replace BK434 := kb BK434 hb; replace BK435 := kb BK435 hb; replace HB := kh hb; clear hb ho15; obtain ⟨Ao16, co16, eo16⟩ := Kd.R_slice HO438.out; subst eo16) | ((with_reducible refine gate_callee (f := 129) rfl ?_); refine gl 9 Try.func129 #[.slice Ao16 y436.length co16] ?_; (with_reducible refine (impl_areRats.calls k _ _ y436 true _ ?side1 ?side2 A3.out).mono ?_); (case side1 => repeat (first | exact (Kd.R_reads' HO438.out).2.2 | (with_reducible refine Kd.C_alloc ?_ _) | (with_reducible refine Kd.C_drewN ?_ _) | (with_reducible refine Kd.C_drew ?_))); (case side2 => exact (Kd.R_reads' HO438.out).2.1); rintro e w17 ⟨rfl, hb⟩; refine ⟨_, rfl, ?_⟩; replace HO438 := Aside0.mk (Kd.R_below (by (with_reducible repeat (first | apply Kd.R_alloc | apply Kd.R_drewN | apply Kd.R_drew)); exact HO438.out) hb); replace BK433 := kb BK433 hb; replace BK434 := kb BK434 hb; replace BK435 := kb BK435 hb; replace HB := kh hb; (try clear hb); (try clear hb2); (try clear hk); (try clear hi); obtain ⟨hcz18_0, hcz18_1, hfz18_0, hfz18_1⟩ := b2 BK433; obtain ⟨hcz19_0, hcz19_1, hfz19_0, hfz19_1⟩ := b2 BK434) | ((with_reducible refine gate_callee (f := 130) rfl ?_); refine gl 22 Try.func130 #[.int .i64 (wrap64 (a0_0 * a1_0)), .int .i64 (wrap64 (a0_1 * a1_1))] ?_; (with_reducible refine (impl_lowest.calls k (wrap64 (a0_0 * a1_0)) (wrap64 (a0_1 * a1_1)) t440 t441 t442 _ A5.out).mono ?_); rintro e w20 ⟨rfl, hb⟩; refine ⟨_, rfl, ?_⟩; replace HO438 := Aside0.mk (Kd.R_below (by (with_reducible repeat (first | apply Kd.R_alloc | apply Kd.R_drewN | apply Kd.R_drew)); exact HO438.out) hb); replace BK433 := kb BK433 hb; replace BK434 := kb BK434 hb; replace BK435 := kb BK435 hb; replace HB := kh hb; (try clear hb); (try clear hb2); (try clear hk); (try clear hi); obtain ⟨hcz21_0, hcz21_1, hfz21_0, hfz21_1⟩ := b2 BK435))
  refine bodyPost_ret (results_ct rfl _ _ gb435 53 #[.int .i64 t440, .int .i64 t441] (0, 0) _ rfl (by (with_reducible repeat (first | refine blk_drewN ?_ _ | refine blk_drew ?_ | refine blk_alloc ?_ _)); refine blk_put (cs := #[.int .i64 t440, .int .i64 0]) ?_ 1 _ rfl; (with_reducible repeat (first | refine blk_drewN ?_ _ | refine blk_drew ?_ | refine blk_alloc ?_ _)); refine blk_put (cs := #[.int .i64 0, .int .i64 0]) ?_ 0 _ rfl; (with_reducible repeat (first | refine blk_drewN ?_ _ | refine blk_drew ?_ | refine blk_alloc ?_ _)); exact BK435.out) Try.underlying53 rfl (by kernel_rfl)) rfl ?_
  exact ⟨rt, bl⟩
 ·replace c4 := Bool.eq_false_iff.mpr c4
  subst c4
  have H1 : (some (0, 0, false)) = some (r1, r2, r3) := by rw [if_neg (show ¬ (false = true) by decide)] at H; exact H
  clear H
  have H := H1
  clear H1
  simp only [Option.some.injEq, Prod.mk.injEq] at H
  obtain ⟨rfl, rfl, rfl⟩ := H
  go_enter Try.func118, Try.ntmps118
  go_wp2_with (first | ((with_reducible refine gate_dst (N := 2) rfl ?_); refine bx 2 #[.int .i64 a0_0, .int .i64 a0_1] 53 ?_; intro gb433 hg w22 hbox hb; have BK433 := Aside0.mk (hbox); have GW433 := Aside0.mk (bz hg); have GE433 := GW433; replace HB := kh hb; clear hb hbox hg) | ((with_reducible refine gate_dst (N := 3) rfl ?_); refine bx 3 #[.int .i64 a1_0, .int .i64 a1_1] 53 ?_; intro gb434 hg w23 hbox hb; have BK434 := Aside0.mk (hbox); have GW434 := Aside0.mk (bz hg); have GE434 := GW434; have NB433_434 := Aside0.mk (bn gb433 hg); have NB434_433 := sy NB433_434; replace BK433 := kb BK433 hb; replace HB := kh hb; clear hb hbox hg) | ((with_reducible refine gate_dst (N := 4) rfl ?_); refine bx 4 #[.int .i64 0, .int .i64 0] 53 ?_; intro gb435 hg w24 hbox hb; have BK435 := Aside0.mk (hbox); have GW435 := Aside0.mk (bz hg); have GE435 := GW435; have NB433_435 := Aside0.mk (bn gb433 hg); have NB435_433 := sy NB433_435; have NB434_435 := Aside0.mk (bn gb434 hg); have NB435_434 := sy NB434_435; replace BK433 := kb BK433 hb; replace BK434 := kb BK434 hb; replace HB := kh hb; clear hb hbox hg; have hnb25 := NB433_434.out; have hnc25 := NB434_433.out; have hnb26 := NB433_435.out; have hnc26 := NB435_433.out; obtain ⟨hcz27_0, hcz27_1, hfz27_0, hfz27_1⟩ := b2 BK433; have hnb28 := NB434_435.out; have hnc28 := NB435_434.out; obtain ⟨hcz29_0, hcz29_1, hfz29_0, hfz29_1⟩ := b2 BK434) | ((with_reducible refine gate_dst (N := 8) rfl ?_); refine Kd.R_lit k53 _ 53 ?hg (N := 8) ?hd (xs := ([(⟨a0_0, a0_1⟩ : S53), (⟨a1_0, a1_1⟩ : S53)] : List (S53))) (inner := [.int .i64 a0_0, .int .i64 a0_1, .int .i64 a1_0, .int .i64 a1_1]) (ok := fun _ => True) (okp := fun _ => True) ?hr ?hp (fun _ hk => hk) trivial (Below.refl _ _) (Nat.le_refl _) (by simp) ?_; (case hd => rfl); (case hg => rfl); (case hr => first | (go_simp; done) | (go_simp; rfl)); (case hp => exact (Reps.c2 (show Kd.M k53 _ _ _ (⟨a0_0, a0_1⟩ : S53) [.int .i64 a0_0, .int .i64 a0_1] from (k53_mkM _ _ _ (⟨a0_0, a0_1⟩ : S53) )) (Reps.c2 (show Kd.M k53 _ _ _ (⟨a1_0, a1_1⟩ : S53) [.int .i64 a1_0, .int .i64 a1_1] from (k53_mkM _ _ _ (⟨a1_0, a1_1⟩ : S53) )) (Reps.none _ _)))); intro v437 w30 ho31 hb hg_ hnew_; clear hg_ hnew_; (first | rw [← Ny436.out] at ho31 | (simp only [Int.reduceToNat] at ho31; rw [← Ny436.out] at ho31)); have HO438 := Aside0.mk (Kd.R_lower (Kd.R_newB (Kd.R_newB (Kd.R_newB ho31 (g := gb433) (o := .cells #[.int .i64 a0_0, .int .i64 a0_1] 53 (0, 0)) (bo gb433)) (g := gb434) (o := .cells #[.int .i64 a1_0, .int .i64 a1_1] 53 (0, 0)) (bo gb434)) (g := gb435) (o := .cells #[.int .i64 0, .int .i64 0] 53 (0, 0)) (bo gb435)) (below_size bl)); replace BK433 := kb BK433 hb; replace BK434 := kb BK434 hb; replace BK435 := kb BK435 hb; replace HB := kh hb; clear hb ho31; obtain ⟨Ao32, co32, eo32⟩ := Kd.R_slice HO438.out; subst eo32) | ((with_reducible refine gate_callee (f := 129) rfl ?_); refine gl 9 Try.func129 #[.slice Ao32 y436.length co32] ?_; (with_reducible refine (impl_areRats.calls k _ _ y436 false _ ?side1 ?side2 A3.out).mono ?_); (case side1 => repeat (first | exact (Kd.R_reads' HO438.out).2.2 | (with_reducible refine Kd.C_alloc ?_ _) | (with_reducible refine Kd.C_drewN ?_ _) | (with_reducible refine Kd.C_drew ?_))); (case side2 => exact (Kd.R_reads' HO438.out).2.1); rintro e w33 ⟨rfl, hb⟩; refine ⟨_, rfl, ?_⟩; replace HO438 := Aside0.mk (Kd.R_below (by (with_reducible repeat (first | apply Kd.R_alloc | apply Kd.R_drewN | apply Kd.R_drew)); exact HO438.out) hb); replace BK433 := kb BK433 hb; replace BK434 := kb BK434 hb; replace BK435 := kb BK435 hb; replace HB := kh hb; (try clear hb); (try clear hb2); (try clear hk); (try clear hi); obtain ⟨hcz34_0, hcz34_1, hfz34_0, hfz34_1⟩ := b2 BK435))
  refine bodyPost_ret (results_ct rfl _ _ gb435 53 #[.int .i64 0, .int .i64 0] (0, 0) _ rfl (by (with_reducible repeat (first | refine blk_drewN ?_ _ | refine blk_drew ?_ | refine blk_alloc ?_ _)); refine blk_put (cs := #[.int .i64 0, .int .i64 0]) ?_ 1 _ rfl; (with_reducible repeat (first | refine blk_drewN ?_ _ | refine blk_drew ?_ | refine blk_alloc ?_ _)); refine blk_put (cs := #[.int .i64 0, .int .i64 0]) ?_ 0 _ rfl; (with_reducible repeat (first | refine blk_drewN ?_ _ | refine blk_drew ?_ | refine blk_alloc ?_ _)); exact BK435.out) Try.underlying53 rfl (by kernel_rfl)) rfl ?_
  exact ⟨rt, bl⟩

/-! ### impl_calc_mul: function 103 -/
def impl_calc_mul.f (k : Nat) (s0_0 : Bool) (a1_0 : Int) (a1_1 : Int) (a2_0 : Int) (a2_1 : Int) : Option (Int × Int × Bool) := (impl_MultiplyRats.f k a1_0 a1_1 a2_0 a2_1).bind fun bt446 => ((impl_calc_keep.f s0_0 bt446.1 bt446.2.1 bt446.2.2).bind fun bt449 => (some (bt449.1, bt449.2.1, bt449.2.2)))
set_option maxHeartbeats 8000000 in
set_option maxRecDepth 100000 in
theorem impl_calc_mul.calls (k : Nat) (g : Nat) (s0_0 : Bool) (a1_0 : Int) (a1_1 : Int) (a2_0 : Int) (a2_1 : Int) (r1 : Int) (r2 : Int) (r3 : Bool) (w0 w : World) (hI : IsS103 w0 w g s0_0) (hB : Below w0.heap.size w0 w) (h : impl_calc_mul.f k s0_0 a1_0 a1_1 a2_0 a2_1 = some (r1, r2, r3)) :
  Calls Try.prog 103 #[.pointer (some ⟨g, 0, none⟩), .agg #[.int .i64 a1_0, .int .i64 a1_1], .agg #[.int .i64 a2_0, .int .i64 a2_1]] w fun e w' => e = .returned (.agg #[.int .i64 r1, .int .i64 r2]) ∧ IsS103 w0 w' g r3 ∧ Below w0.heap.size w0 w' ∧ KeepBut w w' g none := by
 have hu53 := Try.underlying53
 have HI0 := Aside0.mk hI
 have HK := Aside0.mk (KeepBut.refl w g none)
 have HL := Aside0.mk hB.size
 clear hI
 have HW0 := Aside0.mk hB.size
 have HB := Aside0.mk hB
 clear hB
 have H : ((impl_MultiplyRats.f k a1_0 a1_1 a2_0 a2_1).bind fun bt446 => ((impl_calc_keep.f s0_0 bt446.1 bt446.2.1 bt446.2.2).bind fun bt449 => (some (bt449.1, bt449.2.1, bt449.2.2)))) = some (r1, r2, r3) := h
 clear h
 replace H := Option.bind_eq_some_iff.mp H
 obtain ⟨⟨t446, t447, t448⟩, A40, H⟩ := H
 replace H : ((impl_calc_keep.f s0_0 t446 t447 t448).bind fun bt449 => (some (bt449.1, bt449.2.1, bt449.2.2))) = some (r1, r2, r3) := H
 have A4 := Aside0.mk A40
 clear A40
 replace H := Option.bind_eq_some_iff.mp H
 obtain ⟨⟨t449, t450, t451⟩, A50, H⟩ := H
 replace H : (some (t449, t450, t451)) = some (r1, r2, r3) := H
 have A5 := Aside0.mk A50
 clear A50
 simp only [Option.some.injEq, Prod.mk.injEq] at H
 obtain ⟨rfl, rfl, rfl⟩ := H
 go_enter Try.func103, Try.ntmps103
 go_wp2_with (first | ((with_reducible refine gate_dst (N := 4) rfl ?_); refine bx 4 #[.int .i64 a1_0, .int .i64 a1_1] 53 ?_; intro gb443 hg w6 hbox hb; have BK443 := Aside0.mk (hbox); have GW443 := Aside0.mk ((by rw [hg]; exact (keep_size (w := w) (g := g) (row := none) (by repeat (first | (with_reducible first | exact HK.out | apply KeepBut.set_ | apply keep_drewN | apply keep_drew | apply keep_alloc) | exact HK.out))) : w.heap.size ≤ gb443)); have GE443 := Aside0.mk ((Nat.le_trans HW0.out GW443.out : w0.heap.size ≤ gb443)); have NB0_443 := Aside0.mk ((by rw [hg]; exact Nat.ne_of_lt (IsS103.lt (show IsS103 w0 _ g s0_0 from by repeat (first | (with_reducible first | exact HI0.out | apply IsS103.alloc | apply IsS103.drewN | apply IsS103.drew | apply IsS103.set_0) | exact HI0.out))) : g ≠ gb443)); have NB443_0 := sy NB0_443; replace HK := Aside0.mk (KeepBut.trans (by repeat (first | (with_reducible first | exact HK.out | apply KeepBut.set_ | apply keep_drewN | apply keep_drew | apply keep_alloc) | exact HK.out)) (KeepBut.of_below hb g none) (.inl rfl)); replace HB := Aside0.mk (below_step (by repeat (first | (with_reducible first | exact HB.out | apply below_alloc | apply pw_below_drewN | apply below_drew1 | refine below_set ?_ (IsS103.ge HI0.out)) | exact HB.out)) hb); replace HI0 := Aside0.mk (IsS103.below (by repeat (first | (with_reducible first | exact HI0.out | apply IsS103.alloc | apply IsS103.drewN | apply IsS103.drew | apply IsS103.set_0) | exact HI0.out)) hb); clear hb hbox hg) | ((with_reducible refine gate_dst (N := 5) rfl ?_); refine bx 5 #[.int .i64 a2_0, .int .i64 a2_1] 53 ?_; intro gb444 hg w7 hbox hb; have BK444 := Aside0.mk (hbox); have GW444 := Aside0.mk ((by rw [hg]; exact (keep_size (w := w) (g := g) (row := none) (by repeat (first | (with_reducible first | exact HK.out | apply KeepBut.set_ | apply keep_drewN | apply keep_drew | apply keep_alloc | refine keep_far ?_ GW443.out _) | exact HK.out))) : w.heap.size ≤ gb444)); have GE444 := Aside0.mk ((Nat.le_trans HW0.out GW444.out : w0.heap.size ≤ gb444)); have NB443_444 := Aside0.mk (bn gb443 hg); have NB444_443 := sy NB443_444; have NB0_444 := Aside0.mk ((by rw [hg]; exact Nat.ne_of_lt (IsS103.lt (show IsS103 w0 _ g s0_0 from by repeat (first | (with_reducible first | exact HI0.out | apply IsS103.alloc | apply IsS103.drewN | apply IsS103.drew | apply IsS103.set_0 | refine IsS103.far ?_ NB0_443.out _) | exact HI0.out))) : g ≠ gb444)); have NB444_0 := sy NB0_444; replace BK443 := kb BK443 hb; replace HK := Aside0.mk (KeepBut.trans (by repeat (first | (with_reducible first | exact HK.out | apply KeepBut.set_ | apply keep_drewN | apply keep_drew | apply keep_alloc | refine keep_far ?_ GW443.out _) | exact HK.out)) (KeepBut.of_below hb g none) (.inl rfl)); replace HB := Aside0.mk (below_step (by repeat (first | (with_reducible first | exact HB.out | apply below_alloc | apply pw_below_drewN | apply below_drew1 | refine below_set ?_ (IsS103.ge HI0.out) | refine below_set ?_ GE443.out) | exact HB.out)) hb); replace HI0 := Aside0.mk (IsS103.below (by repeat (first | (with_reducible first | exact HI0.out | apply IsS103.alloc | apply IsS103.drewN | apply IsS103.drew | apply IsS103.set_0 | refine IsS103.far ?_ NB0_443.out _) | exact HI0.out)) hb); clear hb hbox hg) | ((with_reducible refine gate_dst (N := 6) rfl ?_); refine bx 6 #[.int .i64 0, .int .i64 0] 53 ?_; intro gb445 hg w8 hbox hb; have BK445 := Aside0.mk (hbox); have GW445 := Aside0.mk ((by rw [hg]; exact (keep_size (w := w) (g := g) (row := none) (by repeat (first | (with_reducible first | exact HK.out | apply KeepBut.set_ | apply keep_drewN | apply keep_drew | apply keep_alloc | refine keep_far ?_ GW443.out _ | refine keep_far ?_ GW444.out _) | exact HK.out))) : w.heap.size ≤ gb445)); have GE445 := Aside0.mk ((Nat.le_trans HW0.out GW445.out : w0.heap.size ≤ gb445)); have NB443_445 := Aside0.mk (bn gb443 hg); have NB445_443 := sy NB443_445; have NB444_445 := Aside0.mk (bn gb444 hg); have NB445_444 := sy NB444_445; have NB0_445 := Aside0.mk ((by rw [hg]; exact Nat.ne_of_lt (IsS103.lt (show IsS103 w0 _ g s0_0 from by repeat (first | (with_reducible first | exact HI0.out | apply IsS103.alloc | apply IsS103.drewN | apply IsS103.drew | apply IsS103.set_0 | refine IsS103.far ?_ NB0_443.out _ | refine IsS103.far ?_ NB0_444.out _) | exact HI0.out))) : g ≠ gb445)); have NB445_0 := sy NB0_445; replace BK443 := kb BK443 hb; replace BK444 := kb BK444 hb; replace HK := Aside0.mk (KeepBut.trans (by repeat (first | (with_reducible first | exact HK.out | apply KeepBut.set_ | apply keep_drewN | apply keep_drew | apply keep_alloc | refine keep_far ?_ GW443.out _ | refine keep_far ?_ GW444.out _) | exact HK.out)) (KeepBut.of_below hb g none) (.inl rfl)); replace HB := Aside0.mk (below_step (by repeat (first | (with_reducible first | exact HB.out | apply below_alloc | apply pw_below_drewN | apply below_drew1 | refine below_set ?_ (IsS103.ge HI0.out) | refine below_set ?_ GE443.out | refine below_set ?_ GE444.out) | exact HB.out)) hb); replace HI0 := Aside0.mk (IsS103.below (by repeat (first | (with_reducible first | exact HI0.out | apply IsS103.alloc | apply IsS103.drewN | apply IsS103.drew | apply IsS103.set_0 | refine IsS103.far ?_ NB0_443.out _ | refine IsS103.far ?_ NB0_444.out _) | exact HI0.out)) hb); clear hb hbox hg; have hnb9 := NB443_444.out; have hnc9 := NB444_443.out; have hnb10 := NB443_445.out; have hnc10 := NB445_443.out; have hnb11 := NB443_0.out; have hnc11 := NB0_443.out; obtain ⟨hcz12_0, hcz12_1, hfz12_0, hfz12_1⟩ := b2 BK443; have hnb13 := NB444_445.out; have hnc13 := NB445_444.out; have hnb14 := NB444_0.out; have hnc14 := NB0_444.out; obtain ⟨hcz15_0, hcz15_1, hfz15_0, hfz15_1⟩ := b2 BK444) | ((with_reducible refine gate_callee (f := 118) rfl ?_); refine gl 10 Try.func118 #[.agg #[.int .i64 a1_0, .int .i64 a1_1], .agg #[.int .i64 a2_0, .int .i64 a2_1]] ?_; (with_reducible refine (impl_MultiplyRats.calls k a1_0 a1_1 a2_0 a2_1 t446 t447 t448 _ A4.out).mono ?_); rintro e w16 ⟨rfl, hb⟩; refine ⟨_, rfl, ?_⟩; replace BK443 := kb BK443 hb; replace BK444 := kb BK444 hb; replace BK445 := kb BK445 hb; replace HK := Aside0.mk (KeepBut.trans (by repeat (first | (with_reducible first | exact HK.out | apply KeepBut.set_ | apply keep_drewN | apply keep_drew | apply keep_alloc | refine keep_far ?_ GW443.out _ | refine keep_far ?_ GW444.out _ | refine keep_far ?_ GW445.out _) | exact HK.out)) (KeepBut.of_below hb g none) (.inl rfl)); replace HB := Aside0.mk (below_step (by repeat (first | (with_reducible first | exact HB.out | apply below_alloc | apply pw_below_drewN | apply below_drew1 | refine below_set ?_ (IsS103.ge HI0.out) | refine below_set ?_ GE443.out | refine below_set ?_ GE444.out | refine below_set ?_ GE445.out) | exact HB.out)) hb); replace HI0 := Aside0.mk (IsS103.below (by repeat (first | (with_reducible first | exact HI0.out | apply IsS103.alloc | apply IsS103.drewN | apply IsS103.drew | apply IsS103.set_0 | refine IsS103.far ?_ NB0_443.out _ | refine IsS103.far ?_ NB0_444.out _ | refine IsS103.far ?_ NB0_445.out _) | exact HI0.out)) hb); (try clear hb); (try clear hb2); (try clear hk); (try clear hi)) | ((with_reducible refine gate_callee (f := 117) rfl ?_); refine gl 13 Try.func117 #[.pointer (some ⟨g, 0, none⟩), .agg #[.int .i64 t446, .int .i64 t447], .bool t448] ?_; (with_reducible refine (impl_calc_keep.calls g s0_0 t446 t447 t448 t449 t450 t451 w0 _ ?side1 ?side2 A5.out).mono ?_); (case side1 => repeat (first | (with_reducible first | exact HI0.out | apply IsS103.alloc | apply IsS103.drewN | apply IsS103.drew | apply IsS103.set_0 | refine IsS103.far ?_ NB0_443.out _ | refine IsS103.far ?_ NB0_444.out _ | refine IsS103.far ?_ NB0_445.out _) | exact HI0.out)); (case side2 => repeat (first | (with_reducible first | exact HB.out | apply below_alloc | apply pw_below_drewN | apply below_drew1 | refine below_set ?_ (IsS103.ge HI0.out) | refine below_set ?_ GE443.out | refine below_set ?_ GE444.out | refine below_set ?_ GE445.out) | exact HB.out)); rintro e w17 ⟨rfl, hi, hb, hk⟩; refine ⟨_, rfl, ?_⟩; replace BK443 := Aside0.mk (KeepBut.blk hk (g' := gb443) (o := .cells #[.int .i64 a1_0, .int .i64 a1_1] 53 (0, 0)) (bo gb443) NB443_0.out (by simp)); replace BK444 := Aside0.mk (KeepBut.blk hk (g' := gb444) (o := .cells #[.int .i64 a2_0, .int .i64 a2_1] 53 (0, 0)) (bo gb444) NB444_0.out (by simp)); replace BK445 := Aside0.mk (KeepBut.blk hk (g' := gb445) (o := .cells #[.int .i64 0, .int .i64 0] 53 (0, 0)) (bo gb445) NB445_0.out (by simp)); replace HK := Aside0.mk (KeepBut.trans (by repeat (first | (with_reducible first | exact HK.out | apply KeepBut.set_ | apply keep_drewN | apply keep_drew | apply keep_alloc | refine keep_far ?_ GW443.out _ | refine keep_far ?_ GW444.out _ | refine keep_far ?_ GW445.out _) | exact HK.out)) hk (.inl rfl)); replace HB := Aside0.mk (hb); replace HI0 := Aside0.mk (hi); (try clear hb); (try clear hb2); (try clear hk); (try clear hi); have hnb18 := NB445_0.out; have hnc18 := NB0_445.out; obtain ⟨hcz19_0, hcz19_1, hfz19_0, hfz19_1⟩ := b2 BK445))
 refine bodyPost_ret (results_cell_row rfl _ _ gb445 53 #[.int .i64 t449, .int .i64 t450] (0, 0) _ rfl (by (with_reducible repeat (first | refine blk_drewN ?_ _ | refine blk_drew ?_ | refine blk_alloc ?_ _)); refine blk_put (cs := #[.int .i64 t449, .int .i64 0]) ?_ 1 _ rfl; (with_reducible repeat (first | refine blk_drewN ?_ _ | refine blk_drew ?_ | refine blk_alloc ?_ _)); refine blk_put (cs := #[.int .i64 0, .int .i64 0]) ?_ 0 _ rfl; (with_reducible repeat (first | refine blk_drewN ?_ _ | refine blk_drew ?_ | refine blk_alloc ?_ _)); exact BK445.out) Try.underlying53 rfl (by kernel_rfl)) rfl ?_
 exact ⟨rt, by repeat (first | (with_reducible first | exact HI0.out | apply IsS103.alloc | apply IsS103.drewN | apply IsS103.drew | apply IsS103.set_0 | refine IsS103.far ?_ NB0_443.out _ | refine IsS103.far ?_ NB0_444.out _ | refine IsS103.far ?_ NB0_445.out _) | exact HI0.out), by repeat (first | (with_reducible first | exact HB.out | apply below_alloc | apply pw_below_drewN | apply below_drew1 | refine below_set ?_ (IsS103.ge HI0.out) | refine below_set ?_ GE443.out | refine below_set ?_ GE444.out | refine below_set ?_ GE445.out) | exact HB.out), by repeat (first | (with_reducible first | exact HK.out | apply KeepBut.set_ | apply keep_drewN | apply keep_drew | apply keep_alloc | refine keep_far ?_ GW443.out _ | refine keep_far ?_ GW444.out _ | refine keep_far ?_ GW445.out _) | exact HK.out)⟩

/-! ### impl_calc_add: function 143 -/
def impl_calc_add.f (k : Nat) (s0_0 : Bool) (a1_0 : Int) (a1_1 : Int) (a2_0 : Int) (a2_1 : Int) : Option (Int × Int × Bool) := (impl_AddRats.f k a1_0 a1_1 a2_0 a2_1).bind fun bt455 => ((impl_calc_keep.f s0_0 bt455.1 bt455.2.1 bt455.2.2).bind fun bt458 => (some (bt458.1, bt458.2.1, bt458.2.2)))
set_option maxHeartbeats 8000000 in
set_option maxRecDepth 100000 in
theorem impl_calc_add.calls (k : Nat) (g : Nat) (s0_0 : Bool) (a1_0 : Int) (a1_1 : Int) (a2_0 : Int) (a2_1 : Int) (r1 : Int) (r2 : Int) (r3 : Bool) (w0 w : World) (hI : IsS103 w0 w g s0_0) (hB : Below w0.heap.size w0 w) (h : impl_calc_add.f k s0_0 a1_0 a1_1 a2_0 a2_1 = some (r1, r2, r3)) :
  Calls Try.prog 143 #[.pointer (some ⟨g, 0, none⟩), .agg #[.int .i64 a1_0, .int .i64 a1_1], .agg #[.int .i64 a2_0, .int .i64 a2_1]] w fun e w' => e = .returned (.agg #[.int .i64 r1, .int .i64 r2]) ∧ IsS103 w0 w' g r3 ∧ Below w0.heap.size w0 w' ∧ KeepBut w w' g none := by
 have hu53 := Try.underlying53
 have HI0 := Aside0.mk hI
 have HK := Aside0.mk (KeepBut.refl w g none)
 have HL := Aside0.mk hB.size
 clear hI
 have HW0 := Aside0.mk hB.size
 have HB := Aside0.mk hB
 clear hB
 have H : ((impl_AddRats.f k a1_0 a1_1 a2_0 a2_1).bind fun bt455 => ((impl_calc_keep.f s0_0 bt455.1 bt455.2.1 bt455.2.2).bind fun bt458 => (some (bt458.1, bt458.2.1, bt458.2.2)))) = some (r1, r2, r3) := h
 clear h
 replace H := Option.bind_eq_some_iff.mp H
 obtain ⟨⟨t455, t456, t457⟩, A40, H⟩ := H
 replace H : ((impl_calc_keep.f s0_0 t455 t456 t457).bind fun bt458 => (some (bt458.1, bt458.2.1, bt458.2.2))) = some (r1, r2, r3) := H
 have A4 := Aside0.mk A40
 clear A40
 replace H := Option.bind_eq_some_iff.mp H
 obtain ⟨⟨t458, t459, t460⟩, A50, H⟩ := H
 replace H : (some (t458, t459, t460)) = some (r1, r2, r3) := H
 have A5 := Aside0.mk A50
 clear A50
 simp only [Option.some.injEq, Prod.mk.injEq] at H
 obtain ⟨rfl, rfl, rfl⟩ := H
 go_enter Try.func143, Try.ntmps143
 go_wp2_with (first | ((with_reducible refine gate_dst (N := 4) rfl ?_); refine bx 4 #[.int .i64 a1_0, .int .i64 a1_1] 53 ?_; intro gb452 hg w6 hbox hb; have BK452 := Aside0.mk (hbox); have GW452 := Aside0.mk ((by rw [hg]; exact (keep_size (w := w) (g := g) (row := none) (by repeat (first | (with_reducible first | exact HK.out | apply KeepBut.set_ | apply keep_drewN | apply keep_drew | apply keep_alloc) | exact HK.out))) : w.heap.size ≤ gb452)); have GE452 := Aside0.mk ((Nat.le_trans HW0.out GW452.out : w0.heap.size ≤ gb452)); have NB0_452 := Aside0.mk ((by rw [hg]; exact Nat.ne_of_lt (IsS103.lt (show IsS103 w0 _ g s0_0 from by repeat (first | (with_reducible first | exact HI0.out | apply IsS103.alloc | apply IsS103.drewN | apply IsS103.drew | apply IsS103.set_0) | exact HI0.out))) : g ≠ gb452)); have NB452_0 := sy NB0_452; replace HK := Aside0.mk (KeepBut.trans (by repeat (first | (with_reducible first | exact HK.out | apply KeepBut.set_ | apply keep_drewN | apply keep_drew | apply keep_alloc) | exact HK.out)) (KeepBut.of_below hb g none) (.inl rfl)); replace HB := Aside0.mk (below_step (by repeat (first | (with_reducible first | exact HB.out | apply below_alloc | apply pw_below_drewN | apply below_drew1 | refine below_set ?_ (IsS103.ge HI0.out)) | exact HB.out)) hb); replace HI0 := Aside0.mk (IsS103.below (by repeat (first | (with_reducible first | exact HI0.out | apply IsS103.alloc | apply IsS103.drewN | apply IsS103.drew | apply IsS103.set_0) | exact HI0.out)) hb); clear hb hbox hg) | ((with_reducible refine gate_dst (N := 5) rfl ?_); refine bx 5 #[.int .i64 a2_0, .int .i64 a2_1] 53 ?_; intro gb453 hg w7 hbox hb; have BK453 := Aside0.mk (hbox); have GW453 := Aside0.mk ((by rw [hg]; exact (keep_size (w := w) (g := g) (row := none) (by repeat (first | (with_reducible first | exact HK.out | apply KeepBut.set_ | apply keep_drewN | apply keep_drew | apply keep_alloc | refine keep_far ?_ GW452.out _) | exact HK.out))) : w.heap.size ≤ gb453)); have GE453 := Aside0.mk ((Nat.le_trans HW0.out GW453.out : w0.heap.size ≤ gb453)); have NB452_453 := Aside0.mk (bn gb452 hg); have NB453_452 := sy NB452_453; have NB0_453 := Aside0.mk ((by rw [hg]; exact Nat.ne_of_lt (IsS103.lt (show IsS103 w0 _ g s0_0 from by repeat (first | (with_reducible first | exact HI0.out | apply IsS103.alloc | apply IsS103.drewN | apply IsS103.drew | apply IsS103.set_0 | refine IsS103.far ?_ NB0_452.out _) | exact HI0.out))) : g ≠ gb453)); have NB453_0 := sy NB0_453; replace BK452 := kb BK452 hb; replace HK := Aside0.mk (KeepBut.trans (by repeat (first | (with_reducible first | exact HK.out | apply KeepBut.set_ | apply keep_drewN | apply keep_drew | apply keep_alloc | refine keep_far ?_ GW452.out _) | exact HK.out)) (KeepBut.of_below hb g none) (.inl rfl)); replace HB := Aside0.mk (below_step (by repeat (first | (with_reducible first | exact HB.out | apply below_alloc | apply pw_below_drewN | apply below_drew1 | refine below_set ?_ (IsS103.ge HI0.out) | refine below_set ?_ GE452.out) | exact HB.out)) hb); replace HI0 := Aside0.mk (IsS103.below (by repeat (first | (with_reducible first | exact HI0.out | apply IsS103.alloc | apply IsS103.drewN | apply IsS103.drew | apply IsS103.set_0 | refine IsS103.far ?_ NB0_452.out _) | exact HI0.out)) hb); clear hb hbox hg) | ((with_reducible refine gate_dst (N := 6) rfl ?_); refine bx 6 #[.int .i64 0, .int .i64 0] 53 ?_; intro gb454 hg w8 hbox hb; have BK454 := Aside0.mk (hbox); have GW454 := Aside0.mk ((by rw [hg]; exact (keep_size (w := w) (g := g) (row := none) (by repeat (first | (with_reducible first | exact HK.out | apply KeepBut.set_ | apply keep_drewN | apply keep_drew | apply keep_alloc | refine keep_far ?_ GW452.out _ | refine keep_far ?_ GW453.out _) | exact HK.out))) : w.heap.size ≤ gb454)); have GE454 := Aside0.mk ((Nat.le_trans HW0.out GW454.out : w0.heap.size ≤ gb454)); have NB452_454 := Aside0.mk (bn gb452 hg); have NB454_452 := sy NB452_454; have NB453_454 := Aside0.mk (bn gb453 hg); have NB454_453 := sy NB453_454; have NB0_454 := Aside0.mk ((by rw [hg]; exact Nat.ne_of_lt (IsS103.lt (show IsS103 w0 _ g s0_0 from by repeat (first | (with_reducible first | exact HI0.out | apply IsS103.alloc | apply IsS103.drewN | apply IsS103.drew | apply IsS103.set_0 | refine IsS103.far ?_ NB0_452.out _ | refine IsS103.far ?_ NB0_453.out _) | exact HI0.out))) : g ≠ gb454)); have NB454_0 := sy NB0_454; replace BK452 := kb BK452 hb; replace BK453 := kb BK453 hb; replace HK := Aside0.mk (KeepBut.trans (by repeat (first | (with_reducible first | exact HK.out | apply KeepBut.set_ | apply keep_drewN | apply keep_drew | apply keep_alloc | refine keep_far ?_ GW452.out _ | refine keep_far ?_ GW453.out _) | exact HK.out)) (KeepBut.of_below hb g none) (.inl rfl)); replace HB := Aside0.mk (below_step (by repeat (first | (with_reducible first | exact HB.out | apply below_alloc | apply pw_below_drewN | apply below_drew1 | refine below_set ?_ (IsS103.ge HI0.out) | refine below_set ?_ GE452.out | refine below_set ?_ GE453.out) | exact HB.out)) hb); replace HI0 := Aside0.mk (IsS103.below (by repeat (first | (with_reducible first | exact HI0.out | apply IsS103.alloc | apply IsS103.drewN | apply IsS103.drew | apply IsS103.set_0 | refine IsS103.far ?_ NB0_452.out _ | refine IsS103.far ?_ NB0_453.out _) | exact HI0.out)) hb); clear hb hbox hg; have hnb9 := NB452_453.out; have hnc9 := NB453_452.out; have hnb10 := NB452_454.out; have hnc10 := NB454_452.out; have hnb11 := NB452_0.out; have hnc11 := NB0_452.out; obtain ⟨hcz12_0, hcz12_1, hfz12_0, hfz12_1⟩ := b2 BK452; have hnb13 := NB453_454.out; have hnc13 := NB454_453.out; have hnb14 := NB453_0.out; have hnc14 := NB0_453.out; obtain ⟨hcz15_0, hcz15_1, hfz15_0, hfz15_1⟩ := b2 BK453) | ((with_reducible refine gate_callee (f := 146) rfl ?_); refine gl 10 Try.func146 #[.agg #[.int .i64 a1_0, .int .i64 a1_1], .agg #[.int .i64 a2_0, .int .i64 a2_1]] ?_; (with_reducible refine (impl_AddRats.calls k a1_0 a1_1 a2_0 a2_1 t455 t456 t457 _ A4.out).mono ?_); rintro e w16 ⟨rfl, hb⟩; refine ⟨_, rfl, ?_⟩; replace BK452 := kb BK452 hb; replace BK453 := kb BK453 hb; replace BK454 := kb BK454 hb; replace HK := Aside0.mk (KeepBut.trans (by repeat (first | (with_reducible first | exact HK.out | apply KeepBut.set_ | apply keep_drewN | apply keep_drew | apply keep_alloc | refine keep_far ?_ GW452.out _ | refine keep_far ?_ GW453.out _ | refine keep_far ?_ GW454.out _) | exact HK.out)) (KeepBut.of_below hb g none) (.inl rfl)); replace HB := Aside0.mk (below_step (by repeat (first | (with_reducible first | exact HB.out | apply below_alloc | apply pw_below_drewN | apply below_drew1 | refine below_set ?_ (IsS103.ge HI0.out) | refine below_set ?_ GE452.out | refine below_set ?_ GE453.out | refine below_set ?_ GE454.out) | exact HB.out)) hb); replace HI0 := Aside0.mk (IsS103.below (by repeat (first | (with_reducible first | exact HI0.out | apply IsS103.alloc | apply IsS103.drewN | apply IsS103.drew | apply IsS103.set_0 | refine IsS103.far ?_ NB0_452.out _ | refine IsS103.far ?_ NB0_453.out _ | refine IsS103.far ?_ NB0_454.out _) | exact HI0.out)) hb); (try clear hb); (try clear hb2); (try clear hk); (try clear hi)) | ((with_reducible refine gate_callee (f := 117) rfl ?_); refine gl 13 Try.func117 #[.pointer (some ⟨g, 0, none⟩), .agg #[.int .i64 t455, .int .i64 t456], .bool t457] ?_; (with_reducible refine (impl_calc_keep.calls g s0_0 t455 t456 t457 t458 t459 t460 w0 _ ?side1 ?side2 A5.out).mono ?_); (case side1 => repeat (first | (with_reducible first | exact HI0.out | apply IsS103.alloc | apply IsS103.drewN | apply IsS103.drew | apply IsS103.set_0 | refine IsS103.far ?_ NB0_452.out _ | refine IsS103.far ?_ NB0_453.out _ | refine IsS103.far ?_ NB0_454.out _) | exact HI0.out)); (case side2 => repeat (first | (with_reducible first | exact HB.out | apply below_alloc | apply pw_below_drewN | apply below_drew1 | refine below_set ?_ (IsS103.ge HI0.out) | refine below_set ?_ GE452.out | refine below_set ?_ GE453.out | refine below_set ?_ GE454.out) | exact HB.out)); rintro e w17 ⟨rfl, hi, hb, hk⟩; refine ⟨_, rfl, ?_⟩; replace BK452 := Aside0.mk (KeepBut.blk hk (g' := gb452) (o := .cells #[.int .i64 a1_0, .int .i64 a1_1] 53 (0, 0)) (bo gb452) NB452_0.out (by simp)); replace BK453 := Aside0.mk (KeepBut.blk hk (g' := gb453) (o := .cells #[.int .i64 a2_0, .int .i64 a2_1] 53 (0, 0)) (bo gb453) NB453_0.out (by simp)); replace BK454 := Aside0.mk (KeepBut.blk hk (g' := gb454) (o := .cells #[.int .i64 0, .int .i64 0] 53 (0, 0)) (bo gb454) NB454_0.out (by simp)); replace HK := Aside0.mk (KeepBut.trans (by repeat (first | (with_reducible first | exact HK.out | apply KeepBut.set_ | apply keep_drewN | apply keep_drew | apply keep_alloc | refine keep_far ?_ GW452.out _ | refine keep_far ?_ GW453.out _ | refine keep_far ?_ GW454.out _) | exact HK.out)) hk (.inl rfl)); replace HB := Aside0.mk (hb); replace HI0 := Aside0.mk (hi); (try clear hb); (try clear hb2); (try clear hk); (try clear hi); have hnb18 := NB454_0.out; have hnc18 := NB0_454.out; obtain ⟨hcz19_0, hcz19_1, hfz19_0, hfz19_1⟩ := b2 BK454))
 refine bodyPost_ret (results_cell_row rfl _ _ gb454 53 #[.int .i64 t458, .int .i64 t459] (0, 0) _ rfl (by (with_reducible repeat (first | refine blk_drewN ?_ _ | refine blk_drew ?_ | refine blk_alloc ?_ _)); refine blk_put (cs := #[.int .i64 t458, .int .i64 0]) ?_ 1 _ rfl; (with_reducible repeat (first | refine blk_drewN ?_ _ | refine blk_drew ?_ | refine blk_alloc ?_ _)); refine blk_put (cs := #[.int .i64 0, .int .i64 0]) ?_ 0 _ rfl; (with_reducible repeat (first | refine blk_drewN ?_ _ | refine blk_drew ?_ | refine blk_alloc ?_ _)); exact BK454.out) Try.underlying53 rfl (by kernel_rfl)) rfl ?_
 exact ⟨rt, by repeat (first | (with_reducible first | exact HI0.out | apply IsS103.alloc | apply IsS103.drewN | apply IsS103.drew | apply IsS103.set_0 | refine IsS103.far ?_ NB0_452.out _ | refine IsS103.far ?_ NB0_453.out _ | refine IsS103.far ?_ NB0_454.out _) | exact HI0.out), by repeat (first | (with_reducible first | exact HB.out | apply below_alloc | apply pw_below_drewN | apply below_drew1 | refine below_set ?_ (IsS103.ge HI0.out) | refine below_set ?_ GE452.out | refine below_set ?_ GE453.out | refine below_set ?_ GE454.out) | exact HB.out), by repeat (first | (with_reducible first | exact HK.out | apply KeepBut.set_ | apply keep_drewN | apply keep_drew | apply keep_alloc | refine keep_far ?_ GW452.out _ | refine keep_far ?_ GW453.out _ | refine keep_far ?_ GW454.out _) | exact HK.out)⟩

end Go.Proofs.Ytannadjfkaghjaa.PFnExactIsRepelling
