-- Written by this session's program wip/pp (the kit's print tool with additions) 35421559b90ae4d0a3588c463048766b98c2df88dd9212a6774a882060cdf62d
import Derived.Test.YtmecnnnagallnaaPFnExactItineraryOfx0
import Derived.Test.YtmecnnnagallnaaPFnExactItineraryOfx14
namespace Go.Proofs.Ytmecnnnagallnaa.PFnExactItineraryOf
open Go.RowKit Go.Proofs.YtmecnnnagallnaaW.PrintWords Go.Proofs.YtmecnnnagallnaaW.PrintLast Go.Proofs.YtmecnnnagallnaaW.PrintMore
attribute [local go_sem] max2_int min2_int max_two min_two max_three min_three max_four min_four   -- for this text's walks alone
set_option linter.unusedVariables false
set_option linter.unusedSimpArgs false

/-! ### impl_SubtractRats: function 130 -/
def impl_SubtractRats.f (k : Nat) (a0_0 : Int) (a0_1 : Int) (a1_0 : Int) (a1_1 : Int) : Option (Int × Int × Bool) := (impl_negated.f a1_0 a1_1).bind fun bt384 => ((impl_AddRats.f k a0_0 a0_1 bt384.1 bt384.2).bind fun bt386 => (some (bt386.1, bt386.2.1, bt386.2.2)))
def impl_SubtractRats.T1 : Bool × List (List Nat × List Nat) := (true, [([], []), ([], []), ([1], [1]), ([0, 2, 2], [0, 2]), ([3], [3]), ([3], [3]), ([4, 3, 0, 1, 2, 3, 4, 5], [4]), ([5, 6, 0, 1, 2, 3, 4, 5, 6], [5])])
def impl_SubtractRats.B1 : List Nat := [0, 0, 2, 7, 15, 15, 63, 127]
theorem impl_SubtractRats.tab1 : rtab .any (opsOf Try.f130 1) = impl_SubtractRats.T1 := by kernel_rfl
theorem impl_SubtractRats.bits1 : waitsOk impl_SubtractRats.T1.2 impl_SubtractRats.B1 = true := by kernel_rfl
set_option maxHeartbeats 8000000 in
set_option maxRecDepth 100000 in
theorem impl_SubtractRats.calls (k : Nat) (a0_0 : Int) (a0_1 : Int) (a1_0 : Int) (a1_1 : Int) (r1 : Int) (r2 : Int) (r3 : Bool) (w : World) (h : impl_SubtractRats.f k a0_0 a0_1 a1_0 a1_1 = some (r1, r2, r3)) :
  Calls Try.prog 130 #[.agg #[.int .i64 a0_0, .int .i64 a0_1], .agg #[.int .i64 a1_0, .int .i64 a1_1]] w fun e w' => e = .returned (.tuple #[.agg #[.int .i64 r1, .int .i64 r2], .bool r3]) ∧ Below w.heap.size w w' := by
 have hu28 := Try.underlying28
 have HB := Aside0.mk (Below.refl w.heap.size w)
 have H : ((impl_negated.f a1_0 a1_1).bind fun bt384 => ((impl_AddRats.f k a0_0 a0_1 bt384.1 bt384.2).bind fun bt386 => (some (bt386.1, bt386.2.1, bt386.2.2)))) = some (r1, r2, r3) := h
 clear h
 replace H := Option.bind_eq_some_iff.mp H
 obtain ⟨⟨t384, t385⟩, A30, H⟩ := H
 replace H : ((impl_AddRats.f k a0_0 a0_1 t384 t385).bind fun bt386 => (some (bt386.1, bt386.2.1, bt386.2.2))) = some (r1, r2, r3) := H
 have A3 := Aside0.mk A30
 clear A30
 replace H := Option.bind_eq_some_iff.mp H
 obtain ⟨⟨t386, t387, t388⟩, A40, H⟩ := H
 replace H : (some (t386, t387, t388)) = some (r1, r2, r3) := H
 have A4 := Aside0.mk A40
 clear A40
 simp only [Option.some.injEq, Prod.mk.injEq] at H
 obtain ⟨rfl, rfl, rfl⟩ := H
 go_enter Try.func130, Try.ntmps130
 try go_wp2_with (first | ((with_reducible refine gate_dst (N := 2) rfl ?_); refine bx 2 #[.int .i64 a0_0, .int .i64 a0_1] 28 ?_; intro gb381 hg w5 hbox hb; have BK381 := Aside0.mk (hbox); have GW381 := Aside0.mk (bz hg); have GE381 := GW381; replace HB := kh hb; clear hb hbox hg) | ((with_reducible refine gate_dst (N := 3) rfl ?_); refine bx 3 #[.int .i64 a1_0, .int .i64 a1_1] 28 ?_; intro gb382 hg w6 hbox hb; have BK382 := Aside0.mk (hbox); have GW382 := Aside0.mk (bz hg); have GE382 := GW382; have NB381_382 := Aside0.mk (bn gb381 hg); have NB382_381 := sy NB381_382; replace BK381 := kb BK381 hb; replace HB := kh hb; clear hb hbox hg) | ((with_reducible refine gate_dst (N := 4) rfl ?_); refine bx 4 #[.int .i64 0, .int .i64 0] 28 ?_; intro gb383 hg w7 hbox hb; have BK383 := Aside0.mk (hbox); have GW383 := Aside0.mk (bz hg); have GE383 := GW383; have NB381_383 := Aside0.mk (bn gb381 hg); have NB383_381 := sy NB381_383; have NB382_383 := Aside0.mk (bn gb382 hg); have NB383_382 := sy NB382_383; replace BK381 := kb BK381 hb; replace BK382 := kb BK382 hb; replace HB := kh hb; clear hb hbox hg))
 replace BK381 := Aside0.mk (blk_drew BK381.out)
 replace BK382 := Aside0.mk (blk_drew BK382.out)
 replace BK383 := Aside0.mk (blk_drew BK383.out)
 replace HB := Aside0.mk (below_drew1 HB.out)
 refine start_ (n := 8) (S := fun w' => w'.cell? ⟨gb381, 0, none⟩ = some (.int .i64 a0_0) ∧ w'.cell? ⟨gb381, 1, none⟩ = some (.int .i64 a0_1) ∧ w'.cell? ⟨gb382, 0, none⟩ = some (.int .i64 a1_0) ∧ w'.cell? ⟨gb382, 1, none⟩ = some (.int .i64 a1_1)) (ds := []) (tb 0 8) (by kernel_rfl) rfl rfl ⟨(blk_cell BK381.out 0).trans rfl, (blk_cell BK381.out 1).trans rfl, (blk_cell BK382.out 0).trans rfl, (blk_cell BK382.out 1).trans rfl⟩ (fun hHeld => ?_); refine with_tabW impl_SubtractRats.tab1 impl_SubtractRats.bits1 (fun HT_ HW_ => ?_)
 generalize w7.drew = w8 at BK381 BK382 BK383 HB hHeld ⊢
 refine tk 0 6 (tb 1 7) (hy := by rintro w' ⟨s0, s1, s2, s3⟩; go_simp; with_reducible rfl) (h := ?_)
 refine tk 1 7 (tb 2 6) (hy := by rintro w' ⟨s0, s1, s2, s3⟩; go_simp; with_reducible rfl) (h := ?_)
 refine on 2 8 (tb 3 5) (fun K hK => ?_)
 refine gs Try.func141 #[.agg #[.int .i64 a1_0, .int .i64 a1_1]] ?_
 with_reducible refine (impl_negated.calls a1_0 a1_1 t384 t385 _ A3.out).mono ?_
 rintro e w9 ⟨rfl, hb⟩
 refine ⟨_, rfl, ?_⟩
 replace BK381 := kb BK381 hb
 replace BK382 := kb BK382 hb
 replace BK383 := kb BK383 hb
 replace HB := kh hb
 (try clear hb)
 (try clear hb2)
 (try clear hk)
 (try clear hi)
 refine hK.out _ _ ⟨(blk_cell BK381.out 0).trans rfl, (blk_cell BK381.out 1).trans rfl, (blk_cell BK382.out 0).trans rfl, (blk_cell BK382.out 1).trans rfl⟩ (fun hHeld => ?_)
 clear hK K
 refine nm 8 ?_
 refine on 3 9 (tb 4 4) (fun K hK => ?_)
 refine gs Try.func129 #[.agg #[.int .i64 a0_0, .int .i64 a0_1], .agg #[.int .i64 t384, .int .i64 t385]] ?_
 with_reducible refine (impl_AddRats.calls k a0_0 a0_1 t384 t385 t386 t387 t388 _ A4.out).mono ?_
 rintro e w10 ⟨rfl, hb⟩
 refine ⟨_, rfl, ?_⟩
 replace BK381 := kb BK381 hb
 replace BK382 := kb BK382 hb
 replace BK383 := kb BK383 hb
 replace HB := kh hb
 (try clear hb)
 (try clear hb2)
 (try clear hk)
 (try clear hi)
 refine hK.out _ _ ⟨(blk_cell BK381.out 0).trans rfl, (blk_cell BK381.out 1).trans rfl, (blk_cell BK382.out 0).trans rfl, (blk_cell BK382.out 1).trans rfl⟩ (fun hHeld => ?_)
 clear hK K
 refine nm 9 ?_
 refine pu 4 10 (tb 5 3) ?_
 refine pu 5 11 (tb 6 2) ?_
 refine one_ (i := 6) (N := none) (tb 7 1) rfl rfl (one_of HT_.out (by kernel_rfl)) (by decide) (fun K hK => ?_)
 have hs11 : w10.cell? ⟨gb383, 0, none⟩ = some (.int .i64 0) := (blk_cell BK383.out 0).trans rfl
 have hfs11 := blk_frozen BK383.out 0
 have hns11_0 := NB381_383.out
 have hns11_1 := NB382_383.out
 have hms11_0 := NB383_381.out
 have hms11_1 := NB383_382.out
 have hs12 : w10.cell? ⟨gb383, 1, none⟩ = some (.int .i64 0) := (blk_cell BK383.out 1).trans rfl
 have hfs12 := blk_frozen BK383.out 1
 have hns12_0 := NB381_383.out
 have hns12_1 := NB382_383.out
 have hms12_0 := NB383_381.out
 have hms12_1 := NB383_382.out
 refine skip_ (w1 := ?_) (by rfl) rfl ?_ ?_
 rotate_left
 ·go_simp
  rfl
 refine hK.out _ _ ⟨(by (iterate 2 refine (cell_far (p := ⟨gb383, _, none⟩) NB381_383.out _).trans ?_); exact hHeld.1), (by (iterate 2 refine (cell_far (p := ⟨gb383, _, none⟩) NB381_383.out _).trans ?_); exact hHeld.2.1), (by (iterate 2 refine (cell_far (p := ⟨gb383, _, none⟩) NB382_383.out _).trans ?_); exact hHeld.2.2.1), (by (iterate 2 refine (cell_far (p := ⟨gb383, _, none⟩) NB382_383.out _).trans ?_); exact hHeld.2.2.2)⟩ (fun hHeld => ?_)
 clear hK K
 refine pu 7 5 (tb 8 0) ?_
 refine done_ (done_of HT_.out (by kernel_rfl)) ?_
 try go_wp2
 refine bodyPost_ret (results_ct rfl _ _ gb383 28 #[.int .i64 t386, .int .i64 t387] (0, 0) _ rfl (by (with_reducible repeat (first | refine blk_drewN ?_ _ | refine blk_drew ?_ | refine blk_alloc ?_ _)); refine blk_put (cs := #[.int .i64 t386, .int .i64 0]) ?_ 1 _ rfl; (with_reducible repeat (first | refine blk_drewN ?_ _ | refine blk_drew ?_ | refine blk_alloc ?_ _)); refine blk_put (cs := #[.int .i64 0, .int .i64 0]) ?_ 0 _ rfl; (with_reducible repeat (first | refine blk_drewN ?_ _ | refine blk_drew ?_ | refine blk_alloc ?_ _)); exact BK383.out) Try.underlying28 rfl (by kernel_rfl)) rfl ?_
 exact ⟨rt, bl⟩

/-! ### impl_calc_sub: function 107 -/
def impl_calc_sub.f (k : Nat) (s0_0 : Bool) (a1_0 : Int) (a1_1 : Int) (a2_0 : Int) (a2_1 : Int) : Option (Int × Int × Bool) := (impl_SubtractRats.f k a1_0 a1_1 a2_0 a2_1).bind fun bt392 => ((impl_calc_keep.f s0_0 bt392.1 bt392.2.1 bt392.2.2).bind fun bt395 => (some (bt395.1, bt395.2.1, bt395.2.2)))
set_option maxHeartbeats 8000000 in
set_option maxRecDepth 100000 in
theorem impl_calc_sub.calls (k : Nat) (g : Nat) (s0_0 : Bool) (a1_0 : Int) (a1_1 : Int) (a2_0 : Int) (a2_1 : Int) (r1 : Int) (r2 : Int) (r3 : Bool) (w0 w : World) (hI : IsS78 w0 w g s0_0) (hB : Below w0.heap.size w0 w) (h : impl_calc_sub.f k s0_0 a1_0 a1_1 a2_0 a2_1 = some (r1, r2, r3)) :
  Calls Try.prog 107 #[.pointer (some ⟨g, 0, none⟩), .agg #[.int .i64 a1_0, .int .i64 a1_1], .agg #[.int .i64 a2_0, .int .i64 a2_1]] w fun e w' => e = .returned (.agg #[.int .i64 r1, .int .i64 r2]) ∧ IsS78 w0 w' g r3 ∧ Below w0.heap.size w0 w' ∧ KeepBut w w' g none := by
 have hu28 := Try.underlying28
 have HI0 := Aside0.mk hI
 have HK := Aside0.mk (KeepBut.refl w g none)
 have HL := Aside0.mk hB.size
 clear hI
 have HW0 := Aside0.mk hB.size
 have HB := Aside0.mk hB
 clear hB
 have H : ((impl_SubtractRats.f k a1_0 a1_1 a2_0 a2_1).bind fun bt392 => ((impl_calc_keep.f s0_0 bt392.1 bt392.2.1 bt392.2.2).bind fun bt395 => (some (bt395.1, bt395.2.1, bt395.2.2)))) = some (r1, r2, r3) := h
 clear h
 replace H := Option.bind_eq_some_iff.mp H
 obtain ⟨⟨t392, t393, t394⟩, A40, H⟩ := H
 replace H : ((impl_calc_keep.f s0_0 t392 t393 t394).bind fun bt395 => (some (bt395.1, bt395.2.1, bt395.2.2))) = some (r1, r2, r3) := H
 have A4 := Aside0.mk A40
 clear A40
 replace H := Option.bind_eq_some_iff.mp H
 obtain ⟨⟨t395, t396, t397⟩, A50, H⟩ := H
 replace H : (some (t395, t396, t397)) = some (r1, r2, r3) := H
 have A5 := Aside0.mk A50
 clear A50
 simp only [Option.some.injEq, Prod.mk.injEq] at H
 obtain ⟨rfl, rfl, rfl⟩ := H
 go_enter Try.func107, Try.ntmps107
 go_wp2_with (first | ((with_reducible refine gate_dst (N := 4) rfl ?_); refine bx 4 #[.int .i64 a1_0, .int .i64 a1_1] 28 ?_; intro gb389 hg w6 hbox hb; have BK389 := Aside0.mk (hbox); have GW389 := Aside0.mk ((by rw [hg]; exact (keep_size (w := w) (g := g) (row := none) (by repeat (first | (with_reducible first | exact HK.out | apply KeepBut.set_ | apply keep_drewN | apply keep_drew | apply keep_alloc) | exact HK.out))) : w.heap.size ≤ gb389)); have GE389 := Aside0.mk ((Nat.le_trans HW0.out GW389.out : w0.heap.size ≤ gb389)); have NB0_389 := Aside0.mk ((by rw [hg]; exact Nat.ne_of_lt (IsS78.lt (show IsS78 w0 _ g s0_0 from by repeat (first | (with_reducible first | exact HI0.out | apply IsS78.alloc | apply IsS78.drewN | apply IsS78.drew | apply IsS78.set_0) | exact HI0.out))) : g ≠ gb389)); have NB389_0 := sy NB0_389; replace HK := Aside0.mk (KeepBut.trans (by repeat (first | (with_reducible first | exact HK.out | apply KeepBut.set_ | apply keep_drewN | apply keep_drew | apply keep_alloc) | exact HK.out)) (KeepBut.of_below hb g none) (.inl rfl)); replace HB := Aside0.mk (below_step (by repeat (first | (with_reducible first | exact HB.out | apply below_alloc | apply pw_below_drewN | apply below_drew1 | refine below_set ?_ (IsS78.ge HI0.out)) | exact HB.out)) hb); replace HI0 := Aside0.mk (IsS78.below (by repeat (first | (with_reducible first | exact HI0.out | apply IsS78.alloc | apply IsS78.drewN | apply IsS78.drew | apply IsS78.set_0) | exact HI0.out)) hb); clear hb hbox hg) | ((with_reducible refine gate_dst (N := 5) rfl ?_); refine bx 5 #[.int .i64 a2_0, .int .i64 a2_1] 28 ?_; intro gb390 hg w7 hbox hb; have BK390 := Aside0.mk (hbox); have GW390 := Aside0.mk ((by rw [hg]; exact (keep_size (w := w) (g := g) (row := none) (by repeat (first | (with_reducible first | exact HK.out | apply KeepBut.set_ | apply keep_drewN | apply keep_drew | apply keep_alloc | refine keep_far ?_ GW389.out _) | exact HK.out))) : w.heap.size ≤ gb390)); have GE390 := Aside0.mk ((Nat.le_trans HW0.out GW390.out : w0.heap.size ≤ gb390)); have NB389_390 := Aside0.mk (bn gb389 hg); have NB390_389 := sy NB389_390; have NB0_390 := Aside0.mk ((by rw [hg]; exact Nat.ne_of_lt (IsS78.lt (show IsS78 w0 _ g s0_0 from by repeat (first | (with_reducible first | exact HI0.out | apply IsS78.alloc | apply IsS78.drewN | apply IsS78.drew | apply IsS78.set_0 | refine IsS78.far ?_ NB0_389.out _) | exact HI0.out))) : g ≠ gb390)); have NB390_0 := sy NB0_390; replace BK389 := kb BK389 hb; replace HK := Aside0.mk (KeepBut.trans (by repeat (first | (with_reducible first | exact HK.out | apply KeepBut.set_ | apply keep_drewN | apply keep_drew | apply keep_alloc | refine keep_far ?_ GW389.out _) | exact HK.out)) (KeepBut.of_below hb g none) (.inl rfl)); replace HB := Aside0.mk (below_step (by repeat (first | (with_reducible first | exact HB.out | apply below_alloc | apply pw_below_drewN | apply below_drew1 | refine below_set ?_ (IsS78.ge HI0.out) | refine below_set ?_ GE389.out) | exact HB.out)) hb); replace HI0 := Aside0.mk (IsS78.below (by repeat (first | (with_reducible first | exact HI0.out | apply IsS78.alloc | apply IsS78.drewN | apply IsS78.drew | apply IsS78.set_0 | refine IsS78.far ?_ NB0_389.out _) | exact HI0.out)) hb); clear hb hbox hg) | ((with_reducible refine gate_dst (N := 6) rfl ?_); refine bx 6 #[.int .i64 0, .int .i64 0] 28 ?_; intro gb391 hg w8 hbox hb; have BK391 := Aside0.mk (hbox); have GW391 := Aside0.mk ((by rw [hg]; exact (keep_size (w := w) (g := g) (row := none) (by repeat (first | (with_reducible first | exact HK.out | apply KeepBut.set_ | apply keep_drewN | apply keep_drew | apply keep_alloc | refine keep_far ?_ GW389.out _ | refine keep_far ?_ GW390.out _) | exact HK.out))) : w.heap.size ≤ gb391)); have GE391 := Aside0.mk ((Nat.le_trans HW0.out GW391.out : w0.heap.size ≤ gb391)); have NB389_391 := Aside0.mk (bn gb389 hg); have NB391_389 := sy NB389_391; have NB390_391 := Aside0.mk (bn gb390 hg); have NB391_390 := sy NB390_391; have NB0_391 := Aside0.mk ((by rw [hg]; exact Nat.ne_of_lt (IsS78.lt (show IsS78 w0 _ g s0_0 from by repeat (first | (with_reducible first | exact HI0.out | apply IsS78.alloc | apply IsS78.drewN | apply IsS78.drew | apply IsS78.set_0 | refine IsS78.far ?_ NB0_389.out _ | refine IsS78.far ?_ NB0_390.out _) | exact HI0.out))) : g ≠ gb391)); have NB391_0 := sy NB0_391; replace BK389 := kb BK389 hb; replace BK390 := kb BK390 hb; replace HK := Aside0.mk (KeepBut.trans (by repeat (first | (with_reducible first | exact HK.out | apply KeepBut.set_ | apply keep_drewN | apply keep_drew | apply keep_alloc | refine keep_far ?_ GW389.out _ | refine keep_far ?_ GW390.out _) | exact HK.out)) (KeepBut.of_below hb g none) (.inl rfl)); replace HB := Aside0.mk (below_step (by repeat (first | (with_reducible first | exact HB.out | apply below_alloc | apply pw_below_drewN | apply below_drew1 | refine below_set ?_ (IsS78.ge HI0.out) | refine below_set ?_ GE389.out | refine below_set ?_ GE390.out) | exact HB.out)) hb); replace HI0 := Aside0.mk (IsS78.below (by repeat (first | (with_reducible first | exact HI0.out | apply IsS78.alloc | apply IsS78.drewN | apply IsS78.drew | apply IsS78.set_0 | refine IsS78.far ?_ NB0_389.out _ | refine IsS78.far ?_ NB0_390.out _) | exact HI0.out)) hb); clear hb hbox hg; have hnb9 := NB389_390.out; have hnc9 := NB390_389.out; have hnb10 := NB389_391.out; have hnc10 := NB391_389.out; have hnb11 := NB389_0.out; have hnc11 := NB0_389.out; obtain ⟨hcz12_0, hcz12_1, hfz12_0, hfz12_1⟩ := b2 BK389; have hnb13 := NB390_391.out; have hnc13 := NB391_390.out; have hnb14 := NB390_0.out; have hnc14 := NB0_390.out; obtain ⟨hcz15_0, hcz15_1, hfz15_0, hfz15_1⟩ := b2 BK390) | ((with_reducible refine gate_callee (f := 130) rfl ?_); refine gl 10 Try.func130 #[.agg #[.int .i64 a1_0, .int .i64 a1_1], .agg #[.int .i64 a2_0, .int .i64 a2_1]] ?_; (with_reducible refine (impl_SubtractRats.calls k a1_0 a1_1 a2_0 a2_1 t392 t393 t394 _ A4.out).mono ?_); rintro e w16 ⟨rfl, hb⟩; refine ⟨_, rfl, ?_⟩; replace BK389 := kb BK389 hb; replace BK390 := kb BK390 hb; replace BK391 := kb BK391 hb; replace HK := Aside0.mk (KeepBut.trans (by repeat (first | (with_reducible first | exact HK.out | apply KeepBut.set_ | apply keep_drewN | apply keep_drew | apply keep_alloc | refine keep_far ?_ GW389.out _ | refine keep_far ?_ GW390.out _ | refine keep_far ?_ GW391.out _) | exact HK.out)) (KeepBut.of_below hb g none) (.inl rfl)); replace HB := Aside0.mk (below_step (by repeat (first | (with_reducible first | exact HB.out | apply below_alloc | apply pw_below_drewN | apply below_drew1 | refine below_set ?_ (IsS78.ge HI0.out) | refine below_set ?_ GE389.out | refine below_set ?_ GE390.out | refine below_set ?_ GE391.out) | exact HB.out)) hb); replace HI0 := Aside0.mk (IsS78.below (by repeat (first | (with_reducible first | exact HI0.out | apply IsS78.alloc | apply IsS78.drewN | apply IsS78.drew | apply IsS78.set_0 | refine IsS78.far ?_ NB0_389.out _ | refine IsS78.far ?_ NB0_390.out _ | refine IsS78.far ?_ NB0_391.out _) | exact HI0.out)) hb); (try clear hb); (try clear hb2); (try clear hk); (try clear hi)) | ((with_reducible refine gate_callee (f := 127) rfl ?_); refine gl 13 Try.func127 #[.pointer (some ⟨g, 0, none⟩), .agg #[.int .i64 t392, .int .i64 t393], .bool t394] ?_; (with_reducible refine (impl_calc_keep.calls g s0_0 t392 t393 t394 t395 t396 t397 w0 _ ?side1 ?side2 A5.out).mono ?_); (case side1 => repeat (first | (with_reducible first | exact HI0.out | apply IsS78.alloc | apply IsS78.drewN | apply IsS78.drew | apply IsS78.set_0 | refine IsS78.far ?_ NB0_389.out _ | refine IsS78.far ?_ NB0_390.out _ | refine IsS78.far ?_ NB0_391.out _) | exact HI0.out)); (case side2 => repeat (first | (with_reducible first | exact HB.out | apply below_alloc | apply pw_below_drewN | apply below_drew1 | refine below_set ?_ (IsS78.ge HI0.out) | refine below_set ?_ GE389.out | refine below_set ?_ GE390.out | refine below_set ?_ GE391.out) | exact HB.out)); rintro e w17 ⟨rfl, hi, hb, hk⟩; refine ⟨_, rfl, ?_⟩; replace BK389 := Aside0.mk (KeepBut.blk hk (g' := gb389) (o := .cells #[.int .i64 a1_0, .int .i64 a1_1] 28 (0, 0)) (bo gb389) NB389_0.out (by simp)); replace BK390 := Aside0.mk (KeepBut.blk hk (g' := gb390) (o := .cells #[.int .i64 a2_0, .int .i64 a2_1] 28 (0, 0)) (bo gb390) NB390_0.out (by simp)); replace BK391 := Aside0.mk (KeepBut.blk hk (g' := gb391) (o := .cells #[.int .i64 0, .int .i64 0] 28 (0, 0)) (bo gb391) NB391_0.out (by simp)); replace HK := Aside0.mk (KeepBut.trans (by repeat (first | (with_reducible first | exact HK.out | apply KeepBut.set_ | apply keep_drewN | apply keep_drew | apply keep_alloc | refine keep_far ?_ GW389.out _ | refine keep_far ?_ GW390.out _ | refine keep_far ?_ GW391.out _) | exact HK.out)) hk (.inl rfl)); replace HB := Aside0.mk (hb); replace HI0 := Aside0.mk (hi); (try clear hb); (try clear hb2); (try clear hk); (try clear hi); have hnb18 := NB391_0.out; have hnc18 := NB0_391.out; obtain ⟨hcz19_0, hcz19_1, hfz19_0, hfz19_1⟩ := b2 BK391))
 refine bodyPost_ret (results_cell_row rfl _ _ gb391 28 #[.int .i64 t395, .int .i64 t396] (0, 0) _ rfl (by (with_reducible repeat (first | refine blk_drewN ?_ _ | refine blk_drew ?_ | refine blk_alloc ?_ _)); refine blk_put (cs := #[.int .i64 t395, .int .i64 0]) ?_ 1 _ rfl; (with_reducible repeat (first | refine blk_drewN ?_ _ | refine blk_drew ?_ | refine blk_alloc ?_ _)); refine blk_put (cs := #[.int .i64 0, .int .i64 0]) ?_ 0 _ rfl; (with_reducible repeat (first | refine blk_drewN ?_ _ | refine blk_drew ?_ | refine blk_alloc ?_ _)); exact BK391.out) Try.underlying28 rfl (by kernel_rfl)) rfl ?_
 exact ⟨rt, by repeat (first | (with_reducible first | exact HI0.out | apply IsS78.alloc | apply IsS78.drewN | apply IsS78.drew | apply IsS78.set_0 | refine IsS78.far ?_ NB0_389.out _ | refine IsS78.far ?_ NB0_390.out _ | refine IsS78.far ?_ NB0_391.out _) | exact HI0.out), by repeat (first | (with_reducible first | exact HB.out | apply below_alloc | apply pw_below_drewN | apply below_drew1 | refine below_set ?_ (IsS78.ge HI0.out) | refine below_set ?_ GE389.out | refine below_set ?_ GE390.out | refine below_set ?_ GE391.out) | exact HB.out), by repeat (first | (with_reducible first | exact HK.out | apply KeepBut.set_ | apply keep_drewN | apply keep_drew | apply keep_alloc | refine keep_far ?_ GW389.out _ | refine keep_far ?_ GW390.out _ | refine keep_far ?_ GW391.out _) | exact HK.out)⟩

/-! ### impl_DivideRats: function 138 -/
def impl_DivideRats.f (k : Nat) (a0_0 : Int) (a0_1 : Int) (a1_0 : Int) (a1_1 : Int) : Option (Int × Int × Bool) := (impl_areRats.f k (([(⟨a0_0, a0_1⟩ : S28), (⟨a1_0, a1_1⟩ : S28)] : List (S28)))).bind fun t404 => (if t404 = true then (if a1_0 = 0 then (some (0, 0, false)) else ((impl_lowest.f k (wrap64 (a0_0 * a1_1)) (wrap64 (a0_1 * a1_0))).bind fun bt405 => (some (bt405.1, bt405.2.1, bt405.2.2)))) else (some (0, 0, false)))
set_option maxHeartbeats 8000000 in
set_option maxRecDepth 100000 in
theorem impl_DivideRats.calls (k : Nat) (a0_0 : Int) (a0_1 : Int) (a1_0 : Int) (a1_1 : Int) (r1 : Int) (r2 : Int) (r3 : Bool) (w : World) (h : impl_DivideRats.f k a0_0 a0_1 a1_0 a1_1 = some (r1, r2, r3)) :
  Calls Try.prog 138 #[.agg #[.int .i64 a0_0, .int .i64 a0_1], .agg #[.int .i64 a1_0, .int .i64 a1_1]] w fun e w' => e = .returned (.tuple #[.agg #[.int .i64 r1, .int .i64 r2], .bool r3]) ∧ Below w.heap.size w w' := by
 have hu28 := Try.underlying28
 have HB := Aside0.mk (Below.refl w.heap.size w)
 have H : ((impl_areRats.f k (([(⟨a0_0, a0_1⟩ : S28), (⟨a1_0, a1_1⟩ : S28)] : List (S28)))).bind fun t404 => (if t404 = true then (if a1_0 = 0 then (some (0, 0, false)) else ((impl_lowest.f k (wrap64 (a0_0 * a1_1)) (wrap64 (a0_1 * a1_0))).bind fun bt405 => (some (bt405.1, bt405.2.1, bt405.2.2)))) else (some (0, 0, false)))) = some (r1, r2, r3) := h
 clear h
 obtain ⟨y401, hy401⟩ : ∃ y_ : List (S28), y_ = (([(⟨a0_0, a0_1⟩ : S28), (⟨a1_0, a1_1⟩ : S28)] : List (S28))) := ⟨_, rfl⟩
 replace H : ((impl_areRats.f k y401).bind fun t404 => (if t404 = true then (if a1_0 = 0 then (some (0, 0, false)) else ((impl_lowest.f k (wrap64 (a0_0 * a1_1)) (wrap64 (a0_1 * a1_0))).bind fun bt405 => (some (bt405.1, bt405.2.1, bt405.2.2)))) else (some (0, 0, false)))) = some (r1, r2, r3) := by first | (rw [hy401]; with_reducible exact H) | (have H2_ := (Option.bind_some _ _).symm.trans H; rw [hy401]; with_reducible exact H2_) | (have H2_ := (Option.bind_some _ _).symm.trans H; with_reducible exact H2_) | with_reducible exact H | (rw [hy401]; exact H) | exact H
 have Ny401 := Aside0.mk hy401
 clear hy401
 replace H := Option.bind_eq_some_iff.mp H
 obtain ⟨t404, A30, H⟩ := H
 replace H : (if t404 = true then (if a1_0 = 0 then (some (0, 0, false)) else ((impl_lowest.f k (wrap64 (a0_0 * a1_1)) (wrap64 (a0_1 * a1_0))).bind fun bt405 => (some (bt405.1, bt405.2.1, bt405.2.2)))) else (some (0, 0, false))) = some (r1, r2, r3) := H
 have A3 := Aside0.mk A30
 clear A30
 by_cases c4 : t404 = true
 ·subst c4
  have H1 : (if a1_0 = 0 then (some (0, 0, false)) else ((impl_lowest.f k (wrap64 (a0_0 * a1_1)) (wrap64 (a0_1 * a1_0))).bind fun bt405 => (some (bt405.1, bt405.2.1, bt405.2.2)))) = some (r1, r2, r3) := by rw [if_pos rfl] at H; exact H
  clear H
  have H := H1
  clear H1
  by_cases c5 : a1_0 = 0
  ·rw [if_pos c5] at H
   have c5b0 : (a1_0 == 0) = true := beq_iff_eq.mpr c5
   have c5b1 : (a1_0 != 0) = false := bne_eq_false_iff_eq.mpr c5
   clear c5
   simp only [Option.some.injEq, Prod.mk.injEq] at H
   obtain ⟨rfl, rfl, rfl⟩ := H
   go_enter Try.func138, Try.ntmps138
   go_wp2_with (first | ((with_reducible refine gate_dst (N := 2) rfl ?_); refine bx 2 #[.int .i64 a0_0, .int .i64 a0_1] 28 ?_; intro gb398 hg w6 hbox hb; have BK398 := Aside0.mk (hbox); have GW398 := Aside0.mk (bz hg); have GE398 := GW398; replace HB := kh hb; clear hb hbox hg) | ((with_reducible refine gate_dst (N := 3) rfl ?_); refine bx 3 #[.int .i64 a1_0, .int .i64 a1_1] 28 ?_; intro gb399 hg w7 hbox hb; have BK399 := Aside0.mk (hbox); have GW399 := Aside0.mk (bz hg); have GE399 := GW399; have NB398_399 := Aside0.mk (bn gb398 hg); have NB399_398 := sy NB398_399; replace BK398 := kb BK398 hb; replace HB := kh hb; clear hb hbox hg) | ((with_reducible refine gate_dst (N := 4) rfl ?_); refine bx 4 #[.int .i64 0, .int .i64 0] 28 ?_; intro gb400 hg w8 hbox hb; have BK400 := Aside0.mk (hbox); have GW400 := Aside0.mk (bz hg); have GE400 := GW400; have NB398_400 := Aside0.mk (bn gb398 hg); have NB400_398 := sy NB398_400; have NB399_400 := Aside0.mk (bn gb399 hg); have NB400_399 := sy NB399_400; replace BK398 := kb BK398 hb; replace BK399 := kb BK399 hb; replace HB := kh hb; clear hb hbox hg; have hnb9 := NB398_399.out; have hnc9 := NB399_398.out; have hnb10 := NB398_400.out; have hnc10 := NB400_398.out; obtain ⟨hcz11_0, hcz11_1, hfz11_0, hfz11_1⟩ := b2 BK398; have hnb12 := NB399_400.out; have hnc12 := NB400_399.out; obtain ⟨hcz13_0, hcz13_1, hfz13_0, hfz13_1⟩ := b2 BK399) | ((with_reducible refine gate_dst (N := 8) rfl ?_); refine Kd.R_lit k28 _ 28 ?hg (N := 8) ?hd (xs := ([(⟨a0_0, a0_1⟩ : S28), (⟨a1_0, a1_1⟩ : S28)] : List (S28))) (inner := [.int .i64 a0_0, .int .i64 a0_1, .int .i64 a1_0, .int .i64 a1_1]) (ok := fun _ => True) (okp := fun _ => True) ?hr ?hp (fun _ hk => hk) trivial (Below.refl _ _) (Nat.le_refl _) (by simp) ?_; (case hd => rfl); (case hg => rfl); (case hr => first | (go_simp; done) | (go_simp; rfl)); (case hp => exact (Reps.c2 (show Kd.M k28 _ _ _ (⟨a0_0, a0_1⟩ : S28) [.int .i64 a0_0, .int .i64 a0_1] from (k28_mkM _ _ _ (⟨a0_0, a0_1⟩ : S28) )) (Reps.c2 (show Kd.M k28 _ _ _ (⟨a1_0, a1_1⟩ : S28) [.int .i64 a1_0, .int .i64 a1_1] from (k28_mkM _ _ _ (⟨a1_0, a1_1⟩ : S28) )) (Reps.none _ _)))); intro v402 w14 ho15 hb hg_ hnew_; clear hg_ hnew_; (first | rw [← Ny401.out] at ho15 | (simp only [Int.reduceToNat] at ho15; rw [← Ny401.out] at ho15)); have HO403 := Aside0.mk (Kd.R_lower (Kd.R_newB (Kd.R_newB (Kd.R_newB ho15 (g := gb398) (o := .cells #[.int .i64 a0_0, .int .i64 a0_1] 28 (0, 0)) (bo gb398)) (g := gb399) (o := .cells #[.int .i64 a1_0, .int .i64 a1_1] 28 (0, 0)) (bo gb399)) (g := gb400) (o := .cells #[.int .i64 0, .int .i64 0] 28 (0, 0)) (bo gb400)) (below_size bl)); replace BK398 := kb BK398 hb; replace BK399 := kb BK399 hb; replace BK400 := kb BK400 hb; replace HB := kh hb; clear hb ho15; obtain ⟨Ao16, co16, eo16⟩ := Kd.R_slice HO403.out; subst eo16) | ((with_reducible refine gate_callee (f := 139) rfl ?_); refine gl 9 Try.func139 #[.slice Ao16 y401.length co16] ?_; (with_reducible refine (impl_areRats.calls k _ _ y401 true _ ?side1 ?side2 A3.out).mono ?_); (case side1 => repeat (first | exact (Kd.R_reads' HO403.out).2.2 | (with_reducible refine Kd.C_alloc ?_ _) | (with_reducible refine Kd.C_drewN ?_ _) | (with_reducible refine Kd.C_drew ?_))); (case side2 => exact (Kd.R_reads' HO403.out).2.1); rintro e w17 ⟨rfl, hb⟩; refine ⟨_, rfl, ?_⟩; replace HO403 := Aside0.mk (Kd.R_below (by (with_reducible repeat (first | apply Kd.R_alloc | apply Kd.R_drewN | apply Kd.R_drew)); exact HO403.out) hb); replace BK398 := kb BK398 hb; replace BK399 := kb BK399 hb; replace BK400 := kb BK400 hb; replace HB := kh hb; (try clear hb); (try clear hb2); (try clear hk); (try clear hi); obtain ⟨hcz18_0, hcz18_1, hfz18_0, hfz18_1⟩ := b2 BK399; obtain ⟨hcz19_0, hcz19_1, hfz19_0, hfz19_1⟩ := b2 BK400))
   refine bodyPost_ret (results_ct rfl _ _ gb400 28 #[.int .i64 0, .int .i64 0] (0, 0) _ rfl (by (with_reducible repeat (first | refine blk_drewN ?_ _ | refine blk_drew ?_ | refine blk_alloc ?_ _)); refine blk_put (cs := #[.int .i64 0, .int .i64 0]) ?_ 1 _ rfl; (with_reducible repeat (first | refine blk_drewN ?_ _ | refine blk_drew ?_ | refine blk_alloc ?_ _)); refine blk_put (cs := #[.int .i64 0, .int .i64 0]) ?_ 0 _ rfl; (with_reducible repeat (first | refine blk_drewN ?_ _ | refine blk_drew ?_ | refine blk_alloc ?_ _)); exact BK400.out) Try.underlying28 rfl (by kernel_rfl)) rfl ?_
   exact ⟨rt, bl⟩
  ·rw [if_neg c5] at H
   have c5b0 : (a1_0 == 0) = false := beq_eq_false_iff_ne.mpr c5
   have c5b1 : (a1_0 != 0) = true := bne_iff_ne.mpr c5
   replace H := Option.bind_eq_some_iff.mp H
   obtain ⟨⟨t405, t406, t407⟩, A200, H⟩ := H
   replace H : (some (t405, t406, t407)) = some (r1, r2, r3) := H
   have A20 := Aside0.mk A200
   clear A200
   simp only [Option.some.injEq, Prod.mk.injEq] at H
   obtain ⟨rfl, rfl, rfl⟩ := H
   go_enter Try.func138, Try.ntmps138
   go_wp2_with (first | ((with_reducible refine gate_dst (N := 2) rfl ?_); refine bx 2 #[.int .i64 a0_0, .int .i64 a0_1] 28 ?_; intro gb398 hg w21 hbox hb; have BK398 := Aside0.mk (hbox); have GW398 := Aside0.mk (bz hg); have GE398 := GW398; replace HB := kh hb; clear hb hbox hg) | ((with_reducible refine gate_dst (N := 3) rfl ?_); refine bx 3 #[.int .i64 a1_0, .int .i64 a1_1] 28 ?_; intro gb399 hg w22 hbox hb; have BK399 := Aside0.mk (hbox); have GW399 := Aside0.mk (bz hg); have GE399 := GW399; have NB398_399 := Aside0.mk (bn gb398 hg); have NB399_398 := sy NB398_399; replace BK398 := kb BK398 hb; replace HB := kh hb; clear hb hbox hg) | ((with_reducible refine gate_dst (N := 4) rfl ?_); refine bx 4 #[.int .i64 0, .int .i64 0] 28 ?_; intro gb400 hg w23 hbox hb; have BK400 := Aside0.mk (hbox); have GW400 := Aside0.mk (bz hg); have GE400 := GW400; have NB398_400 := Aside0.mk (bn gb398 hg); have NB400_398 := sy NB398_400; have NB399_400 := Aside0.mk (bn gb399 hg); have NB400_399 := sy NB399_400; replace BK398 := kb BK398 hb; replace BK399 := kb BK399 hb; replace HB := kh hb; clear hb hbox hg; have hnb24 := NB398_399.out; have hnc24 := NB399_398.out; have hnb25 := NB398_400.out; have hnc25 := NB400_398.out; obtain ⟨hcz26_0, hcz26_1, hfz26_0, hfz26_1⟩ := b2 BK398; have hnb27 := NB399_400.out; have hnc27 := NB400_399.out; obtain ⟨hcz28_0, hcz28_1, hfz28_0, hfz28_1⟩ := b2 BK399) | ((with_reducible refine gate_dst (N := 8) rfl ?_); refine Kd.R_lit k28 _ 28 ?hg (N := 8) ?hd (xs := ([(⟨a0_0, a0_1⟩ : S28), (⟨a1_0, a1_1⟩ : S28)] : List (S28))) (inner := [.int .i64 a0_0, .int .i64 a0_1, .int .i64 a1_0, .int .i64 a1_1]) (ok := fun _ => True) (okp := fun _ => True) ?hr ?hp (fun _ hk => hk) trivial (Below.refl _ _) (Nat.le_refl _) (by simp) ?_; (case hd => rfl); (case hg => rfl); (case hr => first | (go_simp; done) | (go_simp; rfl)); (case hp => exact (Reps.c2 (show Kd.M k28 _ _ _ (⟨a0_0, a0_1⟩ : S28) [.int .i64 a0_0, .int .i64 a0_1] from (k28_mkM _ _ _ (⟨a0_0, a0_1⟩ : S28) )) (Reps.c2 (show Kd.M k28 _ _ _ (⟨a1_0, a1_1⟩ : S28) [.int .i64 a1_0, .int .i64 a1_1] from (k28_mkM _ _ _ (⟨a1_0, a1_1⟩ : S28) )) (Reps.none _ _)))); intro v402 w29 ho30 hb hg_ hnew_; clear hg_ hnew_; (first | rw [← Ny401.out] at ho30 | (simp only [Int.reduceToNat] at ho30; rw [← Ny401.out] at ho30)); have HO403 := Aside0.mk (Kd.R_lower (Kd.R_newB (Kd.R_newB (Kd.R_newB ho30 (g := gb398) (o := .cells #[.int .i64 a0_0, .int .i64 a0_1] 28 (0, 0)) (bo gb398)) (g := gb399) (o := .cells #[.int .i64 a1_0, .int .i64 a1_1] 28 (0, 0)) (bo gb399)) (g := gb400) (o := .cells #[.int .i64 0, .int .i64 0] 28 (0, 0)) (bo gb400)) (below_size bl)); replace BK398 := kb BK398 hb; replace BK399 := kb BK399 hb; replace BK400 := kb BK400 hb; replace HB := kh hb; clear hb ho30; obtain ⟨Ao31, co31, eo31⟩ := Kd.R_slice HO403.out; subst eo31) | ((with_reducible refine gate_callee (f := 139) rfl ?_); refine gl 9 Try.func139 #[.slice Ao31 y401.length co31] ?_; (with_reducible refine (impl_areRats.calls k _ _ y401 true _ ?side1 ?side2 A3.out).mono ?_); (case side1 => repeat (first | exact (Kd.R_reads' HO403.out).2.2 | (with_reducible refine Kd.C_alloc ?_ _) | (with_reducible refine Kd.C_drewN ?_ _) | (with_reducible refine Kd.C_drew ?_))); (case side2 => exact (Kd.R_reads' HO403.out).2.1); rintro e w32 ⟨rfl, hb⟩; refine ⟨_, rfl, ?_⟩; replace HO403 := Aside0.mk (Kd.R_below (by (with_reducible repeat (first | apply Kd.R_alloc | apply Kd.R_drewN | apply Kd.R_drew)); exact HO403.out) hb); replace BK398 := kb BK398 hb; replace BK399 := kb BK399 hb; replace BK400 := kb BK400 hb; replace HB := kh hb; (try clear hb); (try clear hb2); (try clear hk); (try clear hi); obtain ⟨hcz33_0, hcz33_1, hfz33_0, hfz33_1⟩ := b2 BK399; obtain ⟨hcz34_0, hcz34_1, hfz34_0, hfz34_1⟩ := b2 BK398) | ((with_reducible refine gate_callee (f := 140) rfl ?_); refine gl 27 Try.func140 #[.int .i64 (wrap64 (a0_0 * a1_1)), .int .i64 (wrap64 (a0_1 * a1_0))] ?_; (with_reducible refine (impl_lowest.calls k (wrap64 (a0_0 * a1_1)) (wrap64 (a0_1 * a1_0)) t405 t406 t407 _ A20.out).mono ?_); rintro e w35 ⟨rfl, hb⟩; refine ⟨_, rfl, ?_⟩; replace HO403 := Aside0.mk (Kd.R_below (by (with_reducible repeat (first | apply Kd.R_alloc | apply Kd.R_drewN | apply Kd.R_drew)); exact HO403.out) hb); replace BK398 := kb BK398 hb; replace BK399 := kb BK399 hb; replace BK400 := kb BK400 hb; replace HB := kh hb; (try clear hb); (try clear hb2); (try clear hk); (try clear hi); obtain ⟨hcz36_0, hcz36_1, hfz36_0, hfz36_1⟩ := b2 BK400))
   refine bodyPost_ret (results_ct rfl _ _ gb400 28 #[.int .i64 t405, .int .i64 t406] (0, 0) _ rfl (by (with_reducible repeat (first | refine blk_drewN ?_ _ | refine blk_drew ?_ | refine blk_alloc ?_ _)); refine blk_put (cs := #[.int .i64 t405, .int .i64 0]) ?_ 1 _ rfl; (with_reducible repeat (first | refine blk_drewN ?_ _ | refine blk_drew ?_ | refine blk_alloc ?_ _)); refine blk_put (cs := #[.int .i64 0, .int .i64 0]) ?_ 0 _ rfl; (with_reducible repeat (first | refine blk_drewN ?_ _ | refine blk_drew ?_ | refine blk_alloc ?_ _)); exact BK400.out) Try.underlying28 rfl (by kernel_rfl)) rfl ?_
   exact ⟨rt, bl⟩
 ·replace c4 := Bool.eq_false_iff.mpr c4
  subst c4
  have H1 : (some (0, 0, false)) = some (r1, r2, r3) := by rw [if_neg (show ¬ (false = true) by decide)] at H; exact H
  clear H
  have H := H1
  clear H1
  simp only [Option.some.injEq, Prod.mk.injEq] at H
  obtain ⟨rfl, rfl, rfl⟩ := H
  go_enter Try.func138, Try.ntmps138
  go_wp2_with (first | ((with_reducible refine gate_dst (N := 2) rfl ?_); refine bx 2 #[.int .i64 a0_0, .int .i64 a0_1] 28 ?_; intro gb398 hg w37 hbox hb; have BK398 := Aside0.mk (hbox); have GW398 := Aside0.mk (bz hg); have GE398 := GW398; replace HB := kh hb; clear hb hbox hg) | ((with_reducible refine gate_dst (N := 3) rfl ?_); refine bx 3 #[.int .i64 a1_0, .int .i64 a1_1] 28 ?_; intro gb399 hg w38 hbox hb; have BK399 := Aside0.mk (hbox); have GW399 := Aside0.mk (bz hg); have GE399 := GW399; have NB398_399 := Aside0.mk (bn gb398 hg); have NB399_398 := sy NB398_399; replace BK398 := kb BK398 hb; replace HB := kh hb; clear hb hbox hg) | ((with_reducible refine gate_dst (N := 4) rfl ?_); refine bx 4 #[.int .i64 0, .int .i64 0] 28 ?_; intro gb400 hg w39 hbox hb; have BK400 := Aside0.mk (hbox); have GW400 := Aside0.mk (bz hg); have GE400 := GW400; have NB398_400 := Aside0.mk (bn gb398 hg); have NB400_398 := sy NB398_400; have NB399_400 := Aside0.mk (bn gb399 hg); have NB400_399 := sy NB399_400; replace BK398 := kb BK398 hb; replace BK399 := kb BK399 hb; replace HB := kh hb; clear hb hbox hg; have hnb40 := NB398_399.out; have hnc40 := NB399_398.out; have hnb41 := NB398_400.out; have hnc41 := NB400_398.out; obtain ⟨hcz42_0, hcz42_1, hfz42_0, hfz42_1⟩ := b2 BK398; have hnb43 := NB399_400.out; have hnc43 := NB400_399.out; obtain ⟨hcz44_0, hcz44_1, hfz44_0, hfz44_1⟩ := b2 BK399) | ((with_reducible refine gate_dst (N := 8) rfl ?_); refine Kd.R_lit k28 _ 28 ?hg (N := 8) ?hd (xs := ([(⟨a0_0, a0_1⟩ : S28), (⟨a1_0, a1_1⟩ : S28)] : List (S28))) (inner := [.int .i64 a0_0, .int .i64 a0_1, .int .i64 a1_0, .int .i64 a1_1]) (ok := fun _ => True) (okp := fun _ => True) ?hr ?hp (fun _ hk => hk) trivial (Below.refl _ _) (Nat.le_refl _) (by simp) ?_; (case hd => rfl); (case hg => rfl); (case hr => first | (go_simp; done) | (go_simp; rfl)); (case hp => exact (Reps.c2 (show Kd.M k28 _ _ _ (⟨a0_0, a0_1⟩ : S28) [.int .i64 a0_0, .int .i64 a0_1] from (k28_mkM _ _ _ (⟨a0_0, a0_1⟩ : S28) )) (Reps.c2 (show Kd.M k28 _ _ _ (⟨a1_0, a1_1⟩ : S28) [.int .i64 a1_0, .int .i64 a1_1] from (k28_mkM _ _ _ (⟨a1_0, a1_1⟩ : S28) )) (Reps.none _ _)))); intro v402 w45 ho46 hb hg_ hnew_; clear hg_ hnew_; (first | rw [← Ny401.out] at ho46 | (simp only [Int.reduceToNat] at ho46; rw [← Ny401.out] at ho46)); have HO403 := Aside0.mk (Kd.R_lower (Kd.R_newB (Kd.R_newB (Kd.R_newB ho46 (g := gb398) (o := .cells #[.int .i64 a0_0, .int .i64 a0_1] 28 (0, 0)) (bo gb398)) (g := gb399) (o := .cells #[.int .i64 a1_0, .int .i64 a1_1] 28 (0, 0)) (bo gb399)) (g := gb400) (o := .cells #[.int .i64 0, .int .i64 0] 28 (0, 0)) (bo gb400)) (below_size bl)); replace BK398 := kb BK398 hb; replace BK399 := kb BK399 hb; replace BK400 := kb BK400 hb; replace HB := kh hb; clear hb ho46; obtain ⟨Ao47, co47, eo47⟩ := Kd.R_slice HO403.out; subst eo47) | ((with_reducible refine gate_callee (f := 139) rfl ?_); refine gl 9 Try.func139 #[.slice Ao47 y401.length co47] ?_; (with_reducible refine (impl_areRats.calls k _ _ y401 false _ ?side1 ?side2 A3.out).mono ?_); (case side1 => repeat (first | exact (Kd.R_reads' HO403.out).2.2 | (with_reducible refine Kd.C_alloc ?_ _) | (with_reducible refine Kd.C_drewN ?_ _) | (with_reducible refine Kd.C_drew ?_))); (case side2 => exact (Kd.R_reads' HO403.out).2.1); rintro e w48 ⟨rfl, hb⟩; refine ⟨_, rfl, ?_⟩; replace HO403 := Aside0.mk (Kd.R_below (by (with_reducible repeat (first | apply Kd.R_alloc | apply Kd.R_drewN | apply Kd.R_drew)); exact HO403.out) hb); replace BK398 := kb BK398 hb; replace BK399 := kb BK399 hb; replace BK400 := kb BK400 hb; replace HB := kh hb; (try clear hb); (try clear hb2); (try clear hk); (try clear hi); obtain ⟨hcz49_0, hcz49_1, hfz49_0, hfz49_1⟩ := b2 BK400))
  refine bodyPost_ret (results_ct rfl _ _ gb400 28 #[.int .i64 0, .int .i64 0] (0, 0) _ rfl (by (with_reducible repeat (first | refine blk_drewN ?_ _ | refine blk_drew ?_ | refine blk_alloc ?_ _)); refine blk_put (cs := #[.int .i64 0, .int .i64 0]) ?_ 1 _ rfl; (with_reducible repeat (first | refine blk_drewN ?_ _ | refine blk_drew ?_ | refine blk_alloc ?_ _)); refine blk_put (cs := #[.int .i64 0, .int .i64 0]) ?_ 0 _ rfl; (with_reducible repeat (first | refine blk_drewN ?_ _ | refine blk_drew ?_ | refine blk_alloc ?_ _)); exact BK400.out) Try.underlying28 rfl (by kernel_rfl)) rfl ?_
  exact ⟨rt, bl⟩

/-! ### impl_calc_div: function 124 -/
def impl_calc_div.f (k : Nat) (s0_0 : Bool) (a1_0 : Int) (a1_1 : Int) (a2_0 : Int) (a2_1 : Int) : Option (Int × Int × Bool) := (impl_DivideRats.f k a1_0 a1_1 a2_0 a2_1).bind fun bt411 => ((impl_calc_keep.f s0_0 bt411.1 bt411.2.1 bt411.2.2).bind fun bt414 => (some (bt414.1, bt414.2.1, bt414.2.2)))
set_option maxHeartbeats 8000000 in
set_option maxRecDepth 100000 in
theorem impl_calc_div.calls (k : Nat) (g : Nat) (s0_0 : Bool) (a1_0 : Int) (a1_1 : Int) (a2_0 : Int) (a2_1 : Int) (r1 : Int) (r2 : Int) (r3 : Bool) (w0 w : World) (hI : IsS78 w0 w g s0_0) (hB : Below w0.heap.size w0 w) (h : impl_calc_div.f k s0_0 a1_0 a1_1 a2_0 a2_1 = some (r1, r2, r3)) :
  Calls Try.prog 124 #[.pointer (some ⟨g, 0, none⟩), .agg #[.int .i64 a1_0, .int .i64 a1_1], .agg #[.int .i64 a2_0, .int .i64 a2_1]] w fun e w' => e = .returned (.agg #[.int .i64 r1, .int .i64 r2]) ∧ IsS78 w0 w' g r3 ∧ Below w0.heap.size w0 w' ∧ KeepBut w w' g none := by
 have hu28 := Try.underlying28
 have HI0 := Aside0.mk hI
 have HK := Aside0.mk (KeepBut.refl w g none)
 have HL := Aside0.mk hB.size
 clear hI
 have HW0 := Aside0.mk hB.size
 have HB := Aside0.mk hB
 clear hB
 have H : ((impl_DivideRats.f k a1_0 a1_1 a2_0 a2_1).bind fun bt411 => ((impl_calc_keep.f s0_0 bt411.1 bt411.2.1 bt411.2.2).bind fun bt414 => (some (bt414.1, bt414.2.1, bt414.2.2)))) = some (r1, r2, r3) := h
 clear h
 replace H := Option.bind_eq_some_iff.mp H
 obtain ⟨⟨t411, t412, t413⟩, A40, H⟩ := H
 replace H : ((impl_calc_keep.f s0_0 t411 t412 t413).bind fun bt414 => (some (bt414.1, bt414.2.1, bt414.2.2))) = some (r1, r2, r3) := H
 have A4 := Aside0.mk A40
 clear A40
 replace H := Option.bind_eq_some_iff.mp H
 obtain ⟨⟨t414, t415, t416⟩, A50, H⟩ := H
 replace H : (some (t414, t415, t416)) = some (r1, r2, r3) := H
 have A5 := Aside0.mk A50
 clear A50
 simp only [Option.some.injEq, Prod.mk.injEq] at H
 obtain ⟨rfl, rfl, rfl⟩ := H
 go_enter Try.func124, Try.ntmps124
 go_wp2_with (first | ((with_reducible refine gate_dst (N := 4) rfl ?_); refine bx 4 #[.int .i64 a1_0, .int .i64 a1_1] 28 ?_; intro gb408 hg w6 hbox hb; have BK408 := Aside0.mk (hbox); have GW408 := Aside0.mk ((by rw [hg]; exact (keep_size (w := w) (g := g) (row := none) (by repeat (first | (with_reducible first | exact HK.out | apply KeepBut.set_ | apply keep_drewN | apply keep_drew | apply keep_alloc) | exact HK.out))) : w.heap.size ≤ gb408)); have GE408 := Aside0.mk ((Nat.le_trans HW0.out GW408.out : w0.heap.size ≤ gb408)); have NB0_408 := Aside0.mk ((by rw [hg]; exact Nat.ne_of_lt (IsS78.lt (show IsS78 w0 _ g s0_0 from by repeat (first | (with_reducible first | exact HI0.out | apply IsS78.alloc | apply IsS78.drewN | apply IsS78.drew | apply IsS78.set_0) | exact HI0.out))) : g ≠ gb408)); have NB408_0 := sy NB0_408; replace HK := Aside0.mk (KeepBut.trans (by repeat (first | (with_reducible first | exact HK.out | apply KeepBut.set_ | apply keep_drewN | apply keep_drew | apply keep_alloc) | exact HK.out)) (KeepBut.of_below hb g none) (.inl rfl)); replace HB := Aside0.mk (below_step (by repeat (first | (with_reducible first | exact HB.out | apply below_alloc | apply pw_below_drewN | apply below_drew1 | refine below_set ?_ (IsS78.ge HI0.out)) | exact HB.out)) hb); replace HI0 := Aside0.mk (IsS78.below (by repeat (first | (with_reducible first | exact HI0.out | apply IsS78.alloc | apply IsS78.drewN | apply IsS78.drew | apply IsS78.set_0) | exact HI0.out)) hb); clear hb hbox hg) | ((with_reducible refine gate_dst (N := 5) rfl ?_); refine bx 5 #[.int .i64 a2_0, .int .i64 a2_1] 28 ?_; intro gb409 hg w7 hbox hb; have BK409 := Aside0.mk (hbox); have GW409 := Aside0.mk ((by rw [hg]; exact (keep_size (w := w) (g := g) (row := none) (by repeat (first | (with_reducible first | exact HK.out | apply KeepBut.set_ | apply keep_drewN | apply keep_drew | apply keep_alloc | refine keep_far ?_ GW408.out _) | exact HK.out))) : w.heap.size ≤ gb409)); have GE409 := Aside0.mk ((Nat.le_trans HW0.out GW409.out : w0.heap.size ≤ gb409)); have NB408_409 := Aside0.mk (bn gb408 hg); have NB409_408 := sy NB408_409; have NB0_409 := Aside0.mk ((by rw [hg]; exact Nat.ne_of_lt (IsS78.lt (show IsS78 w0 _ g s0_0 from by repeat (first | (with_reducible first | exact HI0.out | apply IsS78.alloc | apply IsS78.drewN | apply IsS78.drew | apply IsS78.set_0 | refine IsS78.far ?_ NB0_408.out _) | exact HI0.out))) : g ≠ gb409)); have NB409_0 := sy NB0_409; replace BK408 := kb BK408 hb; replace HK := Aside0.mk (KeepBut.trans (by repeat (first | (with_reducible first | exact HK.out | apply KeepBut.set_ | apply keep_drewN | apply keep_drew | apply keep_alloc | refine keep_far ?_ GW408.out _) | exact HK.out)) (KeepBut.of_below hb g none) (.inl rfl)); replace HB := Aside0.mk (below_step (by repeat (first | (with_reducible first | exact HB.out | apply below_alloc | apply pw_below_drewN | apply below_drew1 | refine below_set ?_ (IsS78.ge HI0.out) | refine below_set ?_ GE408.out) | exact HB.out)) hb); replace HI0 := Aside0.mk (IsS78.below (by repeat (first | (with_reducible first | exact HI0.out | apply IsS78.alloc | apply IsS78.drewN | apply IsS78.drew | apply IsS78.set_0 | refine IsS78.far ?_ NB0_408.out _) | exact HI0.out)) hb); clear hb hbox hg) | ((with_reducible refine gate_dst (N := 6) rfl ?_); refine bx 6 #[.int .i64 0, .int .i64 0] 28 ?_; intro gb410 hg w8 hbox hb; have BK410 := Aside0.mk (hbox); have GW410 := Aside0.mk ((by rw [hg]; exact (keep_size (w := w) (g := g) (row := none) (by repeat (first | (with_reducible first | exact HK.out | apply KeepBut.set_ | apply keep_drewN | apply keep_drew | apply keep_alloc | refine keep_far ?_ GW408.out _ | refine keep_far ?_ GW409.out _) | exact HK.out))) : w.heap.size ≤ gb410)); have GE410 := Aside0.mk ((Nat.le_trans HW0.out GW410.out : w0.heap.size ≤ gb410)); have NB408_410 := Aside0.mk (bn gb408 hg); have NB410_408 := sy NB408_410; have NB409_410 := Aside0.mk (bn gb409 hg); have NB410_409 := sy NB409_410; have NB0_410 := Aside0.mk ((by rw [hg]; exact Nat.ne_of_lt (IsS78.lt (show IsS78 w0 _ g s0_0 from by repeat (first | (with_reducible first | exact HI0.out | apply IsS78.alloc | apply IsS78.drewN | apply IsS78.drew | apply IsS78.set_0 | refine IsS78.far ?_ NB0_408.out _ | refine IsS78.far ?_ NB0_409.out _) | exact HI0.out))) : g ≠ gb410)); have NB410_0 := sy NB0_410; replace BK408 := kb BK408 hb; replace BK409 := kb BK409 hb; replace HK := Aside0.mk (KeepBut.trans (by repeat (first | (with_reducible first | exact HK.out | apply KeepBut.set_ | apply keep_drewN | apply keep_drew | apply keep_alloc | refine keep_far ?_ GW408.out _ | refine keep_far ?_ GW409.out _) | exact HK.out)) (KeepBut.of_below hb g none) (.inl rfl)); replace HB := Aside0.mk (below_step (by repeat (first | (with_reducible first | exact HB.out | apply below_alloc | apply pw_below_drewN | apply below_drew1 | refine below_set ?_ (IsS78.ge HI0.out) | refine below_set ?_ GE408.out | refine below_set ?_ GE409.out) | exact HB.out)) hb); replace HI0 := Aside0.mk (IsS78.below (by repeat (first | (with_reducible first | exact HI0.out | apply IsS78.alloc | apply IsS78.drewN | apply IsS78.drew | apply IsS78.set_0 | refine IsS78.far ?_ NB0_408.out _ | refine IsS78.far ?_ NB0_409.out _) | exact HI0.out)) hb); clear hb hbox hg; have hnb9 := NB408_409.out; have hnc9 := NB409_408.out; have hnb10 := NB408_410.out; have hnc10 := NB410_408.out; have hnb11 := NB408_0.out; have hnc11 := NB0_408.out; obtain ⟨hcz12_0, hcz12_1, hfz12_0, hfz12_1⟩ := b2 BK408; have hnb13 := NB409_410.out; have hnc13 := NB410_409.out; have hnb14 := NB409_0.out; have hnc14 := NB0_409.out; obtain ⟨hcz15_0, hcz15_1, hfz15_0, hfz15_1⟩ := b2 BK409) | ((with_reducible refine gate_callee (f := 138) rfl ?_); refine gl 10 Try.func138 #[.agg #[.int .i64 a1_0, .int .i64 a1_1], .agg #[.int .i64 a2_0, .int .i64 a2_1]] ?_; (with_reducible refine (impl_DivideRats.calls k a1_0 a1_1 a2_0 a2_1 t411 t412 t413 _ A4.out).mono ?_); rintro e w16 ⟨rfl, hb⟩; refine ⟨_, rfl, ?_⟩; replace BK408 := kb BK408 hb; replace BK409 := kb BK409 hb; replace BK410 := kb BK410 hb; replace HK := Aside0.mk (KeepBut.trans (by repeat (first | (with_reducible first | exact HK.out | apply KeepBut.set_ | apply keep_drewN | apply keep_drew | apply keep_alloc | refine keep_far ?_ GW408.out _ | refine keep_far ?_ GW409.out _ | refine keep_far ?_ GW410.out _) | exact HK.out)) (KeepBut.of_below hb g none) (.inl rfl)); replace HB := Aside0.mk (below_step (by repeat (first | (with_reducible first | exact HB.out | apply below_alloc | apply pw_below_drewN | apply below_drew1 | refine below_set ?_ (IsS78.ge HI0.out) | refine below_set ?_ GE408.out | refine below_set ?_ GE409.out | refine below_set ?_ GE410.out) | exact HB.out)) hb); replace HI0 := Aside0.mk (IsS78.below (by repeat (first | (with_reducible first | exact HI0.out | apply IsS78.alloc | apply IsS78.drewN | apply IsS78.drew | apply IsS78.set_0 | refine IsS78.far ?_ NB0_408.out _ | refine IsS78.far ?_ NB0_409.out _ | refine IsS78.far ?_ NB0_410.out _) | exact HI0.out)) hb); (try clear hb); (try clear hb2); (try clear hk); (try clear hi)) | ((with_reducible refine gate_callee (f := 127) rfl ?_); refine gl 13 Try.func127 #[.pointer (some ⟨g, 0, none⟩), .agg #[.int .i64 t411, .int .i64 t412], .bool t413] ?_; (with_reducible refine (impl_calc_keep.calls g s0_0 t411 t412 t413 t414 t415 t416 w0 _ ?side1 ?side2 A5.out).mono ?_); (case side1 => repeat (first | (with_reducible first | exact HI0.out | apply IsS78.alloc | apply IsS78.drewN | apply IsS78.drew | apply IsS78.set_0 | refine IsS78.far ?_ NB0_408.out _ | refine IsS78.far ?_ NB0_409.out _ | refine IsS78.far ?_ NB0_410.out _) | exact HI0.out)); (case side2 => repeat (first | (with_reducible first | exact HB.out | apply below_alloc | apply pw_below_drewN | apply below_drew1 | refine below_set ?_ (IsS78.ge HI0.out) | refine below_set ?_ GE408.out | refine below_set ?_ GE409.out | refine below_set ?_ GE410.out) | exact HB.out)); rintro e w17 ⟨rfl, hi, hb, hk⟩; refine ⟨_, rfl, ?_⟩; replace BK408 := Aside0.mk (KeepBut.blk hk (g' := gb408) (o := .cells #[.int .i64 a1_0, .int .i64 a1_1] 28 (0, 0)) (bo gb408) NB408_0.out (by simp)); replace BK409 := Aside0.mk (KeepBut.blk hk (g' := gb409) (o := .cells #[.int .i64 a2_0, .int .i64 a2_1] 28 (0, 0)) (bo gb409) NB409_0.out (by simp)); replace BK410 := Aside0.mk (KeepBut.blk hk (g' := gb410) (o := .cells #[.int .i64 0, .int .i64 0] 28 (0, 0)) (bo gb410) NB410_0.out (by simp)); replace HK := Aside0.mk (KeepBut.trans (by repeat (first | (with_reducible first | exact HK.out | apply KeepBut.set_ | apply keep_drewN | apply keep_drew | apply keep_alloc | refine keep_far ?_ GW408.out _ | refine keep_far ?_ GW409.out _ | refine keep_far ?_ GW410.out _) | exact HK.out)) hk (.inl rfl)); replace HB := Aside0.mk (hb); replace HI0 := Aside0.mk (hi); (try clear hb); (try clear hb2); (try clear hk); (try clear hi); have hnb18 := NB410_0.out; have hnc18 := NB0_410.out; obtain ⟨hcz19_0, hcz19_1, hfz19_0, hfz19_1⟩ := b2 BK410))
 refine bodyPost_ret (results_cell_row rfl _ _ gb410 28 #[.int .i64 t414, .int .i64 t415] (0, 0) _ rfl (by (with_reducible repeat (first | refine blk_drewN ?_ _ | refine blk_drew ?_ | refine blk_alloc ?_ _)); refine blk_put (cs := #[.int .i64 t414, .int .i64 0]) ?_ 1 _ rfl; (with_reducible repeat (first | refine blk_drewN ?_ _ | refine blk_drew ?_ | refine blk_alloc ?_ _)); refine blk_put (cs := #[.int .i64 0, .int .i64 0]) ?_ 0 _ rfl; (with_reducible repeat (first | refine blk_drewN ?_ _ | refine blk_drew ?_ | refine blk_alloc ?_ _)); exact BK410.out) Try.underlying28 rfl (by kernel_rfl)) rfl ?_
 exact ⟨rt, by repeat (first | (with_reducible first | exact HI0.out | apply IsS78.alloc | apply IsS78.drewN | apply IsS78.drew | apply IsS78.set_0 | refine IsS78.far ?_ NB0_408.out _ | refine IsS78.far ?_ NB0_409.out _ | refine IsS78.far ?_ NB0_410.out _) | exact HI0.out), by repeat (first | (with_reducible first | exact HB.out | apply below_alloc | apply pw_below_drewN | apply below_drew1 | refine below_set ?_ (IsS78.ge HI0.out) | refine below_set ?_ GE408.out | refine below_set ?_ GE409.out | refine below_set ?_ GE410.out) | exact HB.out), by repeat (first | (with_reducible first | exact HK.out | apply KeepBut.set_ | apply keep_drewN | apply keep_drew | apply keep_alloc | refine keep_far ?_ GW408.out _ | refine keep_far ?_ GW409.out _ | refine keep_far ?_ GW410.out _) | exact HK.out)⟩

/-! ### impl_calc_slope: function 96 -/
def impl_calc_slope.f (k : Nat) (s0_0 : Bool) (a1_0 : Int) (a1_1 : Int) (a1_2 : Int) (a1_3 : Int) (a2_0 : Int) (a2_1 : Int) (a2_2 : Int) (a2_3 : Int) : Option (Int × Int × Bool) := (impl_calc_sub.f k s0_0 a2_2 a2_3 a1_2 a1_3).bind fun bt420 => ((impl_calc_sub.f k bt420.2.2 a2_0 a2_1 a1_0 a1_1).bind fun bt423 => ((impl_calc_div.f k bt423.2.2 bt420.1 bt420.2.1 bt423.1 bt423.2.1).bind fun bt426 => (some (bt426.1, bt426.2.1, bt426.2.2))))
def impl_calc_slope.T1 : Bool × List (List Nat × List Nat) := (true, [([], []), ([], []), ([], []), ([2], [2]), ([], []), ([4], [4]), ([1, 3, 5], [1, 3, 5]), ([], []), ([], []), ([8], [8]), ([], []), ([10], [10]), ([7, 9, 11, 6], [7, 9, 11]), ([0, 6, 12, 12], [0, 6, 12]), ([13, 13, 0, 1, 2, 3, 4, 5, 6, 7, 8, 9, 10, 11, 12, 13], [13])])
def impl_calc_slope.B1 : List Nat := [0, 0, 0, 4, 0, 16, 62, 0, 0, 256, 0, 1024, 4094, 8191, 16383]
theorem impl_calc_slope.tab1 : rtab .any (opsOf Try.f96 1) = impl_calc_slope.T1 := by kernel_rfl
theorem impl_calc_slope.bits1 : waitsOk impl_calc_slope.T1.2 impl_calc_slope.B1 = true := by kernel_rfl
set_option maxHeartbeats 8000000 in
set_option maxRecDepth 100000 in
theorem impl_calc_slope.calls (k : Nat) (g : Nat) (s0_0 : Bool) (a1_0 : Int) (a1_1 : Int) (a1_2 : Int) (a1_3 : Int) (a2_0 : Int) (a2_1 : Int) (a2_2 : Int) (a2_3 : Int) (r1 : Int) (r2 : Int) (r3 : Bool) (w0 w : World) (hI : IsS78 w0 w g s0_0) (hB : Below w0.heap.size w0 w) (h : impl_calc_slope.f k s0_0 a1_0 a1_1 a1_2 a1_3 a2_0 a2_1 a2_2 a2_3 = some (r1, r2, r3)) :
  Calls Try.prog 96 #[.pointer (some ⟨g, 0, none⟩), .agg #[.int .i64 a1_0, .int .i64 a1_1, .int .i64 a1_2, .int .i64 a1_3], .agg #[.int .i64 a2_0, .int .i64 a2_1, .int .i64 a2_2, .int .i64 a2_3]] w fun e w' => e = .returned (.agg #[.int .i64 r1, .int .i64 r2]) ∧ IsS78 w0 w' g r3 ∧ Below w0.heap.size w0 w' ∧ KeepBut w w' g none := by
 have hu68 := Try.underlying68
 have hu28 := Try.underlying28
 have HI0 := Aside0.mk hI
 have HK := Aside0.mk (KeepBut.refl w g none)
 have HL := Aside0.mk hB.size
 clear hI
 have HW0 := Aside0.mk hB.size
 have HB := Aside0.mk hB
 clear hB
 have H : ((impl_calc_sub.f k s0_0 a2_2 a2_3 a1_2 a1_3).bind fun bt420 => ((impl_calc_sub.f k bt420.2.2 a2_0 a2_1 a1_0 a1_1).bind fun bt423 => ((impl_calc_div.f k bt423.2.2 bt420.1 bt420.2.1 bt423.1 bt423.2.1).bind fun bt426 => (some (bt426.1, bt426.2.1, bt426.2.2))))) = some (r1, r2, r3) := h
 clear h
 replace H := Option.bind_eq_some_iff.mp H
 obtain ⟨⟨t420, t421, t422⟩, A40, H⟩ := H
 replace H : ((impl_calc_sub.f k t422 a2_0 a2_1 a1_0 a1_1).bind fun bt423 => ((impl_calc_div.f k bt423.2.2 t420 t421 bt423.1 bt423.2.1).bind fun bt426 => (some (bt426.1, bt426.2.1, bt426.2.2)))) = some (r1, r2, r3) := H
 have A4 := Aside0.mk A40
 clear A40
 replace H := Option.bind_eq_some_iff.mp H
 obtain ⟨⟨t423, t424, t425⟩, A50, H⟩ := H
 replace H : ((impl_calc_div.f k t425 t420 t421 t423 t424).bind fun bt426 => (some (bt426.1, bt426.2.1, bt426.2.2))) = some (r1, r2, r3) := H
 have A5 := Aside0.mk A50
 clear A50
 replace H := Option.bind_eq_some_iff.mp H
 obtain ⟨⟨t426, t427, t428⟩, A60, H⟩ := H
 replace H : (some (t426, t427, t428)) = some (r1, r2, r3) := H
 have A6 := Aside0.mk A60
 clear A60
 simp only [Option.some.injEq, Prod.mk.injEq] at H
 obtain ⟨rfl, rfl, rfl⟩ := H
 go_enter Try.func96, Try.ntmps96
 try go_wp2_with (first | ((with_reducible refine gate_dst (N := 4) rfl ?_); refine bx 4 #[.int .i64 a1_0, .int .i64 a1_1, .int .i64 a1_2, .int .i64 a1_3] 68 ?_; intro gb417 hg w7 hbox hb; have BK417 := Aside0.mk (hbox); have GW417 := Aside0.mk ((by rw [hg]; exact (keep_size (w := w) (g := g) (row := none) (by repeat (first | (with_reducible first | exact HK.out | apply KeepBut.set_ | apply keep_drewN | apply keep_drew | apply keep_alloc) | exact HK.out))) : w.heap.size ≤ gb417)); have GE417 := Aside0.mk ((Nat.le_trans HW0.out GW417.out : w0.heap.size ≤ gb417)); have NB0_417 := Aside0.mk ((by rw [hg]; exact Nat.ne_of_lt (IsS78.lt (show IsS78 w0 _ g s0_0 from by repeat (first | (with_reducible first | exact HI0.out | apply IsS78.alloc | apply IsS78.drewN | apply IsS78.drew | apply IsS78.set_0) | exact HI0.out))) : g ≠ gb417)); have NB417_0 := sy NB0_417; replace HK := Aside0.mk (KeepBut.trans (by repeat (first | (with_reducible first | exact HK.out | apply KeepBut.set_ | apply keep_drewN | apply keep_drew | apply keep_alloc) | exact HK.out)) (KeepBut.of_below hb g none) (.inl rfl)); replace HB := Aside0.mk (below_step (by repeat (first | (with_reducible first | exact HB.out | apply below_alloc | apply pw_below_drewN | apply below_drew1 | refine below_set ?_ (IsS78.ge HI0.out)) | exact HB.out)) hb); replace HI0 := Aside0.mk (IsS78.below (by repeat (first | (with_reducible first | exact HI0.out | apply IsS78.alloc | apply IsS78.drewN | apply IsS78.drew | apply IsS78.set_0) | exact HI0.out)) hb); clear hb hbox hg) | ((with_reducible refine gate_dst (N := 5) rfl ?_); refine bx 5 #[.int .i64 a2_0, .int .i64 a2_1, .int .i64 a2_2, .int .i64 a2_3] 68 ?_; intro gb418 hg w8 hbox hb; have BK418 := Aside0.mk (hbox); have GW418 := Aside0.mk ((by rw [hg]; exact (keep_size (w := w) (g := g) (row := none) (by repeat (first | (with_reducible first | exact HK.out | apply KeepBut.set_ | apply keep_drewN | apply keep_drew | apply keep_alloc | refine keep_far ?_ GW417.out _) | exact HK.out))) : w.heap.size ≤ gb418)); have GE418 := Aside0.mk ((Nat.le_trans HW0.out GW418.out : w0.heap.size ≤ gb418)); have NB417_418 := Aside0.mk (bn gb417 hg); have NB418_417 := sy NB417_418; have NB0_418 := Aside0.mk ((by rw [hg]; exact Nat.ne_of_lt (IsS78.lt (show IsS78 w0 _ g s0_0 from by repeat (first | (with_reducible first | exact HI0.out | apply IsS78.alloc | apply IsS78.drewN | apply IsS78.drew | apply IsS78.set_0 | refine IsS78.far ?_ NB0_417.out _) | exact HI0.out))) : g ≠ gb418)); have NB418_0 := sy NB0_418; replace BK417 := kb BK417 hb; replace HK := Aside0.mk (KeepBut.trans (by repeat (first | (with_reducible first | exact HK.out | apply KeepBut.set_ | apply keep_drewN | apply keep_drew | apply keep_alloc | refine keep_far ?_ GW417.out _) | exact HK.out)) (KeepBut.of_below hb g none) (.inl rfl)); replace HB := Aside0.mk (below_step (by repeat (first | (with_reducible first | exact HB.out | apply below_alloc | apply pw_below_drewN | apply below_drew1 | refine below_set ?_ (IsS78.ge HI0.out) | refine below_set ?_ GE417.out) | exact HB.out)) hb); replace HI0 := Aside0.mk (IsS78.below (by repeat (first | (with_reducible first | exact HI0.out | apply IsS78.alloc | apply IsS78.drewN | apply IsS78.drew | apply IsS78.set_0 | refine IsS78.far ?_ NB0_417.out _) | exact HI0.out)) hb); clear hb hbox hg) | ((with_reducible refine gate_dst (N := 6) rfl ?_); refine bx 6 #[.int .i64 0, .int .i64 0] 28 ?_; intro gb419 hg w9 hbox hb; have BK419 := Aside0.mk (hbox); have GW419 := Aside0.mk ((by rw [hg]; exact (keep_size (w := w) (g := g) (row := none) (by repeat (first | (with_reducible first | exact HK.out | apply KeepBut.set_ | apply keep_drewN | apply keep_drew | apply keep_alloc | refine keep_far ?_ GW417.out _ | refine keep_far ?_ GW418.out _) | exact HK.out))) : w.heap.size ≤ gb419)); have GE419 := Aside0.mk ((Nat.le_trans HW0.out GW419.out : w0.heap.size ≤ gb419)); have NB417_419 := Aside0.mk (bn gb417 hg); have NB419_417 := sy NB417_419; have NB418_419 := Aside0.mk (bn gb418 hg); have NB419_418 := sy NB418_419; have NB0_419 := Aside0.mk ((by rw [hg]; exact Nat.ne_of_lt (IsS78.lt (show IsS78 w0 _ g s0_0 from by repeat (first | (with_reducible first | exact HI0.out | apply IsS78.alloc | apply IsS78.drewN | apply IsS78.drew | apply IsS78.set_0 | refine IsS78.far ?_ NB0_417.out _ | refine IsS78.far ?_ NB0_418.out _) | exact HI0.out))) : g ≠ gb419)); have NB419_0 := sy NB0_419; replace BK417 := kb BK417 hb; replace BK418 := kb BK418 hb; replace HK := Aside0.mk (KeepBut.trans (by repeat (first | (with_reducible first | exact HK.out | apply KeepBut.set_ | apply keep_drewN | apply keep_drew | apply keep_alloc | refine keep_far ?_ GW417.out _ | refine keep_far ?_ GW418.out _) | exact HK.out)) (KeepBut.of_below hb g none) (.inl rfl)); replace HB := Aside0.mk (below_step (by repeat (first | (with_reducible first | exact HB.out | apply below_alloc | apply pw_below_drewN | apply below_drew1 | refine below_set ?_ (IsS78.ge HI0.out) | refine below_set ?_ GE417.out | refine below_set ?_ GE418.out) | exact HB.out)) hb); replace HI0 := Aside0.mk (IsS78.below (by repeat (first | (with_reducible first | exact HI0.out | apply IsS78.alloc | apply IsS78.drewN | apply IsS78.drew | apply IsS78.set_0 | refine IsS78.far ?_ NB0_417.out _ | refine IsS78.far ?_ NB0_418.out _) | exact HI0.out)) hb); clear hb hbox hg))
 replace BK417 := Aside0.mk (blk_drew BK417.out)
 replace BK418 := Aside0.mk (blk_drew BK418.out)
 replace BK419 := Aside0.mk (blk_drew BK419.out)
 replace HI0 := Aside0.mk (IsS78.drew HI0.out)
 replace HK := Aside0.mk (keep_drew HK.out)
 replace HB := Aside0.mk (below_drew1 HB.out)
 refine start_ (n := 15) (S := fun w' => w'.cell? ⟨gb418, 0, none⟩ = some (.int .i64 a2_0) ∧ w'.cell? ⟨gb418, 1, none⟩ = some (.int .i64 a2_1) ∧ w'.cell? ⟨gb418, 2, none⟩ = some (.int .i64 a2_2) ∧ w'.cell? ⟨gb418, 3, none⟩ = some (.int .i64 a2_3) ∧ w'.cell? ⟨gb417, 0, none⟩ = some (.int .i64 a1_0) ∧ w'.cell? ⟨gb417, 1, none⟩ = some (.int .i64 a1_1) ∧ w'.cell? ⟨gb417, 2, none⟩ = some (.int .i64 a1_2) ∧ w'.cell? ⟨gb417, 3, none⟩ = some (.int .i64 a1_3)) (ds := []) (tb 0 15) (by kernel_rfl) rfl rfl ⟨(blk_cell BK418.out 0).trans rfl, (blk_cell BK418.out 1).trans rfl, (blk_cell BK418.out 2).trans rfl, (blk_cell BK418.out 3).trans rfl, (blk_cell BK417.out 0).trans rfl, (blk_cell BK417.out 1).trans rfl, (blk_cell BK417.out 2).trans rfl, (blk_cell BK417.out 3).trans rfl⟩ (fun hHeld => ?_); refine with_tabW impl_calc_slope.tab1 impl_calc_slope.bits1 (fun HT_ HW_ => ?_)
 generalize w9.drew = w10 at BK417 BK418 BK419 HI0 HK HB hHeld ⊢
 refine pu 0 7 (tb 1 14) ?_
 refine pu 1 8 (tb 2 13) ?_
 refine pu 2 9 (tb 3 12) ?_
 refine pu 4 11 #[true, true, true, false, true, false, false, false, false, false, false, false, false, false, false] ?_
 refine pu 7 14 #[true, true, true, false, true, false, false, true, false, false, false, false, false, false, false] ?_
 refine pu 8 15 #[true, true, true, false, true, false, false, true, true, false, false, false, false, false, false] ?_
 refine pu 10 17 #[true, true, true, false, true, false, false, true, true, false, true, false, false, false, false] ?_
 refine tk 3 10 #[true, true, true, true, true, false, false, true, true, false, true, false, false, false, false] (hy := by rintro w' ⟨s0, s1, s2, s3, s4, s5, s6, s7⟩; go_simp; with_reducible rfl) (h := ?_)
 refine tk 5 12 #[true, true, true, true, true, true, false, true, true, false, true, false, false, false, false] (hy := by rintro w' ⟨s0, s1, s2, s3, s4, s5, s6, s7⟩; go_simp; with_reducible rfl) (h := ?_)
 refine tk 9 16 #[true, true, true, true, true, true, false, true, true, true, true, false, false, false, false] (hy := by rintro w' ⟨s0, s1, s2, s3, s4, s5, s6, s7⟩; go_simp; with_reducible rfl) (h := ?_)
 refine tk 11 18 #[true, true, true, true, true, true, false, true, true, true, true, true, false, false, false] (hy := by rintro w' ⟨s0, s1, s2, s3, s4, s5, s6, s7⟩; go_simp; with_reducible rfl) (h := ?_)
 refine on 6 13 (tb 12 3) (fun K hK => ?_)
 refine gs Try.func107 #[.pointer (some ⟨g, 0, none⟩), .agg #[.int .i64 a2_2, .int .i64 a2_3], .agg #[.int .i64 a1_2, .int .i64 a1_3]] ?_
 with_reducible refine (impl_calc_sub.calls k g s0_0 a2_2 a2_3 a1_2 a1_3 t420 t421 t422 w0 _ ?side1 ?side2 A4.out).mono ?_
 (case side1 => repeat (first | (with_reducible first | exact HI0.out | apply IsS78.alloc | apply IsS78.drewN | apply IsS78.drew | apply IsS78.set_0 | refine IsS78.far ?_ NB0_417.out _ | refine IsS78.far ?_ NB0_418.out _ | refine IsS78.far ?_ NB0_419.out _) | exact HI0.out))
 (case side2 => repeat (first | (with_reducible first | exact HB.out | apply below_alloc | apply pw_below_drewN | apply below_drew1 | refine below_set ?_ (IsS78.ge HI0.out) | refine below_set ?_ GE417.out | refine below_set ?_ GE418.out | refine below_set ?_ GE419.out) | exact HB.out))
 rintro e w11 ⟨rfl, hi, hb, hk⟩
 refine ⟨_, rfl, ?_⟩
 replace BK417 := Aside0.mk (KeepBut.blk hk (g' := gb417) (o := .cells #[.int .i64 a1_0, .int .i64 a1_1, .int .i64 a1_2, .int .i64 a1_3] 68 (0, 0)) (bo gb417) NB417_0.out (by simp))
 replace BK418 := Aside0.mk (KeepBut.blk hk (g' := gb418) (o := .cells #[.int .i64 a2_0, .int .i64 a2_1, .int .i64 a2_2, .int .i64 a2_3] 68 (0, 0)) (bo gb418) NB418_0.out (by simp))
 replace BK419 := Aside0.mk (KeepBut.blk hk (g' := gb419) (o := .cells #[.int .i64 0, .int .i64 0] 28 (0, 0)) (bo gb419) NB419_0.out (by simp))
 replace HK := Aside0.mk (KeepBut.trans (by repeat (first | (with_reducible first | exact HK.out | apply KeepBut.set_ | apply keep_drewN | apply keep_drew | apply keep_alloc | refine keep_far ?_ GW417.out _ | refine keep_far ?_ GW418.out _ | refine keep_far ?_ GW419.out _) | exact HK.out)) hk (.inl rfl))
 replace HB := Aside0.mk (hb)
 replace HI0 := Aside0.mk (hi)
 (try clear hb)
 (try clear hb2)
 (try clear hk)
 (try clear hi)
 refine hK.out _ _ ⟨(blk_cell BK418.out 0).trans rfl, (blk_cell BK418.out 1).trans rfl, (blk_cell BK418.out 2).trans rfl, (blk_cell BK418.out 3).trans rfl, (blk_cell BK417.out 0).trans rfl, (blk_cell BK417.out 1).trans rfl, (blk_cell BK417.out 2).trans rfl, (blk_cell BK417.out 3).trans rfl⟩ (fun hHeld => ?_)
 clear hK K
 refine nm 13 ?_
 refine on 12 19 (tb 13 2) (fun K hK => ?_)
 refine gs Try.func107 #[.pointer (some ⟨g, 0, none⟩), .agg #[.int .i64 a2_0, .int .i64 a2_1], .agg #[.int .i64 a1_0, .int .i64 a1_1]] ?_
 with_reducible refine (impl_calc_sub.calls k g t422 a2_0 a2_1 a1_0 a1_1 t423 t424 t425 w0 _ ?side1 ?side2 A5.out).mono ?_
 (case side1 => repeat (first | (with_reducible first | exact HI0.out | apply IsS78.alloc | apply IsS78.drewN | apply IsS78.drew | apply IsS78.set_0 | refine IsS78.far ?_ NB0_417.out _ | refine IsS78.far ?_ NB0_418.out _ | refine IsS78.far ?_ NB0_419.out _) | exact HI0.out))
 (case side2 => repeat (first | (with_reducible first | exact HB.out | apply below_alloc | apply pw_below_drewN | apply below_drew1 | refine below_set ?_ (IsS78.ge HI0.out) | refine below_set ?_ GE417.out | refine below_set ?_ GE418.out | refine below_set ?_ GE419.out) | exact HB.out))
 rintro e w12 ⟨rfl, hi, hb, hk⟩
 refine ⟨_, rfl, ?_⟩
 replace BK417 := Aside0.mk (KeepBut.blk hk (g' := gb417) (o := .cells #[.int .i64 a1_0, .int .i64 a1_1, .int .i64 a1_2, .int .i64 a1_3] 68 (0, 0)) (bo gb417) NB417_0.out (by simp))
 replace BK418 := Aside0.mk (KeepBut.blk hk (g' := gb418) (o := .cells #[.int .i64 a2_0, .int .i64 a2_1, .int .i64 a2_2, .int .i64 a2_3] 68 (0, 0)) (bo gb418) NB418_0.out (by simp))
 replace BK419 := Aside0.mk (KeepBut.blk hk (g' := gb419) (o := .cells #[.int .i64 0, .int .i64 0] 28 (0, 0)) (bo gb419) NB419_0.out (by simp))
 replace HK := Aside0.mk (KeepBut.trans (by repeat (first | (with_reducible first | exact HK.out | apply KeepBut.set_ | apply keep_drewN | apply keep_drew | apply keep_alloc | refine keep_far ?_ GW417.out _ | refine keep_far ?_ GW418.out _ | refine keep_far ?_ GW419.out _) | exact HK.out)) hk (.inl rfl))
 replace HB := Aside0.mk (hb)
 replace HI0 := Aside0.mk (hi)
 (try clear hb)
 (try clear hb2)
 (try clear hk)
 (try clear hi)
 refine hK.out _ _ ⟨(blk_cell BK418.out 0).trans rfl, (blk_cell BK418.out 1).trans rfl, (blk_cell BK418.out 2).trans rfl, (blk_cell BK418.out 3).trans rfl, (blk_cell BK417.out 0).trans rfl, (blk_cell BK417.out 1).trans rfl, (blk_cell BK417.out 2).trans rfl, (blk_cell BK417.out 3).trans rfl⟩ (fun hHeld => ?_)
 clear hK K
 refine nm 19 ?_
 refine on 13 20 (tb 14 1) (fun K hK => ?_)
 refine gs Try.func124 #[.pointer (some ⟨g, 0, none⟩), .agg #[.int .i64 t420, .int .i64 t421], .agg #[.int .i64 t423, .int .i64 t424]] ?_
 with_reducible refine (impl_calc_div.calls k g t425 t420 t421 t423 t424 t426 t427 t428 w0 _ ?side1 ?side2 A6.out).mono ?_
 (case side1 => repeat (first | (with_reducible first | exact HI0.out | apply IsS78.alloc | apply IsS78.drewN | apply IsS78.drew | apply IsS78.set_0 | refine IsS78.far ?_ NB0_417.out _ | refine IsS78.far ?_ NB0_418.out _ | refine IsS78.far ?_ NB0_419.out _) | exact HI0.out))
 (case side2 => repeat (first | (with_reducible first | exact HB.out | apply below_alloc | apply pw_below_drewN | apply below_drew1 | refine below_set ?_ (IsS78.ge HI0.out) | refine below_set ?_ GE417.out | refine below_set ?_ GE418.out | refine below_set ?_ GE419.out) | exact HB.out))
 rintro e w13 ⟨rfl, hi, hb, hk⟩
 refine ⟨_, rfl, ?_⟩
 replace BK417 := Aside0.mk (KeepBut.blk hk (g' := gb417) (o := .cells #[.int .i64 a1_0, .int .i64 a1_1, .int .i64 a1_2, .int .i64 a1_3] 68 (0, 0)) (bo gb417) NB417_0.out (by simp))
 replace BK418 := Aside0.mk (KeepBut.blk hk (g' := gb418) (o := .cells #[.int .i64 a2_0, .int .i64 a2_1, .int .i64 a2_2, .int .i64 a2_3] 68 (0, 0)) (bo gb418) NB418_0.out (by simp))
 replace BK419 := Aside0.mk (KeepBut.blk hk (g' := gb419) (o := .cells #[.int .i64 0, .int .i64 0] 28 (0, 0)) (bo gb419) NB419_0.out (by simp))
 replace HK := Aside0.mk (KeepBut.trans (by repeat (first | (with_reducible first | exact HK.out | apply KeepBut.set_ | apply keep_drewN | apply keep_drew | apply keep_alloc | refine keep_far ?_ GW417.out _ | refine keep_far ?_ GW418.out _ | refine keep_far ?_ GW419.out _) | exact HK.out)) hk (.inl rfl))
 replace HB := Aside0.mk (hb)
 replace HI0 := Aside0.mk (hi)
 (try clear hb)
 (try clear hb2)
 (try clear hk)
 (try clear hi)
 refine hK.out _ _ ⟨(blk_cell BK418.out 0).trans rfl, (blk_cell BK418.out 1).trans rfl, (blk_cell BK418.out 2).trans rfl, (blk_cell BK418.out 3).trans rfl, (blk_cell BK417.out 0).trans rfl, (blk_cell BK417.out 1).trans rfl, (blk_cell BK417.out 2).trans rfl, (blk_cell BK417.out 3).trans rfl⟩ (fun hHeld => ?_)
 clear hK K
 refine nm 20 ?_
 refine one_ (i := 14) (N := none) (tb 15 0) rfl rfl (one_of HT_.out (by kernel_rfl)) (by decide) (fun K hK => ?_)
 have hs14 : w13.cell? ⟨gb419, 0, none⟩ = some (.int .i64 0) := (blk_cell BK419.out 0).trans rfl
 have hfs14 := blk_frozen BK419.out 0
 have hns14_0 := NB417_419.out
 have hns14_1 := NB418_419.out
 have hms14_0 := NB419_417.out
 have hms14_1 := NB419_418.out
 have hs15 : w13.cell? ⟨gb419, 1, none⟩ = some (.int .i64 0) := (blk_cell BK419.out 1).trans rfl
 have hfs15 := blk_frozen BK419.out 1
 have hns15_0 := NB417_419.out
 have hns15_1 := NB418_419.out
 have hms15_0 := NB419_417.out
 have hms15_1 := NB419_418.out
 refine skip_ (w1 := ?_) (by rfl) rfl ?_ ?_
 rotate_left
 ·go_simp
  rfl
 refine hK.out _ _ ⟨(by (iterate 2 refine (cell_far (p := ⟨gb419, _, none⟩) NB418_419.out _).trans ?_); exact hHeld.1), (by (iterate 2 refine (cell_far (p := ⟨gb419, _, none⟩) NB418_419.out _).trans ?_); exact hHeld.2.1), (by (iterate 2 refine (cell_far (p := ⟨gb419, _, none⟩) NB418_419.out _).trans ?_); exact hHeld.2.2.1), (by (iterate 2 refine (cell_far (p := ⟨gb419, _, none⟩) NB418_419.out _).trans ?_); exact hHeld.2.2.2.1), (by (iterate 2 refine (cell_far (p := ⟨gb419, _, none⟩) NB417_419.out _).trans ?_); exact hHeld.2.2.2.2.1), (by (iterate 2 refine (cell_far (p := ⟨gb419, _, none⟩) NB417_419.out _).trans ?_); exact hHeld.2.2.2.2.2.1), (by (iterate 2 refine (cell_far (p := ⟨gb419, _, none⟩) NB417_419.out _).trans ?_); exact hHeld.2.2.2.2.2.2.1), (by (iterate 2 refine (cell_far (p := ⟨gb419, _, none⟩) NB417_419.out _).trans ?_); exact hHeld.2.2.2.2.2.2.2)⟩ (fun hHeld => ?_)
 clear hK K
 refine done_ (done_of HT_.out (by kernel_rfl)) ?_
 try go_wp2
 refine bodyPost_ret (results_cell_row rfl _ _ gb419 28 #[.int .i64 t426, .int .i64 t427] (0, 0) _ rfl (by (with_reducible repeat (first | refine blk_drewN ?_ _ | refine blk_drew ?_ | refine blk_alloc ?_ _)); refine blk_put (cs := #[.int .i64 t426, .int .i64 0]) ?_ 1 _ rfl; (with_reducible repeat (first | refine blk_drewN ?_ _ | refine blk_drew ?_ | refine blk_alloc ?_ _)); refine blk_put (cs := #[.int .i64 0, .int .i64 0]) ?_ 0 _ rfl; (with_reducible repeat (first | refine blk_drewN ?_ _ | refine blk_drew ?_ | refine blk_alloc ?_ _)); exact BK419.out) Try.underlying28 rfl (by kernel_rfl)) rfl ?_
 exact ⟨rt, by repeat (first | (with_reducible first | exact HI0.out | apply IsS78.alloc | apply IsS78.drewN | apply IsS78.drew | apply IsS78.set_0 | refine IsS78.far ?_ NB0_417.out _ | refine IsS78.far ?_ NB0_418.out _ | refine IsS78.far ?_ NB0_419.out _) | exact HI0.out), by repeat (first | (with_reducible first | exact HB.out | apply below_alloc | apply pw_below_drewN | apply below_drew1 | refine below_set ?_ (IsS78.ge HI0.out) | refine below_set ?_ GE417.out | refine below_set ?_ GE418.out | refine below_set ?_ GE419.out) | exact HB.out), by repeat (first | (with_reducible first | exact HK.out | apply KeepBut.set_ | apply keep_drewN | apply keep_drew | apply keep_alloc | refine keep_far ?_ GW417.out _ | refine keep_far ?_ GW418.out _ | refine keep_far ?_ GW419.out _) | exact HK.out)⟩

end Go.Proofs.Ytmecnnnagallnaa.PFnExactItineraryOf
