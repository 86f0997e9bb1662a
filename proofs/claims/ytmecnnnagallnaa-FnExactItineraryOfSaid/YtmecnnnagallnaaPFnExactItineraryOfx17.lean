-- Written by this session's program wip/pp (the kit's print tool with additions) 35421559b90ae4d0a3588c463048766b98c2df88dd9212a6774a882060cdf62d
import Derived.Test.YtmecnnnagallnaaPFnExactItineraryOfx0
import Derived.Test.YtmecnnnagallnaaPFnExactItineraryOfx14
import Derived.Test.YtmecnnnagallnaaPFnExactItineraryOfx15
import Derived.Test.YtmecnnnagallnaaPFnExactItineraryOfx16
namespace Go.Proofs.Ytmecnnnagallnaa.PFnExactItineraryOf
open Go.RowKit Go.Proofs.YtmecnnnagallnaaW.PrintWords Go.Proofs.YtmecnnnagallnaaW.PrintLast Go.Proofs.YtmecnnnagallnaaW.PrintMore
attribute [local go_sem] max2_int min2_int max_two min_two max_three min_three max_four min_four   -- for this text's walks alone
set_option linter.unusedVariables false
set_option linter.unusedSimpArgs false

/-! ### impl_calc_add: function 106 -/
def impl_calc_add.f (k : Nat) (s0_0 : Bool) (a1_0 : Int) (a1_1 : Int) (a2_0 : Int) (a2_1 : Int) : Option (Int × Int × Bool) := (impl_AddRats.f k a1_0 a1_1 a2_0 a2_1).bind fun bt477 => ((impl_calc_keep.f s0_0 bt477.1 bt477.2.1 bt477.2.2).bind fun bt480 => (some (bt480.1, bt480.2.1, bt480.2.2)))
set_option maxHeartbeats 8000000 in
set_option maxRecDepth 100000 in
theorem impl_calc_add.calls (k : Nat) (g : Nat) (s0_0 : Bool) (a1_0 : Int) (a1_1 : Int) (a2_0 : Int) (a2_1 : Int) (r1 : Int) (r2 : Int) (r3 : Bool) (w0 w : World) (hI : IsS78 w0 w g s0_0) (hB : Below w0.heap.size w0 w) (h : impl_calc_add.f k s0_0 a1_0 a1_1 a2_0 a2_1 = some (r1, r2, r3)) :
  Calls Try.prog 106 #[.pointer (some ⟨g, 0, none⟩), .agg #[.int .i64 a1_0, .int .i64 a1_1], .agg #[.int .i64 a2_0, .int .i64 a2_1]] w fun e w' => e = .returned (.agg #[.int .i64 r1, .int .i64 r2]) ∧ IsS78 w0 w' g r3 ∧ Below w0.heap.size w0 w' ∧ KeepBut w w' g none := by
 have hu28 := Try.underlying28
 have HI0 := Aside0.mk hI
 have HK := Aside0.mk (KeepBut.refl w g none)
 have HL := Aside0.mk hB.size
 clear hI
 have HW0 := Aside0.mk hB.size
 have HB := Aside0.mk hB
 clear hB
 have H : ((impl_AddRats.f k a1_0 a1_1 a2_0 a2_1).bind fun bt477 => ((impl_calc_keep.f s0_0 bt477.1 bt477.2.1 bt477.2.2).bind fun bt480 => (some (bt480.1, bt480.2.1, bt480.2.2)))) = some (r1, r2, r3) := h
 clear h
 replace H := Option.bind_eq_some_iff.mp H
 obtain ⟨⟨t477, t478, t479⟩, A40, H⟩ := H
 replace H : ((impl_calc_keep.f s0_0 t477 t478 t479).bind fun bt480 => (some (bt480.1, bt480.2.1, bt480.2.2))) = some (r1, r2, r3) := H
 have A4 := Aside0.mk A40
 clear A40
 replace H := Option.bind_eq_some_iff.mp H
 obtain ⟨⟨t480, t481, t482⟩, A50, H⟩ := H
 replace H : (some (t480, t481, t482)) = some (r1, r2, r3) := H
 have A5 := Aside0.mk A50
 clear A50
 simp only [Option.some.injEq, Prod.mk.injEq] at H
 obtain ⟨rfl, rfl, rfl⟩ := H
 go_enter Try.func106, Try.ntmps106
 go_wp2_with (first | ((with_reducible refine gate_dst (N := 4) rfl ?_); refine bx 4 #[.int .i64 a1_0, .int .i64 a1_1] 28 ?_; intro gb474 hg w6 hbox hb; have BK474 := Aside0.mk (hbox); have GW474 := Aside0.mk ((by rw [hg]; exact (keep_size (w := w) (g := g) (row := none) (by repeat (first | (with_reducible first | exact HK.out | apply KeepBut.set_ | apply keep_drewN | apply keep_drew | apply keep_alloc) | exact HK.out))) : w.heap.size ≤ gb474)); have GE474 := Aside0.mk ((Nat.le_trans HW0.out GW474.out : w0.heap.size ≤ gb474)); have NB0_474 := Aside0.mk ((by rw [hg]; exact Nat.ne_of_lt (IsS78.lt (show IsS78 w0 _ g s0_0 from by repeat (first | (with_reducible first | exact HI0.out | apply IsS78.alloc | apply IsS78.drewN | apply IsS78.drew | apply IsS78.set_0) | exact HI0.out))) : g ≠ gb474)); have NB474_0 := sy NB0_474; replace HK := Aside0.mk (KeepBut.trans (by repeat (first | (with_reducible first | exact HK.out | apply KeepBut.set_ | apply keep_drewN | apply keep_drew | apply keep_alloc) | exact HK.out)) (KeepBut.of_below hb g none) (.inl rfl)); replace HB := Aside0.mk (below_step (by repeat (first | (with_reducible first | exact HB.out | apply below_alloc | apply pw_below_drewN | apply below_drew1 | refine below_set ?_ (IsS78.ge HI0.out)) | exact HB.out)) hb); replace HI0 := Aside0.mk (IsS78.below (by repeat (first | (with_reducible first | exact HI0.out | apply IsS78.alloc | apply IsS78.drewN | apply IsS78.drew | apply IsS78.set_0) | exact HI0.out)) hb); clear hb hbox hg) | ((with_reducible refine gate_dst (N := 5) rfl ?_); refine bx 5 #[.int .i64 a2_0, .int .i64 a2_1] 28 ?_; intro gb475 hg w7 hbox hb; have BK475 := Aside0.mk (hbox); have GW475 := Aside0.mk ((by rw [hg]; exact (keep_size (w := w) (g := g) (row := none) (by repeat (first | (with_reducible first | exact HK.out | apply KeepBut.set_ | apply keep_drewN | apply keep_drew | apply keep_alloc | refine keep_far ?_ GW474.out _) | exact HK.out))) : w.heap.size ≤ gb475)); have GE475 := Aside0.mk ((Nat.le_trans HW0.out GW475.out : w0.heap.size ≤ gb475)); have NB474_475 := Aside0.mk (bn gb474 hg); have NB475_474 := sy NB474_475; have NB0_475 := Aside0.mk ((by rw [hg]; exact Nat.ne_of_lt (IsS78.lt (show IsS78 w0 _ g s0_0 from by repeat (first | (with_reducible first | exact HI0.out | apply IsS78.alloc | apply IsS78.drewN | apply IsS78.drew | apply IsS78.set_0 | refine IsS78.far ?_ NB0_474.out _) | exact HI0.out))) : g ≠ gb475)); have NB475_0 := sy NB0_475; replace BK474 := kb BK474 hb; replace HK := Aside0.mk (KeepBut.trans (by repeat (first | (with_reducible first | exact HK.out | apply KeepBut.set_ | apply keep_drewN | apply keep_drew | apply keep_alloc | refine keep_far ?_ GW474.out _) | exact HK.out)) (KeepBut.of_below hb g none) (.inl rfl)); replace HB := Aside0.mk (below_step (by repeat (first | (with_reducible first | exact HB.out | apply below_alloc | apply pw_below_drewN | apply below_drew1 | refine below_set ?_ (IsS78.ge HI0.out) | refine below_set ?_ GE474.out) | exact HB.out)) hb); replace HI0 := Aside0.mk (IsS78.below (by repeat (first | (with_reducible first | exact HI0.out | apply IsS78.alloc | apply IsS78.drewN | apply IsS78.drew | apply IsS78.set_0 | refine IsS78.far ?_ NB0_474.out _) | exact HI0.out)) hb); clear hb hbox hg) | ((with_reducible refine gate_dst (N := 6) rfl ?_); refine bx 6 #[.int .i64 0, .int .i64 0] 28 ?_; intro gb476 hg w8 hbox hb; have BK476 := Aside0.mk (hbox); have GW476 := Aside0.mk ((by rw [hg]; exact (keep_size (w := w) (g := g) (row := none) (by repeat (first | (with_reducible first | exact HK.out | apply KeepBut.set_ | apply keep_drewN | apply keep_drew | apply keep_alloc | refine keep_far ?_ GW474.out _ | refine keep_far ?_ GW475.out _) | exact HK.out))) : w.heap.size ≤ gb476)); have GE476 := Aside0.mk ((Nat.le_trans HW0.out GW476.out : w0.heap.size ≤ gb476)); have NB474_476 := Aside0.mk (bn gb474 hg); have NB476_474 := sy NB474_476; have NB475_476 := Aside0.mk (bn gb475 hg); have NB476_475 := sy NB475_476; have NB0_476 := Aside0.mk ((by rw [hg]; exact Nat.ne_of_lt (IsS78.lt (show IsS78 w0 _ g s0_0 from by repeat (first | (with_reducible first | exact HI0.out | apply IsS78.alloc | apply IsS78.drewN | apply IsS78.drew | apply IsS78.set_0 | refine IsS78.far ?_ NB0_474.out _ | refine IsS78.far ?_ NB0_475.out _) | exact HI0.out))) : g ≠ gb476)); have NB476_0 := sy NB0_476; replace BK474 := kb BK474 hb; replace BK475 := kb BK475 hb; replace HK := Aside0.mk (KeepBut.trans (by repeat (first | (with_reducible first | exact HK.out | apply KeepBut.set_ | apply keep_drewN | apply keep_drew | apply keep_alloc | refine keep_far ?_ GW474.out _ | refine keep_far ?_ GW475.out _) | exact HK.out)) (KeepBut.of_below hb g none) (.inl rfl)); replace HB := Aside0.mk (below_step (by repeat (first | (with_reducible first | exact HB.out | apply below_alloc | apply pw_below_drewN | apply below_drew1 | refine below_set ?_ (IsS78.ge HI0.out) | refine below_set ?_ GE474.out | refine below_set ?_ GE475.out) | exact HB.out)) hb); replace HI0 := Aside0.mk (IsS78.below (by repeat (first | (with_reducible first | exact HI0.out | apply IsS78.alloc | apply IsS78.drewN | apply IsS78.drew | apply IsS78.set_0 | refine IsS78.far ?_ NB0_474.out _ | refine IsS78.far ?_ NB0_475.out _) | exact HI0.out)) hb); clear hb hbox hg; have hnb9 := NB474_475.out; have hnc9 := NB475_474.out; have hnb10 := NB474_476.out; have hnc10 := NB476_474.out; have hnb11 := NB474_0.out; have hnc11 := NB0_474.out; obtain ⟨hcz12_0, hcz12_1, hfz12_0, hfz12_1⟩ := b2 BK474; have hnb13 := NB475_476.out; have hnc13 := NB476_475.out; have hnb14 := NB475_0.out; have hnc14 := NB0_475.out; obtain ⟨hcz15_0, hcz15_1, hfz15_0, hfz15_1⟩ := b2 BK475) | ((with_reducible refine gate_callee (f := 129) rfl ?_); refine gl 10 Try.func129 #[.agg #[.int .i64 a1_0, .int .i64 a1_1], .agg #[.int .i64 a2_0, .int .i64 a2_1]] ?_; (with_reducible refine (impl_AddRats.calls k a1_0 a1_1 a2_0 a2_1 t477 t478 t479 _ A4.out).mono ?_); rintro e w16 ⟨rfl, hb⟩; refine ⟨_, rfl, ?_⟩; replace BK474 := kb BK474 hb; replace BK475 := kb BK475 hb; replace BK476 := kb BK476 hb; replace HK := Aside0.mk (KeepBut.trans (by repeat (first | (with_reducible first | exact HK.out | apply KeepBut.set_ | apply keep_drewN | apply keep_drew | apply keep_alloc | refine keep_far ?_ GW474.out _ | refine keep_far ?_ GW475.out _ | refine keep_far ?_ GW476.out _) | exact HK.out)) (KeepBut.of_below hb g none) (.inl rfl)); replace HB := Aside0.mk (below_step (by repeat (first | (with_reducible first | exact HB.out | apply below_alloc | apply pw_below_drewN | apply below_drew1 | refine below_set ?_ (IsS78.ge HI0.out) | refine below_set ?_ GE474.out | refine below_set ?_ GE475.out | refine below_set ?_ GE476.out) | exact HB.out)) hb); replace HI0 := Aside0.mk (IsS78.below (by repeat (first | (with_reducible first | exact HI0.out | apply IsS78.alloc | apply IsS78.drewN | apply IsS78.drew | apply IsS78.set_0 | refine IsS78.far ?_ NB0_474.out _ | refine IsS78.far ?_ NB0_475.out _ | refine IsS78.far ?_ NB0_476.out _) | exact HI0.out)) hb); (try clear hb); (try clear hb2); (try clear hk); (try clear hi)) | ((with_reducible refine gate_callee (f := 127) rfl ?_); refine gl 13 Try.func127 #[.pointer (some ⟨g, 0, none⟩), .agg #[.int .i64 t477, .int .i64 t478], .bool t479] ?_; (with_reducible refine (impl_calc_keep.calls g s0_0 t477 t478 t479 t480 t481 t482 w0 _ ?side1 ?side2 A5.out).mono ?_); (case side1 => repeat (first | (with_reducible first | exact HI0.out | apply IsS78.alloc | apply IsS78.drewN | apply IsS78.drew | apply IsS78.set_0 | refine IsS78.far ?_ NB0_474.out _ | refine IsS78.far ?_ NB0_475.out _ | refine IsS78.far ?_ NB0_476.out _) | exact HI0.out)); (case side2 => repeat (first | (with_reducible first | exact HB.out | apply below_alloc | apply pw_below_drewN | apply below_drew1 | refine below_set ?_ (IsS78.ge HI0.out) | refine below_set ?_ GE474.out | refine below_set ?_ GE475.out | refine below_set ?_ GE476.out) | exact HB.out)); rintro e w17 ⟨rfl, hi, hb, hk⟩; refine ⟨_, rfl, ?_⟩; replace BK474 := Aside0.mk (KeepBut.blk hk (g' := gb474) (o := .cells #[.int .i64 a1_0, .int .i64 a1_1] 28 (0, 0)) (bo gb474) NB474_0.out (by simp)); replace BK475 := Aside0.mk (KeepBut.blk hk (g' := gb475) (o := .cells #[.int .i64 a2_0, .int .i64 a2_1] 28 (0, 0)) (bo gb475) NB475_0.out (by simp)); replace BK476 := Aside0.mk (KeepBut.blk hk (g' := gb476) (o := .cells #[.int .i64 0, .int .i64 0] 28 (0, 0)) (bo gb476) NB476_0.out (by simp)); replace HK := Aside0.mk (KeepBut.trans (by repeat (first | (with_reducible first | exact HK.out | apply KeepBut.set_ | apply keep_drewN | apply keep_drew | apply keep_alloc | refine keep_far ?_ GW474.out _ | refine keep_far ?_ GW475.out _ | refine keep_far ?_ GW476.out _) | exact HK.out)) hk (.inl rfl)); replace HB := Aside0.mk (hb); replace HI0 := Aside0.mk (hi); (try clear hb); (try clear hb2); (try clear hk); (try clear hi); have hnb18 := NB476_0.out; have hnc18 := NB0_476.out; obtain ⟨hcz19_0, hcz19_1, hfz19_0, hfz19_1⟩ := b2 BK476))
 refine bodyPost_ret (results_cell_row rfl _ _ gb476 28 #[.int .i64 t480, .int .i64 t481] (0, 0) _ rfl (by (with_reducible repeat (first | refine blk_drewN ?_ _ | refine blk_drew ?_ | refine blk_alloc ?_ _)); refine blk_put (cs := #[.int .i64 t480, .int .i64 0]) ?_ 1 _ rfl; (with_reducible repeat (first | refine blk_drewN ?_ _ | refine blk_drew ?_ | refine blk_alloc ?_ _)); refine blk_put (cs := #[.int .i64 0, .int .i64 0]) ?_ 0 _ rfl; (with_reducible repeat (first | refine blk_drewN ?_ _ | refine blk_drew ?_ | refine blk_alloc ?_ _)); exact BK476.out) Try.underlying28 rfl (by kernel_rfl)) rfl ?_
 exact ⟨rt, by repeat (first | (with_reducible first | exact HI0.out | apply IsS78.alloc | apply IsS78.drewN | apply IsS78.drew | apply IsS78.set_0 | refine IsS78.far ?_ NB0_474.out _ | refine IsS78.far ?_ NB0_475.out _ | refine IsS78.far ?_ NB0_476.out _) | exact HI0.out), by repeat (first | (with_reducible first | exact HB.out | apply below_alloc | apply pw_below_drewN | apply below_drew1 | refine below_set ?_ (IsS78.ge HI0.out) | refine below_set ?_ GE474.out | refine below_set ?_ GE475.out | refine below_set ?_ GE476.out) | exact HB.out), by repeat (first | (with_reducible first | exact HK.out | apply KeepBut.set_ | apply keep_drewN | apply keep_drew | apply keep_alloc | refine keep_far ?_ GW474.out _ | refine keep_far ?_ GW475.out _ | refine keep_far ?_ GW476.out _) | exact HK.out)⟩

/-! ### impl_calc_line: function 137 -/
def impl_calc_line.f (k : Nat) (s0_0 : Bool) (a1_0 : Int) (a1_1 : Int) (a1_2 : Int) (a1_3 : Int) (a2_0 : Int) (a2_1 : Int) (a3_0 : Int) (a3_1 : Int) : Option (Int × Int × Bool) := (impl_calc_sub.f k s0_0 a3_0 a3_1 a1_0 a1_1).bind fun bt487 => ((impl_calc_mul.f k bt487.2.2 a2_0 a2_1 bt487.1 bt487.2.1).bind fun bt490 => ((impl_calc_add.f k bt490.2.2 a1_2 a1_3 bt490.1 bt490.2.1).bind fun bt493 => (some (bt493.1, bt493.2.1, bt493.2.2))))
def impl_calc_line.T1 : Bool × List (List Nat × List Nat) := (true, [([], []), ([], []), ([1], [1]), ([], []), ([], []), ([], []), ([], []), ([], []), ([7], [7]), ([5, 6, 8], [5, 6, 8]), ([3, 4, 9, 9], [3, 4, 9]), ([0, 2, 10, 10], [0, 2, 10]), ([11, 11, 0, 1, 2, 3, 4, 5, 6, 7, 8, 9, 10, 11], [11])])
def impl_calc_line.B1 : List Nat := [0, 0, 2, 0, 0, 0, 0, 0, 128, 480, 1016, 2047, 4095]
theorem impl_calc_line.tab1 : rtab .any (opsOf Try.f137 1) = impl_calc_line.T1 := by kernel_rfl
theorem impl_calc_line.bits1 : waitsOk impl_calc_line.T1.2 impl_calc_line.B1 = true := by kernel_rfl
set_option maxHeartbeats 8000000 in
set_option maxRecDepth 100000 in
theorem impl_calc_line.calls (k : Nat) (g : Nat) (s0_0 : Bool) (a1_0 : Int) (a1_1 : Int) (a1_2 : Int) (a1_3 : Int) (a2_0 : Int) (a2_1 : Int) (a3_0 : Int) (a3_1 : Int) (r1 : Int) (r2 : Int) (r3 : Bool) (w0 w : World) (hI : IsS78 w0 w g s0_0) (hB : Below w0.heap.size w0 w) (h : impl_calc_line.f k s0_0 a1_0 a1_1 a1_2 a1_3 a2_0 a2_1 a3_0 a3_1 = some (r1, r2, r3)) :
  Calls Try.prog 137 #[.pointer (some ⟨g, 0, none⟩), .agg #[.int .i64 a1_0, .int .i64 a1_1, .int .i64 a1_2, .int .i64 a1_3], .agg #[.int .i64 a2_0, .int .i64 a2_1], .agg #[.int .i64 a3_0, .int .i64 a3_1]] w fun e w' => e = .returned (.agg #[.int .i64 r1, .int .i64 r2]) ∧ IsS78 w0 w' g r3 ∧ Below w0.heap.size w0 w' ∧ KeepBut w w' g none := by
 have hu68 := Try.underlying68
 have hu28 := Try.underlying28
 have HI0 := Aside0.mk hI
 have HK := Aside0.mk (KeepBut.refl w g none)
 have HL := Aside0.mk hB.size
 clear hI
 have HW0 := Aside0.mk hB.size
 have HB := Aside0.mk hB
 clear hB
 have H : ((impl_calc_sub.f k s0_0 a3_0 a3_1 a1_0 a1_1).bind fun bt487 => ((impl_calc_mul.f k bt487.2.2 a2_0 a2_1 bt487.1 bt487.2.1).bind fun bt490 => ((impl_calc_add.f k bt490.2.2 a1_2 a1_3 bt490.1 bt490.2.1).bind fun bt493 => (some (bt493.1, bt493.2.1, bt493.2.2))))) = some (r1, r2, r3) := h
 clear h
 replace H := Option.bind_eq_some_iff.mp H
 obtain ⟨⟨t487, t488, t489⟩, A50, H⟩ := H
 replace H : ((impl_calc_mul.f k t489 a2_0 a2_1 t487 t488).bind fun bt490 => ((impl_calc_add.f k bt490.2.2 a1_2 a1_3 bt490.1 bt490.2.1).bind fun bt493 => (some (bt493.1, bt493.2.1, bt493.2.2)))) = some (r1, r2, r3) := H
 have A5 := Aside0.mk A50
 clear A50
 replace H := Option.bind_eq_some_iff.mp H
 obtain ⟨⟨t490, t491, t492⟩, A60, H⟩ := H
 replace H : ((impl_calc_add.f k t492 a1_2 a1_3 t490 t491).bind fun bt493 => (some (bt493.1, bt493.2.1, bt493.2.2))) = some (r1, r2, r3) := H
 have A6 := Aside0.mk A60
 clear A60
 replace H := Option.bind_eq_some_iff.mp H
 obtain ⟨⟨t493, t494, t495⟩, A70, H⟩ := H
 replace H : (some (t493, t494, t495)) = some (r1, r2, r3) := H
 have A7 := Aside0.mk A70
 clear A70
 simp only [Option.some.injEq, Prod.mk.injEq] at H
 obtain ⟨rfl, rfl, rfl⟩ := H
 go_enter Try.func137, Try.ntmps137
 try go_wp2_with (first | ((with_reducible refine gate_dst (N := 5) rfl ?_); refine bx 5 #[.int .i64 a1_0, .int .i64 a1_1, .int .i64 a1_2, .int .i64 a1_3] 68 ?_; intro gb483 hg w8 hbox hb; have BK483 := Aside0.mk (hbox); have GW483 := Aside0.mk ((by rw [hg]; exact (keep_size (w := w) (g := g) (row := none) (by repeat (first | (with_reducible first | exact HK.out | apply KeepBut.set_ | apply keep_drewN | apply keep_drew | apply keep_alloc) | exact HK.out))) : w.heap.size ≤ gb483)); have GE483 := Aside0.mk ((Nat.le_trans HW0.out GW483.out : w0.heap.size ≤ gb483)); have NB0_483 := Aside0.mk ((by rw [hg]; exact Nat.ne_of_lt (IsS78.lt (show IsS78 w0 _ g s0_0 from by repeat (first | (with_reducible first | exact HI0.out | apply IsS78.alloc | apply IsS78.drewN | apply IsS78.drew | apply IsS78.set_0) | exact HI0.out))) : g ≠ gb483)); have NB483_0 := sy NB0_483; replace HK := Aside0.mk (KeepBut.trans (by repeat (first | (with_reducible first | exact HK.out | apply KeepBut.set_ | apply keep_drewN | apply keep_drew | apply keep_alloc) | exact HK.out)) (KeepBut.of_below hb g none) (.inl rfl)); replace HB := Aside0.mk (below_step (by repeat (first | (with_reducible first | exact HB.out | apply below_alloc | apply pw_below_drewN | apply below_drew1 | refine below_set ?_ (IsS78.ge HI0.out)) | exact HB.out)) hb); replace HI0 := Aside0.mk (IsS78.below (by repeat (first | (with_reducible first | exact HI0.out | apply IsS78.alloc | apply IsS78.drewN | apply IsS78.drew | apply IsS78.set_0) | exact HI0.out)) hb); clear hb hbox hg) | ((with_reducible refine gate_dst (N := 6) rfl ?_); refine bx 6 #[.int .i64 a2_0, .int .i64 a2_1] 28 ?_; intro gb484 hg w9 hbox hb; have BK484 := Aside0.mk (hbox); have GW484 := Aside0.mk ((by rw [hg]; exact (keep_size (w := w) (g := g) (row := none) (by repeat (first | (with_reducible first | exact HK.out | apply KeepBut.set_ | apply keep_drewN | apply keep_drew | apply keep_alloc | refine keep_far ?_ GW483.out _) | exact HK.out))) : w.heap.size ≤ gb484)); have GE484 := Aside0.mk ((Nat.le_trans HW0.out GW484.out : w0.heap.size ≤ gb484)); have NB483_484 := Aside0.mk (bn gb483 hg); have NB484_483 := sy NB483_484; have NB0_484 := Aside0.mk ((by rw [hg]; exact Nat.ne_of_lt (IsS78.lt (show IsS78 w0 _ g s0_0 from by repeat (first | (with_reducible first | exact HI0.out | apply IsS78.alloc | apply IsS78.drewN | apply IsS78.drew | apply IsS78.set_0 | refine IsS78.far ?_ NB0_483.out _) | exact HI0.out))) : g ≠ gb484)); have NB484_0 := sy NB0_484; replace BK483 := kb BK483 hb; replace HK := Aside0.mk (KeepBut.trans (by repeat (first | (with_reducible first | exact HK.out | apply KeepBut.set_ | apply keep_drewN | apply keep_drew | apply keep_alloc | refine keep_far ?_ GW483.out _) | exact HK.out)) (KeepBut.of_below hb g none) (.inl rfl)); replace HB := Aside0.mk (below_step (by repeat (first | (with_reducible first | exact HB.out | apply below_alloc | apply pw_below_drewN | apply below_drew1 | refine below_set ?_ (IsS78.ge HI0.out) | refine below_set ?_ GE483.out) | exact HB.out)) hb); replace HI0 := Aside0.mk (IsS78.below (by repeat (first | (with_reducible first | exact HI0.out | apply IsS78.alloc | apply IsS78.drewN | apply IsS78.drew | apply IsS78.set_0 | refine IsS78.far ?_ NB0_483.out _) | exact HI0.out)) hb); clear hb hbox hg) | ((with_reducible refine gate_dst (N := 7) rfl ?_); refine bx 7 #[.int .i64 a3_0, .int .i64 a3_1] 28 ?_; intro gb485 hg w10 hbox hb; have BK485 := Aside0.mk (hbox); have GW485 := Aside0.mk ((by rw [hg]; exact (keep_size (w := w) (g := g) (row := none) (by repeat (first | (with_reducible first | exact HK.out | apply KeepBut.set_ | apply keep_drewN | apply keep_drew | apply keep_alloc | refine keep_far ?_ GW483.out _ | refine keep_far ?_ GW484.out _) | exact HK.out))) : w.heap.size ≤ gb485)); have GE485 := Aside0.mk ((Nat.le_trans HW0.out GW485.out : w0.heap.size ≤ gb485)); have NB483_485 := Aside0.mk (bn gb483 hg); have NB485_483 := sy NB483_485; have NB484_485 := Aside0.mk (bn gb484 hg); have NB485_484 := sy NB484_485; have NB0_485 := Aside0.mk ((by rw [hg]; exact Nat.ne_of_lt (IsS78.lt (show IsS78 w0 _ g s0_0 from by repeat (first | (with_reducible first | exact HI0.out | apply IsS78.alloc | apply IsS78.drewN | apply IsS78.drew | apply IsS78.set_0 | refine IsS78.far ?_ NB0_483.out _ | refine IsS78.far ?_ NB0_484.out _) | exact HI0.out))) : g ≠ gb485)); have NB485_0 := sy NB0_485; replace BK483 := kb BK483 hb; replace BK484 := kb BK484 hb; replace HK := Aside0.mk (KeepBut.trans (by repeat (first | (with_reducible first | exact HK.out | apply KeepBut.set_ | apply keep_drewN | apply keep_drew | apply keep_alloc | refine keep_far ?_ GW483.out _ | refine keep_far ?_ GW484.out _) | exact HK.out)) (KeepBut.of_below hb g none) (.inl rfl)); replace HB := Aside0.mk (below_step (by repeat (first | (with_reducible first | exact HB.out | apply below_alloc | apply pw_below_drewN | apply below_drew1 | refine below_set ?_ (IsS78.ge HI0.out) | refine below_set ?_ GE483.out | refine below_set ?_ GE484.out) | exact HB.out)) hb); replace HI0 := Aside0.mk (IsS78.below (by repeat (first | (with_reducible first | exact HI0.out | apply IsS78.alloc | apply IsS78.drewN | apply IsS78.drew | apply IsS78.set_0 | refine IsS78.far ?_ NB0_483.out _ | refine IsS78.far ?_ NB0_484.out _) | exact HI0.out)) hb); clear hb hbox hg) | ((with_reducible refine gate_dst (N := 8) rfl ?_); refine bx 8 #[.int .i64 0, .int .i64 0] 28 ?_; intro gb486 hg w11 hbox hb; have BK486 := Aside0.mk (hbox); have GW486 := Aside0.mk ((by rw [hg]; exact (keep_size (w := w) (g := g) (row := none) (by repeat (first | (with_reducible first | exact HK.out | apply KeepBut.set_ | apply keep_drewN | apply keep_drew | apply keep_alloc | refine keep_far ?_ GW483.out _ | refine keep_far ?_ GW484.out _ | refine keep_far ?_ GW485.out _) | exact HK.out))) : w.heap.size ≤ gb486)); have GE486 := Aside0.mk ((Nat.le_trans HW0.out GW486.out : w0.heap.size ≤ gb486)); have NB483_486 := Aside0.mk (bn gb483 hg); have NB486_483 := sy NB483_486; have NB484_486 := Aside0.mk (bn gb484 hg); have NB486_484 := sy NB484_486; have NB485_486 := Aside0.mk (bn gb485 hg); have NB486_485 := sy NB485_486; have NB0_486 := Aside0.mk ((by rw [hg]; exact Nat.ne_of_lt (IsS78.lt (show IsS78 w0 _ g s0_0 from by repeat (first | (with_reducible first | exact HI0.out | apply IsS78.alloc | apply IsS78.drewN | apply IsS78.drew | apply IsS78.set_0 | refine IsS78.far ?_ NB0_483.out _ | refine IsS78.far ?_ NB0_484.out _ | refine IsS78.far ?_ NB0_485.out _) | exact HI0.out))) : g ≠ gb486)); have NB486_0 := sy NB0_486; replace BK483 := kb BK483 hb; replace BK484 := kb BK484 hb; replace BK485 := kb BK485 hb; replace HK := Aside0.mk (KeepBut.trans (by repeat (first | (with_reducible first | exact HK.out | apply KeepBut.set_ | apply keep_drewN | apply keep_drew | apply keep_alloc | refine keep_far ?_ GW483.out _ | refine keep_far ?_ GW484.out _ | refine keep_far ?_ GW485.out _) | exact HK.out)) (KeepBut.of_below hb g none) (.inl rfl)); replace HB := Aside0.mk (below_step (by repeat (first | (with_reducible first | exact HB.out | apply below_alloc | apply pw_below_drewN | apply below_drew1 | refine below_set ?_ (IsS78.ge HI0.out) | refine below_set ?_ GE483.out | refine below_set ?_ GE484.out | refine below_set ?_ GE485.out) | exact HB.out)) hb); replace HI0 := Aside0.mk (IsS78.below (by repeat (first | (with_reducible first | exact HI0.out | apply IsS78.alloc | apply IsS78.drewN | apply IsS78.drew | apply IsS78.set_0 | refine IsS78.far ?_ NB0_483.out _ | refine IsS78.far ?_ NB0_484.out _ | refine IsS78.far ?_ NB0_485.out _) | exact HI0.out)) hb); clear hb hbox hg))
 replace BK483 := Aside0.mk (blk_drew BK483.out)
 replace BK484 := Aside0.mk (blk_drew BK484.out)
 replace BK485 := Aside0.mk (blk_drew BK485.out)
 replace BK486 := Aside0.mk (blk_drew BK486.out)
 replace HI0 := Aside0.mk (IsS78.drew HI0.out)
 replace HK := Aside0.mk (keep_drew HK.out)
 replace HB := Aside0.mk (below_drew1 HB.out)
 refine start_ (n := 13) (S := fun w' => w'.cell? ⟨gb483, 0, none⟩ = some (.int .i64 a1_0) ∧ w'.cell? ⟨gb483, 1, none⟩ = some (.int .i64 a1_1) ∧ w'.cell? ⟨gb483, 2, none⟩ = some (.int .i64 a1_2) ∧ w'.cell? ⟨gb483, 3, none⟩ = some (.int .i64 a1_3) ∧ w'.cell? ⟨gb484, 0, none⟩ = some (.int .i64 a2_0) ∧ w'.cell? ⟨gb484, 1, none⟩ = some (.int .i64 a2_1) ∧ w'.cell? ⟨gb485, 0, none⟩ = some (.int .i64 a3_0) ∧ w'.cell? ⟨gb485, 1, none⟩ = some (.int .i64 a3_1)) (ds := []) (tb 0 13) (by kernel_rfl) rfl rfl ⟨(blk_cell BK483.out 0).trans rfl, (blk_cell BK483.out 1).trans rfl, (blk_cell BK483.out 2).trans rfl, (blk_cell BK483.out 3).trans rfl, (blk_cell BK484.out 0).trans rfl, (blk_cell BK484.out 1).trans rfl, (blk_cell BK485.out 0).trans rfl, (blk_cell BK485.out 1).trans rfl⟩ (fun hHeld => ?_); refine with_tabW impl_calc_line.tab1 impl_calc_line.bits1 (fun HT_ HW_ => ?_)
 generalize w11.drew = w12 at BK483 BK484 BK485 BK486 HI0 HK HB hHeld ⊢
 refine pu 0 9 (tb 1 12) ?_
 refine pu 1 10 (tb 2 11) ?_
 refine pu 3 12 #[true, true, false, true, false, false, false, false, false, false, false, false, false] ?_
 refine pu 5 14 #[true, true, false, true, false, true, false, false, false, false, false, false, false] ?_
 refine pu 7 16 #[true, true, false, true, false, true, false, true, false, false, false, false, false] ?_
 refine tk 2 11 #[true, true, true, true, false, true, false, true, false, false, false, false, false] (hy := by rintro w' ⟨s0, s1, s2, s3, s4, s5, s6, s7⟩; go_simp; with_reducible rfl) (h := ?_)
 refine tk 4 13 #[true, true, true, true, true, true, false, true, false, false, false, false, false] (hy := by rintro w' ⟨s0, s1, s2, s3, s4, s5, s6, s7⟩; go_simp; with_reducible rfl) (h := ?_)
 refine tk 6 15 (tb 8 5) (hy := by rintro w' ⟨s0, s1, s2, s3, s4, s5, s6, s7⟩; go_simp; with_reducible rfl) (h := ?_)
 refine tk 8 17 (tb 9 4) (hy := by rintro w' ⟨s0, s1, s2, s3, s4, s5, s6, s7⟩; go_simp; with_reducible rfl) (h := ?_)
 refine on 9 18 (tb 10 3) (fun K hK => ?_)
 refine gs Try.func107 #[.pointer (some ⟨g, 0, none⟩), .agg #[.int .i64 a3_0, .int .i64 a3_1], .agg #[.int .i64 a1_0, .int .i64 a1_1]] ?_
 with_reducible refine (impl_calc_sub.calls k g s0_0 a3_0 a3_1 a1_0 a1_1 t487 t488 t489 w0 _ ?side1 ?side2 A5.out).mono ?_
 (case side1 => repeat (first | (with_reducible first | exact HI0.out | apply IsS78.alloc | apply IsS78.drewN | apply IsS78.drew | apply IsS78.set_0 | refine IsS78.far ?_ NB0_483.out _ | refine IsS78.far ?_ NB0_484.out _ | refine IsS78.far ?_ NB0_485.out _ | refine IsS78.far ?_ NB0_486.out _) | exact HI0.out))
 (case side2 => repeat (first | (with_reducible first | exact HB.out | apply below_alloc | apply pw_below_drewN | apply below_drew1 | refine below_set ?_ (IsS78.ge HI0.out) | refine below_set ?_ GE483.out | refine below_set ?_ GE484.out | refine below_set ?_ GE485.out | refine below_set ?_ GE486.out) | exact HB.out))
 rintro e w13 ⟨rfl, hi, hb, hk⟩
 refine ⟨_, rfl, ?_⟩
 replace BK483 := Aside0.mk (KeepBut.blk hk (g' := gb483) (o := .cells #[.int .i64 a1_0, .int .i64 a1_1, .int .i64 a1_2, .int .i64 a1_3] 68 (0, 0)) (bo gb483) NB483_0.out (by simp))
 replace BK484 := Aside0.mk (KeepBut.blk hk (g' := gb484) (o := .cells #[.int .i64 a2_0, .int .i64 a2_1] 28 (0, 0)) (bo gb484) NB484_0.out (by simp))
 replace BK485 := Aside0.mk (KeepBut.blk hk (g' := gb485) (o := .cells #[.int .i64 a3_0, .int .i64 a3_1] 28 (0, 0)) (bo gb485) NB485_0.out (by simp))
 replace BK486 := Aside0.mk (KeepBut.blk hk (g' := gb486) (o := .cells #[.int .i64 0, .int .i64 0] 28 (0, 0)) (bo gb486) NB486_0.out (by simp))
 replace HK := Aside0.mk (KeepBut.trans (by repeat (first | (with_reducible first | exact HK.out | apply KeepBut.set_ | apply keep_drewN | apply keep_drew | apply keep_alloc | refine keep_far ?_ GW483.out _ | refine keep_far ?_ GW484.out _ | refine keep_far ?_ GW485.out _ | refine keep_far ?_ GW486.out _) | exact HK.out)) hk (.inl rfl))
 replace HB := Aside0.mk (hb)
 replace HI0 := Aside0.mk (hi)
 (try clear hb)
 (try clear hb2)
 (try clear hk)
 (try clear hi)
 refine hK.out _ _ ⟨(blk_cell BK483.out 0).trans rfl, (blk_cell BK483.out 1).trans rfl, (blk_cell BK483.out 2).trans rfl, (blk_cell BK483.out 3).trans rfl, (blk_cell BK484.out 0).trans rfl, (blk_cell BK484.out 1).trans rfl, (blk_cell BK485.out 0).trans rfl, (blk_cell BK485.out 1).trans rfl⟩ (fun hHeld => ?_)
 clear hK K
 refine nm 18 ?_
 refine on 10 19 (tb 11 2) (fun K hK => ?_)
 refine gs Try.func105 #[.pointer (some ⟨g, 0, none⟩), .agg #[.int .i64 a2_0, .int .i64 a2_1], .agg #[.int .i64 t487, .int .i64 t488]] ?_
 with_reducible refine (impl_calc_mul.calls k g t489 a2_0 a2_1 t487 t488 t490 t491 t492 w0 _ ?side1 ?side2 A6.out).mono ?_
 (case side1 => repeat (first | (with_reducible first | exact HI0.out | apply IsS78.alloc | apply IsS78.drewN | apply IsS78.drew | apply IsS78.set_0 | refine IsS78.far ?_ NB0_483.out _ | refine IsS78.far ?_ NB0_484.out _ | refine IsS78.far ?_ NB0_485.out _ | refine IsS78.far ?_ NB0_486.out _) | exact HI0.out))
 (case side2 => repeat (first | (with_reducible first | exact HB.out | apply below_alloc | apply pw_below_drewN | apply below_drew1 | refine below_set ?_ (IsS78.ge HI0.out) | refine below_set ?_ GE483.out | refine below_set ?_ GE484.out | refine below_set ?_ GE485.out | refine below_set ?_ GE486.out) | exact HB.out))
 rintro e w14 ⟨rfl, hi, hb, hk⟩
 refine ⟨_, rfl, ?_⟩
 replace BK483 := Aside0.mk (KeepBut.blk hk (g' := gb483) (o := .cells #[.int .i64 a1_0, .int .i64 a1_1, .int .i64 a1_2, .int .i64 a1_3] 68 (0, 0)) (bo gb483) NB483_0.out (by simp))
 replace BK484 := Aside0.mk (KeepBut.blk hk (g' := gb484) (o := .cells #[.int .i64 a2_0, .int .i64 a2_1] 28 (0, 0)) (bo gb484) NB484_0.out (by simp))
 replace BK485 := Aside0.mk (KeepBut.blk hk (g' := gb485) (o := .cells #[.int .i64 a3_0, .int .i64 a3_1] 28 (0, 0)) (bo gb485) NB485_0.out (by simp))
 replace BK486 := Aside0.mk (KeepBut.blk hk (g' := gb486) (o := .cells #[.int .i64 0, .int .i64 0] 28 (0, 0)) (bo gb486) NB486_0.out (by simp))
 replace HK := Aside0.mk (KeepBut.trans (by repeat (first | (with_reducible first | exact HK.out | apply KeepBut.set_ | apply keep_drewN | apply keep_drew | apply keep_alloc | refine keep_far ?_ GW483.out _ | refine keep_far ?_ GW484.out _ | refine keep_far ?_ GW485.out _ | refine keep_far ?_ GW486.out _) | exact HK.out)) hk (.inl rfl))
 replace HB := Aside0.mk (hb)
 replace HI0 := Aside0.mk (hi)
 (try clear hb)
 (try clear hb2)
 (try clear hk)
 (try clear hi)
 refine hK.out _ _ ⟨(blk_cell BK483.out 0).trans rfl, (blk_cell BK483.out 1).trans rfl, (blk_cell BK483.out 2).trans rfl, (blk_cell BK483.out 3).trans rfl, (blk_cell BK484.out 0).trans rfl, (blk_cell BK484.out 1).trans rfl, (blk_cell BK485.out 0).trans rfl, (blk_cell BK485.out 1).trans rfl⟩ (fun hHeld => ?_)
 clear hK K
 refine nm 19 ?_
 refine on 11 20 (tb 12 1) (fun K hK => ?_)
 refine gs Try.func106 #[.pointer (some ⟨g, 0, none⟩), .agg #[.int .i64 a1_2, .int .i64 a1_3], .agg #[.int .i64 t490, .int .i64 t491]] ?_
 with_reducible refine (impl_calc_add.calls k g t492 a1_2 a1_3 t490 t491 t493 t494 t495 w0 _ ?side1 ?side2 A7.out).mono ?_
 (case side1 => repeat (first | (with_reducible first | exact HI0.out | apply IsS78.alloc | apply IsS78.drewN | apply IsS78.drew | apply IsS78.set_0 | refine IsS78.far ?_ NB0_483.out _ | refine IsS78.far ?_ NB0_484.out _ | refine IsS78.far ?_ NB0_485.out _ | refine IsS78.far ?_ NB0_486.out _) | exact HI0.out))
 (case side2 => repeat (first | (with_reducible first | exact HB.out | apply below_alloc | apply pw_below_drewN | apply below_drew1 | refine below_set ?_ (IsS78.ge HI0.out) | refine below_set ?_ GE483.out | refine below_set ?_ GE484.out | refine below_set ?_ GE485.out | refine below_set ?_ GE486.out) | exact HB.out))
 rintro e w15 ⟨rfl, hi, hb, hk⟩
 refine ⟨_, rfl, ?_⟩
 replace BK483 := Aside0.mk (KeepBut.blk hk (g' := gb483) (o := .cells #[.int .i64 a1_0, .int .i64 a1_1, .int .i64 a1_2, .int .i64 a1_3] 68 (0, 0)) (bo gb483) NB483_0.out (by simp))
 replace BK484 := Aside0.mk (KeepBut.blk hk (g' := gb484) (o := .cells #[.int .i64 a2_0, .int .i64 a2_1] 28 (0, 0)) (bo gb484) NB484_0.out (by simp))
 replace BK485 := Aside0.mk (KeepBut.blk hk (g' := gb485) (o := .cells #[.int .i64 a3_0, .int .i64 a3_1] 28 (0, 0)) (bo gb485) NB485_0.out (by simp))
 replace BK486 := Aside0.mk (KeepBut.blk hk (g' := gb486) (o := .cells #[.int .i64 0, .int .i64 0] 28 (0, 0)) (bo gb486) NB486_0.out (by simp))
 replace HK := Aside0.mk (KeepBut.trans (by repeat (first | (with_reducible first | exact HK.out | apply KeepBut.set_ | apply keep_drewN | apply keep_drew | apply keep_alloc | refine keep_far ?_ GW483.out _ | refine keep_far ?_ GW484.out _ | refine keep_far ?_ GW485.out _ | refine keep_far ?_ GW486.out _) | exact HK.out)) hk (.inl rfl))
 replace HB := Aside0.mk (hb)
 replace HI0 := Aside0.mk (hi)
 (try clear hb)
 (try clear hb2)
 (try clear hk)
 (try clear hi)
 refine hK.out _ _ ⟨(blk_cell BK483.out 0).trans rfl, (blk_cell BK483.out 1).trans rfl, (blk_cell BK483.out 2).trans rfl, (blk_cell BK483.out 3).trans rfl, (blk_cell BK484.out 0).trans rfl, (blk_cell BK484.out 1).trans rfl, (blk_cell BK485.out 0).trans rfl, (blk_cell BK485.out 1).trans rfl⟩ (fun hHeld => ?_)
 clear hK K
 refine nm 20 ?_
 refine one_ (i := 12) (N := none) (tb 13 0) rfl rfl (one_of HT_.out (by kernel_rfl)) (by decide) (fun K hK => ?_)
 have hs16 : w15.cell? ⟨gb486, 0, none⟩ = some (.int .i64 0) := (blk_cell BK486.out 0).trans rfl
 have hfs16 := blk_frozen BK486.out 0
 have hns16_0 := NB483_486.out
 have hns16_1 := NB484_486.out
 have hns16_2 := NB485_486.out
 have hms16_0 := NB486_483.out
 have hms16_1 := NB486_484.out
 have hms16_2 := NB486_485.out
 have hs17 : w15.cell? ⟨gb486, 1, none⟩ = some (.int .i64 0) := (blk_cell BK486.out 1).trans rfl
 have hfs17 := blk_frozen BK486.out 1
 have hns17_0 := NB483_486.out
 have hns17_1 := NB484_486.out
 have hns17_2 := NB485_486.out
 have hms17_0 := NB486_483.out
 have hms17_1 := NB486_484.out
 have hms17_2 := NB486_485.out
 refine skip_ (w1 := ?_) (by rfl) rfl ?_ ?_
 rotate_left
 ·go_simp
  rfl
 refine hK.out _ _ ⟨(by (iterate 2 refine (cell_far (p := ⟨gb486, _, none⟩) NB483_486.out _).trans ?_); exact hHeld.1), (by (iterate 2 refine (cell_far (p := ⟨gb486, _, none⟩) NB483_486.out _).trans ?_); exact hHeld.2.1), (by (iterate 2 refine (cell_far (p := ⟨gb486, _, none⟩) NB483_486.out _).trans ?_); exact hHeld.2.2.1), (by (iterate 2 refine (cell_far (p := ⟨gb486, _, none⟩) NB483_486.out _).trans ?_); exact hHeld.2.2.2.1), (by (iterate 2 refine (cell_far (p := ⟨gb486, _, none⟩) NB484_486.out _).trans ?_); exact hHeld.2.2.2.2.1), (by (iterate 2 refine (cell_far (p := ⟨gb486, _, none⟩) NB484_486.out _).trans ?_); exact hHeld.2.2.2.2.2.1), (by (iterate 2 refine (cell_far (p := ⟨gb486, _, none⟩) NB485_486.out _).trans ?_); exact hHeld.2.2.2.2.2.2.1), (by (iterate 2 refine (cell_far (p := ⟨gb486, _, none⟩) NB485_486.out _).trans ?_); exact hHeld.2.2.2.2.2.2.2)⟩ (fun hHeld => ?_)
 clear hK K
 refine done_ (done_of HT_.out (by kernel_rfl)) ?_
 try go_wp2
 refine bodyPost_ret (results_cell_row rfl _ _ gb486 28 #[.int .i64 t493, .int .i64 t494] (0, 0) _ rfl (by (with_reducible repeat (first | refine blk_drewN ?_ _ | refine blk_drew ?_ | refine blk_alloc ?_ _)); refine blk_put (cs := #[.int .i64 t493, .int .i64 0]) ?_ 1 _ rfl; (with_reducible repeat (first | refine blk_drewN ?_ _ | refine blk_drew ?_ | refine blk_alloc ?_ _)); refine blk_put (cs := #[.int .i64 0, .int .i64 0]) ?_ 0 _ rfl; (with_reducible repeat (first | refine blk_drewN ?_ _ | refine blk_drew ?_ | refine blk_alloc ?_ _)); exact BK486.out) Try.underlying28 rfl (by kernel_rfl)) rfl ?_
 exact ⟨rt, by repeat (first | (with_reducible first | exact HI0.out | apply IsS78.alloc | apply IsS78.drewN | apply IsS78.drew | apply IsS78.set_0 | refine IsS78.far ?_ NB0_483.out _ | refine IsS78.far ?_ NB0_484.out _ | refine IsS78.far ?_ NB0_485.out _ | refine IsS78.far ?_ NB0_486.out _) | exact HI0.out), by repeat (first | (with_reducible first | exact HB.out | apply below_alloc | apply pw_below_drewN | apply below_drew1 | refine below_set ?_ (IsS78.ge HI0.out) | refine below_set ?_ GE483.out | refine below_set ?_ GE484.out | refine below_set ?_ GE485.out | refine below_set ?_ GE486.out) | exact HB.out), by repeat (first | (with_reducible first | exact HK.out | apply KeepBut.set_ | apply keep_drewN | apply keep_drew | apply keep_alloc | refine keep_far ?_ GW483.out _ | refine keep_far ?_ GW484.out _ | refine keep_far ?_ GW485.out _ | refine keep_far ?_ GW486.out _) | exact HK.out)⟩

/-! ### impl_calc_value: function 117 -/
def impl_calc_value.f (k : Nat) (s0_0 : Bool) (l1 : List (S68)) (a2_0 : Int) (a2_1 : Int) : Option (Int × Int × Bool) := (impl_pieceAt.f k l1 a2_0 a2_1).bind fun t498 => (if 0 ≤ t498 then (if t498 < (l1.length : Int) then (if 0 ≤ (wrap64 (t498 + 1)) then (if (wrap64 (t498 + 1)) < (l1.length : Int) then ((impl_calc_slope.f k s0_0 ((rd_T68 l1 t498).f0.f0) ((rd_T68 l1 t498).f0.f1) ((rd_T68 l1 t498).f1.f0) ((rd_T68 l1 t498).f1.f1) ((rd_T68 l1 (wrap64 (t498 + 1))).f0.f0) ((rd_T68 l1 (wrap64 (t498 + 1))).f0.f1) ((rd_T68 l1 (wrap64 (t498 + 1))).f1.f0) ((rd_T68 l1 (wrap64 (t498 + 1))).f1.f1)).bind fun bt502 => ((impl_calc_line.f k bt502.2.2 ((rd_T68 l1 t498).f0.f0) ((rd_T68 l1 t498).f0.f1) ((rd_T68 l1 t498).f1.f0) ((rd_T68 l1 t498).f1.f1) bt502.1 bt502.2.1 a2_0 a2_1).bind fun bt505 => (some (bt505.1, bt505.2.1, bt505.2.2)))) else (none)) else (none)) else (none)) else (none))
def impl_calc_value.T2 : Bool × List (List Nat × List Nat) := (true, [([], []), ([], []), ([], []), ([1, 2], [1, 2]), ([3], [3]), ([], []), ([], []), ([], []), ([6, 7], [6, 7]), ([8], [8]), ([], []), ([], []), ([11], [11]), ([10, 12], [10, 12]), ([13], [13]), ([5, 9, 14], [5, 9, 14]), ([], []), ([0, 4, 15, 16, 15], [0, 4, 15, 16]), ([17, 17, 0, 1, 2, 3, 4, 5, 6, 7, 8, 9, 10, 11, 12, 13, 14, 15, 16, 17], [17])])
def impl_calc_value.B2 : List Nat := [0, 0, 0, 6, 14, 0, 0, 0, 192, 448, 0, 0, 2048, 7168, 15360, 32736, 0, 131071, 262143]
theorem impl_calc_value.tab2 : rtab .any (opsOf Try.f117 2) = impl_calc_value.T2 := by kernel_rfl
theorem impl_calc_value.bits2 : waitsOk impl_calc_value.T2.2 impl_calc_value.B2 = true := by kernel_rfl
set_option maxHeartbeats 8000000 in
set_option maxRecDepth 100000 in
theorem impl_calc_value.calls (k : Nat) (g : Nat) (s0_0 : Bool) (A1 : Option Addr) (c1 : Nat) (l1 : List (S68)) (a2_0 : Int) (a2_1 : Int) (r1 : Int) (r2 : Int) (r3 : Bool) (w0 w : World) (hI : IsS78 w0 w g s0_0) (hB : Below w0.heap.size w0 w) (hr1 : ∀ W_, KeepBut w W_ g none → Kd.C k68 W_ A1 l1.length l1) (hc1 : l1.length ≤ c1) (h : impl_calc_value.f k s0_0 l1 a2_0 a2_1 = some (r1, r2, r3)) :
  Calls Try.prog 117 #[.pointer (some ⟨g, 0, none⟩), .slice A1 l1.length c1, .agg #[.int .i64 a2_0, .int .i64 a2_1]] w fun e w' => e = .returned (.agg #[.int .i64 r1, .int .i64 r2]) ∧ IsS78 w0 w' g r3 ∧ Below w0.heap.size w0 w' ∧ KeepBut w w' g none := by
 have hu28 := Try.underlying28
 have hu68 := Try.underlying68
 have HR1 := Aside0.mk hr1
 have HC1 := Aside0.mk hc1
 clear hr1 hc1
 have HI0 := Aside0.mk hI
 have HK := Aside0.mk (KeepBut.refl w g none)
 have HL := Aside0.mk hB.size
 clear hI
 have HW0 := Aside0.mk hB.size
 have HB := Aside0.mk hB
 clear hB
 have H : ((impl_pieceAt.f k l1 a2_0 a2_1).bind fun t498 => (if 0 ≤ t498 then (if t498 < (l1.length : Int) then (if 0 ≤ (wrap64 (t498 + 1)) then (if (wrap64 (t498 + 1)) < (l1.length : Int) then ((impl_calc_slope.f k s0_0 ((rd_T68 l1 t498).f0.f0) ((rd_T68 l1 t498).f0.f1) ((rd_T68 l1 t498).f1.f0) ((rd_T68 l1 t498).f1.f1) ((rd_T68 l1 (wrap64 (t498 + 1))).f0.f0) ((rd_T68 l1 (wrap64 (t498 + 1))).f0.f1) ((rd_T68 l1 (wrap64 (t498 + 1))).f1.f0) ((rd_T68 l1 (wrap64 (t498 + 1))).f1.f1)).bind fun bt502 => ((impl_calc_line.f k bt502.2.2 ((rd_T68 l1 t498).f0.f0) ((rd_T68 l1 t498).f0.f1) ((rd_T68 l1 t498).f1.f0) ((rd_T68 l1 t498).f1.f1) bt502.1 bt502.2.1 a2_0 a2_1).bind fun bt505 => (some (bt505.1, bt505.2.1, bt505.2.2)))) else (none)) else (none)) else (none)) else (none))) = some (r1, r2, r3) := h
 clear h
 replace H := Option.bind_eq_some_iff.mp H
 obtain ⟨t498, A40, H⟩ := H
 replace H : (if 0 ≤ t498 then (if t498 < (l1.length : Int) then (if 0 ≤ (wrap64 (t498 + 1)) then (if (wrap64 (t498 + 1)) < (l1.length : Int) then ((impl_calc_slope.f k s0_0 ((rd_T68 l1 t498).f0.f0) ((rd_T68 l1 t498).f0.f1) ((rd_T68 l1 t498).f1.f0) ((rd_T68 l1 t498).f1.f1) ((rd_T68 l1 (wrap64 (t498 + 1))).f0.f0) ((rd_T68 l1 (wrap64 (t498 + 1))).f0.f1) ((rd_T68 l1 (wrap64 (t498 + 1))).f1.f0) ((rd_T68 l1 (wrap64 (t498 + 1))).f1.f1)).bind fun bt502 => ((impl_calc_line.f k bt502.2.2 ((rd_T68 l1 t498).f0.f0) ((rd_T68 l1 t498).f0.f1) ((rd_T68 l1 t498).f1.f0) ((rd_T68 l1 t498).f1.f1) bt502.1 bt502.2.1 a2_0 a2_1).bind fun bt505 => (some (bt505.1, bt505.2.1, bt505.2.2)))) else (none)) else (none)) else (none)) else (none)) = some (r1, r2, r3) := H
 have A4 := Aside0.mk A40
 clear A40
 by_cases c5 : 0 ≤ t498
 ·rw [if_pos c5] at H
  have c5b0 : decide (0 ≤ t498) = true := decide_eq_true c5
  clear c5
  by_cases c6 : t498 < (l1.length : Int)
  ·rw [if_pos c6] at H
   have c6b0 : decide (t498 < (l1.length : Int)) = true := decide_eq_true c6
   clear c6
   obtain ⟨ji7, hji7⟩ : ∃ j_ : Int, (wrap64 (t498 + 1)) = j_ := ⟨_, rfl⟩
   replace H : (if 0 ≤ (ji7) then (if (ji7) < (l1.length : Int) then ((impl_calc_slope.f k s0_0 ((rd_T68 l1 t498).f0.f0) ((rd_T68 l1 t498).f0.f1) ((rd_T68 l1 t498).f1.f0) ((rd_T68 l1 t498).f1.f1) ((rd_T68 l1 (ji7)).f0.f0) ((rd_T68 l1 (ji7)).f0.f1) ((rd_T68 l1 (ji7)).f1.f0) ((rd_T68 l1 (ji7)).f1.f1)).bind fun bt502 => ((impl_calc_line.f k bt502.2.2 ((rd_T68 l1 t498).f0.f0) ((rd_T68 l1 t498).f0.f1) ((rd_T68 l1 t498).f1.f0) ((rd_T68 l1 t498).f1.f1) bt502.1 bt502.2.1 a2_0 a2_1).bind fun bt505 => (some (bt505.1, bt505.2.1, bt505.2.2)))) else (none)) else (none)) = some (r1, r2, r3) := by first | (rw [hji7] at H; exact H) | (simp only [hji7] at H ⊢; exact H)
   (try rw [hji7] at A4)
   have hji7w : (IntKind.i64.wrap (t498 + 1)) = ji7 := (i64_w _).trans hji7
   by_cases c8 : 0 ≤ (ji7)
   ·rw [if_pos c8] at H
    have c8b0 : decide (0 ≤ (ji7)) = true := decide_eq_true c8
    clear c8
    by_cases c9 : (ji7) < (l1.length : Int)
    ·rw [if_pos c9] at H
     have c9b0 : decide ((ji7) < (l1.length : Int)) = true := decide_eq_true c9
     clear c9
     replace H := Option.bind_eq_some_iff.mp H
     obtain ⟨⟨t502, t503, t504⟩, A100, H⟩ := H
     replace H : ((impl_calc_line.f k t504 ((rd_T68 l1 t498).f0.f0) ((rd_T68 l1 t498).f0.f1) ((rd_T68 l1 t498).f1.f0) ((rd_T68 l1 t498).f1.f1) t502 t503 a2_0 a2_1).bind fun bt505 => (some (bt505.1, bt505.2.1, bt505.2.2))) = some (r1, r2, r3) := H
     have A10 := Aside0.mk A100
     clear A100
     replace H := Option.bind_eq_some_iff.mp H
     obtain ⟨⟨t505, t506, t507⟩, A110, H⟩ := H
     replace H : (some (t505, t506, t507)) = some (r1, r2, r3) := H
     have A11 := Aside0.mk A110
     clear A110
     simp only [Option.some.injEq, Prod.mk.injEq] at H
     obtain ⟨rfl, rfl, rfl⟩ := H
     go_enter Try.func117, Try.ntmps117
     try go_wp2_with (first | ((with_reducible refine gate_dst (N := 5) rfl ?_); refine bx 5 #[.int .i64 a2_0, .int .i64 a2_1] 28 ?_; intro gb496 hg w12 hbox hb; have BK496 := Aside0.mk (hbox); have GW496 := Aside0.mk ((by rw [hg]; exact (keep_size (w := w) (g := g) (row := none) (by repeat (first | (with_reducible first | exact HK.out | apply KeepBut.set_ | apply keep_drewN | apply keep_drew | apply keep_alloc) | exact HK.out))) : w.heap.size ≤ gb496)); have GE496 := Aside0.mk ((Nat.le_trans HW0.out GW496.out : w0.heap.size ≤ gb496)); have NB0_496 := Aside0.mk ((by rw [hg]; exact Nat.ne_of_lt (IsS78.lt (show IsS78 w0 _ g s0_0 from by repeat (first | (with_reducible first | exact HI0.out | apply IsS78.alloc | apply IsS78.drewN | apply IsS78.drew | apply IsS78.set_0) | exact HI0.out))) : g ≠ gb496)); have NB496_0 := sy NB0_496; replace HK := Aside0.mk (KeepBut.trans (by repeat (first | (with_reducible first | exact HK.out | apply KeepBut.set_ | apply keep_drewN | apply keep_drew | apply keep_alloc) | exact HK.out)) (KeepBut.of_below hb g none) (.inl rfl)); replace HB := Aside0.mk (below_step (by repeat (first | (with_reducible first | exact HB.out | apply below_alloc | apply pw_below_drewN | apply below_drew1 | refine below_set ?_ (IsS78.ge HI0.out)) | exact HB.out)) hb); replace HI0 := Aside0.mk (IsS78.below (by repeat (first | (with_reducible first | exact HI0.out | apply IsS78.alloc | apply IsS78.drewN | apply IsS78.drew | apply IsS78.set_0) | exact HI0.out)) hb); clear hb hbox hg) | ((with_reducible refine gate_dst (N := 6) rfl ?_); refine bx 6 #[.int .i64 0, .int .i64 0] 28 ?_; intro gb497 hg w13 hbox hb; have BK497 := Aside0.mk (hbox); have GW497 := Aside0.mk ((by rw [hg]; exact (keep_size (w := w) (g := g) (row := none) (by repeat (first | (with_reducible first | exact HK.out | apply KeepBut.set_ | apply keep_drewN | apply keep_drew | apply keep_alloc | refine keep_far ?_ GW496.out _) | exact HK.out))) : w.heap.size ≤ gb497)); have GE497 := Aside0.mk ((Nat.le_trans HW0.out GW497.out : w0.heap.size ≤ gb497)); have NB496_497 := Aside0.mk (bn gb496 hg); have NB497_496 := sy NB496_497; have NB0_497 := Aside0.mk ((by rw [hg]; exact Nat.ne_of_lt (IsS78.lt (show IsS78 w0 _ g s0_0 from by repeat (first | (with_reducible first | exact HI0.out | apply IsS78.alloc | apply IsS78.drewN | apply IsS78.drew | apply IsS78.set_0 | refine IsS78.far ?_ NB0_496.out _) | exact HI0.out))) : g ≠ gb497)); have NB497_0 := sy NB0_497; replace BK496 := kb BK496 hb; replace HK := Aside0.mk (KeepBut.trans (by repeat (first | (with_reducible first | exact HK.out | apply KeepBut.set_ | apply keep_drewN | apply keep_drew | apply keep_alloc | refine keep_far ?_ GW496.out _) | exact HK.out)) (KeepBut.of_below hb g none) (.inl rfl)); replace HB := Aside0.mk (below_step (by repeat (first | (with_reducible first | exact HB.out | apply below_alloc | apply pw_below_drewN | apply below_drew1 | refine below_set ?_ (IsS78.ge HI0.out) | refine below_set ?_ GE496.out) | exact HB.out)) hb); replace HI0 := Aside0.mk (IsS78.below (by repeat (first | (with_reducible first | exact HI0.out | apply IsS78.alloc | apply IsS78.drewN | apply IsS78.drew | apply IsS78.set_0 | refine IsS78.far ?_ NB0_496.out _) | exact HI0.out)) hb); clear hb hbox hg; have hnb14 := NB496_497.out; have hnc14 := NB497_496.out; have hnb15 := NB496_0.out; have hnc15 := NB0_496.out; obtain ⟨hcz16_0, hcz16_1, hfz16_0, hfz16_1⟩ := b2 BK496) | ((with_reducible refine gate_callee (f := 74) rfl ?_); refine gl 10 Try.func74 #[.slice A1 l1.length c1, .agg #[.int .i64 a2_0, .int .i64 a2_1]] ?_; (with_reducible refine (impl_pieceAt.calls k _ _ l1 a2_0 a2_1 t498 _ ?side1 ?side2 A4.out).mono ?_); (case side1 => exact Kd.C_foot_now HR1.out (by repeat (first | (with_reducible first | exact HK.out | apply KeepBut.set_ | apply keep_drewN | apply keep_drew | apply keep_alloc | refine keep_far ?_ GW496.out _ | refine keep_far ?_ GW497.out _) | exact HK.out))); (case side2 => exact HC1.out); rintro e w17 ⟨rfl, hb⟩; refine ⟨_, rfl, ?_⟩; replace BK496 := kb BK496 hb; replace BK497 := kb BK497 hb; replace HK := Aside0.mk (KeepBut.trans (by repeat (first | (with_reducible first | exact HK.out | apply KeepBut.set_ | apply keep_drewN | apply keep_drew | apply keep_alloc | refine keep_far ?_ GW496.out _ | refine keep_far ?_ GW497.out _) | exact HK.out)) (KeepBut.of_below hb g none) (.inl rfl)); replace HB := Aside0.mk (below_step (by repeat (first | (with_reducible first | exact HB.out | apply below_alloc | apply pw_below_drewN | apply below_drew1 | refine below_set ?_ (IsS78.ge HI0.out) | refine below_set ?_ GE496.out | refine below_set ?_ GE497.out) | exact HB.out)) hb); replace HI0 := Aside0.mk (IsS78.below (by repeat (first | (with_reducible first | exact HI0.out | apply IsS78.alloc | apply IsS78.drewN | apply IsS78.drew | apply IsS78.set_0 | refine IsS78.far ?_ NB0_496.out _ | refine IsS78.far ?_ NB0_497.out _) | exact HI0.out)) hb); (try clear hb); (try clear hb2); (try clear hk); (try clear hi)))
     replace BK496 := Aside0.mk (blk_drew BK496.out)
     replace BK497 := Aside0.mk (blk_drew BK497.out)
     replace HI0 := Aside0.mk (IsS78.drew HI0.out)
     replace HK := Aside0.mk (keep_drew HK.out)
     replace HB := Aside0.mk (below_drew1 HB.out)
     have p499 : 0 ≤ (t498 : Int) := da
     have q499 : t498 < (l1.length : Int) := da
     obtain ⟨ad499, e499, hx499_0, hx499_1, hx499_2, hx499_3⟩ := at_T68 (Kd.C_foot_now HR1.out HK.out) t498 p499 q499
     have hw499_3 := hx499_3
     have hw499_2 := hx499_2
     have hw499_1 := hx499_1
     have hw499_0 := hx499_0
     cases e499
     have hne499_3 := (show (⟨(ad499.add ((t498).toNat * 4)).block, (ad499.add ((t498).toNat * 4)).off + 3, none⟩ : Addr).block ≠ g from by first | (rw [add_block]; exact Kd.foot_ne HR1.out (by omega) (by decide)) | (show (Addr.add _ _).block ≠ _; rw [add_block]; exact Kd.foot_ne HR1.out (by omega) (by decide)) | exact Kd.foot_ne HR1.out (by omega) (by decide) | (dsimp only; exact Kd.foot_ne HR1.out (by omega) (by decide)))
     have hlt499_3 := (Kd.foot_lt HR1.out (by omega) (by decide))
     have hne499_2 := (show (⟨(ad499.add ((t498).toNat * 4)).block, (ad499.add ((t498).toNat * 4)).off + 2, none⟩ : Addr).block ≠ g from by first | (rw [add_block]; exact Kd.foot_ne HR1.out (by omega) (by decide)) | (show (Addr.add _ _).block ≠ _; rw [add_block]; exact Kd.foot_ne HR1.out (by omega) (by decide)) | exact Kd.foot_ne HR1.out (by omega) (by decide) | (dsimp only; exact Kd.foot_ne HR1.out (by omega) (by decide)))
     have hlt499_2 := (Kd.foot_lt HR1.out (by omega) (by decide))
     have hne499_1 := (show (⟨(ad499.add ((t498).toNat * 4)).block, (ad499.add ((t498).toNat * 4)).off + 1, none⟩ : Addr).block ≠ g from by first | (rw [add_block]; exact Kd.foot_ne HR1.out (by omega) (by decide)) | (show (Addr.add _ _).block ≠ _; rw [add_block]; exact Kd.foot_ne HR1.out (by omega) (by decide)) | exact Kd.foot_ne HR1.out (by omega) (by decide) | (dsimp only; exact Kd.foot_ne HR1.out (by omega) (by decide)))
     have hlt499_1 := (Kd.foot_lt HR1.out (by omega) (by decide))
     have hne499_0 := (show ((ad499.add ((t498).toNat * 4)) : Addr).block ≠ g from by first | (rw [add_block]; exact Kd.foot_ne HR1.out (by omega) (by decide)) | (show (Addr.add _ _).block ≠ _; rw [add_block]; exact Kd.foot_ne HR1.out (by omega) (by decide)) | exact Kd.foot_ne HR1.out (by omega) (by decide) | (dsimp only; exact Kd.foot_ne HR1.out (by omega) (by decide)))
     have hlt499_0 := (Kd.foot_lt HR1.out (by omega) (by decide))
     replace p499 := eq_true p499
     replace q499 := eq_true q499
     have p500 : 0 ≤ (t498 : Int) := da
     have q500 : t498 < (l1.length : Int) := da
     obtain ⟨ad500, e500, hx500_0, hx500_1, hx500_2, hx500_3⟩ := at_T68 (Kd.C_foot_now HR1.out HK.out) t498 p500 q500
     have hw500_3 := hx500_3
     have hw500_2 := hx500_2
     have hw500_1 := hx500_1
     have hw500_0 := hx500_0
     obtain rfl : ad499 = ad500 := (by injection e500)
     have hne500_3 := (show (⟨(ad499.add ((t498).toNat * 4)).block, (ad499.add ((t498).toNat * 4)).off + 3, none⟩ : Addr).block ≠ g from by first | (rw [add_block]; exact Kd.foot_ne HR1.out (by omega) (by decide)) | (show (Addr.add _ _).block ≠ _; rw [add_block]; exact Kd.foot_ne HR1.out (by omega) (by decide)) | exact Kd.foot_ne HR1.out (by omega) (by decide) | (dsimp only; exact Kd.foot_ne HR1.out (by omega) (by decide)))
     have hlt500_3 := (Kd.foot_lt HR1.out (by omega) (by decide))
     have hne500_2 := (show (⟨(ad499.add ((t498).toNat * 4)).block, (ad499.add ((t498).toNat * 4)).off + 2, none⟩ : Addr).block ≠ g from by first | (rw [add_block]; exact Kd.foot_ne HR1.out (by omega) (by decide)) | (show (Addr.add _ _).block ≠ _; rw [add_block]; exact Kd.foot_ne HR1.out (by omega) (by decide)) | exact Kd.foot_ne HR1.out (by omega) (by decide) | (dsimp only; exact Kd.foot_ne HR1.out (by omega) (by decide)))
     have hlt500_2 := (Kd.foot_lt HR1.out (by omega) (by decide))
     have hne500_1 := (show (⟨(ad499.add ((t498).toNat * 4)).block, (ad499.add ((t498).toNat * 4)).off + 1, none⟩ : Addr).block ≠ g from by first | (rw [add_block]; exact Kd.foot_ne HR1.out (by omega) (by decide)) | (show (Addr.add _ _).block ≠ _; rw [add_block]; exact Kd.foot_ne HR1.out (by omega) (by decide)) | exact Kd.foot_ne HR1.out (by omega) (by decide) | (dsimp only; exact Kd.foot_ne HR1.out (by omega) (by decide)))
     have hlt500_1 := (Kd.foot_lt HR1.out (by omega) (by decide))
     have hne500_0 := (show ((ad499.add ((t498).toNat * 4)) : Addr).block ≠ g from by first | (rw [add_block]; exact Kd.foot_ne HR1.out (by omega) (by decide)) | (show (Addr.add _ _).block ≠ _; rw [add_block]; exact Kd.foot_ne HR1.out (by omega) (by decide)) | exact Kd.foot_ne HR1.out (by omega) (by decide) | (dsimp only; exact Kd.foot_ne HR1.out (by omega) (by decide)))
     have hlt500_0 := (Kd.foot_lt HR1.out (by omega) (by decide))
     replace p500 := eq_true p500
     replace q500 := eq_true q500
     have p501 : 0 ≤ ((ji7) : Int) := da
     have q501 : (ji7) < (l1.length : Int) := da
     obtain ⟨ad501, e501, hx501_0, hx501_1, hx501_2, hx501_3⟩ := at_T68 (Kd.C_foot_now HR1.out HK.out) (ji7) p501 q501
     have hw501_3 := hx501_3
     have hw501_2 := hx501_2
     have hw501_1 := hx501_1
     have hw501_0 := hx501_0
     obtain rfl : ad499 = ad501 := (by injection e501)
     have hne501_3 := (show (⟨(ad499.add (((ji7)).toNat * 4)).block, (ad499.add (((ji7)).toNat * 4)).off + 3, none⟩ : Addr).block ≠ g from by first | (rw [add_block]; exact Kd.foot_ne HR1.out (by omega) (by decide)) | (show (Addr.add _ _).block ≠ _; rw [add_block]; exact Kd.foot_ne HR1.out (by omega) (by decide)) | exact Kd.foot_ne HR1.out (by omega) (by decide) | (dsimp only; exact Kd.foot_ne HR1.out (by omega) (by decide)))
     have hlt501_3 := (Kd.foot_lt HR1.out (by omega) (by decide))
     have hne501_2 := (show (⟨(ad499.add (((ji7)).toNat * 4)).block, (ad499.add (((ji7)).toNat * 4)).off + 2, none⟩ : Addr).block ≠ g from by first | (rw [add_block]; exact Kd.foot_ne HR1.out (by omega) (by decide)) | (show (Addr.add _ _).block ≠ _; rw [add_block]; exact Kd.foot_ne HR1.out (by omega) (by decide)) | exact Kd.foot_ne HR1.out (by omega) (by decide) | (dsimp only; exact Kd.foot_ne HR1.out (by omega) (by decide)))
     have hlt501_2 := (Kd.foot_lt HR1.out (by omega) (by decide))
     have hne501_1 := (show (⟨(ad499.add (((ji7)).toNat * 4)).block, (ad499.add (((ji7)).toNat * 4)).off + 1, none⟩ : Addr).block ≠ g from by first | (rw [add_block]; exact Kd.foot_ne HR1.out (by omega) (by decide)) | (show (Addr.add _ _).block ≠ _; rw [add_block]; exact Kd.foot_ne HR1.out (by omega) (by decide)) | exact Kd.foot_ne HR1.out (by omega) (by decide) | (dsimp only; exact Kd.foot_ne HR1.out (by omega) (by decide)))
     have hlt501_1 := (Kd.foot_lt HR1.out (by omega) (by decide))
     have hne501_0 := (show ((ad499.add (((ji7)).toNat * 4)) : Addr).block ≠ g from by first | (rw [add_block]; exact Kd.foot_ne HR1.out (by omega) (by decide)) | (show (Addr.add _ _).block ≠ _; rw [add_block]; exact Kd.foot_ne HR1.out (by omega) (by decide)) | exact Kd.foot_ne HR1.out (by omega) (by decide) | (dsimp only; exact Kd.foot_ne HR1.out (by omega) (by decide)))
     have hlt501_0 := (Kd.foot_lt HR1.out (by omega) (by decide))
     replace p501 := eq_true p501
     replace q501 := eq_true q501
     refine start_ (n := 19) (S := fun w' => w'.cell? ⟨gb496, 0, none⟩ = some (.int .i64 a2_0) ∧ w'.cell? ⟨gb496, 1, none⟩ = some (.int .i64 a2_1) ∧ w'.cell? (ad499.add ((t498).toNat * 4)) = some (.int .i64 ((rd_T68 l1 t498).f0.f0)) ∧ w'.cell? ⟨(ad499.add ((t498).toNat * 4)).block, (ad499.add ((t498).toNat * 4)).off + 1, none⟩ = some (.int .i64 ((rd_T68 l1 t498).f0.f1)) ∧ w'.cell? ⟨(ad499.add ((t498).toNat * 4)).block, (ad499.add ((t498).toNat * 4)).off + 2, none⟩ = some (.int .i64 ((rd_T68 l1 t498).f1.f0)) ∧ w'.cell? ⟨(ad499.add ((t498).toNat * 4)).block, (ad499.add ((t498).toNat * 4)).off + 3, none⟩ = some (.int .i64 ((rd_T68 l1 t498).f1.f1)) ∧ w'.cell? (ad499.add ((t498).toNat * 4)) = some (.int .i64 ((rd_T68 l1 t498).f0.f0)) ∧ w'.cell? ⟨(ad499.add ((t498).toNat * 4)).block, (ad499.add ((t498).toNat * 4)).off + 1, none⟩ = some (.int .i64 ((rd_T68 l1 t498).f0.f1)) ∧ w'.cell? ⟨(ad499.add ((t498).toNat * 4)).block, (ad499.add ((t498).toNat * 4)).off + 2, none⟩ = some (.int .i64 ((rd_T68 l1 t498).f1.f0)) ∧ w'.cell? ⟨(ad499.add ((t498).toNat * 4)).block, (ad499.add ((t498).toNat * 4)).off + 3, none⟩ = some (.int .i64 ((rd_T68 l1 t498).f1.f1)) ∧ w'.cell? (ad499.add (((ji7)).toNat * 4)) = some (.int .i64 ((rd_T68 l1 (ji7)).f0.f0)) ∧ w'.cell? ⟨(ad499.add (((ji7)).toNat * 4)).block, (ad499.add (((ji7)).toNat * 4)).off + 1, none⟩ = some (.int .i64 ((rd_T68 l1 (ji7)).f0.f1)) ∧ w'.cell? ⟨(ad499.add (((ji7)).toNat * 4)).block, (ad499.add (((ji7)).toNat * 4)).off + 2, none⟩ = some (.int .i64 ((rd_T68 l1 (ji7)).f1.f0)) ∧ w'.cell? ⟨(ad499.add (((ji7)).toNat * 4)).block, (ad499.add (((ji7)).toNat * 4)).off + 3, none⟩ = some (.int .i64 ((rd_T68 l1 (ji7)).f1.f1))) (ds := []) (tb 0 19) (by kernel_rfl) rfl rfl ⟨(blk_cell BK496.out 0).trans rfl, (blk_cell BK496.out 1).trans rfl, hx499_0, hx499_1, hx499_2, hx499_3, hx500_0, hx500_1, hx500_2, hx500_3, hx501_0, hx501_1, hx501_2, hx501_3⟩ (fun hHeld => ?_); refine with_tabW impl_calc_value.tab2 impl_calc_value.bits2 (fun HT_ HW_ => ?_)
     generalize w17.drew = w18 at BK496 BK497 HI0 HK HB hx499_0 hx499_1 hx499_2 hx499_3 hx500_0 hx500_1 hx500_2 hx500_3 hx501_0 hx501_1 hx501_2 hx501_3 hHeld ⊢
     refine pu 0 11 (tb 1 18) ?_
     refine pu 1 12 (tb 2 17) ?_
     refine pu 2 13 (tb 3 16) ?_
     refine pu 3 14 (tb 4 15) ?_
     refine pu 5 16 #[true, true, true, true, false, true, false, false, false, false, false, false, false, false, false, false, false, false, false] ?_
     refine pu 6 17 #[true, true, true, true, false, true, true, false, false, false, false, false, false, false, false, false, false, false, false] ?_
     refine pu 7 18 #[true, true, true, true, false, true, true, true, false, false, false, false, false, false, false, false, false, false, false] ?_
     refine pu 8 19 #[true, true, true, true, false, true, true, true, true, false, false, false, false, false, false, false, false, false, false] ?_
     refine pu 10 21 #[true, true, true, true, false, true, true, true, true, false, true, false, false, false, false, false, false, false, false] ?_
     refine pu 11 22 #[true, true, true, true, false, true, true, true, true, false, true, true, false, false, false, false, false, false, false] ?_
     refine pu 12 23 #[true, true, true, true, false, true, true, true, true, false, true, true, true, false, false, false, false, false, false] ?_
     refine pu 13 24 #[true, true, true, true, false, true, true, true, true, false, true, true, true, true, false, false, false, false, false] ?_
     refine tk 4 15 #[true, true, true, true, true, true, true, true, true, false, true, true, true, true, false, false, false, false, false] (hy := by rintro w' ⟨s0, s1, s2, s3, s4, s5, s6, s7, s8, s9, s10, s11, s12, s13⟩; go_simp; with_reducible rfl) (h := ?_)
     refine tk 9 20 (tb 14 5) (hy := by rintro w' ⟨s0, s1, s2, s3, s4, s5, s6, s7, s8, s9, s10, s11, s12, s13⟩; go_simp; with_reducible rfl) (h := ?_)
     refine tk 14 25 (tb 15 4) (hy := by rintro w' ⟨s0, s1, s2, s3, s4, s5, s6, s7, s8, s9, s10, s11, s12, s13⟩; go_simp; with_reducible rfl) (h := ?_)
     refine tk 16 27 #[true, true, true, true, true, true, true, true, true, true, true, true, true, true, true, false, true, false, false] (hy := by rintro w' ⟨s0, s1, s2, s3, s4, s5, s6, s7, s8, s9, s10, s11, s12, s13⟩; go_simp; with_reducible rfl) (h := ?_)
     refine on 15 26 (tb 17 2) (fun K hK => ?_)
     refine goes_ Try.func96 (by kernel_rfl) rfl #[.pointer (some ⟨g, 0, none⟩), .agg #[.int .i64 ((rd_T68 l1 t498).f0.f0), .int .i64 ((rd_T68 l1 t498).f0.f1), .int .i64 ((rd_T68 l1 t498).f1.f0), .int .i64 ((rd_T68 l1 t498).f1.f1)], .agg #[.int .i64 ((rd_T68 l1 (ji7)).f0.f0), .int .i64 ((rd_T68 l1 (ji7)).f0.f1), .int .i64 ((rd_T68 l1 (ji7)).f1.f0), .int .i64 ((rd_T68 l1 (ji7)).f1.f1)]] (by rfl) rfl rfl (by (try simp only [List.map_toArray, List.map_cons, List.map_nil]); first | done | (simp only [hji7]; rfl) | rfl | (simp only [List.length_drop, List.length_take]; rfl)) ?_
     with_reducible refine (impl_calc_slope.calls k g s0_0 ((rd_T68 l1 t498).f0.f0) ((rd_T68 l1 t498).f0.f1) ((rd_T68 l1 t498).f1.f0) ((rd_T68 l1 t498).f1.f1) ((rd_T68 l1 (ji7)).f0.f0) ((rd_T68 l1 (ji7)).f0.f1) ((rd_T68 l1 (ji7)).f1.f0) ((rd_T68 l1 (ji7)).f1.f1) t502 t503 t504 w0 _ ?side1 ?side2 A10.out).mono ?_
     (case side1 => repeat (first | (with_reducible first | exact HI0.out | apply IsS78.alloc | apply IsS78.drewN | apply IsS78.drew | apply IsS78.set_0 | refine IsS78.far ?_ NB0_496.out _ | refine IsS78.far ?_ NB0_497.out _) | exact HI0.out))
     (case side2 => repeat (first | (with_reducible first | exact HB.out | apply below_alloc | apply pw_below_drewN | apply below_drew1 | refine below_set ?_ (IsS78.ge HI0.out) | refine below_set ?_ GE496.out | refine below_set ?_ GE497.out) | exact HB.out))
     rintro e w19 ⟨rfl, hi, hb, hk⟩
     have HS2_ := keep_cell hk (hHeld.2.2.1) (by first | (rw [add_block]; exact hne499_0) | (show (Addr.add _ _).block ≠ _; rw [add_block]; exact hne499_0) | exact hne499_0)
     have HS3_ := keep_cell hk (hHeld.2.2.2.1) (by first | (rw [add_block]; exact hne499_1) | (show (Addr.add _ _).block ≠ _; rw [add_block]; exact hne499_1) | exact hne499_1)
     have HS4_ := keep_cell hk (hHeld.2.2.2.2.1) (by first | (rw [add_block]; exact hne499_2) | (show (Addr.add _ _).block ≠ _; rw [add_block]; exact hne499_2) | exact hne499_2)
     have HS5_ := keep_cell hk (hHeld.2.2.2.2.2.1) (by first | (rw [add_block]; exact hne499_3) | (show (Addr.add _ _).block ≠ _; rw [add_block]; exact hne499_3) | exact hne499_3)
     have HS6_ := keep_cell hk (hHeld.2.2.2.2.2.2.1) (by first | (rw [add_block]; exact hne500_0) | (show (Addr.add _ _).block ≠ _; rw [add_block]; exact hne500_0) | exact hne500_0)
     have HS7_ := keep_cell hk (hHeld.2.2.2.2.2.2.2.1) (by first | (rw [add_block]; exact hne500_1) | (show (Addr.add _ _).block ≠ _; rw [add_block]; exact hne500_1) | exact hne500_1)
     have HS8_ := keep_cell hk (hHeld.2.2.2.2.2.2.2.2.1) (by first | (rw [add_block]; exact hne500_2) | (show (Addr.add _ _).block ≠ _; rw [add_block]; exact hne500_2) | exact hne500_2)
     have HS9_ := keep_cell hk (hHeld.2.2.2.2.2.2.2.2.2.1) (by first | (rw [add_block]; exact hne500_3) | (show (Addr.add _ _).block ≠ _; rw [add_block]; exact hne500_3) | exact hne500_3)
     have HS10_ := keep_cell hk (hHeld.2.2.2.2.2.2.2.2.2.2.1) (by first | (rw [add_block]; exact hne501_0) | (show (Addr.add _ _).block ≠ _; rw [add_block]; exact hne501_0) | exact hne501_0)
     have HS11_ := keep_cell hk (hHeld.2.2.2.2.2.2.2.2.2.2.2.1) (by first | (rw [add_block]; exact hne501_1) | (show (Addr.add _ _).block ≠ _; rw [add_block]; exact hne501_1) | exact hne501_1)
     have HS12_ := keep_cell hk (hHeld.2.2.2.2.2.2.2.2.2.2.2.2.1) (by first | (rw [add_block]; exact hne501_2) | (show (Addr.add _ _).block ≠ _; rw [add_block]; exact hne501_2) | exact hne501_2)
     have HS13_ := keep_cell hk (hHeld.2.2.2.2.2.2.2.2.2.2.2.2.2) (by first | (rw [add_block]; exact hne501_3) | (show (Addr.add _ _).block ≠ _; rw [add_block]; exact hne501_3) | exact hne501_3)
     refine ⟨_, rfl, ?_⟩
     replace BK496 := Aside0.mk (KeepBut.blk hk (g' := gb496) (o := .cells #[.int .i64 a2_0, .int .i64 a2_1] 28 (0, 0)) (bo gb496) NB496_0.out (by simp))
     replace BK497 := Aside0.mk (KeepBut.blk hk (g' := gb497) (o := .cells #[.int .i64 0, .int .i64 0] 28 (0, 0)) (bo gb497) NB497_0.out (by simp))
     replace HK := Aside0.mk (KeepBut.trans (by repeat (first | (with_reducible first | exact HK.out | apply KeepBut.set_ | apply keep_drewN | apply keep_drew | apply keep_alloc | refine keep_far ?_ GW496.out _ | refine keep_far ?_ GW497.out _) | exact HK.out)) hk (.inl rfl))
     replace HB := Aside0.mk (hb)
     replace HI0 := Aside0.mk (hi)
     (try clear hb)
     (try clear hb2)
     (try clear hk)
     (try clear hi)
     refine hK.out _ _ ⟨(blk_cell BK496.out 0).trans rfl, (blk_cell BK496.out 1).trans rfl, HS2_, HS3_, HS4_, HS5_, HS6_, HS7_, HS8_, HS9_, HS10_, HS11_, HS12_, HS13_⟩ (fun hHeld => ?_)
     clear hK K
     refine nm 26 ?_
     refine on 17 28 (tb 18 1) (fun K hK => ?_)
     refine gs Try.func137 #[.pointer (some ⟨g, 0, none⟩), .agg #[.int .i64 ((rd_T68 l1 t498).f0.f0), .int .i64 ((rd_T68 l1 t498).f0.f1), .int .i64 ((rd_T68 l1 t498).f1.f0), .int .i64 ((rd_T68 l1 t498).f1.f1)], .agg #[.int .i64 t502, .int .i64 t503], .agg #[.int .i64 a2_0, .int .i64 a2_1]] ?_
     with_reducible refine (impl_calc_line.calls k g t504 ((rd_T68 l1 t498).f0.f0) ((rd_T68 l1 t498).f0.f1) ((rd_T68 l1 t498).f1.f0) ((rd_T68 l1 t498).f1.f1) t502 t503 a2_0 a2_1 t505 t506 t507 w0 _ ?side1 ?side2 A11.out).mono ?_
     (case side1 => repeat (first | (with_reducible first | exact HI0.out | apply IsS78.alloc | apply IsS78.drewN | apply IsS78.drew | apply IsS78.set_0 | refine IsS78.far ?_ NB0_496.out _ | refine IsS78.far ?_ NB0_497.out _) | exact HI0.out))
     (case side2 => repeat (first | (with_reducible first | exact HB.out | apply below_alloc | apply pw_below_drewN | apply below_drew1 | refine below_set ?_ (IsS78.ge HI0.out) | refine below_set ?_ GE496.out | refine below_set ?_ GE497.out) | exact HB.out))
     rintro e w20 ⟨rfl, hi, hb, hk⟩
     have HS2_ := keep_cell hk (hHeld.2.2.1) (by first | (rw [add_block]; exact hne499_0) | (show (Addr.add _ _).block ≠ _; rw [add_block]; exact hne499_0) | exact hne499_0)
     have HS3_ := keep_cell hk (hHeld.2.2.2.1) (by first | (rw [add_block]; exact hne499_1) | (show (Addr.add _ _).block ≠ _; rw [add_block]; exact hne499_1) | exact hne499_1)
     have HS4_ := keep_cell hk (hHeld.2.2.2.2.1) (by first | (rw [add_block]; exact hne499_2) | (show (Addr.add _ _).block ≠ _; rw [add_block]; exact hne499_2) | exact hne499_2)
     have HS5_ := keep_cell hk (hHeld.2.2.2.2.2.1) (by first | (rw [add_block]; exact hne499_3) | (show (Addr.add _ _).block ≠ _; rw [add_block]; exact hne499_3) | exact hne499_3)
     have HS6_ := keep_cell hk (hHeld.2.2.2.2.2.2.1) (by first | (rw [add_block]; exact hne500_0) | (show (Addr.add _ _).block ≠ _; rw [add_block]; exact hne500_0) | exact hne500_0)
     have HS7_ := keep_cell hk (hHeld.2.2.2.2.2.2.2.1) (by first | (rw [add_block]; exact hne500_1) | (show (Addr.add _ _).block ≠ _; rw [add_block]; exact hne500_1) | exact hne500_1)
     have HS8_ := keep_cell hk (hHeld.2.2.2.2.2.2.2.2.1) (by first | (rw [add_block]; exact hne500_2) | (show (Addr.add _ _).block ≠ _; rw [add_block]; exact hne500_2) | exact hne500_2)
     have HS9_ := keep_cell hk (hHeld.2.2.2.2.2.2.2.2.2.1) (by first | (rw [add_block]; exact hne500_3) | (show (Addr.add _ _).block ≠ _; rw [add_block]; exact hne500_3) | exact hne500_3)
     have HS10_ := keep_cell hk (hHeld.2.2.2.2.2.2.2.2.2.2.1) (by first | (rw [add_block]; exact hne501_0) | (show (Addr.add _ _).block ≠ _; rw [add_block]; exact hne501_0) | exact hne501_0)
     have HS11_ := keep_cell hk (hHeld.2.2.2.2.2.2.2.2.2.2.2.1) (by first | (rw [add_block]; exact hne501_1) | (show (Addr.add _ _).block ≠ _; rw [add_block]; exact hne501_1) | exact hne501_1)
     have HS12_ := keep_cell hk (hHeld.2.2.2.2.2.2.2.2.2.2.2.2.1) (by first | (rw [add_block]; exact hne501_2) | (show (Addr.add _ _).block ≠ _; rw [add_block]; exact hne501_2) | exact hne501_2)
     have HS13_ := keep_cell hk (hHeld.2.2.2.2.2.2.2.2.2.2.2.2.2) (by first | (rw [add_block]; exact hne501_3) | (show (Addr.add _ _).block ≠ _; rw [add_block]; exact hne501_3) | exact hne501_3)
     refine ⟨_, rfl, ?_⟩
     replace BK496 := Aside0.mk (KeepBut.blk hk (g' := gb496) (o := .cells #[.int .i64 a2_0, .int .i64 a2_1] 28 (0, 0)) (bo gb496) NB496_0.out (by simp))
     replace BK497 := Aside0.mk (KeepBut.blk hk (g' := gb497) (o := .cells #[.int .i64 0, .int .i64 0] 28 (0, 0)) (bo gb497) NB497_0.out (by simp))
     replace HK := Aside0.mk (KeepBut.trans (by repeat (first | (with_reducible first | exact HK.out | apply KeepBut.set_ | apply keep_drewN | apply keep_drew | apply keep_alloc | refine keep_far ?_ GW496.out _ | refine keep_far ?_ GW497.out _) | exact HK.out)) hk (.inl rfl))
     replace HB := Aside0.mk (hb)
     replace HI0 := Aside0.mk (hi)
     (try clear hb)
     (try clear hb2)
     (try clear hk)
     (try clear hi)
     refine hK.out _ _ ⟨(blk_cell BK496.out 0).trans rfl, (blk_cell BK496.out 1).trans rfl, HS2_, HS3_, HS4_, HS5_, HS6_, HS7_, HS8_, HS9_, HS10_, HS11_, HS12_, HS13_⟩ (fun hHeld => ?_)
     clear hK K
     refine nm 28 ?_
     refine one_ (i := 18) (N := none) (tb 19 0) rfl rfl (one_of HT_.out (by kernel_rfl)) (by decide) (fun K hK => ?_)
     have hs21 : w20.cell? ⟨gb497, 0, none⟩ = some (.int .i64 0) := (blk_cell BK497.out 0).trans rfl
     have hfs21 := blk_frozen BK497.out 0
     have hns21_0 := NB496_497.out
     have hms21_0 := NB497_496.out
     have hs22 : w20.cell? ⟨gb497, 1, none⟩ = some (.int .i64 0) := (blk_cell BK497.out 1).trans rfl
     have hfs22 := blk_frozen BK497.out 1
     have hns22_0 := NB496_497.out
     have hms22_0 := NB497_496.out
     refine skip_ (w1 := ?_) (by rfl) rfl ?_ ?_
     rotate_left
     ·go_simp
      rfl
     refine hK.out _ _ ⟨(by (iterate 2 refine (cell_far (p := ⟨gb497, _, none⟩) NB496_497.out _).trans ?_); exact hHeld.1), (by (iterate 2 refine (cell_far (p := ⟨gb497, _, none⟩) NB496_497.out _).trans ?_); exact hHeld.2.1), (by (iterate 2 refine (cell_far (p := ⟨gb497, _, none⟩) (by first | exact Nat.ne_of_lt (Nat.lt_of_lt_of_le hlt499_0 GW497.out) | (rw [add_block]; exact Nat.ne_of_lt (Nat.lt_of_lt_of_le hlt499_0 GW497.out)) | (show (Addr.add _ _).block ≠ _; rw [add_block]; exact Nat.ne_of_lt (Nat.lt_of_lt_of_le hlt499_0 GW497.out)) | (dsimp only; exact Nat.ne_of_lt (Nat.lt_of_lt_of_le hlt499_0 GW497.out))) _).trans ?_); exact hHeld.2.2.1), (by (iterate 2 refine (cell_far (p := ⟨gb497, _, none⟩) (by first | exact Nat.ne_of_lt (Nat.lt_of_lt_of_le hlt499_1 GW497.out) | (rw [add_block]; exact Nat.ne_of_lt (Nat.lt_of_lt_of_le hlt499_1 GW497.out)) | (show (Addr.add _ _).block ≠ _; rw [add_block]; exact Nat.ne_of_lt (Nat.lt_of_lt_of_le hlt499_1 GW497.out)) | (dsimp only; exact Nat.ne_of_lt (Nat.lt_of_lt_of_le hlt499_1 GW497.out))) _).trans ?_); exact hHeld.2.2.2.1), (by (iterate 2 refine (cell_far (p := ⟨gb497, _, none⟩) (by first | exact Nat.ne_of_lt (Nat.lt_of_lt_of_le hlt499_2 GW497.out) | (rw [add_block]; exact Nat.ne_of_lt (Nat.lt_of_lt_of_le hlt499_2 GW497.out)) | (show (Addr.add _ _).block ≠ _; rw [add_block]; exact Nat.ne_of_lt (Nat.lt_of_lt_of_le hlt499_2 GW497.out)) | (dsimp only; exact Nat.ne_of_lt (Nat.lt_of_lt_of_le hlt499_2 GW497.out))) _).trans ?_); exact hHeld.2.2.2.2.1), (by (iterate 2 refine (cell_far (p := ⟨gb497, _, none⟩) (by first | exact Nat.ne_of_lt (Nat.lt_of_lt_of_le hlt499_3 GW497.out) | (rw [add_block]; exact Nat.ne_of_lt (Nat.lt_of_lt_of_le hlt499_3 GW497.out)) | (show (Addr.add _ _).block ≠ _; rw [add_block]; exact Nat.ne_of_lt (Nat.lt_of_lt_of_le hlt499_3 GW497.out)) | (dsimp only; exact Nat.ne_of_lt (Nat.lt_of_lt_of_le hlt499_3 GW497.out))) _).trans ?_); exact hHeld.2.2.2.2.2.1), (by (iterate 2 refine (cell_far (p := ⟨gb497, _, none⟩) (by first | exact Nat.ne_of_lt (Nat.lt_of_lt_of_le hlt500_0 GW497.out) | (rw [add_block]; exact Nat.ne_of_lt (Nat.lt_of_lt_of_le hlt500_0 GW497.out)) | (show (Addr.add _ _).block ≠ _; rw [add_block]; exact Nat.ne_of_lt (Nat.lt_of_lt_of_le hlt500_0 GW497.out)) | (dsimp only; exact Nat.ne_of_lt (Nat.lt_of_lt_of_le hlt500_0 GW497.out))) _).trans ?_); exact hHeld.2.2.2.2.2.2.1), (by (iterate 2 refine (cell_far (p := ⟨gb497, _, none⟩) (by first | exact Nat.ne_of_lt (Nat.lt_of_lt_of_le hlt500_1 GW497.out) | (rw [add_block]; exact Nat.ne_of_lt (Nat.lt_of_lt_of_le hlt500_1 GW497.out)) | (show (Addr.add _ _).block ≠ _; rw [add_block]; exact Nat.ne_of_lt (Nat.lt_of_lt_of_le hlt500_1 GW497.out)) | (dsimp only; exact Nat.ne_of_lt (Nat.lt_of_lt_of_le hlt500_1 GW497.out))) _).trans ?_); exact hHeld.2.2.2.2.2.2.2.1), (by (iterate 2 refine (cell_far (p := ⟨gb497, _, none⟩) (by first | exact Nat.ne_of_lt (Nat.lt_of_lt_of_le hlt500_2 GW497.out) | (rw [add_block]; exact Nat.ne_of_lt (Nat.lt_of_lt_of_le hlt500_2 GW497.out)) | (show (Addr.add _ _).block ≠ _; rw [add_block]; exact Nat.ne_of_lt (Nat.lt_of_lt_of_le hlt500_2 GW497.out)) | (dsimp only; exact Nat.ne_of_lt (Nat.lt_of_lt_of_le hlt500_2 GW497.out))) _).trans ?_); exact hHeld.2.2.2.2.2.2.2.2.1), (by (iterate 2 refine (cell_far (p := ⟨gb497, _, none⟩) (by first | exact Nat.ne_of_lt (Nat.lt_of_lt_of_le hlt500_3 GW497.out) | (rw [add_block]; exact Nat.ne_of_lt (Nat.lt_of_lt_of_le hlt500_3 GW497.out)) | (show (Addr.add _ _).block ≠ _; rw [add_block]; exact Nat.ne_of_lt (Nat.lt_of_lt_of_le hlt500_3 GW497.out)) | (dsimp only; exact Nat.ne_of_lt (Nat.lt_of_lt_of_le hlt500_3 GW497.out))) _).trans ?_); exact hHeld.2.2.2.2.2.2.2.2.2.1), (by (iterate 2 refine (cell_far (p := ⟨gb497, _, none⟩) (by first | exact Nat.ne_of_lt (Nat.lt_of_lt_of_le hlt501_0 GW497.out) | (rw [add_block]; exact Nat.ne_of_lt (Nat.lt_of_lt_of_le hlt501_0 GW497.out)) | (show (Addr.add _ _).block ≠ _; rw [add_block]; exact Nat.ne_of_lt (Nat.lt_of_lt_of_le hlt501_0 GW497.out)) | (dsimp only; exact Nat.ne_of_lt (Nat.lt_of_lt_of_le hlt501_0 GW497.out))) _).trans ?_); exact hHeld.2.2.2.2.2.2.2.2.2.2.1), (by (iterate 2 refine (cell_far (p := ⟨gb497, _, none⟩) (by first | exact Nat.ne_of_lt (Nat.lt_of_lt_of_le hlt501_1 GW497.out) | (rw [add_block]; exact Nat.ne_of_lt (Nat.lt_of_lt_of_le hlt501_1 GW497.out)) | (show (Addr.add _ _).block ≠ _; rw [add_block]; exact Nat.ne_of_lt (Nat.lt_of_lt_of_le hlt501_1 GW497.out)) | (dsimp only; exact Nat.ne_of_lt (Nat.lt_of_lt_of_le hlt501_1 GW497.out))) _).trans ?_); exact hHeld.2.2.2.2.2.2.2.2.2.2.2.1), (by (iterate 2 refine (cell_far (p := ⟨gb497, _, none⟩) (by first | exact Nat.ne_of_lt (Nat.lt_of_lt_of_le hlt501_2 GW497.out) | (rw [add_block]; exact Nat.ne_of_lt (Nat.lt_of_lt_of_le hlt501_2 GW497.out)) | (show (Addr.add _ _).block ≠ _; rw [add_block]; exact Nat.ne_of_lt (Nat.lt_of_lt_of_le hlt501_2 GW497.out)) | (dsimp only; exact Nat.ne_of_lt (Nat.lt_of_lt_of_le hlt501_2 GW497.out))) _).trans ?_); exact hHeld.2.2.2.2.2.2.2.2.2.2.2.2.1), (by (iterate 2 refine (cell_far (p := ⟨gb497, _, none⟩) (by first | exact Nat.ne_of_lt (Nat.lt_of_lt_of_le hlt501_3 GW497.out) | (rw [add_block]; exact Nat.ne_of_lt (Nat.lt_of_lt_of_le hlt501_3 GW497.out)) | (show (Addr.add _ _).block ≠ _; rw [add_block]; exact Nat.ne_of_lt (Nat.lt_of_lt_of_le hlt501_3 GW497.out)) | (dsimp only; exact Nat.ne_of_lt (Nat.lt_of_lt_of_le hlt501_3 GW497.out))) _).trans ?_); exact hHeld.2.2.2.2.2.2.2.2.2.2.2.2.2)⟩ (fun hHeld => ?_)
     clear hK K
     refine done_ (done_of HT_.out (by kernel_rfl)) ?_
     try go_wp2
     refine bodyPost_ret (results_cell_row rfl _ _ gb497 28 #[.int .i64 t505, .int .i64 t506] (0, 0) _ rfl (by (with_reducible repeat (first | refine blk_drewN ?_ _ | refine blk_drew ?_ | refine blk_alloc ?_ _)); refine blk_put (cs := #[.int .i64 t505, .int .i64 0]) ?_ 1 _ rfl; (with_reducible repeat (first | refine blk_drewN ?_ _ | refine blk_drew ?_ | refine blk_alloc ?_ _)); refine blk_put (cs := #[.int .i64 0, .int .i64 0]) ?_ 0 _ rfl; (with_reducible repeat (first | refine blk_drewN ?_ _ | refine blk_drew ?_ | refine blk_alloc ?_ _)); exact BK497.out) Try.underlying28 rfl (by kernel_rfl)) rfl ?_
     exact ⟨by first | rfl | (simp [errW_none, errW_some] <;> rfl) | (simp only [← hji7]; first | rfl | (simp [errW_none, errW_some] <;> rfl)) | (simp [*, errW_none, errW_some] <;> rfl), by repeat (first | (with_reducible first | exact HI0.out | apply IsS78.alloc | apply IsS78.drewN | apply IsS78.drew | apply IsS78.set_0 | refine IsS78.far ?_ NB0_496.out _ | refine IsS78.far ?_ NB0_497.out _) | exact HI0.out), by repeat (first | (with_reducible first | exact HB.out | apply below_alloc | apply pw_below_drewN | apply below_drew1 | refine below_set ?_ (IsS78.ge HI0.out) | refine below_set ?_ GE496.out | refine below_set ?_ GE497.out) | exact HB.out), by repeat (first | (with_reducible first | exact HK.out | apply KeepBut.set_ | apply keep_drewN | apply keep_drew | apply keep_alloc | refine keep_far ?_ GW496.out _ | refine keep_far ?_ GW497.out _) | exact HK.out)⟩
    ·rw [if_neg c9] at H
     exact absurd H (by simp)
   ·rw [if_neg c8] at H
    exact absurd H (by simp)
  ·rw [if_neg c6] at H
   exact absurd H (by simp)
 ·rw [if_neg c5] at H
  exact absurd H (by simp)

/-! ### impl_orbit: function 73 -/
def impl_orbit.l0 : Nat → List (S68) → List (S28) → Int → Int → Int → Int → Bool → Option ((List (S28)))
 | 0, _, _, _, _, _, _, _ => none
 | k + 1, x0, x7, x11, x12, x509000, x509001, x513000 => if x12 < x11 then ((impl_calc_value.f k x513000 x0 x509000 x509001).bind fun bt513 => (if bt513.2.2 = true then (some x7) else (if x7.length < 8796093022208 then (impl_orbit.l0 k x0 (x7 ++ [(⟨bt513.1, bt513.2.1⟩ : S28)]) x11 (wrap64 (x12 + 1)) bt513.1 bt513.2.1 bt513.2.2) else (none)))) else (some x7)
def impl_orbit.f (k : Nat) (l0 : List (S68)) (a1_0 : Int) (a1_1 : Int) (a2 : Int) : Option ((List (S28))) := impl_orbit.l0 k l0 (([(⟨a1_0, a1_1⟩ : S28)] : List (S28))) a2 0 a1_0 a1_1 false
set_option maxHeartbeats 8000000 in
set_option maxRecDepth 100000 in
theorem impl_orbit.calls (k : Nat) (A0 : Option Addr) (c0 : Nat) (l0 : List (S68)) (a1_0 : Int) (a1_1 : Int) (a2 : Int) (r : List (S28)) (w : World) (hr0 : Kd.C k68 w A0 l0.length l0) (hc0 : l0.length ≤ c0) (h : impl_orbit.f k l0 a1_0 a1_1 a2 = some r) :
  Calls Try.prog 73 #[.slice A0 l0.length c0, .agg #[.int .i64 a1_0, .int .i64 a1_1], .int .i64 a2] w fun e w' => ∃ v0_ : Value, e = .returned (v0_) ∧ Kd.R k28 28 w' w.heap.size (fun _ => True) v0_ r ∧ Below w.heap.size w w' := by
 have hu28 := Try.underlying28
 have hu78 := Try.underlying78
 have HR0 := Aside0.mk hr0
 have HC0 := Aside0.mk hc0
 clear hr0 hc0
 have HB := Aside0.mk (Below.refl w.heap.size w)
 have H : (impl_orbit.l0 k l0 (([(⟨a1_0, a1_1⟩ : S28)] : List (S28))) a2 0 a1_0 a1_1 false) = some r := h
 clear h
 obtain ⟨y509, hy509⟩ : ∃ y_ : List (S28), y_ = (([(⟨a1_0, a1_1⟩ : S28)] : List (S28))) := ⟨_, rfl⟩
 replace H : (impl_orbit.l0 k l0 y509 a2 0 a1_0 a1_1 false) = some r := by first | (rw [hy509]; with_reducible exact H) | (have H2_ := (Option.bind_some _ _).symm.trans H; rw [hy509]; with_reducible exact H2_) | (have H2_ := (Option.bind_some _ _).symm.trans H; with_reducible exact H2_) | with_reducible exact H | (rw [hy509]; exact H) | exact H
 have Ny509 := Aside0.mk hy509
 clear hy509
 have H' := Aside0.mk H
 clear H
 go_enter Try.func73, Try.ntmps73
 go_wp2_with (first | ((with_reducible refine gate_dst (N := 4) rfl ?_); refine bx 4 #[.int .i64 a1_0, .int .i64 a1_1] 28 ?_; intro gb508 hg w4 hbox hb; have BK508 := Aside0.mk (hbox); have GW508 := Aside0.mk (bz hg); have GE508 := GW508; replace HB := kh hb; clear hb hbox hg; obtain ⟨hcz5_0, hcz5_1, hfz5_0, hfz5_1⟩ := b2 BK508) | ((with_reducible refine gate_dst (N := 10) rfl ?_); refine Kd.R_lit k28 _ 28 ?hg (N := 10) ?hd (xs := ([(⟨a1_0, a1_1⟩ : S28)] : List (S28))) (inner := [.int .i64 a1_0, .int .i64 a1_1]) (ok := fun _ => True) (okp := fun _ => True) ?hr ?hp (fun _ hk => hk) trivial (Below.refl _ _) (Nat.le_refl _) (by simp) ?_; (case hd => rfl); (case hg => rfl); (case hr => first | (go_simp; done) | (go_simp; rfl)); (case hp => exact (Reps.c2 (show Kd.M k28 _ _ _ (⟨a1_0, a1_1⟩ : S28) [.int .i64 a1_0, .int .i64 a1_1] from (k28_mkM _ _ _ (⟨a1_0, a1_1⟩ : S28) )) (Reps.none _ _))); intro v510 w6 ho7 hb hg_ hnew_; clear hg_ hnew_; (first | rw [← Ny509.out] at ho7 | (simp only [Int.reduceToNat] at ho7; rw [← Ny509.out] at ho7)); have HO511 := Aside0.mk (Kd.R_lower (Kd.R_newB ho7 (g := gb508) (o := .cells #[.int .i64 a1_0, .int .i64 a1_1] 28 (0, 0)) (bo gb508)) (below_size bl)); replace BK508 := kb BK508 hb; replace HB := kh hb; clear hb ho7) | ((with_reducible refine gate_dst (N := 8) rfl ?_); refine bx 8 #[.bool false] 78 ?_; intro gb512 hg w8 hbox hb; have HI512 := Aside0.mk ((⟨hbox, (by rw [hg]; exact (below_size bl) : w.heap.size ≤ gb512)⟩ : IsS78 w w8 gb512 false)); have NB508_512 := Aside0.mk (bn gb508 hg); have NB512_508 := sy NB508_512; replace HO511 := Aside0.mk (Kd.R_below (by (with_reducible repeat (first | apply Kd.R_alloc | apply Kd.R_drewN | apply Kd.R_drew)); exact HO511.out) hb); replace BK508 := kb BK508 hb; replace HB := kh hb; clear hb hbox hg))
 go_loopg [7, 12] k (fun kq v7 v12 w' => ∃ (x7_1 : List (S28)) (x12_1 : Int) (x509000_1 : Int) (x509001_1 : Int) (x513000_1 : Bool), v12 = .int .i64 x12_1 ∧ Aside0 (impl_orbit.l0 kq l0 x7_1 a2 x12_1 x509000_1 x509001_1 x513000_1 = some r) ∧ Aside0 (kq ≤ k) ∧ Aside0 (Kd.R k28 28 w' w.heap.size (fun k_ => k_ ≠ gb508) v7 x7_1) ∧ Aside0 (w'.heap[gb508]? = some (.cells #[.int .i64 x509000_1, .int .i64 x509001_1] 28 (0, 0))) ∧ Aside0 (IsS78 w w' gb512 x513000_1) ∧ Aside0 (Below w.heap.size w w'))
 case atStart => exact ⟨(y509), (0), (a1_0), (a1_1), (false), rs, H', ⟨Nat.le_refl _⟩, ⟨by (with_reducible repeat (first | apply Kd.R_alloc | apply Kd.R_drewN | apply Kd.R_drew)); exact Kd.R_mono HO511.out (fun _ hk => hk.2)⟩, ⟨by (with_reducible repeat (first | refine blk_drewN ?_ _ | refine blk_drew ?_ | refine blk_alloc ?_ _)); exact BK508.out⟩, ⟨by repeat (first | (with_reducible first | exact HI512.out | apply IsS78.alloc | apply IsS78.drewN | apply IsS78.drew | apply IsS78.set_0 | refine IsS78.far ?_ NB512_508.out _) | exact HI512.out)⟩, ⟨by repeat (first | (with_reducible first | exact HB.out | apply below_alloc | apply pw_below_drewN | apply below_drew1 | refine below_set ?_ (IsS78.ge HI512.out) | refine below_set ?_ GE508.out) | exact HB.out)⟩⟩
 case round =>
  clear H'
  try clear c2
  try clear p2
  try clear c7
  try clear hcz5_0
  try clear hcz5_1
  try clear hfz5_0
  try clear hfz5_1
  obtain ⟨x7_1, x12_1, x509000_1, x509001_1, x513000_1, rfl, HA, HK1, HO_7, BK508, HI512, HB⟩ := hrel
  cases gk with
  | zero => exact absurd HA.out (by simp [impl_orbit.l0])
  | succ k1 =>
   have H := HA.out
   clear HA
   simp only [impl_orbit.l0] at H
   by_cases c9 : x12_1 < a2
   ·rw [if_pos c9] at H
    have c9b0 : decide (x12_1 < a2) = true := decide_eq_true c9
    clear c9
    replace H := Option.bind_eq_some_iff.mp H
    obtain ⟨⟨t513, t514, t515⟩, A100, H⟩ := H
    replace H : (if t515 = true then (some x7_1) else (if x7_1.length < 8796093022208 then (impl_orbit.l0 k1 l0 (x7_1 ++ [(⟨t513, t514⟩ : S28)]) a2 (wrap64 (x12_1 + 1)) t513 t514 t515) else (none))) = some r := H
    have A10 := Aside0.mk A100
    clear A100
    by_cases c11 : t515 = true
    ·subst c11
     have H1 : (some x7_1) = some r := by rw [if_pos rfl] at H; exact H
     clear H
     have H := H1
     clear H1
     obtain rfl := Option.some.inj H
     have hnb12 := NB508_512.out
     have hnc12 := NB512_508.out
     obtain ⟨hcz13_0, hcz13_1, hfz13_0, hfz13_1⟩ := b2 BK508
     go_wp2_with (first | ((with_reducible refine gate_callee (f := 117) rfl ?_); refine gl 16 Try.func117 #[.pointer (some ⟨gb512, 0, none⟩), .slice A0 l0.length c0, .agg #[.int .i64 x509000_1, .int .i64 x509001_1]] ?_; (with_reducible refine (impl_calc_value.calls k1 gb512 x513000_1 _ _ l0 x509000_1 x509001_1 t513 t514 true w _ ?side1 ?side2 ?side3 ?side4 A10.out).mono ?_); (case side1 => repeat (first | (with_reducible first | exact HI512.out | apply IsS78.alloc | apply IsS78.drewN | apply IsS78.drew | apply IsS78.set_0 | refine IsS78.far ?_ NB512_508.out _) | exact HI512.out)); (case side2 => repeat (first | (with_reducible first | exact HB.out | apply below_alloc | apply pw_below_drewN | apply below_drew1 | refine below_set ?_ (IsS78.ge HI512.out) | refine below_set ?_ GE508.out) | exact HB.out)); (case side3 => exact Kd.C_foot_came k68_heap HR0.out (by repeat (first | (with_reducible first | exact HB.out | apply below_alloc | apply pw_below_drewN | apply below_drew1 | refine below_set ?_ (IsS78.ge HI512.out) | refine below_set ?_ GE508.out) | exact HB.out)) (IsS78.ge HI512.out)); (case side4 => exact HC0.out); rintro e w14 ⟨rfl, hi, hb, hk⟩; refine ⟨_, rfl, ?_⟩; replace HO_7 := Aside0.mk (Kd.R_mono (Kd.R_keep (IsS78.apart (show IsS78 w _ gb512 x513000_1 from by repeat (first | (with_reducible first | exact HI512.out | apply IsS78.alloc | apply IsS78.drewN | apply IsS78.drew | apply IsS78.set_0 | refine IsS78.far ?_ NB512_508.out _) | exact HI512.out)) (by (with_reducible repeat (first | apply Kd.R_alloc | apply Kd.R_drewN | apply Kd.R_drew)); exact HO_7.out) (by decide)) hk (fun _ h => h.2)) (fun _ h => h.1)); replace BK508 := Aside0.mk (KeepBut.blk hk (g' := gb508) (o := .cells #[.int .i64 x509000_1, .int .i64 x509001_1] 28 (0, 0)) (bo gb508) NB508_512.out (by simp)); replace HB := Aside0.mk (hb); replace HI512 := Aside0.mk (hi); (try clear hb); (try clear hb2); (try clear hk); (try clear hi); obtain ⟨hcz15_0, hcz15_1, hfz15_0, hfz15_1⟩ := b2 BK508; obtain ⟨HGz16, hgz16⟩ := HI512.out; have hcz16_0 := cellS78_0 HGz16; have hfz16_0 := blk_frozen HGz16 0; clear HGz16 hgz16))
     go_ret
     exact ⟨_, rt, by (with_reducible repeat (first | apply Kd.R_alloc | apply Kd.R_drewN | apply Kd.R_drew)); exact Kd.R_mono (Kd.R_far (p := ⟨gb508, 1, none⟩) (Kd.R_far (p := ⟨gb508, 0, none⟩) (Kd.R_mono HO_7.out (fun k_ hk => (⟨hk, hk⟩ : _ ∧ k_ ≠ gb508))) (fun _ hk => hk.2) (.int .i64 t513)) (fun _ hk => hk.2) (.int .i64 t514)) (fun _ hk => trivial), by repeat (first | (with_reducible first | exact HB.out | apply below_alloc | apply pw_below_drewN | apply below_drew1 | refine below_set ?_ (IsS78.ge HI512.out) | refine below_set ?_ GE508.out) | exact HB.out)⟩
    ·replace c11 := Bool.eq_false_iff.mpr c11
     subst c11
     have H1 : (if x7_1.length < 8796093022208 then (impl_orbit.l0 k1 l0 (x7_1 ++ [(⟨t513, t514⟩ : S28)]) a2 (wrap64 (x12_1 + 1)) t513 t514 false) else (none)) = some r := by rw [if_neg (show ¬ (false = true) by decide)] at H; exact H
     clear H
     have H := H1
     clear H1
     by_cases c17 : x7_1.length < 8796093022208
     ·rw [if_pos c17] at H
      have LMc17 := Aside0.mk c17
      clear c17
      obtain ⟨y516, hy516⟩ : ∃ y_ : List (S28), y_ = (x7_1 ++ [(⟨t513, t514⟩ : S28)]) := ⟨_, rfl⟩
      replace H : (impl_orbit.l0 k1 l0 y516 a2 (wrap64 (x12_1 + 1)) t513 t514 false) = some r := by first | (rw [hy516]; with_reducible exact H) | (have H2_ := (Option.bind_some _ _).symm.trans H; rw [hy516]; with_reducible exact H2_) | (have H2_ := (Option.bind_some _ _).symm.trans H; with_reducible exact H2_) | with_reducible exact H | (rw [hy516]; exact H) | exact H
      have Ny516 := Aside0.mk hy516
      clear hy516
      have H' := Aside0.mk H
      clear H
      have hnb18 := NB508_512.out
      have hnc18 := NB512_508.out
      obtain ⟨hcz19_0, hcz19_1, hfz19_0, hfz19_1⟩ := b2 BK508
      go_wp2_with (first | ((with_reducible refine gate_callee (f := 117) rfl ?_); refine gl 16 Try.func117 #[.pointer (some ⟨gb512, 0, none⟩), .slice A0 l0.length c0, .agg #[.int .i64 x509000_1, .int .i64 x509001_1]] ?_; (with_reducible refine (impl_calc_value.calls k1 gb512 x513000_1 _ _ l0 x509000_1 x509001_1 t513 t514 false w _ ?side1 ?side2 ?side3 ?side4 A10.out).mono ?_); (case side1 => repeat (first | (with_reducible first | exact HI512.out | apply IsS78.alloc | apply IsS78.drewN | apply IsS78.drew | apply IsS78.set_0 | refine IsS78.far ?_ NB512_508.out _) | exact HI512.out)); (case side2 => repeat (first | (with_reducible first | exact HB.out | apply below_alloc | apply pw_below_drewN | apply below_drew1 | refine below_set ?_ (IsS78.ge HI512.out) | refine below_set ?_ GE508.out) | exact HB.out)); (case side3 => exact Kd.C_foot_came k68_heap HR0.out (by repeat (first | (with_reducible first | exact HB.out | apply below_alloc | apply pw_below_drewN | apply below_drew1 | refine below_set ?_ (IsS78.ge HI512.out) | refine below_set ?_ GE508.out) | exact HB.out)) (IsS78.ge HI512.out)); (case side4 => exact HC0.out); rintro e w20 ⟨rfl, hi, hb, hk⟩; refine ⟨_, rfl, ?_⟩; replace HO_7 := Aside0.mk (Kd.R_mono (Kd.R_keep (IsS78.apart (show IsS78 w _ gb512 x513000_1 from by repeat (first | (with_reducible first | exact HI512.out | apply IsS78.alloc | apply IsS78.drewN | apply IsS78.drew | apply IsS78.set_0 | refine IsS78.far ?_ NB512_508.out _) | exact HI512.out)) (by (with_reducible repeat (first | apply Kd.R_alloc | apply Kd.R_drewN | apply Kd.R_drew)); exact HO_7.out) (by decide)) hk (fun _ h => h.2)) (fun _ h => h.1)); replace BK508 := Aside0.mk (KeepBut.blk hk (g' := gb508) (o := .cells #[.int .i64 x509000_1, .int .i64 x509001_1] 28 (0, 0)) (bo gb508) NB508_512.out (by simp)); replace HB := Aside0.mk (hb); replace HI512 := Aside0.mk (hi); (try clear hb); (try clear hb2); (try clear hk); (try clear hi); obtain ⟨hcz21_0, hcz21_1, hfz21_0, hfz21_1⟩ := b2 BK508; obtain ⟨HGz22, hgz22⟩ := HI512.out; have hcz22_0 := cellS78_0 HGz22; have hfz22_0 := blk_frozen HGz22 0; clear HGz22 hgz22) | ((with_reducible refine gate_builtin (b := .append) (xs := #[.tmp 19, .tmp 21]) rfl ?_); at_builtin; refine Kd.R_append k28 (w0 := w) w.heap.size rfl (.tmp 19) (.tmp 21) 64 28 (.agg #[(.int .i64 0), (.int .i64 0)]) 16 rfl Try.underlying64 info28 rfl (by decide) (by omega) u7 x7_1 (⟨t513, t514⟩ : S28) [.int .i64 t513, .int .i64 t514] (fun k_ => k_ ≠ gb508) (fun _ => False) rfl (by first | (go_simp; done) | (go_simp; rfl)) ?aP (fun _ hk => hk.elim) ?aF ?aO ?aB ?aS ?aL ?_; (case aP => exact k28_mkM _ _ _ (⟨t513, t514⟩ : S28)); (case aB => exact (by repeat (first | (with_reducible first | exact HB.out | apply below_alloc | apply pw_below_drewN | apply below_drew1 | refine below_set ?_ (IsS78.ge HI512.out) | refine below_set ?_ GE508.out) | exact HB.out))); (case aF => exact (fun k_ hk => Kd.freshB (g := gb508) (o := .cells #[.int .i64 t513, .int .i64 t514] 28 (0, 0)) (by (with_reducible repeat (first | refine blk_drewN ?_ _ | refine blk_drew ?_ | refine blk_alloc ?_ _)); refine blk_put (cs := #[.int .i64 t513, .int .i64 x509001_1]) ?_ 1 _ rfl; (with_reducible repeat (first | refine blk_drewN ?_ _ | refine blk_drew ?_ | refine blk_alloc ?_ _)); refine blk_put (cs := #[.int .i64 x509000_1, .int .i64 x509001_1]) ?_ 0 _ rfl; (with_reducible repeat (first | refine blk_drewN ?_ _ | refine blk_drew ?_ | refine blk_alloc ?_ _)); exact BK508.out) k_ hk)); (case aO => exact (by (with_reducible repeat (first | apply Kd.R_alloc | apply Kd.R_drewN | apply Kd.R_drew)); exact Kd.R_mono (Kd.R_far (p := ⟨gb508, 1, none⟩) (Kd.R_far (p := ⟨gb508, 0, none⟩) (Kd.R_mono HO_7.out (fun k_ hk => (⟨hk, hk⟩ : _ ∧ k_ ≠ gb508))) (fun _ hk => hk.2) (.int .i64 t513)) (fun _ hk => hk.2) (.int .i64 t514)) (fun _ hk => hk.1))); (case aS => exact (below_size (by repeat (first | (with_reducible first | exact HB.out | apply below_alloc | apply pw_below_drewN | apply below_drew1 | refine below_set ?_ (IsS78.ge HI512.out) | refine below_set ?_ GE508.out) | exact HB.out)))); (case aL => have := LMc17.out; omega); intro v517 w23 ho hb hg hat; rw [← Ny516.out] at ho; have HO518 := Aside0.mk (ho); replace BK508 := Aside0.mk (blk_grown (g := gb508) (o := .cells #[.int .i64 t513, .int .i64 t514] 28 (0, 0)) (by (with_reducible repeat (first | refine blk_drewN ?_ _ | refine blk_drew ?_ | refine blk_alloc ?_ _)); refine blk_put (cs := #[.int .i64 t513, .int .i64 x509001_1]) ?_ 1 _ rfl; (with_reducible repeat (first | refine blk_drewN ?_ _ | refine blk_drew ?_ | refine blk_alloc ?_ _)); refine blk_put (cs := #[.int .i64 x509000_1, .int .i64 x509001_1]) ?_ 0 _ rfl; (with_reducible repeat (first | refine blk_drewN ?_ _ | refine blk_drew ?_ | refine blk_alloc ?_ _)); exact BK508.out) hg (Kd.R_away HO_7.out (fun _ hk => hk))); replace HI512 := Aside0.mk (IsS78.grown (show IsS78 w _ gb512 false from by repeat (first | (with_reducible first | exact HI512.out | apply IsS78.alloc | apply IsS78.drewN | apply IsS78.drew | apply IsS78.set_0 | refine IsS78.far ?_ NB512_508.out _) | exact HI512.out)) hg (IsS78.own_ne HI512.out HO_7.out (by decide))); replace HB := Aside0.mk (hb); clear HO_7; clear ho hb hg hat))
      go_roundg k1
      case measure => have := HK1.out; omega
      case rel => exact ⟨(y516), (wrap64 (x12_1 + 1)), (t513), (t514), (false), rs, H', ⟨by have := HK1.out; omega⟩, ⟨by (with_reducible repeat (first | apply Kd.R_alloc | apply Kd.R_drewN | apply Kd.R_drew)); exact HO518.out⟩, ⟨by (with_reducible repeat (first | refine blk_drewN ?_ _ | refine blk_drew ?_ | refine blk_alloc ?_ _)); exact BK508.out⟩, ⟨by repeat (first | (with_reducible first | exact HI512.out | apply IsS78.alloc | apply IsS78.drewN | apply IsS78.drew | apply IsS78.set_0 | refine IsS78.far ?_ NB512_508.out _) | exact HI512.out)⟩, ⟨by repeat (first | (with_reducible first | exact HB.out | apply below_alloc | apply pw_below_drewN | apply below_drew1 | refine below_set ?_ (IsS78.ge HI512.out) | refine below_set ?_ GE508.out) | exact HB.out)⟩⟩
     ·rw [if_neg c17] at H
      exact absurd H (by simp)
   ·rw [if_neg c9] at H
    have c9b0 : decide (x12_1 < a2) = false := decide_eq_false c9
    clear c9
    obtain rfl := Option.some.inj H
    go_wp2
    go_ret
    exact ⟨_, rt, by (with_reducible repeat (first | apply Kd.R_alloc | apply Kd.R_drewN | apply Kd.R_drew)); exact Kd.R_mono HO_7.out (fun _ hk => trivial), by repeat (first | (with_reducible first | exact HB.out | apply below_alloc | apply pw_below_drewN | apply below_drew1 | refine below_set ?_ (IsS78.ge HI512.out) | refine below_set ?_ GE508.out) | exact HB.out)⟩

end Go.Proofs.Ytmecnnnagallnaa.PFnExactItineraryOf
