-- Written by this session's program wip/pp (the kit's print tool with additions) 35421559b90ae4d0a3588c463048766b98c2df88dd9212a6774a882060cdf62d
import Derived.Test.YtannadjfkaghjaaPFnExactIsRepellingx0
import Derived.Test.YtannadjfkaghjaaPFnExactIsRepellingx13
import Derived.Test.YtannadjfkaghjaaPFnExactIsRepellingx15
namespace Go.Proofs.Ytannadjfkaghjaa.PFnExactIsRepelling
open Go.RowKit Go.Proofs.YtannadjfkaghjaaW.PrintWords Go.Proofs.YtannadjfkaghjaaW.PrintLast Go.Proofs.YtannadjfkaghjaaW.PrintMore
attribute [local go_sem] max2_int min2_int max_two min_two max_three min_three max_four min_four   -- for this text's walks alone
set_option linter.unusedVariables false
set_option linter.unusedSimpArgs false

/-! ### impl_calc_line: function 138 -/
def impl_calc_line.f (k : Nat) (s0_0 : Bool) (a1_0 : Int) (a1_1 : Int) (a1_2 : Int) (a1_3 : Int) (a2_0 : Int) (a2_1 : Int) (a3_0 : Int) (a3_1 : Int) : Option (Int × Int × Bool) := (impl_calc_sub.f k s0_0 a3_0 a3_1 a1_0 a1_1).bind fun bt465 => ((impl_calc_mul.f k bt465.2.2 a2_0 a2_1 bt465.1 bt465.2.1).bind fun bt468 => ((impl_calc_add.f k bt468.2.2 a1_2 a1_3 bt468.1 bt468.2.1).bind fun bt471 => (some (bt471.1, bt471.2.1, bt471.2.2))))
def impl_calc_line.T1 : Bool × List (List Nat × List Nat) := (true, [([], []), ([], []), ([1], [1]), ([], []), ([], []), ([], []), ([], []), ([], []), ([7], [7]), ([5, 6, 8], [5, 6, 8]), ([3, 4, 9, 9], [3, 4, 9]), ([0, 2, 10, 10], [0, 2, 10]), ([11, 11, 0, 1, 2, 3, 4, 5, 6, 7, 8, 9, 10, 11], [11])])
def impl_calc_line.B1 : List Nat := [0, 0, 2, 0, 0, 0, 0, 0, 128, 480, 1016, 2047, 4095]
theorem impl_calc_line.tab1 : rtab .any (opsOf Try.f138 1) = impl_calc_line.T1 := by kernel_rfl
theorem impl_calc_line.bits1 : waitsOk impl_calc_line.T1.2 impl_calc_line.B1 = true := by kernel_rfl
set_option maxHeartbeats 8000000 in
set_option maxRecDepth 100000 in
theorem impl_calc_line.calls (k : Nat) (g : Nat) (s0_0 : Bool) (a1_0 : Int) (a1_1 : Int) (a1_2 : Int) (a1_3 : Int) (a2_0 : Int) (a2_1 : Int) (a3_0 : Int) (a3_1 : Int) (r1 : Int) (r2 : Int) (r3 : Bool) (w0 w : World) (hI : IsS103 w0 w g s0_0) (hB : Below w0.heap.size w0 w) (h : impl_calc_line.f k s0_0 a1_0 a1_1 a1_2 a1_3 a2_0 a2_1 a3_0 a3_1 = some (r1, r2, r3)) :
  Calls Try.prog 138 #[.pointer (some ⟨g, 0, none⟩), .agg #[.int .i64 a1_0, .int .i64 a1_1, .int .i64 a1_2, .int .i64 a1_3], .agg #[.int .i64 a2_0, .int .i64 a2_1], .agg #[.int .i64 a3_0, .int .i64 a3_1]] w fun e w' => e = .returned (.agg #[.int .i64 r1, .int .i64 r2]) ∧ IsS103 w0 w' g r3 ∧ Below w0.heap.size w0 w' ∧ KeepBut w w' g none := by
 have hu73 := Try.underlying73
 have hu53 := Try.underlying53
 have HI0 := Aside0.mk hI
 have HK := Aside0.mk (KeepBut.refl w g none)
 have HL := Aside0.mk hB.size
 clear hI
 have HW0 := Aside0.mk hB.size
 have HB := Aside0.mk hB
 clear hB
 have H : ((impl_calc_sub.f k s0_0 a3_0 a3_1 a1_0 a1_1).bind fun bt465 => ((impl_calc_mul.f k bt465.2.2 a2_0 a2_1 bt465.1 bt465.2.1).bind fun bt468 => ((impl_calc_add.f k bt468.2.2 a1_2 a1_3 bt468.1 bt468.2.1).bind fun bt471 => (some (bt471.1, bt471.2.1, bt471.2.2))))) = some (r1, r2, r3) := h
 clear h
 replace H := Option.bind_eq_some_iff.mp H
 obtain ⟨⟨t465, t466, t467⟩, A50, H⟩ := H
 replace H : ((impl_calc_mul.f k t467 a2_0 a2_1 t465 t466).bind fun bt468 => ((impl_calc_add.f k bt468.2.2 a1_2 a1_3 bt468.1 bt468.2.1).bind fun bt471 => (some (bt471.1, bt471.2.1, bt471.2.2)))) = some (r1, r2, r3) := H
 have A5 := Aside0.mk A50
 clear A50
 replace H := Option.bind_eq_some_iff.mp H
 obtain ⟨⟨t468, t469, t470⟩, A60, H⟩ := H
 replace H : ((impl_calc_add.f k t470 a1_2 a1_3 t468 t469).bind fun bt471 => (some (bt471.1, bt471.2.1, bt471.2.2))) = some (r1, r2, r3) := H
 have A6 := Aside0.mk A60
 clear A60
 replace H := Option.bind_eq_some_iff.mp H
 obtain ⟨⟨t471, t472, t473⟩, A70, H⟩ := H
 replace H : (some (t471, t472, t473)) = some (r1, r2, r3) := H
 have A7 := Aside0.mk A70
 clear A70
 simp only [Option.some.injEq, Prod.mk.injEq] at H
 obtain ⟨rfl, rfl, rfl⟩ := H
 go_enter Try.func138, Try.ntmps138
 try go_wp2_with (first | ((with_reducible refine gate_dst (N := 5) rfl ?_); refine bx 5 #[.int .i64 a1_0, .int .i64 a1_1, .int .i64 a1_2, .int .i64 a1_3] 73 ?_; intro gb461 hg w8 hbox hb; have BK461 := Aside0.mk (hbox); have GW461 := Aside0.mk ((by rw [hg]; exact (keep_size (w := w) (g := g) (row := none) (by repeat (first | (with_reducible first | exact HK.out | apply KeepBut.set_ | apply keep_drewN | apply keep_drew | apply keep_alloc) | exact HK.out))) : w.heap.size ≤ gb461)); have GE461 := Aside0.mk ((Nat.le_trans HW0.out GW461.out : w0.heap.size ≤ gb461)); have NB0_461 := Aside0.mk ((by rw [hg]; exact Nat.ne_of_lt (IsS103.lt (show IsS103 w0 _ g s0_0 from by repeat (first | (with_reducible first | exact HI0.out | apply IsS103.alloc | apply IsS103.drewN | apply IsS103.drew | apply IsS103.set_0) | exact HI0.out))) : g ≠ gb461)); have NB461_0 := sy NB0_461; replace HK := Aside0.mk (KeepBut.trans (by repeat (first | (with_reducible first | exact HK.out | apply KeepBut.set_ | apply keep_drewN | apply keep_drew | apply keep_alloc) | exact HK.out)) (KeepBut.of_below hb g none) (.inl rfl)); replace HB := Aside0.mk (below_step (by repeat (first | (with_reducible first | exact HB.out | apply below_alloc | apply pw_below_drewN | apply below_drew1 | refine below_set ?_ (IsS103.ge HI0.out)) | exact HB.out)) hb); replace HI0 := Aside0.mk (IsS103.below (by repeat (first | (with_reducible first | exact HI0.out | apply IsS103.alloc | apply IsS103.drewN | apply IsS103.drew | apply IsS103.set_0) | exact HI0.out)) hb); clear hb hbox hg) | ((with_reducible refine gate_dst (N := 6) rfl ?_); refine bx 6 #[.int .i64 a2_0, .int .i64 a2_1] 53 ?_; intro gb462 hg w9 hbox hb; have BK462 := Aside0.mk (hbox); have GW462 := Aside0.mk ((by rw [hg]; exact (keep_size (w := w) (g := g) (row := none) (by repeat (first | (with_reducible first | exact HK.out | apply KeepBut.set_ | apply keep_drewN | apply keep_drew | apply keep_alloc | refine keep_far ?_ GW461.out _) | exact HK.out))) : w.heap.size ≤ gb462)); have GE462 := Aside0.mk ((Nat.le_trans HW0.out GW462.out : w0.heap.size ≤ gb462)); have NB461_462 := Aside0.mk (bn gb461 hg); have NB462_461 := sy NB461_462; have NB0_462 := Aside0.mk ((by rw [hg]; exact Nat.ne_of_lt (IsS103.lt (show IsS103 w0 _ g s0_0 from by repeat (first | (with_reducible first | exact HI0.out | apply IsS103.alloc | apply IsS103.drewN | apply IsS103.drew | apply IsS103.set_0 | refine IsS103.far ?_ NB0_461.out _) | exact HI0.out))) : g ≠ gb462)); have NB462_0 := sy NB0_462; replace BK461 := kb BK461 hb; replace HK := Aside0.mk (KeepBut.trans (by repeat (first | (with_reducible first | exact HK.out | apply KeepBut.set_ | apply keep_drewN | apply keep_drew | apply keep_alloc | refine keep_far ?_ GW461.out _) | exact HK.out)) (KeepBut.of_below hb g none) (.inl rfl)); replace HB := Aside0.mk (below_step (by repeat (first | (with_reducible first | exact HB.out | apply below_alloc | apply pw_below_drewN | apply below_drew1 | refine below_set ?_ (IsS103.ge HI0.out) | refine below_set ?_ GE461.out) | exact HB.out)) hb); replace HI0 := Aside0.mk (IsS103.below (by repeat (first | (with_reducible first | exact HI0.out | apply IsS103.alloc | apply IsS103.drewN | apply IsS103.drew | apply IsS103.set_0 | refine IsS103.far ?_ NB0_461.out _) | exact HI0.out)) hb); clear hb hbox hg) | ((with_reducible refine gate_dst (N := 7) rfl ?_); refine bx 7 #[.int .i64 a3_0, .int .i64 a3_1] 53 ?_; intro gb463 hg w10 hbox hb; have BK463 := Aside0.mk (hbox); have GW463 := Aside0.mk ((by rw [hg]; exact (keep_size (w := w) (g := g) (row := none) (by repeat (first | (with_reducible first | exact HK.out | apply KeepBut.set_ | apply keep_drewN | apply keep_drew | apply keep_alloc | refine keep_far ?_ GW461.out _ | refine keep_far ?_ GW462.out _) | exact HK.out))) : w.heap.size ≤ gb463)); have GE463 := Aside0.mk ((Nat.le_trans HW0.out GW463.out : w0.heap.size ≤ gb463)); have NB461_463 := Aside0.mk (bn gb461 hg); have NB463_461 := sy NB461_463; have NB462_463 := Aside0.mk (bn gb462 hg); have NB463_462 := sy NB462_463; have NB0_463 := Aside0.mk ((by rw [hg]; exact Nat.ne_of_lt (IsS103.lt (show IsS103 w0 _ g s0_0 from by repeat (first | (with_reducible first | exact HI0.out | apply IsS103.alloc | apply IsS103.drewN | apply IsS103.drew | apply IsS103.set_0 | refine IsS103.far ?_ NB0_461.out _ | refine IsS103.far ?_ NB0_462.out _) | exact HI0.out))) : g ≠ gb463)); have NB463_0 := sy NB0_463; replace BK461 := kb BK461 hb; replace BK462 := kb BK462 hb; replace HK := Aside0.mk (KeepBut.trans (by repeat (first | (with_reducible first | exact HK.out | apply KeepBut.set_ | apply keep_drewN | apply keep_drew | apply keep_alloc | refine keep_far ?_ GW461.out _ | refine keep_far ?_ GW462.out _) | exact HK.out)) (KeepBut.of_below hb g none) (.inl rfl)); replace HB := Aside0.mk (below_step (by repeat (first | (with_reducible first | exact HB.out | apply below_alloc | apply pw_below_drewN | apply below_drew1 | refine below_set ?_ (IsS103.ge HI0.out) | refine below_set ?_ GE461.out | refine below_set ?_ GE462.out) | exact HB.out)) hb); replace HI0 := Aside0.mk (IsS103.below (by repeat (first | (with_reducible first | exact HI0.out | apply IsS103.alloc | apply IsS103.drewN | apply IsS103.drew | apply IsS103.set_0 | refine IsS103.far ?_ NB0_461.out _ | refine IsS103.far ?_ NB0_462.out _) | exact HI0.out)) hb); clear hb hbox hg) | ((with_reducible refine gate_dst (N := 8) rfl ?_); refine bx 8 #[.int .i64 0, .int .i64 0] 53 ?_; intro gb464 hg w11 hbox hb; have BK464 := Aside0.mk (hbox); have GW464 := Aside0.mk ((by rw [hg]; exact (keep_size (w := w) (g := g) (row := none) (by repeat (first | (with_reducible first | exact HK.out | apply KeepBut.set_ | apply keep_drewN | apply keep_drew | apply keep_alloc | refine keep_far ?_ GW461.out _ | refine keep_far ?_ GW462.out _ | refine keep_far ?_ GW463.out _) | exact HK.out))) : w.heap.size ≤ gb464)); have GE464 := Aside0.mk ((Nat.le_trans HW0.out GW464.out : w0.heap.size ≤ gb464)); have NB461_464 := Aside0.mk (bn gb461 hg); have NB464_461 := sy NB461_464; have NB462_464 := Aside0.mk (bn gb462 hg); have NB464_462 := sy NB462_464; have NB463_464 := Aside0.mk (bn gb463 hg); have NB464_463 := sy NB463_464; have NB0_464 := Aside0.mk ((by rw [hg]; exact Nat.ne_of_lt (IsS103.lt (show IsS103 w0 _ g s0_0 from by repeat (first | (with_reducible first | exact HI0.out | apply IsS103.alloc | apply IsS103.drewN | apply IsS103.drew | apply IsS103.set_0 | refine IsS103.far ?_ NB0_461.out _ | refine IsS103.far ?_ NB0_462.out _ | refine IsS103.far ?_ NB0_463.out _) | exact HI0.out))) : g ≠ gb464)); have NB464_0 := sy NB0_464; replace BK461 := kb BK461 hb; replace BK462 := kb BK462 hb; replace BK463 := kb BK463 hb; replace HK := Aside0.mk (KeepBut.trans (by repeat (first | (with_reducible first | exact HK.out | apply KeepBut.set_ | apply keep_drewN | apply keep_drew | apply keep_alloc | refine keep_far ?_ GW461.out _ | refine keep_far ?_ GW462.out _ | refine keep_far ?_ GW463.out _) | exact HK.out)) (KeepBut.of_below hb g none) (.inl rfl)); replace HB := Aside0.mk (below_step (by repeat (first | (with_reducible first | exact HB.out | apply below_alloc | apply pw_below_drewN | apply below_drew1 | refine below_set ?_ (IsS103.ge HI0.out) | refine below_set ?_ GE461.out | refine below_set ?_ GE462.out | refine below_set ?_ GE463.out) | exact HB.out)) hb); replace HI0 := Aside0.mk (IsS103.below (by repeat (first | (with_reducible first | exact HI0.out | apply IsS103.alloc | apply IsS103.drewN | apply IsS103.drew | apply IsS103.set_0 | refine IsS103.far ?_ NB0_461.out _ | refine IsS103.far ?_ NB0_462.out _ | refine IsS103.far ?_ NB0_463.out _) | exact HI0.out)) hb); clear hb hbox hg))
 replace BK461 := Aside0.mk (blk_drew BK461.out)
 replace BK462 := Aside0.mk (blk_drew BK462.out)
 replace BK463 := Aside0.mk (blk_drew BK463.out)
 replace BK464 := Aside0.mk (blk_drew BK464.out)
 replace HI0 := Aside0.mk (IsS103.drew HI0.out)
 replace HK := Aside0.mk (keep_drew HK.out)
 replace HB := Aside0.mk (below_drew1 HB.out)
 refine start_ (n := 13) (S := fun w' => w'.cell? ⟨gb461, 0, none⟩ = some (.int .i64 a1_0) ∧ w'.cell? ⟨gb461, 1, none⟩ = some (.int .i64 a1_1) ∧ w'.cell? ⟨gb461, 2, none⟩ = some (.int .i64 a1_2) ∧ w'.cell? ⟨gb461, 3, none⟩ = some (.int .i64 a1_3) ∧ w'.cell? ⟨gb462, 0, none⟩ = some (.int .i64 a2_0) ∧ w'.cell? ⟨gb462, 1, none⟩ = some (.int .i64 a2_1) ∧ w'.cell? ⟨gb463, 0, none⟩ = some (.int .i64 a3_0) ∧ w'.cell? ⟨gb463, 1, none⟩ = some (.int .i64 a3_1)) (ds := []) (tb 0 13) (by kernel_rfl) rfl rfl ⟨(blk_cell BK461.out 0).trans rfl, (blk_cell BK461.out 1).trans rfl, (blk_cell BK461.out 2).trans rfl, (blk_cell BK461.out 3).trans rfl, (blk_cell BK462.out 0).trans rfl, (blk_cell BK462.out 1).trans rfl, (blk_cell BK463.out 0).trans rfl, (blk_cell BK463.out 1).trans rfl⟩ (fun hHeld => ?_); refine with_tabW impl_calc_line.tab1 impl_calc_line.bits1 (fun HT_ HW_ => ?_)
 generalize w11.drew = w12 at BK461 BK462 BK463 BK464 HI0 HK HB hHeld ⊢
 refine pu 0 9 (tb 1 12) ?_
 refine pu 1 10 (tb 2 11) ?_
 refine pu 3 12 #[true, true, false, true, false, false, false, false, false, false, false, false, false] ?_
 refine pu 5 14 #[true, true, false, true, false, true, false, false, false, false, false, false, false] ?_
 refine pu 7 16 #[true, true, false, true, false, true, false, true, false, false, false, false, false] ?_
 refine tk 2 11 #[true, true, true, true, false, true, false, true, false, false, false, false, false] (hy := by rintro w' ⟨s0, s1, s2, s3, s4, s5, s6, s7⟩; go_simp; with_reducible rfl) (h := ?_)
 refine tk 4 13 #[true, true, true, true, true, true, false, true, false, false, false, false, false] (hy := by rintro w' ⟨s0, s1, s2, s3, s4, s5, s6, s7⟩; go_simp; with_reducible rfl) (h := ?_)
 refine tk 6 15 (tb 8 5) (hy := by rintro w' ⟨s0, s1, s2, s3, s4, s5, s6, s7⟩; go_simp; with_reducible rfl) (h := ?_)
 refine tk 8 17 (tb 9 4) (hy := by rintro w' ⟨s0, s1, s2, s3, s4, s5, s6, s7⟩; go_simp; with_reducible rfl) (h := ?_)
 refine on 9 18 (tb 10 3) (fun K hK => ?_)
 refine gs Try.func140 #[.pointer (some ⟨g, 0, none⟩), .agg #[.int .i64 a3_0, .int .i64 a3_1], .agg #[.int .i64 a1_0, .int .i64 a1_1]] ?_
 with_reducible refine (impl_calc_sub.calls k g s0_0 a3_0 a3_1 a1_0 a1_1 t465 t466 t467 w0 _ ?side1 ?side2 A5.out).mono ?_
 (case side1 => repeat (first | (with_reducible first | exact HI0.out | apply IsS103.alloc | apply IsS103.drewN | apply IsS103.drew | apply IsS103.set_0 | refine IsS103.far ?_ NB0_461.out _ | refine IsS103.far ?_ NB0_462.out _ | refine IsS103.far ?_ NB0_463.out _ | refine IsS103.far ?_ NB0_464.out _) | exact HI0.out))
 (case side2 => repeat (first | (with_reducible first | exact HB.out | apply below_alloc | apply pw_below_drewN | apply below_drew1 | refine below_set ?_ (IsS103.ge HI0.out) | refine below_set ?_ GE461.out | refine below_set ?_ GE462.out | refine below_set ?_ GE463.out | refine below_set ?_ GE464.out) | exact HB.out))
 rintro e w13 ⟨rfl, hi, hb, hk⟩
 refine ⟨_, rfl, ?_⟩
 replace BK461 := Aside0.mk (KeepBut.blk hk (g' := gb461) (o := .cells #[.int .i64 a1_0, .int .i64 a1_1, .int .i64 a1_2, .int .i64 a1_3] 73 (0, 0)) (bo gb461) NB461_0.out (by simp))
 replace BK462 := Aside0.mk (KeepBut.blk hk (g' := gb462) (o := .cells #[.int .i64 a2_0, .int .i64 a2_1] 53 (0, 0)) (bo gb462) NB462_0.out (by simp))
 replace BK463 := Aside0.mk (KeepBut.blk hk (g' := gb463) (o := .cells #[.int .i64 a3_0, .int .i64 a3_1] 53 (0, 0)) (bo gb463) NB463_0.out (by simp))
 replace BK464 := Aside0.mk (KeepBut.blk hk (g' := gb464) (o := .cells #[.int .i64 0, .int .i64 0] 53 (0, 0)) (bo gb464) NB464_0.out (by simp))
 replace HK := Aside0.mk (KeepBut.trans (by repeat (first | (with_reducible first | exact HK.out | apply KeepBut.set_ | apply keep_drewN | apply keep_drew | apply keep_alloc | refine keep_far ?_ GW461.out _ | refine keep_far ?_ GW462.out _ | refine keep_far ?_ GW463.out _ | refine keep_far ?_ GW464.out _) | exact HK.out)) hk (.inl rfl))
 replace HB := Aside0.mk (hb)
 replace HI0 := Aside0.mk (hi)
 (try clear hb)
 (try clear hb2)
 (try clear hk)
 (try clear hi)
 refine hK.out _ _ ⟨(blk_cell BK461.out 0).trans rfl, (blk_cell BK461.out 1).trans rfl, (blk_cell BK461.out 2).trans rfl, (blk_cell BK461.out 3).trans rfl, (blk_cell BK462.out 0).trans rfl, (blk_cell BK462.out 1).trans rfl, (blk_cell BK463.out 0).trans rfl, (blk_cell BK463.out 1).trans rfl⟩ (fun hHeld => ?_)
 clear hK K
 refine nm 18 ?_
 refine on 10 19 (tb 11 2) (fun K hK => ?_)
 refine gs Try.func103 #[.pointer (some ⟨g, 0, none⟩), .agg #[.int .i64 a2_0, .int .i64 a2_1], .agg #[.int .i64 t465, .int .i64 t466]] ?_
 with_reducible refine (impl_calc_mul.calls k g t467 a2_0 a2_1 t465 t466 t468 t469 t470 w0 _ ?side1 ?side2 A6.out).mono ?_
 (case side1 => repeat (first | (with_reducible first | exact HI0.out | apply IsS103.alloc | apply IsS103.drewN | apply IsS103.drew | apply IsS103.set_0 | refine IsS103.far ?_ NB0_461.out _ | refine IsS103.far ?_ NB0_462.out _ | refine IsS103.far ?_ NB0_463.out _ | refine IsS103.far ?_ NB0_464.out _) | exact HI0.out))
 (case side2 => repeat (first | (with_reducible first | exact HB.out | apply below_alloc | apply pw_below_drewN | apply below_drew1 | refine below_set ?_ (IsS103.ge HI0.out) | refine below_set ?_ GE461.out | refine below_set ?_ GE462.out | refine below_set ?_ GE463.out | refine below_set ?_ GE464.out) | exact HB.out))
 rintro e w14 ⟨rfl, hi, hb, hk⟩
 refine ⟨_, rfl, ?_⟩
 replace BK461 := Aside0.mk (KeepBut.blk hk (g' := gb461) (o := .cells #[.int .i64 a1_0, .int .i64 a1_1, .int .i64 a1_2, .int .i64 a1_3] 73 (0, 0)) (bo gb461) NB461_0.out (by simp))
 replace BK462 := Aside0.mk (KeepBut.blk hk (g' := gb462) (o := .cells #[.int .i64 a2_0, .int .i64 a2_1] 53 (0, 0)) (bo gb462) NB462_0.out (by simp))
 replace BK463 := Aside0.mk (KeepBut.blk hk (g' := gb463) (o := .cells #[.int .i64 a3_0, .int .i64 a3_1] 53 (0, 0)) (bo gb463) NB463_0.out (by simp))
 replace BK464 := Aside0.mk (KeepBut.blk hk (g' := gb464) (o := .cells #[.int .i64 0, .int .i64 0] 53 (0, 0)) (bo gb464) NB464_0.out (by simp))
 replace HK := Aside0.mk (KeepBut.trans (by repeat (first | (with_reducible first | exact HK.out | apply KeepBut.set_ | apply keep_drewN | apply keep_drew | apply keep_alloc | refine keep_far ?_ GW461.out _ | refine keep_far ?_ GW462.out _ | refine keep_far ?_ GW463.out _ | refine keep_far ?_ GW464.out _) | exact HK.out)) hk (.inl rfl))
 replace HB := Aside0.mk (hb)
 replace HI0 := Aside0.mk (hi)
 (try clear hb)
 (try clear hb2)
 (try clear hk)
 (try clear hi)
 refine hK.out _ _ ⟨(blk_cell BK461.out 0).trans rfl, (blk_cell BK461.out 1).trans rfl, (blk_cell BK461.out 2).trans rfl, (blk_cell BK461.out 3).trans rfl, (blk_cell BK462.out 0).trans rfl, (blk_cell BK462.out 1).trans rfl, (blk_cell BK463.out 0).trans rfl, (blk_cell BK463.out 1).trans rfl⟩ (fun hHeld => ?_)
 clear hK K
 refine nm 19 ?_
 refine on 11 20 (tb 12 1) (fun K hK => ?_)
 refine gs Try.func143 #[.pointer (some ⟨g, 0, none⟩), .agg #[.int .i64 a1_2, .int .i64 a1_3], .agg #[.int .i64 t468, .int .i64 t469]] ?_
 with_reducible refine (impl_calc_add.calls k g t470 a1_2 a1_3 t468 t469 t471 t472 t473 w0 _ ?side1 ?side2 A7.out).mono ?_
 (case side1 => repeat (first | (with_reducible first | exact HI0.out | apply IsS103.alloc | apply IsS103.drewN | apply IsS103.drew | apply IsS103.set_0 | refine IsS103.far ?_ NB0_461.out _ | refine IsS103.far ?_ NB0_462.out _ | refine IsS103.far ?_ NB0_463.out _ | refine IsS103.far ?_ NB0_464.out _) | exact HI0.out))
 (case side2 => repeat (first | (with_reducible first | exact HB.out | apply below_alloc | apply pw_below_drewN | apply below_drew1 | refine below_set ?_ (IsS103.ge HI0.out) | refine below_set ?_ GE461.out | refine below_set ?_ GE462.out | refine below_set ?_ GE463.out | refine below_set ?_ GE464.out) | exact HB.out))
 rintro e w15 ⟨rfl, hi, hb, hk⟩
 refine ⟨_, rfl, ?_⟩
 replace BK461 := Aside0.mk (KeepBut.blk hk (g' := gb461) (o := .cells #[.int .i64 a1_0, .int .i64 a1_1, .int .i64 a1_2, .int .i64 a1_3] 73 (0, 0)) (bo gb461) NB461_0.out (by simp))
 replace BK462 := Aside0.mk (KeepBut.blk hk (g' := gb462) (o := .cells #[.int .i64 a2_0, .int .i64 a2_1] 53 (0, 0)) (bo gb462) NB462_0.out (by simp))
 replace BK463 := Aside0.mk (KeepBut.blk hk (g' := gb463) (o := .cells #[.int .i64 a3_0, .int .i64 a3_1] 53 (0, 0)) (bo gb463) NB463_0.out (by simp))
 replace BK464 := Aside0.mk (KeepBut.blk hk (g' := gb464) (o := .cells #[.int .i64 0, .int .i64 0] 53 (0, 0)) (bo gb464) NB464_0.out (by simp))
 replace HK := Aside0.mk (KeepBut.trans (by repeat (first | (with_reducible first | exact HK.out | apply KeepBut.set_ | apply keep_drewN | apply keep_drew | apply keep_alloc | refine keep_far ?_ GW461.out _ | refine keep_far ?_ GW462.out _ | refine keep_far ?_ GW463.out _ | refine keep_far ?_ GW464.out _) | exact HK.out)) hk (.inl rfl))
 replace HB := Aside0.mk (hb)
 replace HI0 := Aside0.mk (hi)
 (try clear hb)
 (try clear hb2)
 (try clear hk)
 (try clear hi)
 refine hK.out _ _ ⟨(blk_cell BK461.out 0).trans rfl, (blk_cell BK461.out 1).trans rfl, (blk_cell BK461.out 2).trans rfl, (blk_cell BK461.out 3).trans rfl, (blk_cell BK462.out 0).trans rfl, (blk_cell BK462.out 1).trans rfl, (blk_cell BK463.out 0).trans rfl, (blk_cell BK463.out 1).trans rfl⟩ (fun hHeld => ?_)
 clear hK K
 refine nm 20 ?_
 refine one_ (i := 12) (N := none) (tb 13 0) rfl rfl (one_of HT_.out (by kernel_rfl)) (by decide) (fun K hK => ?_)
 have hs16 : w15.cell? ⟨gb464, 0, none⟩ = some (.int .i64 0) := (blk_cell BK464.out 0).trans rfl
 have hfs16 := blk_frozen BK464.out 0
 have hns16_0 := NB461_464.out
 have hns16_1 := NB462_464.out
 have hns16_2 := NB463_464.out
 have hms16_0 := NB464_461.out
 have hms16_1 := NB464_462.out
 have hms16_2 := NB464_463.out
 have hs17 : w15.cell? ⟨gb464, 1, none⟩ = some (.int .i64 0) := (blk_cell BK464.out 1).trans rfl
 have hfs17 := blk_frozen BK464.out 1
 have hns17_0 := NB461_464.out
 have hns17_1 := NB462_464.out
 have hns17_2 := NB463_464.out
 have hms17_0 := NB464_461.out
 have hms17_1 := NB464_462.out
 have hms17_2 := NB464_463.out
 refine skip_ (w1 := ?_) (by rfl) rfl ?_ ?_
 rotate_left
 ·go_simp
  rfl
 refine hK.out _ _ ⟨(by (iterate 2 refine (cell_far (p := ⟨gb464, _, none⟩) NB461_464.out _).trans ?_); exact hHeld.1), (by (iterate 2 refine (cell_far (p := ⟨gb464, _, none⟩) NB461_464.out _).trans ?_); exact hHeld.2.1), (by (iterate 2 refine (cell_far (p := ⟨gb464, _, none⟩) NB461_464.out _).trans ?_); exact hHeld.2.2.1), (by (iterate 2 refine (cell_far (p := ⟨gb464, _, none⟩) NB461_464.out _).trans ?_); exact hHeld.2.2.2.1), (by (iterate 2 refine (cell_far (p := ⟨gb464, _, none⟩) NB462_464.out _).trans ?_); exact hHeld.2.2.2.2.1), (by (iterate 2 refine (cell_far (p := ⟨gb464, _, none⟩) NB462_464.out _).trans ?_); exact hHeld.2.2.2.2.2.1), (by (iterate 2 refine (cell_far (p := ⟨gb464, _, none⟩) NB463_464.out _).trans ?_); exact hHeld.2.2.2.2.2.2.1), (by (iterate 2 refine (cell_far (p := ⟨gb464, _, none⟩) NB463_464.out _).trans ?_); exact hHeld.2.2.2.2.2.2.2)⟩ (fun hHeld => ?_)
 clear hK K
 refine done_ (done_of HT_.out (by kernel_rfl)) ?_
 try go_wp2
 refine bodyPost_ret (results_cell_row rfl _ _ gb464 53 #[.int .i64 t471, .int .i64 t472] (0, 0) _ rfl (by (with_reducible repeat (first | refine blk_drewN ?_ _ | refine blk_drew ?_ | refine blk_alloc ?_ _)); refine blk_put (cs := #[.int .i64 t471, .int .i64 0]) ?_ 1 _ rfl; (with_reducible repeat (first | refine blk_drewN ?_ _ | refine blk_drew ?_ | refine blk_alloc ?_ _)); refine blk_put (cs := #[.int .i64 0, .int .i64 0]) ?_ 0 _ rfl; (with_reducible repeat (first | refine blk_drewN ?_ _ | refine blk_drew ?_ | refine blk_alloc ?_ _)); exact BK464.out) Try.underlying53 rfl (by kernel_rfl)) rfl ?_
 exact ⟨rt, by repeat (first | (with_reducible first | exact HI0.out | apply IsS103.alloc | apply IsS103.drewN | apply IsS103.drew | apply IsS103.set_0 | refine IsS103.far ?_ NB0_461.out _ | refine IsS103.far ?_ NB0_462.out _ | refine IsS103.far ?_ NB0_463.out _ | refine IsS103.far ?_ NB0_464.out _) | exact HI0.out), by repeat (first | (with_reducible first | exact HB.out | apply below_alloc | apply pw_below_drewN | apply below_drew1 | refine below_set ?_ (IsS103.ge HI0.out) | refine below_set ?_ GE461.out | refine below_set ?_ GE462.out | refine below_set ?_ GE463.out | refine below_set ?_ GE464.out) | exact HB.out), by repeat (first | (with_reducible first | exact HK.out | apply KeepBut.set_ | apply keep_drewN | apply keep_drew | apply keep_alloc | refine keep_far ?_ GW461.out _ | refine keep_far ?_ GW462.out _ | refine keep_far ?_ GW463.out _ | refine keep_far ?_ GW464.out _) | exact HK.out)⟩

/-! ### impl_calc_value: function 123 -/
def impl_calc_value.f (k : Nat) (s0_0 : Bool) (l1 : List (S73)) (a2_0 : Int) (a2_1 : Int) : Option (Int × Int × Bool) := (impl_pieceAt.f k l1 a2_0 a2_1).bind fun t476 => (if 0 ≤ t476 then (if t476 < (l1.length : Int) then (if 0 ≤ (wrap64 (t476 + 1)) then (if (wrap64 (t476 + 1)) < (l1.length : Int) then ((impl_calc_slope.f k s0_0 ((rd_T73 l1 t476).f0.f0) ((rd_T73 l1 t476).f0.f1) ((rd_T73 l1 t476).f1.f0) ((rd_T73 l1 t476).f1.f1) ((rd_T73 l1 (wrap64 (t476 + 1))).f0.f0) ((rd_T73 l1 (wrap64 (t476 + 1))).f0.f1) ((rd_T73 l1 (wrap64 (t476 + 1))).f1.f0) ((rd_T73 l1 (wrap64 (t476 + 1))).f1.f1)).bind fun bt480 => ((impl_calc_line.f k bt480.2.2 ((rd_T73 l1 t476).f0.f0) ((rd_T73 l1 t476).f0.f1) ((rd_T73 l1 t476).f1.f0) ((rd_T73 l1 t476).f1.f1) bt480.1 bt480.2.1 a2_0 a2_1).bind fun bt483 => (some (bt483.1, bt483.2.1, bt483.2.2)))) else (none)) else (none)) else (none)) else (none))
def impl_calc_value.T2 : Bool × List (List Nat × List Nat) := (true, [([], []), ([], []), ([], []), ([1, 2], [1, 2]), ([3], [3]), ([], []), ([], []), ([], []), ([6, 7], [6, 7]), ([8], [8]), ([], []), ([], []), ([11], [11]), ([10, 12], [10, 12]), ([13], [13]), ([5, 9, 14], [5, 9, 14]), ([], []), ([0, 4, 15, 16, 15], [0, 4, 15, 16]), ([17, 17, 0, 1, 2, 3, 4, 5, 6, 7, 8, 9, 10, 11, 12, 13, 14, 15, 16, 17], [17])])
def impl_calc_value.B2 : List Nat := [0, 0, 0, 6, 14, 0, 0, 0, 192, 448, 0, 0, 2048, 7168, 15360, 32736, 0, 131071, 262143]
theorem impl_calc_value.tab2 : rtab .any (opsOf Try.f123 2) = impl_calc_value.T2 := by kernel_rfl
theorem impl_calc_value.bits2 : waitsOk impl_calc_value.T2.2 impl_calc_value.B2 = true := by kernel_rfl
set_option maxHeartbeats 8000000 in
set_option maxRecDepth 100000 in
theorem impl_calc_value.calls (k : Nat) (g : Nat) (s0_0 : Bool) (A1 : Option Addr) (c1 : Nat) (l1 : List (S73)) (a2_0 : Int) (a2_1 : Int) (r1 : Int) (r2 : Int) (r3 : Bool) (w0 w : World) (hI : IsS103 w0 w g s0_0) (hB : Below w0.heap.size w0 w) (hr1 : ∀ W_, KeepBut w W_ g none → Kd.C k73 W_ A1 l1.length l1) (hc1 : l1.length ≤ c1) (h : impl_calc_value.f k s0_0 l1 a2_0 a2_1 = some (r1, r2, r3)) :
  Calls Try.prog 123 #[.pointer (some ⟨g, 0, none⟩), .slice A1 l1.length c1, .agg #[.int .i64 a2_0, .int .i64 a2_1]] w fun e w' => e = .returned (.agg #[.int .i64 r1, .int .i64 r2]) ∧ IsS103 w0 w' g r3 ∧ Below w0.heap.size w0 w' ∧ KeepBut w w' g none := by
 have hu53 := Try.underlying53
 have hu73 := Try.underlying73
 have HR1 := Aside0.mk hr1
 have HC1 := Aside0.mk hc1
 clear hr1 hc1
 have HI0 := Aside0.mk hI
 have HK := Aside0.mk (KeepBut.refl w g none)
 have HL := Aside0.mk hB.size
 clear hI
 have HW0 := Aside0.mk hB.size
 have HB := Aside0.mk hB
 clear hB
 have H : ((impl_pieceAt.f k l1 a2_0 a2_1).bind fun t476 => (if 0 ≤ t476 then (if t476 < (l1.length : Int) then (if 0 ≤ (wrap64 (t476 + 1)) then (if (wrap64 (t476 + 1)) < (l1.length : Int) then ((impl_calc_slope.f k s0_0 ((rd_T73 l1 t476).f0.f0) ((rd_T73 l1 t476).f0.f1) ((rd_T73 l1 t476).f1.f0) ((rd_T73 l1 t476).f1.f1) ((rd_T73 l1 (wrap64 (t476 + 1))).f0.f0) ((rd_T73 l1 (wrap64 (t476 + 1))).f0.f1) ((rd_T73 l1 (wrap64 (t476 + 1))).f1.f0) ((rd_T73 l1 (wrap64 (t476 + 1))).f1.f1)).bind fun bt480 => ((impl_calc_line.f k bt480.2.2 ((rd_T73 l1 t476).f0.f0) ((rd_T73 l1 t476).f0.f1) ((rd_T73 l1 t476).f1.f0) ((rd_T73 l1 t476).f1.f1) bt480.1 bt480.2.1 a2_0 a2_1).bind fun bt483 => (some (bt483.1, bt483.2.1, bt483.2.2)))) else (none)) else (none)) else (none)) else (none))) = some (r1, r2, r3) := h
 clear h
 replace H := Option.bind_eq_some_iff.mp H
 obtain ⟨t476, A40, H⟩ := H
 replace H : (if 0 ≤ t476 then (if t476 < (l1.length : Int) then (if 0 ≤ (wrap64 (t476 + 1)) then (if (wrap64 (t476 + 1)) < (l1.length : Int) then ((impl_calc_slope.f k s0_0 ((rd_T73 l1 t476).f0.f0) ((rd_T73 l1 t476).f0.f1) ((rd_T73 l1 t476).f1.f0) ((rd_T73 l1 t476).f1.f1) ((rd_T73 l1 (wrap64 (t476 + 1))).f0.f0) ((rd_T73 l1 (wrap64 (t476 + 1))).f0.f1) ((rd_T73 l1 (wrap64 (t476 + 1))).f1.f0) ((rd_T73 l1 (wrap64 (t476 + 1))).f1.f1)).bind fun bt480 => ((impl_calc_line.f k bt480.2.2 ((rd_T73 l1 t476).f0.f0) ((rd_T73 l1 t476).f0.f1) ((rd_T73 l1 t476).f1.f0) ((rd_T73 l1 t476).f1.f1) bt480.1 bt480.2.1 a2_0 a2_1).bind fun bt483 => (some (bt483.1, bt483.2.1, bt483.2.2)))) else (none)) else (none)) else (none)) else (none)) = some (r1, r2, r3) := H
 have A4 := Aside0.mk A40
 clear A40
 by_cases c5 : 0 ≤ t476
 ·rw [if_pos c5] at H
  have c5b0 : decide (0 ≤ t476) = true := decide_eq_true c5
  clear c5
  by_cases c6 : t476 < (l1.length : Int)
  ·rw [if_pos c6] at H
   have c6b0 : decide (t476 < (l1.length : Int)) = true := decide_eq_true c6
   clear c6
   obtain ⟨ji7, hji7⟩ : ∃ j_ : Int, (wrap64 (t476 + 1)) = j_ := ⟨_, rfl⟩
   replace H : (if 0 ≤ (ji7) then (if (ji7) < (l1.length : Int) then ((impl_calc_slope.f k s0_0 ((rd_T73 l1 t476).f0.f0) ((rd_T73 l1 t476).f0.f1) ((rd_T73 l1 t476).f1.f0) ((rd_T73 l1 t476).f1.f1) ((rd_T73 l1 (ji7)).f0.f0) ((rd_T73 l1 (ji7)).f0.f1) ((rd_T73 l1 (ji7)).f1.f0) ((rd_T73 l1 (ji7)).f1.f1)).bind fun bt480 => ((impl_calc_line.f k bt480.2.2 ((rd_T73 l1 t476).f0.f0) ((rd_T73 l1 t476).f0.f1) ((rd_T73 l1 t476).f1.f0) ((rd_T73 l1 t476).f1.f1) bt480.1 bt480.2.1 a2_0 a2_1).bind fun bt483 => (some (bt483.1, bt483.2.1, bt483.2.2)))) else (none)) else (none)) = some (r1, r2, r3) := by first | (rw [hji7] at H; exact H) | (simp only [hji7] at H ⊢; exact H)
   (try rw [hji7] at A4)
   have hji7w : (IntKind.i64.wrap (t476 + 1)) = ji7 := (i64_w _).trans hji7
   by_cases c8 : 0 ≤ (ji7)
   ·rw [if_pos c8] at H
    have c8b0 : decide (0 ≤ (ji7)) = true := decide_eq_true c8
    clear c8
    by_cases c9 : (ji7) < (l1.length : Int)
    ·rw [if_pos c9] at H
     have c9b0 : decide ((ji7) < (l1.length : Int)) = true := decide_eq_true c9
     clear c9
     replace H := Option.bind_eq_some_iff.mp H
     obtain ⟨⟨t480, t481, t482⟩, A100, H⟩ := H
     replace H : ((impl_calc_line.f k t482 ((rd_T73 l1 t476).f0.f0) ((rd_T73 l1 t476).f0.f1) ((rd_T73 l1 t476).f1.f0) ((rd_T73 l1 t476).f1.f1) t480 t481 a2_0 a2_1).bind fun bt483 => (some (bt483.1, bt483.2.1, bt483.2.2))) = some (r1, r2, r3) := H
     have A10 := Aside0.mk A100
     clear A100
     replace H := Option.bind_eq_some_iff.mp H
     obtain ⟨⟨t483, t484, t485⟩, A110, H⟩ := H
     replace H : (some (t483, t484, t485)) = some (r1, r2, r3) := H
     have A11 := Aside0.mk A110
     clear A110
     simp only [Option.some.injEq, Prod.mk.injEq] at H
     obtain ⟨rfl, rfl, rfl⟩ := H
     go_enter Try.func123, Try.ntmps123
     try go_wp2_with (first | ((with_reducible refine gate_dst (N := 5) rfl ?_); refine bx 5 #[.int .i64 a2_0, .int .i64 a2_1] 53 ?_; intro gb474 hg w12 hbox hb; have BK474 := Aside0.mk (hbox); have GW474 := Aside0.mk ((by rw [hg]; exact (keep_size (w := w) (g := g) (row := none) (by repeat (first | (with_reducible first | exact HK.out | apply KeepBut.set_ | apply keep_drewN | apply keep_drew | apply keep_alloc) | exact HK.out))) : w.heap.size ≤ gb474)); have GE474 := Aside0.mk ((Nat.le_trans HW0.out GW474.out : w0.heap.size ≤ gb474)); have NB0_474 := Aside0.mk ((by rw [hg]; exact Nat.ne_of_lt (IsS103.lt (show IsS103 w0 _ g s0_0 from by repeat (first | (with_reducible first | exact HI0.out | apply IsS103.alloc | apply IsS103.drewN | apply IsS103.drew | apply IsS103.set_0) | exact HI0.out))) : g ≠ gb474)); have NB474_0 := sy NB0_474; replace HK := Aside0.mk (KeepBut.trans (by repeat (first | (with_reducible first | exact HK.out | apply KeepBut.set_ | apply keep_drewN | apply keep_drew | apply keep_alloc) | exact HK.out)) (KeepBut.of_below hb g none) (.inl rfl)); replace HB := Aside0.mk (below_step (by repeat (first | (with_reducible first | exact HB.out | apply below_alloc | apply pw_below_drewN | apply below_drew1 | refine below_set ?_ (IsS103.ge HI0.out)) | exact HB.out)) hb); replace HI0 := Aside0.mk (IsS103.below (by repeat (first | (with_reducible first | exact HI0.out | apply IsS103.alloc | apply IsS103.drewN | apply IsS103.drew | apply IsS103.set_0) | exact HI0.out)) hb); clear hb hbox hg) | ((with_reducible refine gate_dst (N := 6) rfl ?_); refine bx 6 #[.int .i64 0, .int .i64 0] 53 ?_; intro gb475 hg w13 hbox hb; have BK475 := Aside0.mk (hbox); have GW475 := Aside0.mk ((by rw [hg]; exact (keep_size (w := w) (g := g) (row := none) (by repeat (first | (with_reducible first | exact HK.out | apply KeepBut.set_ | apply keep_drewN | apply keep_drew | apply keep_alloc | refine keep_far ?_ GW474.out _) | exact HK.out))) : w.heap.size ≤ gb475)); have GE475 := Aside0.mk ((Nat.le_trans HW0.out GW475.out : w0.heap.size ≤ gb475)); have NB474_475 := Aside0.mk (bn gb474 hg); have NB475_474 := sy NB474_475; have NB0_475 := Aside0.mk ((by rw [hg]; exact Nat.ne_of_lt (IsS103.lt (show IsS103 w0 _ g s0_0 from by repeat (first | (with_reducible first | exact HI0.out | apply IsS103.alloc | apply IsS103.drewN | apply IsS103.drew | apply IsS103.set_0 | refine IsS103.far ?_ NB0_474.out _) | exact HI0.out))) : g ≠ gb475)); have NB475_0 := sy NB0_475; replace BK474 := kb BK474 hb; replace HK := Aside0.mk (KeepBut.trans (by repeat (first | (with_reducible first | exact HK.out | apply KeepBut.set_ | apply keep_drewN | apply keep_drew | apply keep_alloc | refine keep_far ?_ GW474.out _) | exact HK.out)) (KeepBut.of_below hb g none) (.inl rfl)); replace HB := Aside0.mk (below_step (by repeat (first | (with_reducible first | exact HB.out | apply below_alloc | apply pw_below_drewN | apply below_drew1 | refine below_set ?_ (IsS103.ge HI0.out) | refine below_set ?_ GE474.out) | exact HB.out)) hb); replace HI0 := Aside0.mk (IsS103.below (by repeat (first | (with_reducible first | exact HI0.out | apply IsS103.alloc | apply IsS103.drewN | apply IsS103.drew | apply IsS103.set_0 | refine IsS103.far ?_ NB0_474.out _) | exact HI0.out)) hb); clear hb hbox hg; have hnb14 := NB474_475.out; have hnc14 := NB475_474.out; have hnb15 := NB474_0.out; have hnc15 := NB0_474.out; obtain ⟨hcz16_0, hcz16_1, hfz16_0, hfz16_1⟩ := b2 BK474) | ((with_reducible refine gate_callee (f := 116) rfl ?_); refine gl 10 Try.func116 #[.slice A1 l1.length c1, .agg #[.int .i64 a2_0, .int .i64 a2_1]] ?_; (with_reducible refine (impl_pieceAt.calls k _ _ l1 a2_0 a2_1 t476 _ ?side1 ?side2 A4.out).mono ?_); (case side1 => exact Kd.C_foot_now HR1.out (by repeat (first | (with_reducible first | exact HK.out | apply KeepBut.set_ | apply keep_drewN | apply keep_drew | apply keep_alloc | refine keep_far ?_ GW474.out _ | refine keep_far ?_ GW475.out _) | exact HK.out))); (case side2 => exact HC1.out); rintro e w17 ⟨rfl, hb⟩; refine ⟨_, rfl, ?_⟩; replace BK474 := kb BK474 hb; replace BK475 := kb BK475 hb; replace HK := Aside0.mk (KeepBut.trans (by repeat (first | (with_reducible first | exact HK.out | apply KeepBut.set_ | apply keep_drewN | apply keep_drew | apply keep_alloc | refine keep_far ?_ GW474.out _ | refine keep_far ?_ GW475.out _) | exact HK.out)) (KeepBut.of_below hb g none) (.inl rfl)); replace HB := Aside0.mk (below_step (by repeat (first | (with_reducible first | exact HB.out | apply below_alloc | apply pw_below_drewN | apply below_drew1 | refine below_set ?_ (IsS103.ge HI0.out) | refine below_set ?_ GE474.out | refine below_set ?_ GE475.out) | exact HB.out)) hb); replace HI0 := Aside0.mk (IsS103.below (by repeat (first | (with_reducible first | exact HI0.out | apply IsS103.alloc | apply IsS103.drewN | apply IsS103.drew | apply IsS103.set_0 | refine IsS103.far ?_ NB0_474.out _ | refine IsS103.far ?_ NB0_475.out _) | exact HI0.out)) hb); (try clear hb); (try clear hb2); (try clear hk); (try clear hi)))
     replace BK474 := Aside0.mk (blk_drew BK474.out)
     replace BK475 := Aside0.mk (blk_drew BK475.out)
     replace HI0 := Aside0.mk (IsS103.drew HI0.out)
     replace HK := Aside0.mk (keep_drew HK.out)
     replace HB := Aside0.mk (below_drew1 HB.out)
     have p477 : 0 ≤ (t476 : Int) := da
     have q477 : t476 < (l1.length : Int) := da
     obtain ⟨ad477, e477, hx477_0, hx477_1, hx477_2, hx477_3⟩ := at_T73 (Kd.C_foot_now HR1.out HK.out) t476 p477 q477
     have hw477_3 := hx477_3
     have hw477_2 := hx477_2
     have hw477_1 := hx477_1
     have hw477_0 := hx477_0
     cases e477
     have hne477_3 := (show (⟨(ad477.add ((t476).toNat * 4)).block, (ad477.add ((t476).toNat * 4)).off + 3, none⟩ : Addr).block ≠ g from by first | (rw [add_block]; exact Kd.foot_ne HR1.out (by omega) (by decide)) | (show (Addr.add _ _).block ≠ _; rw [add_block]; exact Kd.foot_ne HR1.out (by omega) (by decide)) | exact Kd.foot_ne HR1.out (by omega) (by decide) | (dsimp only; exact Kd.foot_ne HR1.out (by omega) (by decide)))
     have hlt477_3 := (Kd.foot_lt HR1.out (by omega) (by decide))
     have hne477_2 := (show (⟨(ad477.add ((t476).toNat * 4)).block, (ad477.add ((t476).toNat * 4)).off + 2, none⟩ : Addr).block ≠ g from by first | (rw [add_block]; exact Kd.foot_ne HR1.out (by omega) (by decide)) | (show (Addr.add _ _).block ≠ _; rw [add_block]; exact Kd.foot_ne HR1.out (by omega) (by decide)) | exact Kd.foot_ne HR1.out (by omega) (by decide) | (dsimp only; exact Kd.foot_ne HR1.out (by omega) (by decide)))
     have hlt477_2 := (Kd.foot_lt HR1.out (by omega) (by decide))
     have hne477_1 := (show (⟨(ad477.add ((t476).toNat * 4)).block, (ad477.add ((t476).toNat * 4)).off + 1, none⟩ : Addr).block ≠ g from by first | (rw [add_block]; exact Kd.foot_ne HR1.out (by omega) (by decide)) | (show (Addr.add _ _).block ≠ _; rw [add_block]; exact Kd.foot_ne HR1.out (by omega) (by decide)) | exact Kd.foot_ne HR1.out (by omega) (by decide) | (dsimp only; exact Kd.foot_ne HR1.out (by omega) (by decide)))
     have hlt477_1 := (Kd.foot_lt HR1.out (by omega) (by decide))
     have hne477_0 := (show ((ad477.add ((t476).toNat * 4)) : Addr).block ≠ g from by first | (rw [add_block]; exact Kd.foot_ne HR1.out (by omega) (by decide)) | (show (Addr.add _ _).block ≠ _; rw [add_block]; exact Kd.foot_ne HR1.out (by omega) (by decide)) | exact Kd.foot_ne HR1.out (by omega) (by decide) | (dsimp only; exact Kd.foot_ne HR1.out (by omega) (by decide)))
     have hlt477_0 := (Kd.foot_lt HR1.out (by omega) (by decide))
     replace p477 := eq_true p477
     replace q477 := eq_true q477
     have p478 : 0 ≤ (t476 : Int) := da
     have q478 : t476 < (l1.length : Int) := da
     obtain ⟨ad478, e478, hx478_0, hx478_1, hx478_2, hx478_3⟩ := at_T73 (Kd.C_foot_now HR1.out HK.out) t476 p478 q478
     have hw478_3 := hx478_3
     have hw478_2 := hx478_2
     have hw478_1 := hx478_1
     have hw478_0 := hx478_0
     obtain rfl : ad477 = ad478 := (by injection e478)
     have hne478_3 := (show (⟨(ad477.add ((t476).toNat * 4)).block, (ad477.add ((t476).toNat * 4)).off + 3, none⟩ : Addr).block ≠ g from by first | (rw [add_block]; exact Kd.foot_ne HR1.out (by omega) (by decide)) | (show (Addr.add _ _).block ≠ _; rw [add_block]; exact Kd.foot_ne HR1.out (by omega) (by decide)) | exact Kd.foot_ne HR1.out (by omega) (by decide) | (dsimp only; exact Kd.foot_ne HR1.out (by omega) (by decide)))
     have hlt478_3 := (Kd.foot_lt HR1.out (by omega) (by decide))
     have hne478_2 := (show (⟨(ad477.add ((t476).toNat * 4)).block, (ad477.add ((t476).toNat * 4)).off + 2, none⟩ : Addr).block ≠ g from by first | (rw [add_block]; exact Kd.foot_ne HR1.out (by omega) (by decide)) | (show (Addr.add _ _).block ≠ _; rw [add_block]; exact Kd.foot_ne HR1.out (by omega) (by decide)) | exact Kd.foot_ne HR1.out (by omega) (by decide) | (dsimp only; exact Kd.foot_ne HR1.out (by omega) (by decide)))
     have hlt478_2 := (Kd.foot_lt HR1.out (by omega) (by decide))
     have hne478_1 := (show (⟨(ad477.add ((t476).toNat * 4)).block, (ad477.add ((t476).toNat * 4)).off + 1, none⟩ : Addr).block ≠ g from by first | (rw [add_block]; exact Kd.foot_ne HR1.out (by omega) (by decide)) | (show (Addr.add _ _).block ≠ _; rw [add_block]; exact Kd.foot_ne HR1.out (by omega) (by decide)) | exact Kd.foot_ne HR1.out (by omega) (by decide) | (dsimp only; exact Kd.foot_ne HR1.out (by omega) (by decide)))
     have hlt478_1 := (Kd.foot_lt HR1.out (by omega) (by decide))
     have hne478_0 := (show ((ad477.add ((t476).toNat * 4)) : Addr).block ≠ g from by first | (rw [add_block]; exact Kd.foot_ne HR1.out (by omega) (by decide)) | (show (Addr.add _ _).block ≠ _; rw [add_block]; exact Kd.foot_ne HR1.out (by omega) (by decide)) | exact Kd.foot_ne HR1.out (by omega) (by decide) | (dsimp only; exact Kd.foot_ne HR1.out (by omega) (by decide)))
     have hlt478_0 := (Kd.foot_lt HR1.out (by omega) (by decide))
     replace p478 := eq_true p478
     replace q478 := eq_true q478
     have p479 : 0 ≤ ((ji7) : Int) := da
     have q479 : (ji7) < (l1.length : Int) := da
     obtain ⟨ad479, e479, hx479_0, hx479_1, hx479_2, hx479_3⟩ := at_T73 (Kd.C_foot_now HR1.out HK.out) (ji7) p479 q479
     have hw479_3 := hx479_3
     have hw479_2 := hx479_2
     have hw479_1 := hx479_1
     have hw479_0 := hx479_0
     obtain rfl : ad477 = ad479 := (by injection e479)
     have hne479_3 := (show (⟨(ad477.add (((ji7)).toNat * 4)).block, (ad477.add (((ji7)).toNat * 4)).off + 3, none⟩ : Addr).block ≠ g from by first | (rw [add_block]; exact Kd.foot_ne HR1.out (by omega) (by decide)) | (show (Addr.add _ _).block ≠ _; rw [add_block]; exact Kd.foot_ne HR1.out (by omega) (by decide)) | exact Kd.foot_ne HR1.out (by omega) (by decide) | (dsimp only; exact Kd.foot_ne HR1.out (by omega) (by decide)))
     have hlt479_3 := (Kd.foot_lt HR1.out (by omega) (by decide))
     have hne479_2 := (show (⟨(ad477.add (((ji7)).toNat * 4)).block, (ad477.add (((ji7)).toNat * 4)).off + 2, none⟩ : Addr).block ≠ g from by first | (rw [add_block]; exact Kd.foot_ne HR1.out (by omega) (by decide)) | (show (Addr.add _ _).block ≠ _; rw [add_block]; exact Kd.foot_ne HR1.out (by omega) (by decide)) | exact Kd.foot_ne HR1.out (by omega) (by decide) | (dsimp only; exact Kd.foot_ne HR1.out (by omega) (by decide)))
     have hlt479_2 := (Kd.foot_lt HR1.out (by omega) (by decide))
     have hne479_1 := (show (⟨(ad477.add (((ji7)).toNat * 4)).block, (ad477.add (((ji7)).toNat * 4)).off + 1, none⟩ : Addr).block ≠ g from by first | (rw [add_block]; exact Kd.foot_ne HR1.out (by omega) (by decide)) | (show (Addr.add _ _).block ≠ _; rw [add_block]; exact Kd.foot_ne HR1.out (by omega) (by decide)) | exact Kd.foot_ne HR1.out (by omega) (by decide) | (dsimp only; exact Kd.foot_ne HR1.out (by omega) (by decide)))
     have hlt479_1 := (Kd.foot_lt HR1.out (by omega) (by decide))
     have hne479_0 := (show ((ad477.add (((ji7)).toNat * 4)) : Addr).block ≠ g from by first | (rw [add_block]; exact Kd.foot_ne HR1.out (by omega) (by decide)) | (show (Addr.add _ _).block ≠ _; rw [add_block]; exact Kd.foot_ne HR1.out (by omega) (by decide)) | exact Kd.foot_ne HR1.out (by omega) (by decide) | (dsimp only; exact Kd.foot_ne HR1.out (by omega) (by decide)))
     have hlt479_0 := (Kd.foot_lt HR1.out (by omega) (by decide))
     replace p479 := eq_true p479
     replace q479 := eq_true q479
     refine start_ (n := 19) (S := fun w' => w'.cell? ⟨gb474, 0, none⟩ = some (.int .i64 a2_0) ∧ w'.cell? ⟨gb474, 1, none⟩ = some (.int .i64 a2_1) ∧ w'.cell? (ad477.add ((t476).toNat * 4)) = some (.int .i64 ((rd_T73 l1 t476).f0.f0)) ∧ w'.cell? ⟨(ad477.add ((t476).toNat * 4)).block, (ad477.add ((t476).toNat * 4)).off + 1, none⟩ = some (.int .i64 ((rd_T73 l1 t476).f0.f1)) ∧ w'.cell? ⟨(ad477.add ((t476).toNat * 4)).block, (ad477.add ((t476).toNat * 4)).off + 2, none⟩ = some (.int .i64 ((rd_T73 l1 t476).f1.f0)) ∧ w'.cell? ⟨(ad477.add ((t476).toNat * 4)).block, (ad477.add ((t476).toNat * 4)).off + 3, none⟩ = some (.int .i64 ((rd_T73 l1 t476).f1.f1)) ∧ w'.cell? (ad477.add ((t476).toNat * 4)) = some (.int .i64 ((rd_T73 l1 t476).f0.f0)) ∧ w'.cell? ⟨(ad477.add ((t476).toNat * 4)).block, (ad477.add ((t476).toNat * 4)).off + 1, none⟩ = some (.int .i64 ((rd_T73 l1 t476).f0.f1)) ∧ w'.cell? ⟨(ad477.add ((t476).toNat * 4)).block, (ad477.add ((t476).toNat * 4)).off + 2, none⟩ = some (.int .i64 ((rd_T73 l1 t476).f1.f0)) ∧ w'.cell? ⟨(ad477.add ((t476).toNat * 4)).block, (ad477.add ((t476).toNat * 4)).off + 3, none⟩ = some (.int .i64 ((rd_T73 l1 t476).f1.f1)) ∧ w'.cell? (ad477.add (((ji7)).toNat * 4)) = some (.int .i64 ((rd_T73 l1 (ji7)).f0.f0)) ∧ w'.cell? ⟨(ad477.add (((ji7)).toNat * 4)).block, (ad477.add (((ji7)).toNat * 4)).off + 1, none⟩ = some (.int .i64 ((rd_T73 l1 (ji7)).f0.f1)) ∧ w'.cell? ⟨(ad477.add (((ji7)).toNat * 4)).block, (ad477.add (((ji7)).toNat * 4)).off + 2, none⟩ = some (.int .i64 ((rd_T73 l1 (ji7)).f1.f0)) ∧ w'.cell? ⟨(ad477.add (((ji7)).toNat * 4)).block, (ad477.add (((ji7)).toNat * 4)).off + 3, none⟩ = some (.int .i64 ((rd_T73 l1 (ji7)).f1.f1))) (ds := []) (tb 0 19) (by kernel_rfl) rfl rfl ⟨(blk_cell BK474.out 0).trans rfl, (blk_cell BK474.out 1).trans rfl, hx477_0, hx477_1, hx477_2, hx477_3, hx478_0, hx478_1, hx478_2, hx478_3, hx479_0, hx479_1, hx479_2, hx479_3⟩ (fun hHeld => ?_); refine with_tabW impl_calc_value.tab2 impl_calc_value.bits2 (fun HT_ HW_ => ?_)
     generalize w17.drew = w18 at BK474 BK475 HI0 HK HB hx477_0 hx477_1 hx477_2 hx477_3 hx478_0 hx478_1 hx478_2 hx478_3 hx479_0 hx479_1 hx479_2 hx479_3 hHeld ⊢
     refine pu 0 11 (tb 1 18) ?_
     refine pu 1 12 (tb 2 17) ?_
     refine pu 2 13 (tb 3 16) ?_
     refine pu 3 14 (tb 4 15) ?_
     refine pu 5 16 #[true, true, true, true, false, true, false, false, false, false, false, false, false, false, false, false, false, false, false] ?_
     refine pu 6 17 #[true, true, true, true, false, true, true, false, false, false, false, false, false, false, false, false, false, false, false] ?_
     refine pu 7 18 #[true, true, true, true, false, true, true, true, false, false, false, false, false, false, false, false, false, false, false] ?_
     refine pu 8 19 #[true, true, true, true, false, true, true, true, true, false, false, false, false, false, false, false, false, false, false] ?_
     refine pu 10 21 #[true, true, true, true, false, true, true, true, true, false, true, false, false, false, false, false, false, false, false] ?_
     refine pu 11 22 #[true, true, true, true, false, true, true, true, true, false, true, true, false, false, false, false, false, false, false] ?_
     refine pu 12 23 #[true, true, true, true, false, true, true, true, true, false, true, true, true, false, false, false, false, false, false] ?_
     refine pu 13 24 #[true, true, true, true, false, true, true, true, true, false, true, true, true, true, false, false, false, false, false] ?_
     refine tk 4 15 #[true, true, true, true, true, true, true, true, true, false, true, true, true, true, false, false, false, false, false] (hy := by rintro w' ⟨s0, s1, s2, s3, s4, s5, s6, s7, s8, s9, s10, s11, s12, s13⟩; go_simp; with_reducible rfl) (h := ?_)
     refine tk 9 20 (tb 14 5) (hy := by rintro w' ⟨s0, s1, s2, s3, s4, s5, s6, s7, s8, s9, s10, s11, s12, s13⟩; go_simp; with_reducible rfl) (h := ?_)
     refine tk 14 25 (tb 15 4) (hy := by rintro w' ⟨s0, s1, s2, s3, s4, s5, s6, s7, s8, s9, s10, s11, s12, s13⟩; go_simp; with_reducible rfl) (h := ?_)
     refine tk 16 27 #[true, true, true, true, true, true, true, true, true, true, true, true, true, true, true, false, true, false, false] (hy := by rintro w' ⟨s0, s1, s2, s3, s4, s5, s6, s7, s8, s9, s10, s11, s12, s13⟩; go_simp; with_reducible rfl) (h := ?_)
     refine on 15 26 (tb 17 2) (fun K hK => ?_)
     refine goes_ Try.func124 (by kernel_rfl) rfl #[.pointer (some ⟨g, 0, none⟩), .agg #[.int .i64 ((rd_T73 l1 t476).f0.f0), .int .i64 ((rd_T73 l1 t476).f0.f1), .int .i64 ((rd_T73 l1 t476).f1.f0), .int .i64 ((rd_T73 l1 t476).f1.f1)], .agg #[.int .i64 ((rd_T73 l1 (ji7)).f0.f0), .int .i64 ((rd_T73 l1 (ji7)).f0.f1), .int .i64 ((rd_T73 l1 (ji7)).f1.f0), .int .i64 ((rd_T73 l1 (ji7)).f1.f1)]] (by rfl) rfl rfl (by (try simp only [List.map_toArray, List.map_cons, List.map_nil]); first | done | (simp only [hji7]; rfl) | rfl | (simp only [List.length_drop, List.length_take]; rfl)) ?_
     with_reducible refine (impl_calc_slope.calls k g s0_0 ((rd_T73 l1 t476).f0.f0) ((rd_T73 l1 t476).f0.f1) ((rd_T73 l1 t476).f1.f0) ((rd_T73 l1 t476).f1.f1) ((rd_T73 l1 (ji7)).f0.f0) ((rd_T73 l1 (ji7)).f0.f1) ((rd_T73 l1 (ji7)).f1.f0) ((rd_T73 l1 (ji7)).f1.f1) t480 t481 t482 w0 _ ?side1 ?side2 A10.out).mono ?_
     (case side1 => repeat (first | (with_reducible first | exact HI0.out | apply IsS103.alloc | apply IsS103.drewN | apply IsS103.drew | apply IsS103.set_0 | refine IsS103.far ?_ NB0_474.out _ | refine IsS103.far ?_ NB0_475.out _) | exact HI0.out))
     (case side2 => repeat (first | (with_reducible first | exact HB.out | apply below_alloc | apply pw_below_drewN | apply below_drew1 | refine below_set ?_ (IsS103.ge HI0.out) | refine below_set ?_ GE474.out | refine below_set ?_ GE475.out) | exact HB.out))
     rintro e w19 ⟨rfl, hi, hb, hk⟩
     have HS2_ := keep_cell hk (hHeld.2.2.1) (by first | (rw [add_block]; exact hne477_0) | (show (Addr.add _ _).block ≠ _; rw [add_block]; exact hne477_0) | exact hne477_0)
     have HS3_ := keep_cell hk (hHeld.2.2.2.1) (by first | (rw [add_block]; exact hne477_1) | (show (Addr.add _ _).block ≠ _; rw [add_block]; exact hne477_1) | exact hne477_1)
     have HS4_ := keep_cell hk (hHeld.2.2.2.2.1) (by first | (rw [add_block]; exact hne477_2) | (show (Addr.add _ _).block ≠ _; rw [add_block]; exact hne477_2) | exact hne477_2)
     have HS5_ := keep_cell hk (hHeld.2.2.2.2.2.1) (by first | (rw [add_block]; exact hne477_3) | (show (Addr.add _ _).block ≠ _; rw [add_block]; exact hne477_3) | exact hne477_3)
     have HS6_ := keep_cell hk (hHeld.2.2.2.2.2.2.1) (by first | (rw [add_block]; exact hne478_0) | (show (Addr.add _ _).block ≠ _; rw [add_block]; exact hne478_0) | exact hne478_0)
     have HS7_ := keep_cell hk (hHeld.2.2.2.2.2.2.2.1) (by first | (rw [add_block]; exact hne478_1) | (show (Addr.add _ _).block ≠ _; rw [add_block]; exact hne478_1) | exact hne478_1)
     have HS8_ := keep_cell hk (hHeld.2.2.2.2.2.2.2.2.1) (by first | (rw [add_block]; exact hne478_2) | (show (Addr.add _ _).block ≠ _; rw [add_block]; exact hne478_2) | exact hne478_2)
     have HS9_ := keep_cell hk (hHeld.2.2.2.2.2.2.2.2.2.1) (by first | (rw [add_block]; exact hne478_3) | (show (Addr.add _ _).block ≠ _; rw [add_block]; exact hne478_3) | exact hne478_3)
     have HS10_ := keep_cell hk (hHeld.2.2.2.2.2.2.2.2.2.2.1) (by first | (rw [add_block]; exact hne479_0) | (show (Addr.add _ _).block ≠ _; rw [add_block]; exact hne479_0) | exact hne479_0)
     have HS11_ := keep_cell hk (hHeld.2.2.2.2.2.2.2.2.2.2.2.1) (by first | (rw [add_block]; exact hne479_1) | (show (Addr.add _ _).block ≠ _; rw [add_block]; exact hne479_1) | exact hne479_1)
     have HS12_ := keep_cell hk (hHeld.2.2.2.2.2.2.2.2.2.2.2.2.1) (by first | (rw [add_block]; exact hne479_2) | (show (Addr.add _ _).block ≠ _; rw [add_block]; exact hne479_2) | exact hne479_2)
     have HS13_ := keep_cell hk (hHeld.2.2.2.2.2.2.2.2.2.2.2.2.2) (by first | (rw [add_block]; exact hne479_3) | (show (Addr.add _ _).block ≠ _; rw [add_block]; exact hne479_3) | exact hne479_3)
     refine ⟨_, rfl, ?_⟩
     replace BK474 := Aside0.mk (KeepBut.blk hk (g' := gb474) (o := .cells #[.int .i64 a2_0, .int .i64 a2_1] 53 (0, 0)) (bo gb474) NB474_0.out (by simp))
     replace BK475 := Aside0.mk (KeepBut.blk hk (g' := gb475) (o := .cells #[.int .i64 0, .int .i64 0] 53 (0, 0)) (bo gb475) NB475_0.out (by simp))
     replace HK := Aside0.mk (KeepBut.trans (by repeat (first | (with_reducible first | exact HK.out | apply KeepBut.set_ | apply keep_drewN | apply keep_drew | apply keep_alloc | refine keep_far ?_ GW474.out _ | refine keep_far ?_ GW475.out _) | exact HK.out)) hk (.inl rfl))
     replace HB := Aside0.mk (hb)
     replace HI0 := Aside0.mk (hi)
     (try clear hb)
     (try clear hb2)
     (try clear hk)
     (try clear hi)
     refine hK.out _ _ ⟨(blk_cell BK474.out 0).trans rfl, (blk_cell BK474.out 1).trans rfl, HS2_, HS3_, HS4_, HS5_, HS6_, HS7_, HS8_, HS9_, HS10_, HS11_, HS12_, HS13_⟩ (fun hHeld => ?_)
     clear hK K
     refine nm 26 ?_
     refine on 17 28 (tb 18 1) (fun K hK => ?_)
     refine gs Try.func138 #[.pointer (some ⟨g, 0, none⟩), .agg #[.int .i64 ((rd_T73 l1 t476).f0.f0), .int .i64 ((rd_T73 l1 t476).f0.f1), .int .i64 ((rd_T73 l1 t476).f1.f0), .int .i64 ((rd_T73 l1 t476).f1.f1)], .agg #[.int .i64 t480, .int .i64 t481], .agg #[.int .i64 a2_0, .int .i64 a2_1]] ?_
     with_reducible refine (impl_calc_line.calls k g t482 ((rd_T73 l1 t476).f0.f0) ((rd_T73 l1 t476).f0.f1) ((rd_T73 l1 t476).f1.f0) ((rd_T73 l1 t476).f1.f1) t480 t481 a2_0 a2_1 t483 t484 t485 w0 _ ?side1 ?side2 A11.out).mono ?_
     (case side1 => repeat (first | (with_reducible first | exact HI0.out | apply IsS103.alloc | apply IsS103.drewN | apply IsS103.drew | apply IsS103.set_0 | refine IsS103.far ?_ NB0_474.out _ | refine IsS103.far ?_ NB0_475.out _) | exact HI0.out))
     (case side2 => repeat (first | (with_reducible first | exact HB.out | apply below_alloc | apply pw_below_drewN | apply below_drew1 | refine below_set ?_ (IsS103.ge HI0.out) | refine below_set ?_ GE474.out | refine below_set ?_ GE475.out) | exact HB.out))
     rintro e w20 ⟨rfl, hi, hb, hk⟩
     have HS2_ := keep_cell hk (hHeld.2.2.1) (by first | (rw [add_block]; exact hne477_0) | (show (Addr.add _ _).block ≠ _; rw [add_block]; exact hne477_0) | exact hne477_0)
     have HS3_ := keep_cell hk (hHeld.2.2.2.1) (by first | (rw [add_block]; exact hne477_1) | (show (Addr.add _ _).block ≠ _; rw [add_block]; exact hne477_1) | exact hne477_1)
     have HS4_ := keep_cell hk (hHeld.2.2.2.2.1) (by first | (rw [add_block]; exact hne477_2) | (show (Addr.add _ _).block ≠ _; rw [add_block]; exact hne477_2) | exact hne477_2)
     have HS5_ := keep_cell hk (hHeld.2.2.2.2.2.1) (by first | (rw [add_block]; exact hne477_3) | (show (Addr.add _ _).block ≠ _; rw [add_block]; exact hne477_3) | exact hne477_3)
     have HS6_ := keep_cell hk (hHeld.2.2.2.2.2.2.1) (by first | (rw [add_block]; exact hne478_0) | (show (Addr.add _ _).block ≠ _; rw [add_block]; exact hne478_0) | exact hne478_0)
     have HS7_ := keep_cell hk (hHeld.2.2.2.2.2.2.2.1) (by first | (rw [add_block]; exact hne478_1) | (show (Addr.add _ _).block ≠ _; rw [add_block]; exact hne478_1) | exact hne478_1)
     have HS8_ := keep_cell hk (hHeld.2.2.2.2.2.2.2.2.1) (by first | (rw [add_block]; exact hne478_2) | (show (Addr.add _ _).block ≠ _; rw [add_block]; exact hne478_2) | exact hne478_2)
     have HS9_ := keep_cell hk (hHeld.2.2.2.2.2.2.2.2.2.1) (by first | (rw [add_block]; exact hne478_3) | (show (Addr.add _ _).block ≠ _; rw [add_block]; exact hne478_3) | exact hne478_3)
     have HS10_ := keep_cell hk (hHeld.2.2.2.2.2.2.2.2.2.2.1) (by first | (rw [add_block]; exact hne479_0) | (show (Addr.add _ _).block ≠ _; rw [add_block]; exact hne479_0) | exact hne479_0)
     have HS11_ := keep_cell hk (hHeld.2.2.2.2.2.2.2.2.2.2.2.1) (by first | (rw [add_block]; exact hne479_1) | (show (Addr.add _ _).block ≠ _; rw [add_block]; exact hne479_1) | exact hne479_1)
     have HS12_ := keep_cell hk (hHeld.2.2.2.2.2.2.2.2.2.2.2.2.1) (by first | (rw [add_block]; exact hne479_2) | (show (Addr.add _ _).block ≠ _; rw [add_block]; exact hne479_2) | exact hne479_2)
     have HS13_ := keep_cell hk (hHeld.2.2.2.2.2.2.2.2.2.2.2.2.2) (by first | (rw [add_block]; exact hne479_3) | (show (Addr.add _ _).block ≠ _; rw [add_block]; exact hne479_3) | exact hne479_3)
     refine ⟨_, rfl, ?_⟩
     replace BK474 := Aside0.mk (KeepBut.blk hk (g' := gb474) (o := .cells #[.int .i64 a2_0, .int .i64 a2_1] 53 (0, 0)) (bo gb474) NB474_0.out (by simp))
     replace BK475 := Aside0.mk (KeepBut.blk hk (g' := gb475) (o := .cells #[.int .i64 0, .int .i64 0] 53 (0, 0)) (bo gb475) NB475_0.out (by simp))
     replace HK := Aside0.mk (KeepBut.trans (by repeat (first | (with_reducible first | exact HK.out | apply KeepBut.set_ | apply keep_drewN | apply keep_drew | apply keep_alloc | refine keep_far ?_ GW474.out _ | refine keep_far ?_ GW475.out _) | exact HK.out)) hk (.inl rfl))
     replace HB := Aside0.mk (hb)
     replace HI0 := Aside0.mk (hi)
     (try clear hb)
     (try clear hb2)
     (try clear hk)
     (try clear hi)
     refine hK.out _ _ ⟨(blk_cell BK474.out 0).trans rfl, (blk_cell BK474.out 1).trans rfl, HS2_, HS3_, HS4_, HS5_, HS6_, HS7_, HS8_, HS9_, HS10_, HS11_, HS12_, HS13_⟩ (fun hHeld => ?_)
     clear hK K
     refine nm 28 ?_
     refine one_ (i := 18) (N := none) (tb 19 0) rfl rfl (one_of HT_.out (by kernel_rfl)) (by decide) (fun K hK => ?_)
     have hs21 : w20.cell? ⟨gb475, 0, none⟩ = some (.int .i64 0) := (blk_cell BK475.out 0).trans rfl
     have hfs21 := blk_frozen BK475.out 0
     have hns21_0 := NB474_475.out
     have hms21_0 := NB475_474.out
     have hs22 : w20.cell? ⟨gb475, 1, none⟩ = some (.int .i64 0) := (blk_cell BK475.out 1).trans rfl
     have hfs22 := blk_frozen BK475.out 1
     have hns22_0 := NB474_475.out
     have hms22_0 := NB475_474.out
     refine skip_ (w1 := ?_) (by rfl) rfl ?_ ?_
     rotate_left
     ·go_simp
      rfl
     refine hK.out _ _ ⟨(by (iterate 2 refine (cell_far (p := ⟨gb475, _, none⟩) NB474_475.out _).trans ?_); exact hHeld.1), (by (iterate 2 refine (cell_far (p := ⟨gb475, _, none⟩) NB474_475.out _).trans ?_); exact hHeld.2.1), (by (iterate 2 refine (cell_far (p := ⟨gb475, _, none⟩) (by have h_ := Nat.ne_of_lt (Nat.lt_of_lt_of_le hlt477_0 GW475.out); first | exact h_ | (rw [add_block]; exact h_) | (show (Addr.add _ _).block ≠ _; rw [add_block]; exact h_) | (dsimp only; exact h_)) _).trans ?_); exact hHeld.2.2.1), (by (iterate 2 refine (cell_far (p := ⟨gb475, _, none⟩) (by have h_ := Nat.ne_of_lt (Nat.lt_of_lt_of_le hlt477_1 GW475.out); first | exact h_ | (rw [add_block]; exact h_) | (show (Addr.add _ _).block ≠ _; rw [add_block]; exact h_) | (dsimp only; exact h_)) _).trans ?_); exact hHeld.2.2.2.1), (by (iterate 2 refine (cell_far (p := ⟨gb475, _, none⟩) (by have h_ := Nat.ne_of_lt (Nat.lt_of_lt_of_le hlt477_2 GW475.out); first | exact h_ | (rw [add_block]; exact h_) | (show (Addr.add _ _).block ≠ _; rw [add_block]; exact h_) | (dsimp only; exact h_)) _).trans ?_); exact hHeld.2.2.2.2.1), (by (iterate 2 refine (cell_far (p := ⟨gb475, _, none⟩) (by have h_ := Nat.ne_of_lt (Nat.lt_of_lt_of_le hlt477_3 GW475.out); first | exact h_ | (rw [add_block]; exact h_) | (show (Addr.add _ _).block ≠ _; rw [add_block]; exact h_) | (dsimp only; exact h_)) _).trans ?_); exact hHeld.2.2.2.2.2.1), (by (iterate 2 refine (cell_far (p := ⟨gb475, _, none⟩) (by have h_ := Nat.ne_of_lt (Nat.lt_of_lt_of_le hlt478_0 GW475.out); first | exact h_ | (rw [add_block]; exact h_) | (show (Addr.add _ _).block ≠ _; rw [add_block]; exact h_) | (dsimp only; exact h_)) _).trans ?_); exact hHeld.2.2.2.2.2.2.1), (by (iterate 2 refine (cell_far (p := ⟨gb475, _, none⟩) (by have h_ := Nat.ne_of_lt (Nat.lt_of_lt_of_le hlt478_1 GW475.out); first | exact h_ | (rw [add_block]; exact h_) | (show (Addr.add _ _).block ≠ _; rw [add_block]; exact h_) | (dsimp only; exact h_)) _).trans ?_); exact hHeld.2.2.2.2.2.2.2.1), (by (iterate 2 refine (cell_far (p := ⟨gb475, _, none⟩) (by have h_ := Nat.ne_of_lt (Nat.lt_of_lt_of_le hlt478_2 GW475.out); first | exact h_ | (rw [add_block]; exact h_) | (show (Addr.add _ _).block ≠ _; rw [add_block]; exact h_) | (dsimp only; exact h_)) _).trans ?_); exact hHeld.2.2.2.2.2.2.2.2.1), (by (iterate 2 refine (cell_far (p := ⟨gb475, _, none⟩) (by have h_ := Nat.ne_of_lt (Nat.lt_of_lt_of_le hlt478_3 GW475.out); first | exact h_ | (rw [add_block]; exact h_) | (show (Addr.add _ _).block ≠ _; rw [add_block]; exact h_) | (dsimp only; exact h_)) _).trans ?_); exact hHeld.2.2.2.2.2.2.2.2.2.1), (by (iterate 2 refine (cell_far (p := ⟨gb475, _, none⟩) (by have h_ := Nat.ne_of_lt (Nat.lt_of_lt_of_le hlt479_0 GW475.out); first | exact h_ | (rw [add_block]; exact h_) | (show (Addr.add _ _).block ≠ _; rw [add_block]; exact h_) | (dsimp only; exact h_)) _).trans ?_); exact hHeld.2.2.2.2.2.2.2.2.2.2.1), (by (iterate 2 refine (cell_far (p := ⟨gb475, _, none⟩) (by have h_ := Nat.ne_of_lt (Nat.lt_of_lt_of_le hlt479_1 GW475.out); first | exact h_ | (rw [add_block]; exact h_) | (show (Addr.add _ _).block ≠ _; rw [add_block]; exact h_) | (dsimp only; exact h_)) _).trans ?_); exact hHeld.2.2.2.2.2.2.2.2.2.2.2.1), (by (iterate 2 refine (cell_far (p := ⟨gb475, _, none⟩) (by have h_ := Nat.ne_of_lt (Nat.lt_of_lt_of_le hlt479_2 GW475.out); first | exact h_ | (rw [add_block]; exact h_) | (show (Addr.add _ _).block ≠ _; rw [add_block]; exact h_) | (dsimp only; exact h_)) _).trans ?_); exact hHeld.2.2.2.2.2.2.2.2.2.2.2.2.1), (by (iterate 2 refine (cell_far (p := ⟨gb475, _, none⟩) (by have h_ := Nat.ne_of_lt (Nat.lt_of_lt_of_le hlt479_3 GW475.out); first | exact h_ | (rw [add_block]; exact h_) | (show (Addr.add _ _).block ≠ _; rw [add_block]; exact h_) | (dsimp only; exact h_)) _).trans ?_); exact hHeld.2.2.2.2.2.2.2.2.2.2.2.2.2)⟩ (fun hHeld => ?_)
     clear hK K
     refine done_ (done_of HT_.out (by kernel_rfl)) ?_
     try go_wp2
     refine bodyPost_ret (results_cell_row rfl _ _ gb475 53 #[.int .i64 t483, .int .i64 t484] (0, 0) _ rfl (by (with_reducible repeat (first | refine blk_drewN ?_ _ | refine blk_drew ?_ | refine blk_alloc ?_ _)); refine blk_put (cs := #[.int .i64 t483, .int .i64 0]) ?_ 1 _ rfl; (with_reducible repeat (first | refine blk_drewN ?_ _ | refine blk_drew ?_ | refine blk_alloc ?_ _)); refine blk_put (cs := #[.int .i64 0, .int .i64 0]) ?_ 0 _ rfl; (with_reducible repeat (first | refine blk_drewN ?_ _ | refine blk_drew ?_ | refine blk_alloc ?_ _)); exact BK475.out) Try.underlying53 rfl (by kernel_rfl)) rfl ?_
     exact ⟨by first | rfl | (simp [errW_none, errW_some] <;> rfl) | (simp only [← hji7]; first | rfl | (simp [errW_none, errW_some] <;> rfl)) | (simp [*, errW_none, errW_some] <;> rfl), by repeat (first | (with_reducible first | exact HI0.out | apply IsS103.alloc | apply IsS103.drewN | apply IsS103.drew | apply IsS103.set_0 | refine IsS103.far ?_ NB0_474.out _ | refine IsS103.far ?_ NB0_475.out _) | exact HI0.out), by repeat (first | (with_reducible first | exact HB.out | apply below_alloc | apply pw_below_drewN | apply below_drew1 | refine below_set ?_ (IsS103.ge HI0.out) | refine below_set ?_ GE474.out | refine below_set ?_ GE475.out) | exact HB.out), by repeat (first | (with_reducible first | exact HK.out | apply KeepBut.set_ | apply keep_drewN | apply keep_drew | apply keep_alloc | refine keep_far ?_ GW474.out _ | refine keep_far ?_ GW475.out _) | exact HK.out)⟩
    ·rw [if_neg c9] at H
     exact absurd H (by simp)
   ·rw [if_neg c8] at H
    exact absurd H (by simp)
  ·rw [if_neg c6] at H
   exact absurd H (by simp)
 ·rw [if_neg c5] at H
  exact absurd H (by simp)

/-! ### impl_orbit: function 113 -/
def impl_orbit.l0 : Nat → List (S73) → List (S53) → Int → Int → Int → Int → Bool → Option ((List (S53)))
 | 0, _, _, _, _, _, _, _ => none
 | k + 1, x0, x7, x11, x12, x487000, x487001, x491000 => if x12 < x11 then ((impl_calc_value.f k x491000 x0 x487000 x487001).bind fun bt491 => (if bt491.2.2 = true then (some x7) else (if x7.length < 8796093022208 then (impl_orbit.l0 k x0 (x7 ++ [(⟨bt491.1, bt491.2.1⟩ : S53)]) x11 (wrap64 (x12 + 1)) bt491.1 bt491.2.1 bt491.2.2) else (none)))) else (some x7)
def impl_orbit.f (k : Nat) (l0 : List (S73)) (a1_0 : Int) (a1_1 : Int) (a2 : Int) : Option ((List (S53))) := impl_orbit.l0 k l0 (([(⟨a1_0, a1_1⟩ : S53)] : List (S53))) a2 0 a1_0 a1_1 false
set_option maxHeartbeats 8000000 in
set_option maxRecDepth 100000 in
theorem impl_orbit.calls (k : Nat) (A0 : Option Addr) (c0 : Nat) (l0 : List (S73)) (a1_0 : Int) (a1_1 : Int) (a2 : Int) (r : List (S53)) (w : World) (hr0 : Kd.C k73 w A0 l0.length l0) (hc0 : l0.length ≤ c0) (h : impl_orbit.f k l0 a1_0 a1_1 a2 = some r) :
  Calls Try.prog 113 #[.slice A0 l0.length c0, .agg #[.int .i64 a1_0, .int .i64 a1_1], .int .i64 a2] w fun e w' => ∃ v0_ : Value, e = .returned (v0_) ∧ Kd.R k53 53 w' w.heap.size (fun _ => True) v0_ r ∧ Below w.heap.size w w' := by
 have hu53 := Try.underlying53
 have hu103 := Try.underlying103
 have HR0 := Aside0.mk hr0
 have HC0 := Aside0.mk hc0
 clear hr0 hc0
 have HB := Aside0.mk (Below.refl w.heap.size w)
 have H : (impl_orbit.l0 k l0 (([(⟨a1_0, a1_1⟩ : S53)] : List (S53))) a2 0 a1_0 a1_1 false) = some r := h
 clear h
 obtain ⟨y487, hy487⟩ : ∃ y_ : List (S53), y_ = (([(⟨a1_0, a1_1⟩ : S53)] : List (S53))) := ⟨_, rfl⟩
 replace H : (impl_orbit.l0 k l0 y487 a2 0 a1_0 a1_1 false) = some r := by first | (rw [hy487]; with_reducible exact H) | (have H2_ := (Option.bind_some _ _).symm.trans H; rw [hy487]; with_reducible exact H2_) | (have H2_ := (Option.bind_some _ _).symm.trans H; with_reducible exact H2_) | with_reducible exact H | (rw [hy487]; exact H) | exact H
 have Ny487 := Aside0.mk hy487
 clear hy487
 have H' := Aside0.mk H
 clear H
 go_enter Try.func113, Try.ntmps113
 go_wp2_with (first | ((with_reducible refine gate_dst (N := 4) rfl ?_); refine bx 4 #[.int .i64 a1_0, .int .i64 a1_1] 53 ?_; intro gb486 hg w4 hbox hb; have BK486 := Aside0.mk (hbox); have GW486 := Aside0.mk (bz hg); have GE486 := GW486; replace HB := kh hb; clear hb hbox hg; obtain ⟨hcz5_0, hcz5_1, hfz5_0, hfz5_1⟩ := b2 BK486) | ((with_reducible refine gate_dst (N := 10) rfl ?_); refine Kd.R_lit k53 _ 53 ?hg (N := 10) ?hd (xs := ([(⟨a1_0, a1_1⟩ : S53)] : List (S53))) (inner := [.int .i64 a1_0, .int .i64 a1_1]) (ok := fun _ => True) (okp := fun _ => True) ?hr ?hp (fun _ hk => hk) trivial (Below.refl _ _) (Nat.le_refl _) (by simp) ?_; (case hd => rfl); (case hg => rfl); (case hr => first | (go_simp; done) | (go_simp; rfl)); (case hp => exact (Reps.c2 (show Kd.M k53 _ _ _ (⟨a1_0, a1_1⟩ : S53) [.int .i64 a1_0, .int .i64 a1_1] from (k53_mkM _ _ _ (⟨a1_0, a1_1⟩ : S53) )) (Reps.none _ _))); intro v488 w6 ho7 hb hg_ hnew_; clear hg_ hnew_; (first | rw [← Ny487.out] at ho7 | (simp only [Int.reduceToNat] at ho7; rw [← Ny487.out] at ho7)); have HO489 := Aside0.mk (Kd.R_lower (Kd.R_newB ho7 (g := gb486) (o := .cells #[.int .i64 a1_0, .int .i64 a1_1] 53 (0, 0)) (bo gb486)) (below_size bl)); replace BK486 := kb BK486 hb; replace HB := kh hb; clear hb ho7) | ((with_reducible refine gate_dst (N := 8) rfl ?_); refine bx 8 #[.bool false] 103 ?_; intro gb490 hg w8 hbox hb; have HI490 := Aside0.mk ((⟨hbox, (by rw [hg]; exact (below_size bl) : w.heap.size ≤ gb490)⟩ : IsS103 w w8 gb490 false)); have NB486_490 := Aside0.mk (bn gb486 hg); have NB490_486 := sy NB486_490; replace HO489 := Aside0.mk (Kd.R_below (by (with_reducible repeat (first | apply Kd.R_alloc | apply Kd.R_drewN | apply Kd.R_drew)); exact HO489.out) hb); replace BK486 := kb BK486 hb; replace HB := kh hb; clear hb hbox hg))
 go_loopg [7, 12] k (fun kq v7 v12 w' => ∃ (x7_1 : List (S53)) (x12_1 : Int) (x487000_1 : Int) (x487001_1 : Int) (x491000_1 : Bool), v12 = .int .i64 x12_1 ∧ Aside0 (impl_orbit.l0 kq l0 x7_1 a2 x12_1 x487000_1 x487001_1 x491000_1 = some r) ∧ Aside0 (kq ≤ k) ∧ Aside0 (Kd.R k53 53 w' w.heap.size (fun k_ => k_ ≠ gb486) v7 x7_1) ∧ Aside0 (w'.heap[gb486]? = some (.cells #[.int .i64 x487000_1, .int .i64 x487001_1] 53 (0, 0))) ∧ Aside0 (IsS103 w w' gb490 x491000_1) ∧ Aside0 (Below w.heap.size w w'))
 case atStart => exact ⟨(y487), (0), (a1_0), (a1_1), (false), rs, H', ⟨Nat.le_refl _⟩, ⟨by (with_reducible repeat (first | apply Kd.R_alloc | apply Kd.R_drewN | apply Kd.R_drew)); exact Kd.R_mono HO489.out (fun _ hk => hk.2)⟩, ⟨by (with_reducible repeat (first | refine blk_drewN ?_ _ | refine blk_drew ?_ | refine blk_alloc ?_ _)); exact BK486.out⟩, ⟨by repeat (first | (with_reducible first | exact HI490.out | apply IsS103.alloc | apply IsS103.drewN | apply IsS103.drew | apply IsS103.set_0 | refine IsS103.far ?_ NB490_486.out _) | exact HI490.out)⟩, ⟨by repeat (first | (with_reducible first | exact HB.out | apply below_alloc | apply pw_below_drewN | apply below_drew1 | refine below_set ?_ (IsS103.ge HI490.out) | refine below_set ?_ GE486.out) | exact HB.out)⟩⟩
 case round =>
  clear H'
  try clear c1
  try clear c2
  try clear p2
  try clear hcz5_0
  try clear hcz5_1
  try clear hfz5_0
  try clear hfz5_1
  obtain ⟨x7_1, x12_1, x487000_1, x487001_1, x491000_1, rfl, HA, HK1, HO_7, BK486, HI490, HB⟩ := hrel
  cases gk with
  | zero => exact absurd HA.out (by simp [impl_orbit.l0])
  | succ k1 =>
   have H := HA.out
   clear HA
   simp only [impl_orbit.l0] at H
   by_cases c9 : x12_1 < a2
   ·rw [if_pos c9] at H
    have c9b0 : decide (x12_1 < a2) = true := decide_eq_true c9
    clear c9
    replace H := Option.bind_eq_some_iff.mp H
    obtain ⟨⟨t491, t492, t493⟩, A100, H⟩ := H
    replace H : (if t493 = true then (some x7_1) else (if x7_1.length < 8796093022208 then (impl_orbit.l0 k1 l0 (x7_1 ++ [(⟨t491, t492⟩ : S53)]) a2 (wrap64 (x12_1 + 1)) t491 t492 t493) else (none))) = some r := H
    have A10 := Aside0.mk A100
    clear A100
    by_cases c11 : t493 = true
    ·subst c11
     have H1 : (some x7_1) = some r := by rw [if_pos rfl] at H; exact H
     clear H
     have H := H1
     clear H1
     obtain rfl := Option.some.inj H
     have hnb12 := NB486_490.out
     have hnc12 := NB490_486.out
     obtain ⟨hcz13_0, hcz13_1, hfz13_0, hfz13_1⟩ := b2 BK486
     go_wp2_with (first | ((with_reducible refine gate_callee (f := 123) rfl ?_); refine gl 16 Try.func123 #[.pointer (some ⟨gb490, 0, none⟩), .slice A0 l0.length c0, .agg #[.int .i64 x487000_1, .int .i64 x487001_1]] ?_; (with_reducible refine (impl_calc_value.calls k1 gb490 x491000_1 _ _ l0 x487000_1 x487001_1 t491 t492 true w _ ?side1 ?side2 ?side3 ?side4 A10.out).mono ?_); (case side1 => repeat (first | (with_reducible first | exact HI490.out | apply IsS103.alloc | apply IsS103.drewN | apply IsS103.drew | apply IsS103.set_0 | refine IsS103.far ?_ NB490_486.out _) | exact HI490.out)); (case side2 => repeat (first | (with_reducible first | exact HB.out | apply below_alloc | apply pw_below_drewN | apply below_drew1 | refine below_set ?_ (IsS103.ge HI490.out) | refine below_set ?_ GE486.out) | exact HB.out)); (case side3 => exact Kd.C_foot_came k73_heap HR0.out (by repeat (first | (with_reducible first | exact HB.out | apply below_alloc | apply pw_below_drewN | apply below_drew1 | refine below_set ?_ (IsS103.ge HI490.out) | refine below_set ?_ GE486.out) | exact HB.out)) (IsS103.ge HI490.out)); (case side4 => exact HC0.out); rintro e w14 ⟨rfl, hi, hb, hk⟩; refine ⟨_, rfl, ?_⟩; replace HO_7 := Aside0.mk (Kd.R_mono (Kd.R_keep (IsS103.apart (show IsS103 w _ gb490 x491000_1 from by repeat (first | (with_reducible first | exact HI490.out | apply IsS103.alloc | apply IsS103.drewN | apply IsS103.drew | apply IsS103.set_0 | refine IsS103.far ?_ NB490_486.out _) | exact HI490.out)) (by (with_reducible repeat (first | apply Kd.R_alloc | apply Kd.R_drewN | apply Kd.R_drew)); exact HO_7.out) (by decide)) hk (fun _ h => h.2)) (fun _ h => h.1)); replace BK486 := Aside0.mk (KeepBut.blk hk (g' := gb486) (o := .cells #[.int .i64 x487000_1, .int .i64 x487001_1] 53 (0, 0)) (bo gb486) NB486_490.out (by simp)); replace HB := Aside0.mk (hb); replace HI490 := Aside0.mk (hi); (try clear hb); (try clear hb2); (try clear hk); (try clear hi); obtain ⟨hcz15_0, hcz15_1, hfz15_0, hfz15_1⟩ := b2 BK486; obtain ⟨HGz16, hgz16⟩ := HI490.out; have hcz16_0 := cellS103_0 HGz16; have hfz16_0 := blk_frozen HGz16 0; clear HGz16 hgz16))
     go_ret
     exact ⟨_, rt, by (with_reducible repeat (first | apply Kd.R_alloc | apply Kd.R_drewN | apply Kd.R_drew)); exact Kd.R_mono (Kd.R_far (p := ⟨gb486, 1, none⟩) (Kd.R_far (p := ⟨gb486, 0, none⟩) (Kd.R_mono HO_7.out (fun k_ hk => (⟨hk, hk⟩ : _ ∧ k_ ≠ gb486))) (fun _ hk => hk.2) (.int .i64 t491)) (fun _ hk => hk.2) (.int .i64 t492)) (fun _ hk => trivial), by repeat (first | (with_reducible first | exact HB.out | apply below_alloc | apply pw_below_drewN | apply below_drew1 | refine below_set ?_ (IsS103.ge HI490.out) | refine below_set ?_ GE486.out) | exact HB.out)⟩
    ·replace c11 := Bool.eq_false_iff.mpr c11
     subst c11
     have H1 : (if x7_1.length < 8796093022208 then (impl_orbit.l0 k1 l0 (x7_1 ++ [(⟨t491, t492⟩ : S53)]) a2 (wrap64 (x12_1 + 1)) t491 t492 false) else (none)) = some r := by rw [if_neg (show ¬ (false = true) by decide)] at H; exact H
     clear H
     have H := H1
     clear H1
     by_cases c17 : x7_1.length < 8796093022208
     ·rw [if_pos c17] at H
      have LMc17 := Aside0.mk c17
      clear c17
      obtain ⟨y494, hy494⟩ : ∃ y_ : List (S53), y_ = (x7_1 ++ [(⟨t491, t492⟩ : S53)]) := ⟨_, rfl⟩
      replace H : (impl_orbit.l0 k1 l0 y494 a2 (wrap64 (x12_1 + 1)) t491 t492 false) = some r := by first | (rw [hy494]; with_reducible exact H) | (have H2_ := (Option.bind_some _ _).symm.trans H; rw [hy494]; with_reducible exact H2_) | (have H2_ := (Option.bind_some _ _).symm.trans H; with_reducible exact H2_) | with_reducible exact H | (rw [hy494]; exact H) | exact H
      have Ny494 := Aside0.mk hy494
      clear hy494
      have H' := Aside0.mk H
      clear H
      have hnb18 := NB486_490.out
      have hnc18 := NB490_486.out
      obtain ⟨hcz19_0, hcz19_1, hfz19_0, hfz19_1⟩ := b2 BK486
      go_wp2_with (first | ((with_reducible refine gate_callee (f := 123) rfl ?_); refine gl 16 Try.func123 #[.pointer (some ⟨gb490, 0, none⟩), .slice A0 l0.length c0, .agg #[.int .i64 x487000_1, .int .i64 x487001_1]] ?_; (with_reducible refine (impl_calc_value.calls k1 gb490 x491000_1 _ _ l0 x487000_1 x487001_1 t491 t492 false w _ ?side1 ?side2 ?side3 ?side4 A10.out).mono ?_); (case side1 => repeat (first | (with_reducible first | exact HI490.out | apply IsS103.alloc | apply IsS103.drewN | apply IsS103.drew | apply IsS103.set_0 | refine IsS103.far ?_ NB490_486.out _) | exact HI490.out)); (case side2 => repeat (first | (with_reducible first | exact HB.out | apply below_alloc | apply pw_below_drewN | apply below_drew1 | refine below_set ?_ (IsS103.ge HI490.out) | refine below_set ?_ GE486.out) | exact HB.out)); (case side3 => exact Kd.C_foot_came k73_heap HR0.out (by repeat (first | (with_reducible first | exact HB.out | apply below_alloc | apply pw_below_drewN | apply below_drew1 | refine below_set ?_ (IsS103.ge HI490.out) | refine below_set ?_ GE486.out) | exact HB.out)) (IsS103.ge HI490.out)); (case side4 => exact HC0.out); rintro e w20 ⟨rfl, hi, hb, hk⟩; refine ⟨_, rfl, ?_⟩; replace HO_7 := Aside0.mk (Kd.R_mono (Kd.R_keep (IsS103.apart (show IsS103 w _ gb490 x491000_1 from by repeat (first | (with_reducible first | exact HI490.out | apply IsS103.alloc | apply IsS103.drewN | apply IsS103.drew | apply IsS103.set_0 | refine IsS103.far ?_ NB490_486.out _) | exact HI490.out)) (by (with_reducible repeat (first | apply Kd.R_alloc | apply Kd.R_drewN | apply Kd.R_drew)); exact HO_7.out) (by decide)) hk (fun _ h => h.2)) (fun _ h => h.1)); replace BK486 := Aside0.mk (KeepBut.blk hk (g' := gb486) (o := .cells #[.int .i64 x487000_1, .int .i64 x487001_1] 53 (0, 0)) (bo gb486) NB486_490.out (by simp)); replace HB := Aside0.mk (hb); replace HI490 := Aside0.mk (hi); (try clear hb); (try clear hb2); (try clear hk); (try clear hi); obtain ⟨hcz21_0, hcz21_1, hfz21_0, hfz21_1⟩ := b2 BK486; obtain ⟨HGz22, hgz22⟩ := HI490.out; have hcz22_0 := cellS103_0 HGz22; have hfz22_0 := blk_frozen HGz22 0; clear HGz22 hgz22) | ((with_reducible refine gate_builtin (b := .append) (xs := #[.tmp 19, .tmp 21]) rfl ?_); at_builtin; refine Kd.R_append k53 (w0 := w) w.heap.size rfl (.tmp 19) (.tmp 21) 84 53 (.agg #[(.int .i64 0), (.int .i64 0)]) 16 rfl Try.underlying84 info53 rfl (by decide) (by omega) u7 x7_1 (⟨t491, t492⟩ : S53) [.int .i64 t491, .int .i64 t492] (fun k_ => k_ ≠ gb486) (fun _ => False) rfl (by first | (go_simp; done) | (go_simp; rfl)) ?aP (fun _ hk => hk.elim) ?aF ?aO ?aB ?aS ?aL ?_; (case aP => exact k53_mkM _ _ _ (⟨t491, t492⟩ : S53)); (case aB => exact (by repeat (first | (with_reducible first | exact HB.out | apply below_alloc | apply pw_below_drewN | apply below_drew1 | refine below_set ?_ (IsS103.ge HI490.out) | refine below_set ?_ GE486.out) | exact HB.out))); (case aF => exact (fun k_ hk => Kd.freshB (g := gb486) (o := .cells #[.int .i64 t491, .int .i64 t492] 53 (0, 0)) (by (with_reducible repeat (first | refine blk_drewN ?_ _ | refine blk_drew ?_ | refine blk_alloc ?_ _)); refine blk_put (cs := #[.int .i64 t491, .int .i64 x487001_1]) ?_ 1 _ rfl; (with_reducible repeat (first | refine blk_drewN ?_ _ | refine blk_drew ?_ | refine blk_alloc ?_ _)); refine blk_put (cs := #[.int .i64 x487000_1, .int .i64 x487001_1]) ?_ 0 _ rfl; (with_reducible repeat (first | refine blk_drewN ?_ _ | refine blk_drew ?_ | refine blk_alloc ?_ _)); exact BK486.out) k_ hk)); (case aO => exact (by (with_reducible repeat (first | apply Kd.R_alloc | apply Kd.R_drewN | apply Kd.R_drew)); exact Kd.R_mono (Kd.R_far (p := ⟨gb486, 1, none⟩) (Kd.R_far (p := ⟨gb486, 0, none⟩) (Kd.R_mono HO_7.out (fun k_ hk => (⟨hk, hk⟩ : _ ∧ k_ ≠ gb486))) (fun _ hk => hk.2) (.int .i64 t491)) (fun _ hk => hk.2) (.int .i64 t492)) (fun _ hk => hk.1))); (case aS => exact (below_size (by repeat (first | (with_reducible first | exact HB.out | apply below_alloc | apply pw_below_drewN | apply below_drew1 | refine below_set ?_ (IsS103.ge HI490.out) | refine below_set ?_ GE486.out) | exact HB.out)))); (case aL => have := LMc17.out; omega); intro v495 w23 ho hb hg hat; rw [← Ny494.out] at ho; have HO496 := Aside0.mk (ho); replace BK486 := Aside0.mk (blk_grown (g := gb486) (o := .cells #[.int .i64 t491, .int .i64 t492] 53 (0, 0)) (by (with_reducible repeat (first | refine blk_drewN ?_ _ | refine blk_drew ?_ | refine blk_alloc ?_ _)); refine blk_put (cs := #[.int .i64 t491, .int .i64 x487001_1]) ?_ 1 _ rfl; (with_reducible repeat (first | refine blk_drewN ?_ _ | refine blk_drew ?_ | refine blk_alloc ?_ _)); refine blk_put (cs := #[.int .i64 x487000_1, .int .i64 x487001_1]) ?_ 0 _ rfl; (with_reducible repeat (first | refine blk_drewN ?_ _ | refine blk_drew ?_ | refine blk_alloc ?_ _)); exact BK486.out) hg (Kd.R_away HO_7.out (fun _ hk => hk))); replace HI490 := Aside0.mk (IsS103.grown (show IsS103 w _ gb490 false from by repeat (first | (with_reducible first | exact HI490.out | apply IsS103.alloc | apply IsS103.drewN | apply IsS103.drew | apply IsS103.set_0 | refine IsS103.far ?_ NB490_486.out _) | exact HI490.out)) hg (IsS103.own_ne HI490.out HO_7.out (by decide))); replace HB := Aside0.mk (hb); clear HO_7; clear ho hb hg hat))
      go_roundg k1
      case measure => have := HK1.out; omega
      case rel => exact ⟨(y494), (wrap64 (x12_1 + 1)), (t491), (t492), (false), rs, H', ⟨by have := HK1.out; omega⟩, ⟨by (with_reducible repeat (first | apply Kd.R_alloc | apply Kd.R_drewN | apply Kd.R_drew)); exact HO496.out⟩, ⟨by (with_reducible repeat (first | refine blk_drewN ?_ _ | refine blk_drew ?_ | refine blk_alloc ?_ _)); exact BK486.out⟩, ⟨by repeat (first | (with_reducible first | exact HI490.out | apply IsS103.alloc | apply IsS103.drewN | apply IsS103.drew | apply IsS103.set_0 | refine IsS103.far ?_ NB490_486.out _) | exact HI490.out)⟩, ⟨by repeat (first | (with_reducible first | exact HB.out | apply below_alloc | apply pw_below_drewN | apply below_drew1 | refine below_set ?_ (IsS103.ge HI490.out) | refine below_set ?_ GE486.out) | exact HB.out)⟩⟩
     ·rw [if_neg c17] at H
      exact absurd H (by simp)
   ·rw [if_neg c9] at H
    have c9b0 : decide (x12_1 < a2) = false := decide_eq_false c9
    clear c9
    obtain rfl := Option.some.inj H
    go_wp2
    go_ret
    exact ⟨_, rt, by (with_reducible repeat (first | apply Kd.R_alloc | apply Kd.R_drewN | apply Kd.R_drew)); exact Kd.R_mono HO_7.out (fun _ hk => trivial), by repeat (first | (with_reducible first | exact HB.out | apply below_alloc | apply pw_below_drewN | apply below_drew1 | refine below_set ?_ (IsS103.ge HI490.out) | refine below_set ?_ GE486.out) | exact HB.out)⟩

end Go.Proofs.Ytannadjfkaghjaa.PFnExactIsRepelling
