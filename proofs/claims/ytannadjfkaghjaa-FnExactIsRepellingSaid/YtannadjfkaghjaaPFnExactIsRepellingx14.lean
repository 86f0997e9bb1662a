-- Written by this session's program wip/pp (the kit's print tool with additions) 35421559b90ae4d0a3588c463048766b98c2df88dd9212a6774a882060cdf62d
import Derived.Test.YtannadjfkaghjaaPFnExactIsRepellingx0
import Derived.Test.YtannadjfkaghjaaPFnExactIsRepellingx10
import Derived.Test.YtannadjfkaghjaaPFnExactIsRepellingx13
namespace Go.Proofs.Ytannadjfkaghjaa.PFnExactIsRepelling
open Go.RowKit Go.Proofs.YtannadjfkaghjaaW.PrintWords Go.Proofs.YtannadjfkaghjaaW.PrintLast Go.Proofs.YtannadjfkaghjaaW.PrintMore
attribute [local go_sem] max2_int min2_int max_two min_two max_three min_three max_four min_four   -- for this text's walks alone
set_option linter.unusedVariables false
set_option linter.unusedSimpArgs false

/-! ### impl_lowest: function 130 -/
def impl_lowest.f (k : Nat) (a0 : Int) (a1 : Int) : Option (Int × Int × Bool) := (impl_greatestDivisor.f k a0 a1).bind fun t368 => (if a1 < 0 then (if (wrap64 (-t368)) = 0 then (none) else ((impl_isRat.f k (wrap64 (Int.tdiv a0 (wrap64 (-t368)))) (wrap64 (Int.tdiv a1 (wrap64 (-t368))))).bind fun t370 => (if t370 = true then (some (wrap64 (Int.tdiv a0 (wrap64 (-t368))), wrap64 (Int.tdiv a1 (wrap64 (-t368))), true)) else (some (0, 0, false))))) else (if t368 = 0 then (none) else ((impl_isRat.f k (wrap64 (Int.tdiv a0 t368)) (wrap64 (Int.tdiv a1 t368))).bind fun t372 => (if t372 = true then (some (wrap64 (Int.tdiv a0 t368), wrap64 (Int.tdiv a1 t368), true)) else (some (0, 0, false))))))
def impl_lowest.T4 : Bool × List (List Nat × List Nat) := (true, [([], []), ([], []), ([0, 1], [0, 1]), ([], []), ([], []), ([3, 4], [3, 4]), ([2, 5], [2, 5]), ([], []), ([7, 6, 0, 1, 2, 3, 4, 5, 6, 7], [6, 7])])
def impl_lowest.B4 : List Nat := [0, 0, 3, 0, 0, 24, 63, 0, 255]
theorem impl_lowest.tab4 : rtab .any (opsOf Try.f130 4) = impl_lowest.T4 := by kernel_rfl
theorem impl_lowest.bits4 : waitsOk impl_lowest.T4.2 impl_lowest.B4 = true := by kernel_rfl
set_option maxHeartbeats 8000000 in
set_option maxRecDepth 100000 in
theorem impl_lowest.calls (k : Nat) (a0 : Int) (a1 : Int) (r1 : Int) (r2 : Int) (r3 : Bool) (w : World) (h : impl_lowest.f k a0 a1 = some (r1, r2, r3)) :
  Calls Try.prog 130 #[.int .i64 a0, .int .i64 a1] w fun e w' => e = .returned (.tuple #[.agg #[.int .i64 r1, .int .i64 r2], .bool r3]) ∧ Below w.heap.size w w' := by
 have hu53 := Try.underlying53
 have HB := Aside0.mk (Below.refl w.heap.size w)
 have H : ((impl_greatestDivisor.f k a0 a1).bind fun t368 => (if a1 < 0 then (if (wrap64 (-t368)) = 0 then (none) else ((impl_isRat.f k (wrap64 (Int.tdiv a0 (wrap64 (-t368)))) (wrap64 (Int.tdiv a1 (wrap64 (-t368))))).bind fun t370 => (if t370 = true then (some (wrap64 (Int.tdiv a0 (wrap64 (-t368))), wrap64 (Int.tdiv a1 (wrap64 (-t368))), true)) else (some (0, 0, false))))) else (if t368 = 0 then (none) else ((impl_isRat.f k (wrap64 (Int.tdiv a0 t368)) (wrap64 (Int.tdiv a1 t368))).bind fun t372 => (if t372 = true then (some (wrap64 (Int.tdiv a0 t368), wrap64 (Int.tdiv a1 t368), true)) else (some (0, 0, false))))))) = some (r1, r2, r3) := h
 clear h
 replace H := Option.bind_eq_some_iff.mp H
 obtain ⟨t368, A30, H⟩ := H
 replace H : (if a1 < 0 then (if (wrap64 (-t368)) = 0 then (none) else ((impl_isRat.f k (wrap64 (Int.tdiv a0 (wrap64 (-t368)))) (wrap64 (Int.tdiv a1 (wrap64 (-t368))))).bind fun t370 => (if t370 = true then (some (wrap64 (Int.tdiv a0 (wrap64 (-t368))), wrap64 (Int.tdiv a1 (wrap64 (-t368))), true)) else (some (0, 0, false))))) else (if t368 = 0 then (none) else ((impl_isRat.f k (wrap64 (Int.tdiv a0 t368)) (wrap64 (Int.tdiv a1 t368))).bind fun t372 => (if t372 = true then (some (wrap64 (Int.tdiv a0 t368), wrap64 (Int.tdiv a1 t368), true)) else (some (0, 0, false)))))) = some (r1, r2, r3) := H
 have A3 := Aside0.mk A30
 clear A30
 by_cases c4 : a1 < 0
 ·rw [if_pos c4] at H
  have c4b0 : decide (a1 < 0) = true := decide_eq_true c4
  clear c4
  by_cases c5 : (wrap64 (-t368)) = 0
  ·rw [if_pos c5] at H
   exact absurd H (by simp)
  ·rw [if_neg c5] at H
   have c5b0 : ((wrap64 (-t368)) == 0) = false := beq_eq_false_iff_ne.mpr c5
   have c5b1 : ((wrap64 (-t368)) != 0) = true := bne_iff_ne.mpr c5
   replace H := Option.bind_eq_some_iff.mp H
   obtain ⟨t370, A60, H⟩ := H
   replace H : (if t370 = true then (some (wrap64 (Int.tdiv a0 (wrap64 (-t368))), wrap64 (Int.tdiv a1 (wrap64 (-t368))), true)) else (some (0, 0, false))) = some (r1, r2, r3) := H
   have A6 := Aside0.mk A60
   clear A60
   by_cases c7 : t370 = true
   ·subst c7
    have H1 : (some (wrap64 (Int.tdiv a0 (wrap64 (-t368))), wrap64 (Int.tdiv a1 (wrap64 (-t368))), true)) = some (r1, r2, r3) := by rw [if_pos rfl] at H; exact H
    clear H
    have H := H1
    clear H1
    simp only [Option.some.injEq, Prod.mk.injEq] at H
    obtain ⟨rfl, rfl, rfl⟩ := H
    go_enter Try.func130, Try.ntmps130
    try go_wp2_with (first | ((with_reducible refine gate_dst (N := 4) rfl ?_); refine bx 4 #[.int .i64 0, .int .i64 0] 53 ?_; intro gb367 hg w8 hbox hb; have BK367 := Aside0.mk (hbox); have GW367 := Aside0.mk (bz hg); have GE367 := GW367; replace HB := kh hb; clear hb hbox hg) | ((with_reducible refine gate_callee (f := 142) rfl ?_); refine gl 10 Try.func142 #[.int .i64 a0, .int .i64 a1] ?_; (with_reducible refine (impl_greatestDivisor.calls k a0 a1 t368 _ A3.out).mono ?_); rintro e w' ⟨rfl, ⟨nd, rfl⟩⟩; refine ⟨_, rfl, ?_⟩; (try (rw [drewN_self w8]; generalize hq_ : World.drewN w8 _ = w8; have n0_ : Aside0 (w8.heap[gb367]? = some (.cells #[.int .i64 0, .int .i64 0] 53 (0, 0))) := ⟨by rw [← hq_]; exact (bo gb367)⟩; have n1_ : Aside0 (Below w.heap.size w w8) := ⟨by rw [← hq_]; exact bl⟩; clear BK367 HB hq_; have BK367 := n0_; have HB := n1_; clear n0_ n1_))))
    replace BK367 := Aside0.mk (blk_drew BK367.out)
    replace HB := Aside0.mk (below_drew1 HB.out)
    refine start_ (n := 9) (S := fun w' => True) (ds := []) (tb 0 9) (by kernel_rfl) rfl rfl trivial (fun hHeld => ?_); refine with_tabW impl_lowest.tab4 impl_lowest.bits4 (fun HT_ HW_ => ?_)
    generalize w8.drew = w9 at BK367 HB hHeld ⊢
    refine pu 0 15 (tb 1 8) ?_
    refine pu 1 16 (tb 2 7) ?_
    refine pu 2 17 (tb 3 6) ?_
    refine pu 3 18 (tb 4 5) ?_
    refine pu 4 19 (tb 5 4) ?_
    refine pu 5 20 (tb 6 3) ?_
    refine pu 6 21 (tb 7 2) ?_
    refine on 7 7 (tb 8 1) (fun K hK => ?_)
    refine box_step ?hg (N := 7) ?hd (cs := #[.int .i64 0, .int .i64 0]) (t := 53) ?hr ?_; (case hd => rfl); (case hg => rfl); (case hr => first | (go_simp; done) | (go_simp; rfl))
    intro gb369 hg w10 hbox hb
    have BK369 := Aside0.mk (hbox)
    have GW369 := Aside0.mk (bz hg)
    have GE369 := GW369
    have NB367_369 := Aside0.mk (bn gb367 hg)
    have NB369_367 := sy NB367_369
    replace BK367 := kb BK367 hb
    replace HB := kh hb
    clear hb hbox hg
    refine hK.out _ _ trivial (fun hHeld => ?_)
    clear hK K
    refine nm 7 ?_
    refine one_ (i := 8) (N := none) (tb 9 0) rfl rfl (one_of HT_.out (by kernel_rfl)) (by decide) (fun K hK => ?_)
    have hs11 : w10.cell? ⟨gb369, 0, none⟩ = some (.int .i64 0) := (blk_cell BK369.out 0).trans rfl
    have hfs11 := blk_frozen BK369.out 0
    have hns11_0 := NB367_369.out
    have hms11_0 := NB369_367.out
    have hs12 : w10.cell? ⟨gb369, 1, none⟩ = some (.int .i64 0) := (blk_cell BK369.out 1).trans rfl
    have hfs12 := blk_frozen BK369.out 1
    have hns12_0 := NB367_369.out
    have hms12_0 := NB369_367.out
    refine skip_ (w1 := ?_) (by rfl) rfl ?_ ?_
    rotate_left
    ·go_simp
     rfl
    refine hK.out _ _ trivial (fun hHeld => ?_)
    clear hK K
    refine done_ (done_of HT_.out (by kernel_rfl)) ?_
    have hnb13 := NB369_367.out
    have hnc13 := NB367_369.out
    obtain ⟨hcz14_0, hcz14_1, hfz14_0, hfz14_1⟩ := b2 BK369
    try go_wp2_with (first | ((with_reducible refine gate_callee (f := 137) rfl ?_); refine gl 23 Try.func137 #[.agg #[.int .i64 (wrap64 (Int.tdiv a0 (wrap64 (-t368)))), .int .i64 (wrap64 (Int.tdiv a1 (wrap64 (-t368))))]] ?_; (with_reducible refine (impl_isRat.calls k (wrap64 (Int.tdiv a0 (wrap64 (-t368)))) (wrap64 (Int.tdiv a1 (wrap64 (-t368)))) true _ A6.out).mono ?_); rintro e w15 ⟨rfl, hb⟩; refine ⟨_, rfl, ?_⟩; replace BK367 := Aside0.mk (blk_below (g := gb367) (o := .cells #[.int .i64 0, .int .i64 0] 53 (0, 0)) (by (with_reducible repeat (first | refine blk_drewN ?_ _ | refine blk_drew ?_ | refine blk_alloc ?_ _)); refine blk_far ?_ NB367_369.out _; (with_reducible repeat (first | refine blk_drewN ?_ _ | refine blk_drew ?_ | refine blk_alloc ?_ _)); refine blk_far ?_ NB367_369.out _; (with_reducible repeat (first | refine blk_drewN ?_ _ | refine blk_drew ?_ | refine blk_alloc ?_ _)); exact BK367.out) hb); replace BK369 := Aside0.mk (blk_below (g := gb369) (o := .cells #[.int .i64 (wrap64 (Int.tdiv a0 (wrap64 (-t368)))), .int .i64 (wrap64 (Int.tdiv a1 (wrap64 (-t368))))] 53 (0, 0)) (by (with_reducible repeat (first | refine blk_drewN ?_ _ | refine blk_drew ?_ | refine blk_alloc ?_ _)); refine blk_put (cs := #[.int .i64 (wrap64 (Int.tdiv a0 (wrap64 (-t368)))), .int .i64 0]) ?_ 1 _ rfl; (with_reducible repeat (first | refine blk_drewN ?_ _ | refine blk_drew ?_ | refine blk_alloc ?_ _)); refine blk_put (cs := #[.int .i64 0, .int .i64 0]) ?_ 0 _ rfl; (with_reducible repeat (first | refine blk_drewN ?_ _ | refine blk_drew ?_ | refine blk_alloc ?_ _)); exact BK369.out) hb); replace HB := kh hb; (try clear hb); (try clear hb2); (try clear hk); (try clear hi); obtain ⟨hcz16_0, hcz16_1, hfz16_0, hfz16_1⟩ := b2 BK369; obtain ⟨hcz17_0, hcz17_1, hfz17_0, hfz17_1⟩ := b2 BK367))
    refine bodyPost_ret (results_ct rfl _ _ gb367 53 #[.int .i64 (wrap64 (Int.tdiv a0 (wrap64 (-t368)))), .int .i64 (wrap64 (Int.tdiv a1 (wrap64 (-t368))))] (0, 0) _ rfl (by (with_reducible repeat (first | refine blk_drewN ?_ _ | refine blk_drew ?_ | refine blk_alloc ?_ _)); refine blk_put (cs := #[.int .i64 (wrap64 (Int.tdiv a0 (wrap64 (-t368)))), .int .i64 0]) ?_ 1 _ rfl; (with_reducible repeat (first | refine blk_drewN ?_ _ | refine blk_drew ?_ | refine blk_alloc ?_ _)); refine blk_put (cs := #[.int .i64 0, .int .i64 0]) ?_ 0 _ rfl; (with_reducible repeat (first | refine blk_drewN ?_ _ | refine blk_drew ?_ | refine blk_alloc ?_ _)); exact BK367.out) Try.underlying53 rfl (by kernel_rfl)) rfl ?_
    exact ⟨rt, bl⟩
   ·replace c7 := Bool.eq_false_iff.mpr c7
    subst c7
    have H1 : (some (0, 0, false)) = some (r1, r2, r3) := by rw [if_neg (show ¬ (false = true) by decide)] at H; exact H
    clear H
    have H := H1
    clear H1
    simp only [Option.some.injEq, Prod.mk.injEq] at H
    obtain ⟨rfl, rfl, rfl⟩ := H
    go_enter Try.func130, Try.ntmps130
    try go_wp2_with (first | ((with_reducible refine gate_dst (N := 4) rfl ?_); refine bx 4 #[.int .i64 0, .int .i64 0] 53 ?_; intro gb367 hg w18 hbox hb; have BK367 := Aside0.mk (hbox); have GW367 := Aside0.mk (bz hg); have GE367 := GW367; replace HB := kh hb; clear hb hbox hg) | ((with_reducible refine gate_callee (f := 142) rfl ?_); refine gl 10 Try.func142 #[.int .i64 a0, .int .i64 a1] ?_; (with_reducible refine (impl_greatestDivisor.calls k a0 a1 t368 _ A3.out).mono ?_); rintro e w' ⟨rfl, ⟨nd, rfl⟩⟩; refine ⟨_, rfl, ?_⟩; (try (rw [drewN_self w18]; generalize hq_ : World.drewN w18 _ = w18; have n0_ : Aside0 (w18.heap[gb367]? = some (.cells #[.int .i64 0, .int .i64 0] 53 (0, 0))) := ⟨by rw [← hq_]; exact (bo gb367)⟩; have n1_ : Aside0 (Below w.heap.size w w18) := ⟨by rw [← hq_]; exact bl⟩; clear BK367 HB hq_; have BK367 := n0_; have HB := n1_; clear n0_ n1_))))
    replace BK367 := Aside0.mk (blk_drew BK367.out)
    replace HB := Aside0.mk (below_drew1 HB.out)
    refine start_ (n := 9) (S := fun w' => True) (ds := []) (tb 0 9) (by kernel_rfl) rfl rfl trivial (fun hHeld => ?_); refine with_tabW impl_lowest.tab4 impl_lowest.bits4 (fun HT_ HW_ => ?_)
    generalize w18.drew = w19 at BK367 HB hHeld ⊢
    refine pu 0 15 (tb 1 8) ?_
    refine pu 1 16 (tb 2 7) ?_
    refine pu 2 17 (tb 3 6) ?_
    refine pu 3 18 (tb 4 5) ?_
    refine pu 4 19 (tb 5 4) ?_
    refine pu 5 20 (tb 6 3) ?_
    refine pu 6 21 (tb 7 2) ?_
    refine on 7 7 (tb 8 1) (fun K hK => ?_)
    refine box_step ?hg (N := 7) ?hd (cs := #[.int .i64 0, .int .i64 0]) (t := 53) ?hr ?_; (case hd => rfl); (case hg => rfl); (case hr => first | (go_simp; done) | (go_simp; rfl))
    intro gb369 hg w20 hbox hb
    have BK369 := Aside0.mk (hbox)
    have GW369 := Aside0.mk (bz hg)
    have GE369 := GW369
    have NB367_369 := Aside0.mk (bn gb367 hg)
    have NB369_367 := sy NB367_369
    replace BK367 := kb BK367 hb
    replace HB := kh hb
    clear hb hbox hg
    refine hK.out _ _ trivial (fun hHeld => ?_)
    clear hK K
    refine nm 7 ?_
    refine one_ (i := 8) (N := none) (tb 9 0) rfl rfl (one_of HT_.out (by kernel_rfl)) (by decide) (fun K hK => ?_)
    have hs21 : w20.cell? ⟨gb369, 0, none⟩ = some (.int .i64 0) := (blk_cell BK369.out 0).trans rfl
    have hfs21 := blk_frozen BK369.out 0
    have hns21_0 := NB367_369.out
    have hms21_0 := NB369_367.out
    have hs22 : w20.cell? ⟨gb369, 1, none⟩ = some (.int .i64 0) := (blk_cell BK369.out 1).trans rfl
    have hfs22 := blk_frozen BK369.out 1
    have hns22_0 := NB367_369.out
    have hms22_0 := NB369_367.out
    refine skip_ (w1 := ?_) (by rfl) rfl ?_ ?_
    rotate_left
    ·go_simp
     rfl
    refine hK.out _ _ trivial (fun hHeld => ?_)
    clear hK K
    refine done_ (done_of HT_.out (by kernel_rfl)) ?_
    have hnb23 := NB369_367.out
    have hnc23 := NB367_369.out
    obtain ⟨hcz24_0, hcz24_1, hfz24_0, hfz24_1⟩ := b2 BK369
    try go_wp2_with (first | ((with_reducible refine gate_callee (f := 137) rfl ?_); refine gl 23 Try.func137 #[.agg #[.int .i64 (wrap64 (Int.tdiv a0 (wrap64 (-t368)))), .int .i64 (wrap64 (Int.tdiv a1 (wrap64 (-t368))))]] ?_; (with_reducible refine (impl_isRat.calls k (wrap64 (Int.tdiv a0 (wrap64 (-t368)))) (wrap64 (Int.tdiv a1 (wrap64 (-t368)))) false _ A6.out).mono ?_); rintro e w25 ⟨rfl, hb⟩; refine ⟨_, rfl, ?_⟩; replace BK367 := Aside0.mk (blk_below (g := gb367) (o := .cells #[.int .i64 0, .int .i64 0] 53 (0, 0)) (by (with_reducible repeat (first | refine blk_drewN ?_ _ | refine blk_drew ?_ | refine blk_alloc ?_ _)); refine blk_far ?_ NB367_369.out _; (with_reducible repeat (first | refine blk_drewN ?_ _ | refine blk_drew ?_ | refine blk_alloc ?_ _)); refine blk_far ?_ NB367_369.out _; (with_reducible repeat (first | refine blk_drewN ?_ _ | refine blk_drew ?_ | refine blk_alloc ?_ _)); exact BK367.out) hb); replace BK369 := Aside0.mk (blk_below (g := gb369) (o := .cells #[.int .i64 (wrap64 (Int.tdiv a0 (wrap64 (-t368)))), .int .i64 (wrap64 (Int.tdiv a1 (wrap64 (-t368))))] 53 (0, 0)) (by (with_reducible repeat (first | refine blk_drewN ?_ _ | refine blk_drew ?_ | refine blk_alloc ?_ _)); refine blk_put (cs := #[.int .i64 (wrap64 (Int.tdiv a0 (wrap64 (-t368)))), .int .i64 0]) ?_ 1 _ rfl; (with_reducible repeat (first | refine blk_drewN ?_ _ | refine blk_drew ?_ | refine blk_alloc ?_ _)); refine blk_put (cs := #[.int .i64 0, .int .i64 0]) ?_ 0 _ rfl; (with_reducible repeat (first | refine blk_drewN ?_ _ | refine blk_drew ?_ | refine blk_alloc ?_ _)); exact BK369.out) hb); replace HB := kh hb; (try clear hb); (try clear hb2); (try clear hk); (try clear hi); obtain ⟨hcz26_0, hcz26_1, hfz26_0, hfz26_1⟩ := b2 BK367))
    refine bodyPost_ret (results_ct rfl _ _ gb367 53 #[.int .i64 0, .int .i64 0] (0, 0) _ rfl (by (with_reducible repeat (first | refine blk_drewN ?_ _ | refine blk_drew ?_ | refine blk_alloc ?_ _)); refine blk_put (cs := #[.int .i64 0, .int .i64 0]) ?_ 1 _ rfl; (with_reducible repeat (first | refine blk_drewN ?_ _ | refine blk_drew ?_ | refine blk_alloc ?_ _)); refine blk_put (cs := #[.int .i64 0, .int .i64 0]) ?_ 0 _ rfl; (with_reducible repeat (first | refine blk_drewN ?_ _ | refine blk_drew ?_ | refine blk_alloc ?_ _)); exact BK367.out) Try.underlying53 rfl (by kernel_rfl)) rfl ?_
    exact ⟨rt, bl⟩
 ·rw [if_neg c4] at H
  have c4b0 : decide (a1 < 0) = false := decide_eq_false c4
  clear c4
  by_cases c27 : t368 = 0
  ·rw [if_pos c27] at H
   exact absurd H (by simp)
  ·rw [if_neg c27] at H
   have c27b0 : (t368 == 0) = false := beq_eq_false_iff_ne.mpr c27
   have c27b1 : (t368 != 0) = true := bne_iff_ne.mpr c27
   replace H := Option.bind_eq_some_iff.mp H
   obtain ⟨t372, A280, H⟩ := H
   replace H : (if t372 = true then (some (wrap64 (Int.tdiv a0 t368), wrap64 (Int.tdiv a1 t368), true)) else (some (0, 0, false))) = some (r1, r2, r3) := H
   have A28 := Aside0.mk A280
   clear A280
   by_cases c29 : t372 = true
   ·subst c29
    have H1 : (some (wrap64 (Int.tdiv a0 t368), wrap64 (Int.tdiv a1 t368), true)) = some (r1, r2, r3) := by rw [if_pos rfl] at H; exact H
    clear H
    have H := H1
    clear H1
    simp only [Option.some.injEq, Prod.mk.injEq] at H
    obtain ⟨rfl, rfl, rfl⟩ := H
    go_enter Try.func130, Try.ntmps130
    try go_wp2_with (first | ((with_reducible refine gate_dst (N := 4) rfl ?_); refine bx 4 #[.int .i64 0, .int .i64 0] 53 ?_; intro gb367 hg w30 hbox hb; have BK367 := Aside0.mk (hbox); have GW367 := Aside0.mk (bz hg); have GE367 := GW367; replace HB := kh hb; clear hb hbox hg) | ((with_reducible refine gate_callee (f := 142) rfl ?_); refine gl 10 Try.func142 #[.int .i64 a0, .int .i64 a1] ?_; (with_reducible refine (impl_greatestDivisor.calls k a0 a1 t368 _ A3.out).mono ?_); rintro e w' ⟨rfl, ⟨nd, rfl⟩⟩; refine ⟨_, rfl, ?_⟩; (try (rw [drewN_self w30]; generalize hq_ : World.drewN w30 _ = w30; have n0_ : Aside0 (w30.heap[gb367]? = some (.cells #[.int .i64 0, .int .i64 0] 53 (0, 0))) := ⟨by rw [← hq_]; exact (bo gb367)⟩; have n1_ : Aside0 (Below w.heap.size w w30) := ⟨by rw [← hq_]; exact bl⟩; clear BK367 HB hq_; have BK367 := n0_; have HB := n1_; clear n0_ n1_))))
    replace BK367 := Aside0.mk (blk_drew BK367.out)
    replace HB := Aside0.mk (below_drew1 HB.out)
    refine start_ (n := 9) (S := fun w' => True) (ds := []) (tb 0 9) (by kernel_rfl) rfl rfl trivial (fun hHeld => ?_); refine with_tabW impl_lowest.tab4 impl_lowest.bits4 (fun HT_ HW_ => ?_)
    generalize w30.drew = w31 at BK367 HB hHeld ⊢
    refine pu 0 15 (tb 1 8) ?_
    refine pu 1 16 (tb 2 7) ?_
    refine pu 2 17 (tb 3 6) ?_
    refine pu 3 18 (tb 4 5) ?_
    refine pu 4 19 (tb 5 4) ?_
    refine pu 5 20 (tb 6 3) ?_
    refine pu 6 21 (tb 7 2) ?_
    refine on 7 7 (tb 8 1) (fun K hK => ?_)
    refine box_step ?hg (N := 7) ?hd (cs := #[.int .i64 0, .int .i64 0]) (t := 53) ?hr ?_; (case hd => rfl); (case hg => rfl); (case hr => first | (go_simp; done) | (go_simp; rfl))
    intro gb371 hg w32 hbox hb
    have BK371 := Aside0.mk (hbox)
    have GW371 := Aside0.mk (bz hg)
    have GE371 := GW371
    have NB367_371 := Aside0.mk (bn gb367 hg)
    have NB371_367 := sy NB367_371
    replace BK367 := kb BK367 hb
    replace HB := kh hb
    clear hb hbox hg
    refine hK.out _ _ trivial (fun hHeld => ?_)
    clear hK K
    refine nm 7 ?_
    refine one_ (i := 8) (N := none) (tb 9 0) rfl rfl (one_of HT_.out (by kernel_rfl)) (by decide) (fun K hK => ?_)
    have hs33 : w32.cell? ⟨gb371, 0, none⟩ = some (.int .i64 0) := (blk_cell BK371.out 0).trans rfl
    have hfs33 := blk_frozen BK371.out 0
    have hns33_0 := NB367_371.out
    have hms33_0 := NB371_367.out
    have hs34 : w32.cell? ⟨gb371, 1, none⟩ = some (.int .i64 0) := (blk_cell BK371.out 1).trans rfl
    have hfs34 := blk_frozen BK371.out 1
    have hns34_0 := NB367_371.out
    have hms34_0 := NB371_367.out
    refine skip_ (w1 := ?_) (by rfl) rfl ?_ ?_
    rotate_left
    ·go_simp
     rfl
    refine hK.out _ _ trivial (fun hHeld => ?_)
    clear hK K
    refine done_ (done_of HT_.out (by kernel_rfl)) ?_
    have hnb35 := NB371_367.out
    have hnc35 := NB367_371.out
    obtain ⟨hcz36_0, hcz36_1, hfz36_0, hfz36_1⟩ := b2 BK371
    try go_wp2_with (first | ((with_reducible refine gate_callee (f := 137) rfl ?_); refine gl 23 Try.func137 #[.agg #[.int .i64 (wrap64 (Int.tdiv a0 t368)), .int .i64 (wrap64 (Int.tdiv a1 t368))]] ?_; (with_reducible refine (impl_isRat.calls k (wrap64 (Int.tdiv a0 t368)) (wrap64 (Int.tdiv a1 t368)) true _ A28.out).mono ?_); rintro e w37 ⟨rfl, hb⟩; refine ⟨_, rfl, ?_⟩; replace BK367 := Aside0.mk (blk_below (g := gb367) (o := .cells #[.int .i64 0, .int .i64 0] 53 (0, 0)) (by (with_reducible repeat (first | refine blk_drewN ?_ _ | refine blk_drew ?_ | refine blk_alloc ?_ _)); refine blk_far ?_ NB367_371.out _; (with_reducible repeat (first | refine blk_drewN ?_ _ | refine blk_drew ?_ | refine blk_alloc ?_ _)); refine blk_far ?_ NB367_371.out _; (with_reducible repeat (first | refine blk_drewN ?_ _ | refine blk_drew ?_ | refine blk_alloc ?_ _)); exact BK367.out) hb); replace BK371 := Aside0.mk (blk_below (g := gb371) (o := .cells #[.int .i64 (wrap64 (Int.tdiv a0 t368)), .int .i64 (wrap64 (Int.tdiv a1 t368))] 53 (0, 0)) (by (with_reducible repeat (first | refine blk_drewN ?_ _ | refine blk_drew ?_ | refine blk_alloc ?_ _)); refine blk_put (cs := #[.int .i64 (wrap64 (Int.tdiv a0 t368)), .int .i64 0]) ?_ 1 _ rfl; (with_reducible repeat (first | refine blk_drewN ?_ _ | refine blk_drew ?_ | refine blk_alloc ?_ _)); refine blk_put (cs := #[.int .i64 0, .int .i64 0]) ?_ 0 _ rfl; (with_reducible repeat (first | refine blk_drewN ?_ _ | refine blk_drew ?_ | refine blk_alloc ?_ _)); exact BK371.out) hb); replace HB := kh hb; (try clear hb); (try clear hb2); (try clear hk); (try clear hi); obtain ⟨hcz38_0, hcz38_1, hfz38_0, hfz38_1⟩ := b2 BK371; obtain ⟨hcz39_0, hcz39_1, hfz39_0, hfz39_1⟩ := b2 BK367))
    refine bodyPost_ret (results_ct rfl _ _ gb367 53 #[.int .i64 (wrap64 (Int.tdiv a0 t368)), .int .i64 (wrap64 (Int.tdiv a1 t368))] (0, 0) _ rfl (by (with_reducible repeat (first | refine blk_drewN ?_ _ | refine blk_drew ?_ | refine blk_alloc ?_ _)); refine blk_put (cs := #[.int .i64 (wrap64 (Int.tdiv a0 t368)), .int .i64 0]) ?_ 1 _ rfl; (with_reducible repeat (first | refine blk_drewN ?_ _ | refine blk_drew ?_ | refine blk_alloc ?_ _)); refine blk_put (cs := #[.int .i64 0, .int .i64 0]) ?_ 0 _ rfl; (with_reducible repeat (first | refine blk_drewN ?_ _ | refine blk_drew ?_ | refine blk_alloc ?_ _)); exact BK367.out) Try.underlying53 rfl (by kernel_rfl)) rfl ?_
    exact ⟨rt, bl⟩
   ·replace c29 := Bool.eq_false_iff.mpr c29
    subst c29
    have H1 : (some (0, 0, false)) = some (r1, r2, r3) := by rw [if_neg (show ¬ (false = true) by decide)] at H; exact H
    clear H
    have H := H1
    clear H1
    simp only [Option.some.injEq, Prod.mk.injEq] at H
    obtain ⟨rfl, rfl, rfl⟩ := H
    go_enter Try.func130, Try.ntmps130
    try go_wp2_with (first | ((with_reducible refine gate_dst (N := 4) rfl ?_); refine bx 4 #[.int .i64 0, .int .i64 0] 53 ?_; intro gb367 hg w40 hbox hb; have BK367 := Aside0.mk (hbox); have GW367 := Aside0.mk (bz hg); have GE367 := GW367; replace HB := kh hb; clear hb hbox hg) | ((with_reducible refine gate_callee (f := 142) rfl ?_); refine gl 10 Try.func142 #[.int .i64 a0, .int .i64 a1] ?_; (with_reducible refine (impl_greatestDivisor.calls k a0 a1 t368 _ A3.out).mono ?_); rintro e w' ⟨rfl, ⟨nd, rfl⟩⟩; refine ⟨_, rfl, ?_⟩; (try (rw [drewN_self w40]; generalize hq_ : World.drewN w40 _ = w40; have n0_ : Aside0 (w40.heap[gb367]? = some (.cells #[.int .i64 0, .int .i64 0] 53 (0, 0))) := ⟨by rw [← hq_]; exact (bo gb367)⟩; have n1_ : Aside0 (Below w.heap.size w w40) := ⟨by rw [← hq_]; exact bl⟩; clear BK367 HB hq_; have BK367 := n0_; have HB := n1_; clear n0_ n1_))))
    replace BK367 := Aside0.mk (blk_drew BK367.out)
    replace HB := Aside0.mk (below_drew1 HB.out)
    refine start_ (n := 9) (S := fun w' => True) (ds := []) (tb 0 9) (by kernel_rfl) rfl rfl trivial (fun hHeld => ?_); refine with_tabW impl_lowest.tab4 impl_lowest.bits4 (fun HT_ HW_ => ?_)
    generalize w40.drew = w41 at BK367 HB hHeld ⊢
    refine pu 0 15 (tb 1 8) ?_
    refine pu 1 16 (tb 2 7) ?_
    refine pu 2 17 (tb 3 6) ?_
    refine pu 3 18 (tb 4 5) ?_
    refine pu 4 19 (tb 5 4) ?_
    refine pu 5 20 (tb 6 3) ?_
    refine pu 6 21 (tb 7 2) ?_
    refine on 7 7 (tb 8 1) (fun K hK => ?_)
    refine box_step ?hg (N := 7) ?hd (cs := #[.int .i64 0, .int .i64 0]) (t := 53) ?hr ?_; (case hd => rfl); (case hg => rfl); (case hr => first | (go_simp; done) | (go_simp; rfl))
    intro gb371 hg w42 hbox hb
    have BK371 := Aside0.mk (hbox)
    have GW371 := Aside0.mk (bz hg)
    have GE371 := GW371
    have NB367_371 := Aside0.mk (bn gb367 hg)
    have NB371_367 := sy NB367_371
    replace BK367 := kb BK367 hb
    replace HB := kh hb
    clear hb hbox hg
    refine hK.out _ _ trivial (fun hHeld => ?_)
    clear hK K
    refine nm 7 ?_
    refine one_ (i := 8) (N := none) (tb 9 0) rfl rfl (one_of HT_.out (by kernel_rfl)) (by decide) (fun K hK => ?_)
    have hs43 : w42.cell? ⟨gb371, 0, none⟩ = some (.int .i64 0) := (blk_cell BK371.out 0).trans rfl
    have hfs43 := blk_frozen BK371.out 0
    have hns43_0 := NB367_371.out
    have hms43_0 := NB371_367.out
    have hs44 : w42.cell? ⟨gb371, 1, none⟩ = some (.int .i64 0) := (blk_cell BK371.out 1).trans rfl
    have hfs44 := blk_frozen BK371.out 1
    have hns44_0 := NB367_371.out
    have hms44_0 := NB371_367.out
    refine skip_ (w1 := ?_) (by rfl) rfl ?_ ?_
    rotate_left
    ·go_simp
     rfl
    refine hK.out _ _ trivial (fun hHeld => ?_)
    clear hK K
    refine done_ (done_of HT_.out (by kernel_rfl)) ?_
    have hnb45 := NB371_367.out
    have hnc45 := NB367_371.out
    obtain ⟨hcz46_0, hcz46_1, hfz46_0, hfz46_1⟩ := b2 BK371
    try go_wp2_with (first | ((with_reducible refine gate_callee (f := 137) rfl ?_); refine gl 23 Try.func137 #[.agg #[.int .i64 (wrap64 (Int.tdiv a0 t368)), .int .i64 (wrap64 (Int.tdiv a1 t368))]] ?_; (with_reducible refine (impl_isRat.calls k (wrap64 (Int.tdiv a0 t368)) (wrap64 (Int.tdiv a1 t368)) false _ A28.out).mono ?_); rintro e w47 ⟨rfl, hb⟩; refine ⟨_, rfl, ?_⟩; replace BK367 := Aside0.mk (blk_below (g := gb367) (o := .cells #[.int .i64 0, .int .i64 0] 53 (0, 0)) (by (with_reducible repeat (first | refine blk_drewN ?_ _ | refine blk_drew ?_ | refine blk_alloc ?_ _)); refine blk_far ?_ NB367_371.out _; (with_reducible repeat (first | refine blk_drewN ?_ _ | refine blk_drew ?_ | refine blk_alloc ?_ _)); refine blk_far ?_ NB367_371.out _; (with_reducible repeat (first | refine blk_drewN ?_ _ | refine blk_drew ?_ | refine blk_alloc ?_ _)); exact BK367.out) hb); replace BK371 := Aside0.mk (blk_below (g := gb371) (o := .cells #[.int .i64 (wrap64 (Int.tdiv a0 t368)), .int .i64 (wrap64 (Int.tdiv a1 t368))] 53 (0, 0)) (by (with_reducible repeat (first | refine blk_drewN ?_ _ | refine blk_drew ?_ | refine blk_alloc ?_ _)); refine blk_put (cs := #[.int .i64 (wrap64 (Int.tdiv a0 t368)), .int .i64 0]) ?_ 1 _ rfl; (with_reducible repeat (first | refine blk_drewN ?_ _ | refine blk_drew ?_ | refine blk_alloc ?_ _)); refine blk_put (cs := #[.int .i64 0, .int .i64 0]) ?_ 0 _ rfl; (with_reducible repeat (first | refine blk_drewN ?_ _ | refine blk_drew ?_ | refine blk_alloc ?_ _)); exact BK371.out) hb); replace HB := kh hb; (try clear hb); (try clear hb2); (try clear hk); (try clear hi); obtain ⟨hcz48_0, hcz48_1, hfz48_0, hfz48_1⟩ := b2 BK367))
    refine bodyPost_ret (results_ct rfl _ _ gb367 53 #[.int .i64 0, .int .i64 0] (0, 0) _ rfl (by (with_reducible repeat (first | refine blk_drewN ?_ _ | refine blk_drew ?_ | refine blk_alloc ?_ _)); refine blk_put (cs := #[.int .i64 0, .int .i64 0]) ?_ 1 _ rfl; (with_reducible repeat (first | refine blk_drewN ?_ _ | refine blk_drew ?_ | refine blk_alloc ?_ _)); refine blk_put (cs := #[.int .i64 0, .int .i64 0]) ?_ 0 _ rfl; (with_reducible repeat (first | refine blk_drewN ?_ _ | refine blk_drew ?_ | refine blk_alloc ?_ _)); exact BK367.out) Try.underlying53 rfl (by kernel_rfl)) rfl ?_
    exact ⟨rt, bl⟩

/-! ### impl_DivideRats: function 144 -/
def impl_DivideRats.f (k : Nat) (a0_0 : Int) (a0_1 : Int) (a1_0 : Int) (a1_1 : Int) : Option (Int × Int × Bool) := (impl_areRats.f k (([(⟨a0_0, a0_1⟩ : S53), (⟨a1_0, a1_1⟩ : S53)] : List (S53)))).bind fun t379 => (if t379 = true then (if a1_0 = 0 then (some (0, 0, false)) else ((impl_lowest.f k (wrap64 (a0_0 * a1_1)) (wrap64 (a0_1 * a1_0))).bind fun bt380 => (some (bt380.1, bt380.2.1, bt380.2.2)))) else (some (0, 0, false)))
set_option maxHeartbeats 8000000 in
set_option maxRecDepth 100000 in
theorem impl_DivideRats.calls (k : Nat) (a0_0 : Int) (a0_1 : Int) (a1_0 : Int) (a1_1 : Int) (r1 : Int) (r2 : Int) (r3 : Bool) (w : World) (h : impl_DivideRats.f k a0_0 a0_1 a1_0 a1_1 = some (r1, r2, r3)) :
  Calls Try.prog 144 #[.agg #[.int .i64 a0_0, .int .i64 a0_1], .agg #[.int .i64 a1_0, .int .i64 a1_1]] w fun e w' => e = .returned (.tuple #[.agg #[.int .i64 r1, .int .i64 r2], .bool r3]) ∧ Below w.heap.size w w' := by
 have hu53 := Try.underlying53
 have HB := Aside0.mk (Below.refl w.heap.size w)
 have H : ((impl_areRats.f k (([(⟨a0_0, a0_1⟩ : S53), (⟨a1_0, a1_1⟩ : S53)] : List (S53)))).bind fun t379 => (if t379 = true then (if a1_0 = 0 then (some (0, 0, false)) else ((impl_lowest.f k (wrap64 (a0_0 * a1_1)) (wrap64 (a0_1 * a1_0))).bind fun bt380 => (some (bt380.1, bt380.2.1, bt380.2.2)))) else (some (0, 0, false)))) = some (r1, r2, r3) := h
 clear h
 obtain ⟨y376, hy376⟩ : ∃ y_ : List (S53), y_ = (([(⟨a0_0, a0_1⟩ : S53), (⟨a1_0, a1_1⟩ : S53)] : List (S53))) := ⟨_, rfl⟩
 replace H : ((impl_areRats.f k y376).bind fun t379 => (if t379 = true then (if a1_0 = 0 then (some (0, 0, false)) else ((impl_lowest.f k (wrap64 (a0_0 * a1_1)) (wrap64 (a0_1 * a1_0))).bind fun bt380 => (some (bt380.1, bt380.2.1, bt380.2.2)))) else (some (0, 0, false)))) = some (r1, r2, r3) := by first | (rw [hy376]; with_reducible exact H) | (have H2_ := (Option.bind_some _ _).symm.trans H; rw [hy376]; with_reducible exact H2_) | (have H2_ := (Option.bind_some _ _).symm.trans H; with_reducible exact H2_) | with_reducible exact H | (rw [hy376]; exact H) | exact H
 have Ny376 := Aside0.mk hy376
 clear hy376
 replace H := Option.bind_eq_some_iff.mp H
 obtain ⟨t379, A30, H⟩ := H
 replace H : (if t379 = true then (if a1_0 = 0 then (some (0, 0, false)) else ((impl_lowest.f k (wrap64 (a0_0 * a1_1)) (wrap64 (a0_1 * a1_0))).bind fun bt380 => (some (bt380.1, bt380.2.1, bt380.2.2)))) else (some (0, 0, false))) = some (r1, r2, r3) := H
 have A3 := Aside0.mk A30
 clear A30
 by_cases c4 : t379 = true
 ·subst c4
  have H1 : (if a1_0 = 0 then (some (0, 0, false)) else ((impl_lowest.f k (wrap64 (a0_0 * a1_1)) (wrap64 (a0_1 * a1_0))).bind fun bt380 => (some (bt380.1, bt380.2.1, bt380.2.2)))) = some (r1, r2, r3) := by rw [if_pos rfl] at H; exact H
  clear H
  have H := H1
  clear H1
  by_cases c5 : a1_0 = 0
  ·rw [if_pos c5] at H
   have c5b0 : (a1_0 == 0) = true := beq_iff_eq.mpr c5
   have c5b1 : (a1_0 != 0) = false := bne_eq_false_iff_eq.mpr c5
   clear c5
   simp only [Option.some.injEq, Prod.mk.injEq] at H
   obtain ⟨rfl, rfl, rfl⟩ := H
   go_enter Try.func144, Try.ntmps144
   go_wp2_with (first | ((with_reducible refine gate_dst (N := 2) rfl ?_); refine bx 2 #[.int .i64 a0_0, .int .i64 a0_1] 53 ?_; intro gb373 hg w6 hbox hb; have BK373 := Aside0.mk (hbox); have GW373 := Aside0.mk (bz hg); have GE373 := GW373; replace HB := kh hb; clear hb hbox hg) | ((with_reducible refine gate_dst (N := 3) rfl ?_); refine bx 3 #[.int .i64 a1_0, .int .i64 a1_1] 53 ?_; intro gb374 hg w7 hbox hb; have BK374 := Aside0.mk (hbox); have GW374 := Aside0.mk (bz hg); have GE374 := GW374; have NB373_374 := Aside0.mk (bn gb373 hg); have NB374_373 := sy NB373_374; replace BK373 := kb BK373 hb; replace HB := kh hb; clear hb hbox hg) | ((with_reducible refine gate_dst (N := 4) rfl ?_); refine bx 4 #[.int .i64 0, .int .i64 0] 53 ?_; intro gb375 hg w8 hbox hb; have BK375 := Aside0.mk (hbox); have GW375 := Aside0.mk (bz hg); have GE375 := GW375; have NB373_375 := Aside0.mk (bn gb373 hg); have NB375_373 := sy NB373_375; have NB374_375 := Aside0.mk (bn gb374 hg); have NB375_374 := sy NB374_375; replace BK373 := kb BK373 hb; replace BK374 := kb BK374 hb; replace HB := kh hb; clear hb hbox hg; have hnb9 := NB373_374.out; have hnc9 := NB374_373.out; have hnb10 := NB373_375.out; have hnc10 := NB375_373.out; obtain ⟨hcz11_0, hcz11_1, hfz11_0, hfz11_1⟩ := b2 BK373; have hnb12 := NB374_375.out; have hnc12 := NB375_374.out; obtain ⟨hcz13_0, hcz13_1, hfz13_0, hfz13_1⟩ := b2 BK374) | ((with_reducible refine gate_dst (N := 8) rfl ?_); refine Kd.R_lit k53 _ 53 ?hg (N := 8) ?hd (xs := ([(⟨a0_0, a0_1⟩ : S53), (⟨a1_0, a1_1⟩ : S53)] : List (S53))) (inner := [.int .i64 a0_0, .int .i64 a0_1, .int .i64 a1_0, .int .i64 a1_1]) (ok := fun _ => True) (okp := fun _ => True) ?hr ?hp (fun _ hk => hk) trivial (Below.refl _ _) (Nat.le_refl _) (by simp) ?_; (case hd => rfl); (case hg => rfl); (case hr => first | (go_simp; done) | (go_simp; rfl)); (case hp => exact (Reps.c2 (show Kd.M k53 _ _ _ (⟨a0_0, a0_1⟩ : S53) [.int .i64 a0_0, .int .i64 a0_1] from (k53_mkM _ _ _ (⟨a0_0, a0_1⟩ : S53) )) (Reps.c2 (show Kd.M k53 _ _ _ (⟨a1_0, a1_1⟩ : S53) [.int .i64 a1_0, .int .i64 a1_1] from (k53_mkM _ _ _ (⟨a1_0, a1_1⟩ : S53) )) (Reps.none _ _)))); intro v377 w14 ho15 hb hg_ hnew_; clear hg_ hnew_; (first | rw [← Ny376.out] at ho15 | (simp only [Int.reduceToNat] at ho15; rw [← Ny376.out] at ho15)); have HO378 := Aside0.mk (Kd.R_lower (Kd.R_newB (Kd.R_newB (Kd.R_newB ho15 (g := gb373) (o := .cells #[.int .i64 a0_0, .int .i64 a0_1] 53 (0, 0)) (bo gb373)) (g := gb374) (o := .cells #[.int .i64 a1_0, .int .i64 a1_1] 53 (0, 0)) (bo gb374)) (g := gb375) (o := .cells #[.int .i64 0, .int .i64 0] 53 (0, 0)) (bo gb375)) (below_size bl)); replace BK373 := kb BK373 hb; replace BK374 := kb BK374 hb; replace BK375 := kb BK375 hb; replace HB := kh hb; clear hb ho15; obtain ⟨Ao16, co16, eo16⟩ := Kd.R_slice HO378.out; subst eo16) | ((with_reducible refine gate_callee (f := 129) rfl ?_); refine gl 9 Try.func129 #[.slice Ao16 y376.length co16] ?_; (with_reducible refine (impl_areRats.calls k _ _ y376 true _ ?side1 ?side2 A3.out).mono ?_); (case side1 => repeat (first | exact (Kd.R_reads' HO378.out).2.2 | (with_reducible refine Kd.C_alloc ?_ _) | (with_reducible refine Kd.C_drewN ?_ _) | (with_reducible refine Kd.C_drew ?_))); (case side2 => exact (Kd.R_reads' HO378.out).2.1); rintro e w17 ⟨rfl, hb⟩; refine ⟨_, rfl, ?_⟩; replace HO378 := Aside0.mk (Kd.R_below (by (with_reducible repeat (first | apply Kd.R_alloc | apply Kd.R_drewN | apply Kd.R_drew)); exact HO378.out) hb); replace BK373 := kb BK373 hb; replace BK374 := kb BK374 hb; replace BK375 := kb BK375 hb; replace HB := kh hb; (try clear hb); (try clear hb2); (try clear hk); (try clear hi); obtain ⟨hcz18_0, hcz18_1, hfz18_0, hfz18_1⟩ := b2 BK374; obtain ⟨hcz19_0, hcz19_1, hfz19_0, hfz19_1⟩ := b2 BK375))
   refine bodyPost_ret (results_ct rfl _ _ gb375 53 #[.int .i64 0, .int .i64 0] (0, 0) _ rfl (by (with_reducible repeat (first | refine blk_drewN ?_ _ | refine blk_drew ?_ | refine blk_alloc ?_ _)); refine blk_put (cs := #[.int .i64 0, .int .i64 0]) ?_ 1 _ rfl; (with_reducible repeat (first | refine blk_drewN ?_ _ | refine blk_drew ?_ | refine blk_alloc ?_ _)); refine blk_put (cs := #[.int .i64 0, .int .i64 0]) ?_ 0 _ rfl; (with_reducible repeat (first | refine blk_drewN ?_ _ | refine blk_drew ?_ | refine blk_alloc ?_ _)); exact BK375.out) Try.underlying53 rfl (by kernel_rfl)) rfl ?_
   exact ⟨rt, bl⟩
  ·rw [if_neg c5] at H
   have c5b0 : (a1_0 == 0) = false := beq_eq_false_iff_ne.mpr c5
   have c5b1 : (a1_0 != 0) = true := bne_iff_ne.mpr c5
   replace H := Option.bind_eq_some_iff.mp H
   obtain ⟨⟨t380, t381, t382⟩, A200, H⟩ := H
   replace H : (some (t380, t381, t382)) = some (r1, r2, r3) := H
   have A20 := Aside0.mk A200
   clear A200
   simp only [Option.some.injEq, Prod.mk.injEq] at H
   obtain ⟨rfl, rfl, rfl⟩ := H
   go_enter Try.func144, Try.ntmps144
   go_wp2_with (first | ((with_reducible refine gate_dst (N := 2) rfl ?_); refine bx 2 #[.int .i64 a0_0, .int .i64 a0_1] 53 ?_; intro gb373 hg w21 hbox hb; have BK373 := Aside0.mk (hbox); have GW373 := Aside0.mk (bz hg); have GE373 := GW373; replace HB := kh hb; clear hb hbox hg) | ((with_reducible refine gate_dst (N := 3) rfl ?_); refine bx 3 #[.int .i64 a1_0, .int .i64 a1_1] 53 ?_; intro gb374 hg w22 hbox hb; have BK374 := Aside0.mk (hbox); have GW374 := Aside0.mk (bz hg); have GE374 := GW374; have NB373_374 := Aside0.mk (bn gb373 hg); have NB374_373 := sy NB373_374; replace BK373 := kb BK373 hb; replace HB := kh hb; clear hb hbox hg) | ((with_reducible refine gate_dst (N := 4) rfl ?_); refine bx 4 #[.int .i64 0, .int .i64 0] 53 ?_; intro gb375 hg w23 hbox hb; have BK375 := Aside0.mk (hbox); have GW375 := Aside0.mk (bz hg); have GE375 := GW375; have NB373_375 := Aside0.mk (bn gb373 hg); have NB375_373 := sy NB373_375; have NB374_375 := Aside0.mk (bn gb374 hg); have NB375_374 := sy NB374_375; replace BK373 := kb BK373 hb; replace BK374 := kb BK374 hb; replace HB := kh hb; clear hb hbox hg; have hnb24 := NB373_374.out; have hnc24 := NB374_373.out; have hnb25 := NB373_375.out; have hnc25 := NB375_373.out; obtain ⟨hcz26_0, hcz26_1, hfz26_0, hfz26_1⟩ := b2 BK373; have hnb27 := NB374_375.out; have hnc27 := NB375_374.out; obtain ⟨hcz28_0, hcz28_1, hfz28_0, hfz28_1⟩ := b2 BK374) | ((with_reducible refine gate_dst (N := 8) rfl ?_); refine Kd.R_lit k53 _ 53 ?hg (N := 8) ?hd (xs := ([(⟨a0_0, a0_1⟩ : S53), (⟨a1_0, a1_1⟩ : S53)] : List (S53))) (inner := [.int .i64 a0_0, .int .i64 a0_1, .int .i64 a1_0, .int .i64 a1_1]) (ok := fun _ => True) (okp := fun _ => True) ?hr ?hp (fun _ hk => hk) trivial (Below.refl _ _) (Nat.le_refl _) (by simp) ?_; (case hd => rfl); (case hg => rfl); (case hr => first | (go_simp; done) | (go_simp; rfl)); (case hp => exact (Reps.c2 (show Kd.M k53 _ _ _ (⟨a0_0, a0_1⟩ : S53) [.int .i64 a0_0, .int .i64 a0_1] from (k53_mkM _ _ _ (⟨a0_0, a0_1⟩ : S53) )) (Reps.c2 (show Kd.M k53 _ _ _ (⟨a1_0, a1_1⟩ : S53) [.int .i64 a1_0, .int .i64 a1_1] from (k53_mkM _ _ _ (⟨a1_0, a1_1⟩ : S53) )) (Reps.none _ _)))); intro v377 w29 ho30 hb hg_ hnew_; clear hg_ hnew_; (first | rw [← Ny376.out] at ho30 | (simp only [Int.reduceToNat] at ho30; rw [← Ny376.out] at ho30)); have HO378 := Aside0.mk (Kd.R_lower (Kd.R_newB (Kd.R_newB (Kd.R_newB ho30 (g := gb373) (o := .cells #[.int .i64 a0_0, .int .i64 a0_1] 53 (0, 0)) (bo gb373)) (g := gb374) (o := .cells #[.int .i64 a1_0, .int .i64 a1_1] 53 (0, 0)) (bo gb374)) (g := gb375) (o := .cells #[.int .i64 0, .int .i64 0] 53 (0, 0)) (bo gb375)) (below_size bl)); replace BK373 := kb BK373 hb; replace BK374 := kb BK374 hb; replace BK375 := kb BK375 hb; replace HB := kh hb; clear hb ho30; obtain ⟨Ao31, co31, eo31⟩ := Kd.R_slice HO378.out; subst eo31) | ((with_reducible refine gate_callee (f := 129) rfl ?_); refine gl 9 Try.func129 #[.slice Ao31 y376.length co31] ?_; (with_reducible refine (impl_areRats.calls k _ _ y376 true _ ?side1 ?side2 A3.out).mono ?_); (case side1 => repeat (first | exact (Kd.R_reads' HO378.out).2.2 | (with_reducible refine Kd.C_alloc ?_ _) | (with_reducible refine Kd.C_drewN ?_ _) | (with_reducible refine Kd.C_drew ?_))); (case side2 => exact (Kd.R_reads' HO378.out).2.1); rintro e w32 ⟨rfl, hb⟩; refine ⟨_, rfl, ?_⟩; replace HO378 := Aside0.mk (Kd.R_below (by (with_reducible repeat (first | apply Kd.R_alloc | apply Kd.R_drewN | apply Kd.R_drew)); exact HO378.out) hb); replace BK373 := kb BK373 hb; replace BK374 := kb BK374 hb; replace BK375 := kb BK375 hb; replace HB := kh hb; (try clear hb); (try clear hb2); (try clear hk); (try clear hi); obtain ⟨hcz33_0, hcz33_1, hfz33_0, hfz33_1⟩ := b2 BK374; obtain ⟨hcz34_0, hcz34_1, hfz34_0, hfz34_1⟩ := b2 BK373) | ((with_reducible refine gate_callee (f := 130) rfl ?_); refine gl 27 Try.func130 #[.int .i64 (wrap64 (a0_0 * a1_1)), .int .i64 (wrap64 (a0_1 * a1_0))] ?_; (with_reducible refine (impl_lowest.calls k (wrap64 (a0_0 * a1_1)) (wrap64 (a0_1 * a1_0)) t380 t381 t382 _ A20.out).mono ?_); rintro e w35 ⟨rfl, hb⟩; refine ⟨_, rfl, ?_⟩; replace HO378 := Aside0.mk (Kd.R_below (by (with_reducible repeat (first | apply Kd.R_alloc | apply Kd.R_drewN | apply Kd.R_drew)); exact HO378.out) hb); replace BK373 := kb BK373 hb; replace BK374 := kb BK374 hb; replace BK375 := kb BK375 hb; replace HB := kh hb; (try clear hb); (try clear hb2); (try clear hk); (try clear hi); obtain ⟨hcz36_0, hcz36_1, hfz36_0, hfz36_1⟩ := b2 BK375))
   refine bodyPost_ret (results_ct rfl _ _ gb375 53 #[.int .i64 t380, .int .i64 t381] (0, 0) _ rfl (by (with_reducible repeat (first | refine blk_drewN ?_ _ | refine blk_drew ?_ | refine blk_alloc ?_ _)); refine blk_put (cs := #[.int .i64 t380, .int .i64 0]) ?_ 1 _ rfl; (with_reducible repeat (first | refine blk_drewN ?_ _ | refine blk_drew ?_ | refine blk_alloc ?_ _)); refine blk_put (cs := #[.int .i64 0, .int .i64 0]) ?_ 0 _ rfl; (with_reducible repeat (first | refine blk_drewN ?_ _ | refine blk_drew ?_ | refine blk_alloc ?_ _)); exact BK375.out) Try.underlying53 rfl (by kernel_rfl)) rfl ?_
   exact ⟨rt, bl⟩
 ·replace c4 := Bool.eq_false_iff.mpr c4
  subst c4
  have H1 : (some (0, 0, false)) = some (r1, r2, r3) := by rw [if_neg (show ¬ (false = true) by decide)] at H; exact H
  clear H
  have H := H1
  clear H1
  simp only [Option.some.injEq, Prod.mk.injEq] at H
  obtain ⟨rfl, rfl, rfl⟩ := H
  go_enter Try.func144, Try.ntmps144
  go_wp2_with (first | ((with_reducible refine gate_dst (N := 2) rfl ?_); refine bx 2 #[.int .i64 a0_0, .int .i64 a0_1] 53 ?_; intro gb373 hg w37 hbox hb; have BK373 := Aside0.mk (hbox); have GW373 := Aside0.mk (bz hg); have GE373 := GW373; replace HB := kh hb; clear hb hbox hg) | ((with_reducible refine gate_dst (N := 3) rfl ?_); refine bx 3 #[.int .i64 a1_0, .int .i64 a1_1] 53 ?_; intro gb374 hg w38 hbox hb; have BK374 := Aside0.mk (hbox); have GW374 := Aside0.mk (bz hg); have GE374 := GW374; have NB373_374 := Aside0.mk (bn gb373 hg); have NB374_373 := sy NB373_374; replace BK373 := kb BK373 hb; replace HB := kh hb; clear hb hbox hg) | ((with_reducible refine gate_dst (N := 4) rfl ?_); refine bx 4 #[.int .i64 0, .int .i64 0] 53 ?_; intro gb375 hg w39 hbox hb; have BK375 := Aside0.mk (hbox); have GW375 := Aside0.mk (bz hg); have GE375 := GW375; have NB373_375 := Aside0.mk (bn gb373 hg); have NB375_373 := sy NB373_375; have NB374_375 := Aside0.mk (bn gb374 hg); have NB375_374 := sy NB374_375; replace BK373 := kb BK373 hb; replace BK374 := kb BK374 hb; replace HB := kh hb; clear hb hbox hg; have hnb40 := NB373_374.out; have hnc40 := NB374_373.out; have hnb41 := NB373_375.out; have hnc41 := NB375_373.out; obtain ⟨hcz42_0, hcz42_1, hfz42_0, hfz42_1⟩ := b2 BK373; have hnb43 := NB374_375.out; have hnc43 := NB375_374.out; obtain ⟨hcz44_0, hcz44_1, hfz44_0, hfz44_1⟩ := b2 BK374) | ((with_reducible refine gate_dst (N := 8) rfl ?_); refine Kd.R_lit k53 _ 53 ?hg (N := 8) ?hd (xs := ([(⟨a0_0, a0_1⟩ : S53), (⟨a1_0, a1_1⟩ : S53)] : List (S53))) (inner := [.int .i64 a0_0, .int .i64 a0_1, .int .i64 a1_0, .int .i64 a1_1]) (ok := fun _ => True) (okp := fun _ => True) ?hr ?hp (fun _ hk => hk) trivial (Below.refl _ _) (Nat.le_refl _) (by simp) ?_; (case hd => rfl); (case hg => rfl); (case hr => first | (go_simp; done) | (go_simp; rfl)); (case hp => exact (Reps.c2 (show Kd.M k53 _ _ _ (⟨a0_0, a0_1⟩ : S53) [.int .i64 a0_0, .int .i64 a0_1] from (k53_mkM _ _ _ (⟨a0_0, a0_1⟩ : S53) )) (Reps.c2 (show Kd.M k53 _ _ _ (⟨a1_0, a1_1⟩ : S53) [.int .i64 a1_0, .int .i64 a1_1] from (k53_mkM _ _ _ (⟨a1_0, a1_1⟩ : S53) )) (Reps.none _ _)))); intro v377 w45 ho46 hb hg_ hnew_; clear hg_ hnew_; (first | rw [← Ny376.out] at ho46 | (simp only [Int.reduceToNat] at ho46; rw [← Ny376.out] at ho46)); have HO378 := Aside0.mk (Kd.R_lower (Kd.R_newB (Kd.R_newB (Kd.R_newB ho46 (g := gb373) (o := .cells #[.int .i64 a0_0, .int .i64 a0_1] 53 (0, 0)) (bo gb373)) (g := gb374) (o := .cells #[.int .i64 a1_0, .int .i64 a1_1] 53 (0, 0)) (bo gb374)) (g := gb375) (o := .cells #[.int .i64 0, .int .i64 0] 53 (0, 0)) (bo gb375)) (below_size bl)); replace BK373 := kb BK373 hb; replace BK374 := kb BK374 hb; replace BK375 := kb BK375 hb; replace HB := kh hb; clear hb ho46; obtain ⟨Ao47, co47, eo47⟩ := Kd.R_slice HO378.out; subst eo47) | ((with_reducible refine gate_callee (f := 129) rfl ?_); refine gl 9 Try.func129 #[.slice Ao47 y376.length co47] ?_; (with_reducible refine (impl_areRats.calls k _ _ y376 false _ ?side1 ?side2 A3.out).mono ?_); (case side1 => repeat (first | exact (Kd.R_reads' HO378.out).2.2 | (with_reducible refine Kd.C_alloc ?_ _) | (with_reducible refine Kd.C_drewN ?_ _) | (with_reducible refine Kd.C_drew ?_))); (case side2 => exact (Kd.R_reads' HO378.out).2.1); rintro e w48 ⟨rfl, hb⟩; refine ⟨_, rfl, ?_⟩; replace HO378 := Aside0.mk (Kd.R_below (by (with_reducible repeat (first | apply Kd.R_alloc | apply Kd.R_drewN | apply Kd.R_drew)); exact HO378.out) hb); replace BK373 := kb BK373 hb; replace BK374 := kb BK374 hb; replace BK375 := kb BK375 hb; replace HB := kh hb; (try clear hb); (try clear hb2); (try clear hk); (try clear hi); obtain ⟨hcz49_0, hcz49_1, hfz49_0, hfz49_1⟩ := b2 BK375))
  refine bodyPost_ret (results_ct rfl _ _ gb375 53 #[.int .i64 0, .int .i64 0] (0, 0) _ rfl (by (with_reducible repeat (first | refine blk_drewN ?_ _ | refine blk_drew ?_ | refine blk_alloc ?_ _)); refine blk_put (cs := #[.int .i64 0, .int .i64 0]) ?_ 1 _ rfl; (with_reducible repeat (first | refine blk_drewN ?_ _ | refine blk_drew ?_ | refine blk_alloc ?_ _)); refine blk_put (cs := #[.int .i64 0, .int .i64 0]) ?_ 0 _ rfl; (with_reducible repeat (first | refine blk_drewN ?_ _ | refine blk_drew ?_ | refine blk_alloc ?_ _)); exact BK375.out) Try.underlying53 rfl (by kernel_rfl)) rfl ?_
  exact ⟨rt, bl⟩

/-! ### impl_calc_div: function 139 -/
def impl_calc_div.f (k : Nat) (s0_0 : Bool) (a1_0 : Int) (a1_1 : Int) (a2_0 : Int) (a2_1 : Int) : Option (Int × Int × Bool) := (impl_DivideRats.f k a1_0 a1_1 a2_0 a2_1).bind fun bt386 => ((impl_calc_keep.f s0_0 bt386.1 bt386.2.1 bt386.2.2).bind fun bt389 => (some (bt389.1, bt389.2.1, bt389.2.2)))
set_option maxHeartbeats 8000000 in
set_option maxRecDepth 100000 in
theorem impl_calc_div.calls (k : Nat) (g : Nat) (s0_0 : Bool) (a1_0 : Int) (a1_1 : Int) (a2_0 : Int) (a2_1 : Int) (r1 : Int) (r2 : Int) (r3 : Bool) (w0 w : World) (hI : IsS103 w0 w g s0_0) (hB : Below w0.heap.size w0 w) (h : impl_calc_div.f k s0_0 a1_0 a1_1 a2_0 a2_1 = some (r1, r2, r3)) :
  Calls Try.prog 139 #[.pointer (some ⟨g, 0, none⟩), .agg #[.int .i64 a1_0, .int .i64 a1_1], .agg #[.int .i64 a2_0, .int .i64 a2_1]] w fun e w' => e = .returned (.agg #[.int .i64 r1, .int .i64 r2]) ∧ IsS103 w0 w' g r3 ∧ Below w0.heap.size w0 w' ∧ KeepBut w w' g none := by
 have hu53 := Try.underlying53
 have HI0 := Aside0.mk hI
 have HK := Aside0.mk (KeepBut.refl w g none)
 have HL := Aside0.mk hB.size
 clear hI
 have HW0 := Aside0.mk hB.size
 have HB := Aside0.mk hB
 clear hB
 have H : ((impl_DivideRats.f k a1_0 a1_1 a2_0 a2_1).bind fun bt386 => ((impl_calc_keep.f s0_0 bt386.1 bt386.2.1 bt386.2.2).bind fun bt389 => (some (bt389.1, bt389.2.1, bt389.2.2)))) = some (r1, r2, r3) := h
 clear h
 replace H := Option.bind_eq_some_iff.mp H
 obtain ⟨⟨t386, t387, t388⟩, A40, H⟩ := H
 replace H : ((impl_calc_keep.f s0_0 t386 t387 t388).bind fun bt389 => (some (bt389.1, bt389.2.1, bt389.2.2))) = some (r1, r2, r3) := H
 have A4 := Aside0.mk A40
 clear A40
 replace H := Option.bind_eq_some_iff.mp H
 obtain ⟨⟨t389, t390, t391⟩, A50, H⟩ := H
 replace H : (some (t389, t390, t391)) = some (r1, r2, r3) := H
 have A5 := Aside0.mk A50
 clear A50
 simp only [Option.some.injEq, Prod.mk.injEq] at H
 obtain ⟨rfl, rfl, rfl⟩ := H
 go_enter Try.func139, Try.ntmps139
 go_wp2_with (first | ((with_reducible refine gate_dst (N := 4) rfl ?_); refine bx 4 #[.int .i64 a1_0, .int .i64 a1_1] 53 ?_; intro gb383 hg w6 hbox hb; have BK383 := Aside0.mk (hbox); have GW383 := Aside0.mk ((by rw [hg]; exact (keep_size (w := w) (g := g) (row := none) (by repeat (first | (with_reducible first | exact HK.out | apply KeepBut.set_ | apply keep_drewN | apply keep_drew | apply keep_alloc) | exact HK.out))) : w.heap.size ≤ gb383)); have GE383 := Aside0.mk ((Nat.le_trans HW0.out GW383.out : w0.heap.size ≤ gb383)); have NB0_383 := Aside0.mk ((by rw [hg]; exact Nat.ne_of_lt (IsS103.lt (show IsS103 w0 _ g s0_0 from by repeat (first | (with_reducible first | exact HI0.out | apply IsS103.alloc | apply IsS103.drewN | apply IsS103.drew | apply IsS103.set_0) | exact HI0.out))) : g ≠ gb383)); have NB383_0 := sy NB0_383; replace HK := Aside0.mk (KeepBut.trans (by repeat (first | (with_reducible first | exact HK.out | apply KeepBut.set_ | apply keep_drewN | apply keep_drew | apply keep_alloc) | exact HK.out)) (KeepBut.of_below hb g none) (.inl rfl)); replace HB := Aside0.mk (below_step (by repeat (first | (with_reducible first | exact HB.out | apply below_alloc | apply pw_below_drewN | apply below_drew1 | refine below_set ?_ (IsS103.ge HI0.out)) | exact HB.out)) hb); replace HI0 := Aside0.mk (IsS103.below (by repeat (first | (with_reducible first | exact HI0.out | apply IsS103.alloc | apply IsS103.drewN | apply IsS103.drew | apply IsS103.set_0) | exact HI0.out)) hb); clear hb hbox hg) | ((with_reducible refine gate_dst (N := 5) rfl ?_); refine bx 5 #[.int .i64 a2_0, .int .i64 a2_1] 53 ?_; intro gb384 hg w7 hbox hb; have BK384 := Aside0.mk (hbox); have GW384 := Aside0.mk ((by rw [hg]; exact (keep_size (w := w) (g := g) (row := none) (by repeat (first | (with_reducible first | exact HK.out | apply KeepBut.set_ | apply keep_drewN | apply keep_drew | apply keep_alloc | refine keep_far ?_ GW383.out _) | exact HK.out))) : w.heap.size ≤ gb384)); have GE384 := Aside0.mk ((Nat.le_trans HW0.out GW384.out : w0.heap.size ≤ gb384)); have NB383_384 := Aside0.mk (bn gb383 hg); have NB384_383 := sy NB383_384; have NB0_384 := Aside0.mk ((by rw [hg]; exact Nat.ne_of_lt (IsS103.lt (show IsS103 w0 _ g s0_0 from by repeat (first | (with_reducible first | exact HI0.out | apply IsS103.alloc | apply IsS103.drewN | apply IsS103.drew | apply IsS103.set_0 | refine IsS103.far ?_ NB0_383.out _) | exact HI0.out))) : g ≠ gb384)); have NB384_0 := sy NB0_384; replace BK383 := kb BK383 hb; replace HK := Aside0.mk (KeepBut.trans (by repeat (first | (with_reducible first | exact HK.out | apply KeepBut.set_ | apply keep_drewN | apply keep_drew | apply keep_alloc | refine keep_far ?_ GW383.out _) | exact HK.out)) (KeepBut.of_below hb g none) (.inl rfl)); replace HB := Aside0.mk (below_step (by repeat (first | (with_reducible first | exact HB.out | apply below_alloc | apply pw_below_drewN | apply below_drew1 | refine below_set ?_ (IsS103.ge HI0.out) | refine below_set ?_ GE383.out) | exact HB.out)) hb); replace HI0 := Aside0.mk (IsS103.below (by repeat (first | (with_reducible first | exact HI0.out | apply IsS103.alloc | apply IsS103.drewN | apply IsS103.drew | apply IsS103.set_0 | refine IsS103.far ?_ NB0_383.out _) | exact HI0.out)) hb); clear hb hbox hg) | ((with_reducible refine gate_dst (N := 6) rfl ?_); refine bx 6 #[.int .i64 0, .int .i64 0] 53 ?_; intro gb385 hg w8 hbox hb; have BK385 := Aside0.mk (hbox); have GW385 := Aside0.mk ((by rw [hg]; exact (keep_size (w := w) (g := g) (row := none) (by repeat (first | (with_reducible first | exact HK.out | apply KeepBut.set_ | apply keep_drewN | apply keep_drew | apply keep_alloc | refine keep_far ?_ GW383.out _ | refine keep_far ?_ GW384.out _) | exact HK.out))) : w.heap.size ≤ gb385)); have GE385 := Aside0.mk ((Nat.le_trans HW0.out GW385.out : w0.heap.size ≤ gb385)); have NB383_385 := Aside0.mk (bn gb383 hg); have NB385_383 := sy NB383_385; have NB384_385 := Aside0.mk (bn gb384 hg); have NB385_384 := sy NB384_385; have NB0_385 := Aside0.mk ((by rw [hg]; exact Nat.ne_of_lt (IsS103.lt (show IsS103 w0 _ g s0_0 from by repeat (first | (with_reducible first | exact HI0.out | apply IsS103.alloc | apply IsS103.drewN | apply IsS103.drew | apply IsS103.set_0 | refine IsS103.far ?_ NB0_383.out _ | refine IsS103.far ?_ NB0_384.out _) | exact HI0.out))) : g ≠ gb385)); have NB385_0 := sy NB0_385; replace BK383 := kb BK383 hb; replace BK384 := kb BK384 hb; replace HK := Aside0.mk (KeepBut.trans (by repeat (first | (with_reducible first | exact HK.out | apply KeepBut.set_ | apply keep_drewN | apply keep_drew | apply keep_alloc | refine keep_far ?_ GW383.out _ | refine keep_far ?_ GW384.out _) | exact HK.out)) (KeepBut.of_below hb g none) (.inl rfl)); replace HB := Aside0.mk (below_step (by repeat (first | (with_reducible first | exact HB.out | apply below_alloc | apply pw_below_drewN | apply below_drew1 | refine below_set ?_ (IsS103.ge HI0.out) | refine below_set ?_ GE383.out | refine below_set ?_ GE384.out) | exact HB.out)) hb); replace HI0 := Aside0.mk (IsS103.below (by repeat (first | (with_reducible first | exact HI0.out | apply IsS103.alloc | apply IsS103.drewN | apply IsS103.drew | apply IsS103.set_0 | refine IsS103.far ?_ NB0_383.out _ | refine IsS103.far ?_ NB0_384.out _) | exact HI0.out)) hb); clear hb hbox hg; have hnb9 := NB383_384.out; have hnc9 := NB384_383.out; have hnb10 := NB383_385.out; have hnc10 := NB385_383.out; have hnb11 := NB383_0.out; have hnc11 := NB0_383.out; obtain ⟨hcz12_0, hcz12_1, hfz12_0, hfz12_1⟩ := b2 BK383; have hnb13 := NB384_385.out; have hnc13 := NB385_384.out; have hnb14 := NB384_0.out; have hnc14 := NB0_384.out; obtain ⟨hcz15_0, hcz15_1, hfz15_0, hfz15_1⟩ := b2 BK384) | ((with_reducible refine gate_callee (f := 144) rfl ?_); refine gl 10 Try.func144 #[.agg #[.int .i64 a1_0, .int .i64 a1_1], .agg #[.int .i64 a2_0, .int .i64 a2_1]] ?_; (with_reducible refine (impl_DivideRats.calls k a1_0 a1_1 a2_0 a2_1 t386 t387 t388 _ A4.out).mono ?_); rintro e w16 ⟨rfl, hb⟩; refine ⟨_, rfl, ?_⟩; replace BK383 := kb BK383 hb; replace BK384 := kb BK384 hb; replace BK385 := kb BK385 hb; replace HK := Aside0.mk (KeepBut.trans (by repeat (first | (with_reducible first | exact HK.out | apply KeepBut.set_ | apply keep_drewN | apply keep_drew | apply keep_alloc | refine keep_far ?_ GW383.out _ | refine keep_far ?_ GW384.out _ | refine keep_far ?_ GW385.out _) | exact HK.out)) (KeepBut.of_below hb g none) (.inl rfl)); replace HB := Aside0.mk (below_step (by repeat (first | (with_reducible first | exact HB.out | apply below_alloc | apply pw_below_drewN | apply below_drew1 | refine below_set ?_ (IsS103.ge HI0.out) | refine below_set ?_ GE383.out | refine below_set ?_ GE384.out | refine below_set ?_ GE385.out) | exact HB.out)) hb); replace HI0 := Aside0.mk (IsS103.below (by repeat (first | (with_reducible first | exact HI0.out | apply IsS103.alloc | apply IsS103.drewN | apply IsS103.drew | apply IsS103.set_0 | refine IsS103.far ?_ NB0_383.out _ | refine IsS103.far ?_ NB0_384.out _ | refine IsS103.far ?_ NB0_385.out _) | exact HI0.out)) hb); (try clear hb); (try clear hb2); (try clear hk); (try clear hi)) | ((with_reducible refine gate_callee (f := 117) rfl ?_); refine gl 13 Try.func117 #[.pointer (some ⟨g, 0, none⟩), .agg #[.int .i64 t386, .int .i64 t387], .bool t388] ?_; (with_reducible refine (impl_calc_keep.calls g s0_0 t386 t387 t388 t389 t390 t391 w0 _ ?side1 ?side2 A5.out).mono ?_); (case side1 => repeat (first | (with_reducible first | exact HI0.out | apply IsS103.alloc | apply IsS103.drewN | apply IsS103.drew | apply IsS103.set_0 | refine IsS103.far ?_ NB0_383.out _ | refine IsS103.far ?_ NB0_384.out _ | refine IsS103.far ?_ NB0_385.out _) | exact HI0.out)); (case side2 => repeat (first | (with_reducible first | exact HB.out | apply below_alloc | apply pw_below_drewN | apply below_drew1 | refine below_set ?_ (IsS103.ge HI0.out) | refine below_set ?_ GE383.out | refine below_set ?_ GE384.out | refine below_set ?_ GE385.out) | exact HB.out)); rintro e w17 ⟨rfl, hi, hb, hk⟩; refine ⟨_, rfl, ?_⟩; replace BK383 := Aside0.mk (KeepBut.blk hk (g' := gb383) (o := .cells #[.int .i64 a1_0, .int .i64 a1_1] 53 (0, 0)) (bo gb383) NB383_0.out (by simp)); replace BK384 := Aside0.mk (KeepBut.blk hk (g' := gb384) (o := .cells #[.int .i64 a2_0, .int .i64 a2_1] 53 (0, 0)) (bo gb384) NB384_0.out (by simp)); replace BK385 := Aside0.mk (KeepBut.blk hk (g' := gb385) (o := .cells #[.int .i64 0, .int .i64 0] 53 (0, 0)) (bo gb385) NB385_0.out (by simp)); replace HK := Aside0.mk (KeepBut.trans (by repeat (first | (with_reducible first | exact HK.out | apply KeepBut.set_ | apply keep_drewN | apply keep_drew | apply keep_alloc | refine keep_far ?_ GW383.out _ | refine keep_far ?_ GW384.out _ | refine keep_far ?_ GW385.out _) | exact HK.out)) hk (.inl rfl)); replace HB := Aside0.mk (hb); replace HI0 := Aside0.mk (hi); (try clear hb); (try clear hb2); (try clear hk); (try clear hi); have hnb18 := NB385_0.out; have hnc18 := NB0_385.out; obtain ⟨hcz19_0, hcz19_1, hfz19_0, hfz19_1⟩ := b2 BK385))
 refine bodyPost_ret (results_cell_row rfl _ _ gb385 53 #[.int .i64 t389, .int .i64 t390] (0, 0) _ rfl (by (with_reducible repeat (first | refine blk_drewN ?_ _ | refine blk_drew ?_ | refine blk_alloc ?_ _)); refine blk_put (cs := #[.int .i64 t389, .int .i64 0]) ?_ 1 _ rfl; (with_reducible repeat (first | refine blk_drewN ?_ _ | refine blk_drew ?_ | refine blk_alloc ?_ _)); refine blk_put (cs := #[.int .i64 0, .int .i64 0]) ?_ 0 _ rfl; (with_reducible repeat (first | refine blk_drewN ?_ _ | refine blk_drew ?_ | refine blk_alloc ?_ _)); exact BK385.out) Try.underlying53 rfl (by kernel_rfl)) rfl ?_
 exact ⟨rt, by repeat (first | (with_reducible first | exact HI0.out | apply IsS103.alloc | apply IsS103.drewN | apply IsS103.drew | apply IsS103.set_0 | refine IsS103.far ?_ NB0_383.out _ | refine IsS103.far ?_ NB0_384.out _ | refine IsS103.far ?_ NB0_385.out _) | exact HI0.out), by repeat (first | (with_reducible first | exact HB.out | apply below_alloc | apply pw_below_drewN | apply below_drew1 | refine below_set ?_ (IsS103.ge HI0.out) | refine below_set ?_ GE383.out | refine below_set ?_ GE384.out | refine below_set ?_ GE385.out) | exact HB.out), by repeat (first | (with_reducible first | exact HK.out | apply KeepBut.set_ | apply keep_drewN | apply keep_drew | apply keep_alloc | refine keep_far ?_ GW383.out _ | refine keep_far ?_ GW384.out _ | refine keep_far ?_ GW385.out _) | exact HK.out)⟩

/-! ### impl_AddRats: function 146 -/
def impl_AddRats.f (k : Nat) (a0_0 : Int) (a0_1 : Int) (a1_0 : Int) (a1_1 : Int) : Option (Int × Int × Bool) := (impl_areRats.f k (([(⟨a0_0, a0_1⟩ : S53), (⟨a1_0, a1_1⟩ : S53)] : List (S53)))).bind fun t398 => (if t398 = true then ((impl_lowest.f k (wrap64 ((wrap64 (a0_0 * a1_1)) + (wrap64 (a1_0 * a0_1)))) (wrap64 (a0_1 * a1_1))).bind fun bt399 => (some (bt399.1, bt399.2.1, bt399.2.2))) else (some (0, 0, false)))
set_option maxHeartbeats 8000000 in
set_option maxRecDepth 100000 in
theorem impl_AddRats.calls (k : Nat) (a0_0 : Int) (a0_1 : Int) (a1_0 : Int) (a1_1 : Int) (r1 : Int) (r2 : Int) (r3 : Bool) (w : World) (h : impl_AddRats.f k a0_0 a0_1 a1_0 a1_1 = some (r1, r2, r3)) :
  Calls Try.prog 146 #[.agg #[.int .i64 a0_0, .int .i64 a0_1], .agg #[.int .i64 a1_0, .int .i64 a1_1]] w fun e w' => e = .returned (.tuple #[.agg #[.int .i64 r1, .int .i64 r2], .bool r3]) ∧ Below w.heap.size w w' := by
 have hu53 := Try.underlying53
 have HB := Aside0.mk (Below.refl w.heap.size w)
 have H : ((impl_areRats.f k (([(⟨a0_0, a0_1⟩ : S53), (⟨a1_0, a1_1⟩ : S53)] : List (S53)))).bind fun t398 => (if t398 = true then ((impl_lowest.f k (wrap64 ((wrap64 (a0_0 * a1_1)) + (wrap64 (a1_0 * a0_1)))) (wrap64 (a0_1 * a1_1))).bind fun bt399 => (some (bt399.1, bt399.2.1, bt399.2.2))) else (some (0, 0, false)))) = some (r1, r2, r3) := h
 clear h
 obtain ⟨y395, hy395⟩ : ∃ y_ : List (S53), y_ = (([(⟨a0_0, a0_1⟩ : S53), (⟨a1_0, a1_1⟩ : S53)] : List (S53))) := ⟨_, rfl⟩
 replace H : ((impl_areRats.f k y395).bind fun t398 => (if t398 = true then ((impl_lowest.f k (wrap64 ((wrap64 (a0_0 * a1_1)) + (wrap64 (a1_0 * a0_1)))) (wrap64 (a0_1 * a1_1))).bind fun bt399 => (some (bt399.1, bt399.2.1, bt399.2.2))) else (some (0, 0, false)))) = some (r1, r2, r3) := by first | (rw [hy395]; with_reducible exact H) | (have H2_ := (Option.bind_some _ _).symm.trans H; rw [hy395]; with_reducible exact H2_) | (have H2_ := (Option.bind_some _ _).symm.trans H; with_reducible exact H2_) | with_reducible exact H | (rw [hy395]; exact H) | exact H
 have Ny395 := Aside0.mk hy395
 clear hy395
 replace H := Option.bind_eq_some_iff.mp H
 obtain ⟨t398, A30, H⟩ := H
 replace H : (if t398 = true then ((impl_lowest.f k (wrap64 ((wrap64 (a0_0 * a1_1)) + (wrap64 (a1_0 * a0_1)))) (wrap64 (a0_1 * a1_1))).bind fun bt399 => (some (bt399.1, bt399.2.1, bt399.2.2))) else (some (0, 0, false))) = some (r1, r2, r3) := H
 have A3 := Aside0.mk A30
 clear A30
 by_cases c4 : t398 = true
 ·subst c4
  have H1 : ((impl_lowest.f k (wrap64 ((wrap64 (a0_0 * a1_1)) + (wrap64 (a1_0 * a0_1)))) (wrap64 (a0_1 * a1_1))).bind fun bt399 => (some (bt399.1, bt399.2.1, bt399.2.2))) = some (r1, r2, r3) := by rw [if_pos rfl] at H; exact H
  clear H
  have H := H1
  clear H1
  replace H := Option.bind_eq_some_iff.mp H
  obtain ⟨⟨t399, t400, t401⟩, A50, H⟩ := H
  replace H : (some (t399, t400, t401)) = some (r1, r2, r3) := H
  have A5 := Aside0.mk A50
  clear A50
  simp only [Option.some.injEq, Prod.mk.injEq] at H
  obtain ⟨rfl, rfl, rfl⟩ := H
  go_enter Try.func146, Try.ntmps146
  go_wp2_with (first | ((with_reducible refine gate_dst (N := 2) rfl ?_); refine bx 2 #[.int .i64 a0_0, .int .i64 a0_1] 53 ?_; intro gb392 hg w6 hbox hb; have BK392 := Aside0.mk (hbox); have GW392 := Aside0.mk (bz hg); have GE392 := GW392; replace HB := kh hb; clear hb hbox hg) | ((with_reducible refine gate_dst (N := 3) rfl ?_); refine bx 3 #[.int .i64 a1_0, .int .i64 a1_1] 53 ?_; intro gb393 hg w7 hbox hb; have BK393 := Aside0.mk (hbox); have GW393 := Aside0.mk (bz hg); have GE393 := GW393; have NB392_393 := Aside0.mk (bn gb392 hg); have NB393_392 := sy NB392_393; replace BK392 := kb BK392 hb; replace HB := kh hb; clear hb hbox hg) | ((with_reducible refine gate_dst (N := 4) rfl ?_); refine bx 4 #[.int .i64 0, .int .i64 0] 53 ?_; intro gb394 hg w8 hbox hb; have BK394 := Aside0.mk (hbox); have GW394 := Aside0.mk (bz hg); have GE394 := GW394; have NB392_394 := Aside0.mk (bn gb392 hg); have NB394_392 := sy NB392_394; have NB393_394 := Aside0.mk (bn gb393 hg); have NB394_393 := sy NB393_394; replace BK392 := kb BK392 hb; replace BK393 := kb BK393 hb; replace HB := kh hb; clear hb hbox hg; have hnb9 := NB392_393.out; have hnc9 := NB393_392.out; have hnb10 := NB392_394.out; have hnc10 := NB394_392.out; obtain ⟨hcz11_0, hcz11_1, hfz11_0, hfz11_1⟩ := b2 BK392; have hnb12 := NB393_394.out; have hnc12 := NB394_393.out; obtain ⟨hcz13_0, hcz13_1, hfz13_0, hfz13_1⟩ := b2 BK393) | ((with_reducible refine gate_dst (N := 8) rfl ?_); refine Kd.R_lit k53 _ 53 ?hg (N := 8) ?hd (xs := ([(⟨a0_0, a0_1⟩ : S53), (⟨a1_0, a1_1⟩ : S53)] : List (S53))) (inner := [.int .i64 a0_0, .int .i64 a0_1, .int .i64 a1_0, .int .i64 a1_1]) (ok := fun _ => True) (okp := fun _ => True) ?hr ?hp (fun _ hk => hk) trivial (Below.refl _ _) (Nat.le_refl _) (by simp) ?_; (case hd => rfl); (case hg => rfl); (case hr => first | (go_simp; done) | (go_simp; rfl)); (case hp => exact (Reps.c2 (show Kd.M k53 _ _ _ (⟨a0_0, a0_1⟩ : S53) [.int .i64 a0_0, .int .i64 a0_1] from (k53_mkM _ _ _ (⟨a0_0, a0_1⟩ : S53) )) (Reps.c2 (show Kd.M k53 _ _ _ (⟨a1_0, a1_1⟩ : S53) [.int .i64 a1_0, .int .i64 a1_1] from (k53_mkM _ _ _ (⟨a1_0, a1_1⟩ : S53) )) (Reps.none _ _)))); intro v396 w14 ho15 hb hg_ hnew_; clear hg_ hnew_; (first | rw [← Ny395.out] at ho15 | (simp only [Int.reduceToNat] at ho15; rw [← Ny395.out] at ho15)); have HO397 := Aside0.mk (Kd.R_lower (Kd.R_newB (Kd.R_newB (Kd.R_newB ho15 (g := gb392) (o := .cells #[.int .i64 a0_0, .int .i64 a0_1] 53 (0, 0)) (bo gb392)) (g := gb393) (o := .cells #[.int .i64 a1_0, .int .i64 a1_1] 53 (0, 0)) (bo gb393)) (g := gb394) (o := .cells #[.int .i64 0, .int .i64 0] 53 (0, 0)) (bo gb394)) (below_size bl)); replace BK392 := kb BK392 hb; replace BK393 := kb BK393 hb; replace BK394 := kb BK394 hb; replace HB := kh hb; clear hb ho15; obtain ⟨Ao16, co16, eo16⟩ := Kd.R_slice HO397.out; subst eo16) | ((with_reducible refine gate_callee (f := 129) rfl ?_); refine gl 9 Try.func129 #[.slice Ao16 y395.length co16] ?_; (with_reducible refine (impl_areRats.calls k _ _ y395 true _ ?side1 ?side2 A3.out).mono ?_); (case side1 => repeat (first | exact (Kd.R_reads' HO397.out).2.2 | (with_reducible refine Kd.C_alloc ?_ _) | (with_reducible refine Kd.C_drewN ?_ _) | (with_reducible refine Kd.C_drew ?_))); (case side2 => exact (Kd.R_reads' HO397.out).2.1); rintro e w17 ⟨rfl, hb⟩; refine ⟨_, rfl, ?_⟩; replace HO397 := Aside0.mk (Kd.R_below (by (with_reducible repeat (first | apply Kd.R_alloc | apply Kd.R_drewN | apply Kd.R_drew)); exact HO397.out) hb); replace BK392 := kb BK392 hb; replace BK393 := kb BK393 hb; replace BK394 := kb BK394 hb; replace HB := kh hb; (try clear hb); (try clear hb2); (try clear hk); (try clear hi); obtain ⟨hcz18_0, hcz18_1, hfz18_0, hfz18_1⟩ := b2 BK392; obtain ⟨hcz19_0, hcz19_1, hfz19_0, hfz19_1⟩ := b2 BK393) | ((with_reducible refine gate_callee (f := 130) rfl ?_); refine gl 28 Try.func130 #[.int .i64 (wrap64 ((wrap64 (a0_0 * a1_1)) + (wrap64 (a1_0 * a0_1)))), .int .i64 (wrap64 (a0_1 * a1_1))] ?_; (with_reducible refine (impl_lowest.calls k (wrap64 ((wrap64 (a0_0 * a1_1)) + (wrap64 (a1_0 * a0_1)))) (wrap64 (a0_1 * a1_1)) t399 t400 t401 _ A5.out).mono ?_); rintro e w20 ⟨rfl, hb⟩; refine ⟨_, rfl, ?_⟩; replace HO397 := Aside0.mk (Kd.R_below (by (with_reducible repeat (first | apply Kd.R_alloc | apply Kd.R_drewN | apply Kd.R_drew)); exact HO397.out) hb); replace BK392 := kb BK392 hb; replace BK393 := kb BK393 hb; replace BK394 := kb BK394 hb; replace HB := kh hb; (try clear hb); (try clear hb2); (try clear hk); (try clear hi); obtain ⟨hcz21_0, hcz21_1, hfz21_0, hfz21_1⟩ := b2 BK394))
  refine bodyPost_ret (results_ct rfl _ _ gb394 53 #[.int .i64 t399, .int .i64 t400] (0, 0) _ rfl (by (with_reducible repeat (first | refine blk_drewN ?_ _ | refine blk_drew ?_ | refine blk_alloc ?_ _)); refine blk_put (cs := #[.int .i64 t399, .int .i64 0]) ?_ 1 _ rfl; (with_reducible repeat (first | refine blk_drewN ?_ _ | refine blk_drew ?_ | refine blk_alloc ?_ _)); refine blk_put (cs := #[.int .i64 0, .int .i64 0]) ?_ 0 _ rfl; (with_reducible repeat (first | refine blk_drewN ?_ _ | refine blk_drew ?_ | refine blk_alloc ?_ _)); exact BK394.out) Try.underlying53 rfl (by kernel_rfl)) rfl ?_
  exact ⟨rt, bl⟩
 ·replace c4 := Bool.eq_false_iff.mpr c4
  subst c4
  have H1 : (some (0, 0, false)) = some (r1, r2, r3) := by rw [if_neg (show ¬ (false = true) by decide)] at H; exact H
  clear H
  have H := H1
  clear H1
  simp only [Option.some.injEq, Prod.mk.injEq] at H
  obtain ⟨rfl, rfl, rfl⟩ := H
  go_enter Try.func146, Try.ntmps146
  go_wp2_with (first | ((with_reducible refine gate_dst (N := 2) rfl ?_); refine bx 2 #[.int .i64 a0_0, .int .i64 a0_1] 53 ?_; intro gb392 hg w22 hbox hb; have BK392 := Aside0.mk (hbox); have GW392 := Aside0.mk (bz hg); have GE392 := GW392; replace HB := kh hb; clear hb hbox hg) | ((with_reducible refine gate_dst (N := 3) rfl ?_); refine bx 3 #[.int .i64 a1_0, .int .i64 a1_1] 53 ?_; intro gb393 hg w23 hbox hb; have BK393 := Aside0.mk (hbox); have GW393 := Aside0.mk (bz hg); have GE393 := GW393; have NB392_393 := Aside0.mk (bn gb392 hg); have NB393_392 := sy NB392_393; replace BK392 := kb BK392 hb; replace HB := kh hb; clear hb hbox hg) | ((with_reducible refine gate_dst (N := 4) rfl ?_); refine bx 4 #[.int .i64 0, .int .i64 0] 53 ?_; intro gb394 hg w24 hbox hb; have BK394 := Aside0.mk (hbox); have GW394 := Aside0.mk (bz hg); have GE394 := GW394; have NB392_394 := Aside0.mk (bn gb392 hg); have NB394_392 := sy NB392_394; have NB393_394 := Aside0.mk (bn gb393 hg); have NB394_393 := sy NB393_394; replace BK392 := kb BK392 hb; replace BK393 := kb BK393 hb; replace HB := kh hb; clear hb hbox hg; have hnb25 := NB392_393.out; have hnc25 := NB393_392.out; have hnb26 := NB392_394.out; have hnc26 := NB394_392.out; obtain ⟨hcz27_0, hcz27_1, hfz27_0, hfz27_1⟩ := b2 BK392; have hnb28 := NB393_394.out; have hnc28 := NB394_393.out; obtain ⟨hcz29_0, hcz29_1, hfz29_0, hfz29_1⟩ := b2 BK393) | ((with_reducible refine gate_dst (N := 8) rfl ?_); refine Kd.R_lit k53 _ 53 ?hg (N := 8) ?hd (xs := ([(⟨a0_0, a0_1⟩ : S53), (⟨a1_0, a1_1⟩ : S53)] : List (S53))) (inner := [.int .i64 a0_0, .int .i64 a0_1, .int .i64 a1_0, .int .i64 a1_1]) (ok := fun _ => True) (okp := fun _ => True) ?hr ?hp (fun _ hk => hk) trivial (Below.refl _ _) (Nat.le_refl _) (by simp) ?_; (case hd => rfl); (case hg => rfl); (case hr => first | (go_simp; done) | (go_simp; rfl)); (case hp => exact (Reps.c2 (show Kd.M k53 _ _ _ (⟨a0_0, a0_1⟩ : S53) [.int .i64 a0_0, .int .i64 a0_1] from (k53_mkM _ _ _ (⟨a0_0, a0_1⟩ : S53) )) (Reps.c2 (show Kd.M k53 _ _ _ (⟨a1_0, a1_1⟩ : S53) [.int .i64 a1_0, .int .i64 a1_1] from (k53_mkM _ _ _ (⟨a1_0, a1_1⟩ : S53) )) (Reps.none _ _)))); intro v396 w30 ho31 hb hg_ hnew_; clear hg_ hnew_; (first | rw [← Ny395.out] at ho31 | (simp only [Int.reduceToNat] at ho31; rw [← Ny395.out] at ho31)); have HO397 := Aside0.mk (Kd.R_lower (Kd.R_newB (Kd.R_newB (Kd.R_newB ho31 (g := gb392) (o := .cells #[.int .i64 a0_0, .int .i64 a0_1] 53 (0, 0)) (bo gb392)) (g := gb393) (o := .cells #[.int .i64 a1_0, .int .i64 a1_1] 53 (0, 0)) (bo gb393)) (g := gb394) (o := .cells #[.int .i64 0, .int .i64 0] 53 (0, 0)) (bo gb394)) (below_size bl)); replace BK392 := kb BK392 hb; replace BK393 := kb BK393 hb; replace BK394 := kb BK394 hb; replace HB := kh hb; clear hb ho31; obtain ⟨Ao32, co32, eo32⟩ := Kd.R_slice HO397.out; subst eo32) | ((with_reducible refine gate_callee (f := 129) rfl ?_); refine gl 9 Try.func129 #[.slice Ao32 y395.length co32] ?_; (with_reducible refine (impl_areRats.calls k _ _ y395 false _ ?side1 ?side2 A3.out).mono ?_); (case side1 => repeat (first | exact (Kd.R_reads' HO397.out).2.2 | (with_reducible refine Kd.C_alloc ?_ _) | (with_reducible refine Kd.C_drewN ?_ _) | (with_reducible refine Kd.C_drew ?_))); (case side2 => exact (Kd.R_reads' HO397.out).2.1); rintro e w33 ⟨rfl, hb⟩; refine ⟨_, rfl, ?_⟩; replace HO397 := Aside0.mk (Kd.R_below (by (with_reducible repeat (first | apply Kd.R_alloc | apply Kd.R_drewN | apply Kd.R_drew)); exact HO397.out) hb); replace BK392 := kb BK392 hb; replace BK393 := kb BK393 hb; replace BK394 := kb BK394 hb; replace HB := kh hb; (try clear hb); (try clear hb2); (try clear hk); (try clear hi); obtain ⟨hcz34_0, hcz34_1, hfz34_0, hfz34_1⟩ := b2 BK394))
  refine bodyPost_ret (results_ct rfl _ _ gb394 53 #[.int .i64 0, .int .i64 0] (0, 0) _ rfl (by (with_reducible repeat (first | refine blk_drewN ?_ _ | refine blk_drew ?_ | refine blk_alloc ?_ _)); refine blk_put (cs := #[.int .i64 0, .int .i64 0]) ?_ 1 _ rfl; (with_reducible repeat (first | refine blk_drewN ?_ _ | refine blk_drew ?_ | refine blk_alloc ?_ _)); refine blk_put (cs := #[.int .i64 0, .int .i64 0]) ?_ 0 _ rfl; (with_reducible repeat (first | refine blk_drewN ?_ _ | refine blk_drew ?_ | refine blk_alloc ?_ _)); exact BK394.out) Try.underlying53 rfl (by kernel_rfl)) rfl ?_
  exact ⟨rt, bl⟩

/-! ### impl_negated: function 147 -/
def impl_negated.f (a0_0 : Int) (a0_1 : Int) : Option (Int × Int) := some (wrap64 (-a0_0), a0_1)
set_option maxHeartbeats 8000000 in
set_option maxRecDepth 100000 in
theorem impl_negated.calls (a0_0 : Int) (a0_1 : Int) (r1 : Int) (r2 : Int) (w : World) (h : impl_negated.f a0_0 a0_1 = some (r1, r2)) :
  Calls Try.prog 147 #[.agg #[.int .i64 a0_0, .int .i64 a0_1]] w fun e w' => e = .returned (.agg #[.int .i64 r1, .int .i64 r2]) ∧ Below w.heap.size w w' := by
 have hu53 := Try.underlying53
 have HB := Aside0.mk (Below.refl w.heap.size w)
 have H : (some (wrap64 (-a0_0), a0_1)) = some (r1, r2) := h
 clear h
 simp only [Option.some.injEq, Prod.mk.injEq] at H
 obtain ⟨rfl, rfl⟩ := H
 go_enter Try.func147, Try.ntmps147
 go_wp2_with (first | ((with_reducible refine gate_dst (N := 1) rfl ?_); refine bx 1 #[.int .i64 a0_0, .int .i64 a0_1] 53 ?_; intro gb402 hg w2 hbox hb; have BK402 := Aside0.mk (hbox); have GW402 := Aside0.mk (bz hg); have GE402 := GW402; replace HB := kh hb; clear hb hbox hg) | ((with_reducible refine gate_dst (N := 2) rfl ?_); refine bx 2 #[.int .i64 0, .int .i64 0] 53 ?_; intro gb403 hg w3 hbox hb; have BK403 := Aside0.mk (hbox); have GW403 := Aside0.mk (bz hg); have GE403 := GW403; have NB402_403 := Aside0.mk (bn gb402 hg); have NB403_402 := sy NB402_403; replace BK402 := kb BK402 hb; replace HB := kh hb; clear hb hbox hg; have hnb4 := NB402_403.out; have hnc4 := NB403_402.out; obtain ⟨hcz5_0, hcz5_1, hfz5_0, hfz5_1⟩ := b2 BK402; obtain ⟨hcz6_0, hcz6_1, hfz6_0, hfz6_1⟩ := b2 BK403))
 refine bodyPost_ret (results_cell_row rfl _ _ gb403 53 #[.int .i64 (wrap64 (-a0_0)), .int .i64 a0_1] (0, 0) _ rfl (by (with_reducible repeat (first | refine blk_drewN ?_ _ | refine blk_drew ?_ | refine blk_alloc ?_ _)); refine blk_put (cs := #[.int .i64 (wrap64 (-a0_0)), .int .i64 0]) ?_ 1 _ rfl; (with_reducible repeat (first | refine blk_drewN ?_ _ | refine blk_drew ?_ | refine blk_alloc ?_ _)); refine blk_put (cs := #[.int .i64 0, .int .i64 0]) ?_ 0 _ rfl; (with_reducible repeat (first | refine blk_drewN ?_ _ | refine blk_drew ?_ | refine blk_alloc ?_ _)); exact BK403.out) Try.underlying53 rfl (by kernel_rfl)) rfl ?_
 exact ⟨rt, bl⟩

end Go.Proofs.Ytannadjfkaghjaa.PFnExactIsRepelling
