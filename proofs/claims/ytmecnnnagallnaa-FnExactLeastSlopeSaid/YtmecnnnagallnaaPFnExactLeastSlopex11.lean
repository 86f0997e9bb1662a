-- Written by this session's program wip/pp (the kit's print tool with additions) 35421559b90ae4d0a3588c463048766b98c2df88dd9212a6774a882060cdf62d
import Derived.Test.YtmecnnnagallnaaPFnExactLeastSlopex0
import Derived.Test.YtmecnnnagallnaaPFnExactLeastSlopex7
import Derived.Test.YtmecnnnagallnaaPFnExactLeastSlopex10
namespace Go.Proofs.Ytmecnnnagallnaa.PFnExactLeastSlope
open Go.RowKit Go.Proofs.YtmecnnnagallnaaW.PrintWords Go.Proofs.YtmecnnnagallnaaW.PrintLast Go.Proofs.YtmecnnnagallnaaW.PrintMore
attribute [local go_sem] max2_int min2_int max_two min_two max_three min_three max_four min_four   -- for this text's walks alone
set_option linter.unusedVariables false
set_option linter.unusedSimpArgs false

/-! ### impl_lowest: function 140 -/
def impl_lowest.f (k : Nat) (a0 : Int) (a1 : Int) : Option (Int × Int × Bool) := (impl_greatestDivisor.f k a0 a1).bind fun t282 => (if a1 < 0 then (if (wrap64 (-t282)) = 0 then (none) else ((impl_isRat.f k (wrap64 (Int.tdiv a0 (wrap64 (-t282)))) (wrap64 (Int.tdiv a1 (wrap64 (-t282))))).bind fun t284 => (if t284 = true then (some (wrap64 (Int.tdiv a0 (wrap64 (-t282))), wrap64 (Int.tdiv a1 (wrap64 (-t282))), true)) else (some (0, 0, false))))) else (if t282 = 0 then (none) else ((impl_isRat.f k (wrap64 (Int.tdiv a0 t282)) (wrap64 (Int.tdiv a1 t282))).bind fun t286 => (if t286 = true then (some (wrap64 (Int.tdiv a0 t282), wrap64 (Int.tdiv a1 t282), true)) else (some (0, 0, false))))))
def impl_lowest.T4 : Bool × List (List Nat × List Nat) := (true, [([], []), ([], []), ([0, 1], [0, 1]), ([], []), ([], []), ([3, 4], [3, 4]), ([2, 5], [2, 5]), ([], []), ([7, 6, 0, 1, 2, 3, 4, 5, 6, 7], [6, 7])])
def impl_lowest.B4 : List Nat := [0, 0, 3, 0, 0, 24, 63, 0, 255]
theorem impl_lowest.tab4 : rtab .any (opsOf Try.f140 4) = impl_lowest.T4 := by kernel_rfl
theorem impl_lowest.bits4 : waitsOk impl_lowest.T4.2 impl_lowest.B4 = true := by kernel_rfl
set_option maxHeartbeats 8000000 in
set_option maxRecDepth 100000 in
theorem impl_lowest.calls (k : Nat) (a0 : Int) (a1 : Int) (r1 : Int) (r2 : Int) (r3 : Bool) (w : World) (h : impl_lowest.f k a0 a1 = some (r1, r2, r3)) :
  Calls Try.prog 140 #[.int .i64 a0, .int .i64 a1] w fun e w' => e = .returned (.tuple #[.agg #[.int .i64 r1, .int .i64 r2], .bool r3]) ∧ Below w.heap.size w w' := by
 have hu28 := Try.underlying28
 have HB := Aside0.mk (Below.refl w.heap.size w)
 have H : ((impl_greatestDivisor.f k a0 a1).bind fun t282 => (if a1 < 0 then (if (wrap64 (-t282)) = 0 then (none) else ((impl_isRat.f k (wrap64 (Int.tdiv a0 (wrap64 (-t282)))) (wrap64 (Int.tdiv a1 (wrap64 (-t282))))).bind fun t284 => (if t284 = true then (some (wrap64 (Int.tdiv a0 (wrap64 (-t282))), wrap64 (Int.tdiv a1 (wrap64 (-t282))), true)) else (some (0, 0, false))))) else (if t282 = 0 then (none) else ((impl_isRat.f k (wrap64 (Int.tdiv a0 t282)) (wrap64 (Int.tdiv a1 t282))).bind fun t286 => (if t286 = true then (some (wrap64 (Int.tdiv a0 t282), wrap64 (Int.tdiv a1 t282), true)) else (some (0, 0, false))))))) = some (r1, r2, r3) := h
 clear h
 replace H := Option.bind_eq_some_iff.mp H
 obtain ⟨t282, A30, H⟩ := H
 replace H : (if a1 < 0 then (if (wrap64 (-t282)) = 0 then (none) else ((impl_isRat.f k (wrap64 (Int.tdiv a0 (wrap64 (-t282)))) (wrap64 (Int.tdiv a1 (wrap64 (-t282))))).bind fun t284 => (if t284 = true then (some (wrap64 (Int.tdiv a0 (wrap64 (-t282))), wrap64 (Int.tdiv a1 (wrap64 (-t282))), true)) else (some (0, 0, false))))) else (if t282 = 0 then (none) else ((impl_isRat.f k (wrap64 (Int.tdiv a0 t282)) (wrap64 (Int.tdiv a1 t282))).bind fun t286 => (if t286 = true then (some (wrap64 (Int.tdiv a0 t282), wrap64 (Int.tdiv a1 t282), true)) else (some (0, 0, false)))))) = some (r1, r2, r3) := H
 have A3 := Aside0.mk A30
 clear A30
 by_cases c4 : a1 < 0
 ·rw [if_pos c4] at H
  have c4b0 : decide (a1 < 0) = true := decide_eq_true c4
  clear c4
  by_cases c5 : (wrap64 (-t282)) = 0
  ·rw [if_pos c5] at H
   exact absurd H (by simp)
  ·rw [if_neg c5] at H
   have c5b0 : ((wrap64 (-t282)) == 0) = false := beq_eq_false_iff_ne.mpr c5
   have c5b1 : ((wrap64 (-t282)) != 0) = true := bne_iff_ne.mpr c5
   replace H := Option.bind_eq_some_iff.mp H
   obtain ⟨t284, A60, H⟩ := H
   replace H : (if t284 = true then (some (wrap64 (Int.tdiv a0 (wrap64 (-t282))), wrap64 (Int.tdiv a1 (wrap64 (-t282))), true)) else (some (0, 0, false))) = some (r1, r2, r3) := H
   have A6 := Aside0.mk A60
   clear A60
   by_cases c7 : t284 = true
   ·subst c7
    have H1 : (some (wrap64 (Int.tdiv a0 (wrap64 (-t282))), wrap64 (Int.tdiv a1 (wrap64 (-t282))), true)) = some (r1, r2, r3) := by rw [if_pos rfl] at H; exact H
    clear H
    have H := H1
    clear H1
    simp only [Option.some.injEq, Prod.mk.injEq] at H
    obtain ⟨rfl, rfl, rfl⟩ := H
    go_enter Try.func140, Try.ntmps140
    try go_wp2_with (first | ((with_reducible refine gate_dst (N := 4) rfl ?_); refine bx 4 #[.int .i64 0, .int .i64 0] 28 ?_; intro gb281 hg w8 hbox hb; have BK281 := Aside0.mk (hbox); have GW281 := Aside0.mk (bz hg); have GE281 := GW281; replace HB := Aside0.mk (bs hb); clear hb hbox hg) | ((with_reducible refine gate_callee (f := 136) rfl ?_); refine gl 10 Try.func136 #[.int .i64 a0, .int .i64 a1] ?_; (with_reducible refine (impl_greatestDivisor.calls k a0 a1 t282 _ A3.out).mono ?_); rintro e w' ⟨rfl, ⟨nd, rfl⟩⟩; refine ⟨_, rfl, ?_⟩; (try (rw [drewN_self w8]; generalize hq_ : World.drewN w8 _ = w8; have n0_ : Aside0 (w8.heap[gb281]? = some (.cells #[.int .i64 0, .int .i64 0] 28 (0, 0))) := ⟨by rw [← hq_]; exact (bo gb281)⟩; have n1_ : Aside0 (Below w.heap.size w w8) := ⟨by rw [← hq_]; exact bl⟩; clear BK281 HB hq_; have BK281 := n0_; have HB := n1_; clear n0_ n1_))))
    replace BK281 := Aside0.mk (blk_drew BK281.out)
    replace HB := Aside0.mk (below_drew1 HB.out)
    refine start_ (n := 9) (S := fun w' => True) (ds := []) (tb 0 9) (by kernel_rfl) rfl rfl trivial (fun hHeld => ?_); refine with_tabW impl_lowest.tab4 impl_lowest.bits4 (fun HT_ HW_ => ?_)
    generalize w8.drew = w9 at BK281 HB hHeld ⊢
    refine pu 0 15 (tb 1 8) ?_
    refine pu 1 16 (tb 2 7) ?_
    refine pu 2 17 (tb 3 6) ?_
    refine pu 3 18 (tb 4 5) ?_
    refine pu 4 19 (tb 5 4) ?_
    refine pu 5 20 (tb 6 3) ?_
    refine pu 6 21 (tb 7 2) ?_
    refine on 7 7 (tb 8 1) (fun K hK => ?_)
    refine box_step ?hg (N := 7) ?hd (cs := #[.int .i64 0, .int .i64 0]) (t := 28) ?hr ?_; (case hd => rfl); (case hg => rfl); (case hr => first | (go_simp; done) | (go_simp; rfl))
    intro gb283 hg w10 hbox hb
    have BK283 := Aside0.mk (hbox)
    have GW283 := Aside0.mk (bz hg)
    have GE283 := GW283
    have NB281_283 := Aside0.mk (bn gb281 hg)
    have NB283_281 := Aside0.mk NB281_283.out.symm
    replace BK281 := Aside0.mk (bb gb281 hb)
    replace HB := Aside0.mk (bs hb)
    clear hb hbox hg
    refine hK.out _ _ trivial (fun hHeld => ?_)
    clear hK K
    refine nm 7 ?_
    refine one_ (i := 8) (N := none) (tb 9 0) rfl rfl (one_of HT_.out (by kernel_rfl)) (by decide) (fun K hK => ?_)
    have hs11 : w10.cell? ⟨gb283, 0, none⟩ = some (.int .i64 0) := (blk_cell BK283.out 0).trans rfl
    have hfs11 := blk_frozen BK283.out 0
    have hns11_0 := NB281_283.out
    have hms11_0 := NB283_281.out
    have hs12 : w10.cell? ⟨gb283, 1, none⟩ = some (.int .i64 0) := (blk_cell BK283.out 1).trans rfl
    have hfs12 := blk_frozen BK283.out 1
    have hns12_0 := NB281_283.out
    have hms12_0 := NB283_281.out
    refine skip_ (w1 := ?_) (by rfl) rfl ?_ ?_
    rotate_left
    ·go_simp
     rfl
    refine hK.out _ _ trivial (fun hHeld => ?_)
    clear hK K
    refine done_ (done_of HT_.out (by kernel_rfl)) ?_
    have hnb13 := NB283_281.out
    have hnc13 := NB281_283.out
    have hcz14_0 : w10.cell? ⟨gb283, 0, none⟩ = some (.int .i64 0) := (blk_cell BK283.out 0).trans rfl
    have hcz14_1 : w10.cell? ⟨gb283, 1, none⟩ = some (.int .i64 0) := (blk_cell BK283.out 1).trans rfl
    have hfz14_0 := blk_frozen BK283.out 0
    have hfz14_1 := blk_frozen BK283.out 1
    try go_wp2_with (first | ((with_reducible refine gate_callee (f := 116) rfl ?_); refine gl 23 Try.func116 #[.agg #[.int .i64 (wrap64 (Int.tdiv a0 (wrap64 (-t282)))), .int .i64 (wrap64 (Int.tdiv a1 (wrap64 (-t282))))]] ?_; (with_reducible refine (impl_isRat.calls k (wrap64 (Int.tdiv a0 (wrap64 (-t282)))) (wrap64 (Int.tdiv a1 (wrap64 (-t282)))) true _ A6.out).mono ?_); rintro e w15 ⟨rfl, hb⟩; refine ⟨_, rfl, ?_⟩; replace BK281 := Aside0.mk (blk_below (g := gb281) (o := .cells #[.int .i64 0, .int .i64 0] 28 (0, 0)) (by (with_reducible repeat (first | refine blk_drewN ?_ _ | refine blk_drew ?_ | refine blk_alloc ?_ _)); refine blk_far ?_ NB281_283.out _; (with_reducible repeat (first | refine blk_drewN ?_ _ | refine blk_drew ?_ | refine blk_alloc ?_ _)); refine blk_far ?_ NB281_283.out _; (with_reducible repeat (first | refine blk_drewN ?_ _ | refine blk_drew ?_ | refine blk_alloc ?_ _)); exact BK281.out) hb); replace BK283 := Aside0.mk (blk_below (g := gb283) (o := .cells #[.int .i64 (wrap64 (Int.tdiv a0 (wrap64 (-t282)))), .int .i64 (wrap64 (Int.tdiv a1 (wrap64 (-t282))))] 28 (0, 0)) (by (with_reducible repeat (first | refine blk_drewN ?_ _ | refine blk_drew ?_ | refine blk_alloc ?_ _)); refine blk_put (cs := #[.int .i64 (wrap64 (Int.tdiv a0 (wrap64 (-t282)))), .int .i64 0]) ?_ 1 _ rfl; (with_reducible repeat (first | refine blk_drewN ?_ _ | refine blk_drew ?_ | refine blk_alloc ?_ _)); refine blk_put (cs := #[.int .i64 0, .int .i64 0]) ?_ 0 _ rfl; (with_reducible repeat (first | refine blk_drewN ?_ _ | refine blk_drew ?_ | refine blk_alloc ?_ _)); exact BK283.out) hb); replace HB := Aside0.mk (bs hb); (try clear hb); (try clear hb2); (try clear hk); (try clear hi); have hcz16_0 : w15.cell? ⟨gb283, 0, none⟩ = some (.int .i64 (wrap64 (Int.tdiv a0 (wrap64 (-t282))))) := (blk_cell BK283.out 0).trans rfl; have hcz16_1 : w15.cell? ⟨gb283, 1, none⟩ = some (.int .i64 (wrap64 (Int.tdiv a1 (wrap64 (-t282))))) := (blk_cell BK283.out 1).trans rfl; have hfz16_0 := blk_frozen BK283.out 0; have hfz16_1 := blk_frozen BK283.out 1; have hcz17_0 : w15.cell? ⟨gb281, 0, none⟩ = some (.int .i64 0) := (blk_cell BK281.out 0).trans rfl; have hcz17_1 : w15.cell? ⟨gb281, 1, none⟩ = some (.int .i64 0) := (blk_cell BK281.out 1).trans rfl; have hfz17_0 := blk_frozen BK281.out 0; have hfz17_1 := blk_frozen BK281.out 1))
    refine bodyPost_ret (results_ct rfl _ _ gb281 28 #[.int .i64 (wrap64 (Int.tdiv a0 (wrap64 (-t282)))), .int .i64 (wrap64 (Int.tdiv a1 (wrap64 (-t282))))] (0, 0) _ rfl (by (with_reducible repeat (first | refine blk_drewN ?_ _ | refine blk_drew ?_ | refine blk_alloc ?_ _)); refine blk_put (cs := #[.int .i64 (wrap64 (Int.tdiv a0 (wrap64 (-t282)))), .int .i64 0]) ?_ 1 _ rfl; (with_reducible repeat (first | refine blk_drewN ?_ _ | refine blk_drew ?_ | refine blk_alloc ?_ _)); refine blk_put (cs := #[.int .i64 0, .int .i64 0]) ?_ 0 _ rfl; (with_reducible repeat (first | refine blk_drewN ?_ _ | refine blk_drew ?_ | refine blk_alloc ?_ _)); exact BK281.out) Try.underlying28 rfl (by kernel_rfl)) rfl ?_
    exact ⟨by first | rfl | (simp [errW_none, errW_some] <;> rfl) | (simp [*, errW_none, errW_some] <;> rfl), bl⟩
   ·replace c7 := Bool.eq_false_iff.mpr c7
    subst c7
    have H1 : (some (0, 0, false)) = some (r1, r2, r3) := by rw [if_neg (show ¬ (false = true) by decide)] at H; exact H
    clear H
    have H := H1
    clear H1
    simp only [Option.some.injEq, Prod.mk.injEq] at H
    obtain ⟨rfl, rfl, rfl⟩ := H
    go_enter Try.func140, Try.ntmps140
    try go_wp2_with (first | ((with_reducible refine gate_dst (N := 4) rfl ?_); refine bx 4 #[.int .i64 0, .int .i64 0] 28 ?_; intro gb281 hg w18 hbox hb; have BK281 := Aside0.mk (hbox); have GW281 := Aside0.mk (bz hg); have GE281 := GW281; replace HB := Aside0.mk (bs hb); clear hb hbox hg) | ((with_reducible refine gate_callee (f := 136) rfl ?_); refine gl 10 Try.func136 #[.int .i64 a0, .int .i64 a1] ?_; (with_reducible refine (impl_greatestDivisor.calls k a0 a1 t282 _ A3.out).mono ?_); rintro e w' ⟨rfl, ⟨nd, rfl⟩⟩; refine ⟨_, rfl, ?_⟩; (try (rw [drewN_self w18]; generalize hq_ : World.drewN w18 _ = w18; have n0_ : Aside0 (w18.heap[gb281]? = some (.cells #[.int .i64 0, .int .i64 0] 28 (0, 0))) := ⟨by rw [← hq_]; exact (bo gb281)⟩; have n1_ : Aside0 (Below w.heap.size w w18) := ⟨by rw [← hq_]; exact bl⟩; clear BK281 HB hq_; have BK281 := n0_; have HB := n1_; clear n0_ n1_))))
    replace BK281 := Aside0.mk (blk_drew BK281.out)
    replace HB := Aside0.mk (below_drew1 HB.out)
    refine start_ (n := 9) (S := fun w' => True) (ds := []) (tb 0 9) (by kernel_rfl) rfl rfl trivial (fun hHeld => ?_); refine with_tabW impl_lowest.tab4 impl_lowest.bits4 (fun HT_ HW_ => ?_)
    generalize w18.drew = w19 at BK281 HB hHeld ⊢
    refine pu 0 15 (tb 1 8) ?_
    refine pu 1 16 (tb 2 7) ?_
    refine pu 2 17 (tb 3 6) ?_
    refine pu 3 18 (tb 4 5) ?_
    refine pu 4 19 (tb 5 4) ?_
    refine pu 5 20 (tb 6 3) ?_
    refine pu 6 21 (tb 7 2) ?_
    refine on 7 7 (tb 8 1) (fun K hK => ?_)
    refine box_step ?hg (N := 7) ?hd (cs := #[.int .i64 0, .int .i64 0]) (t := 28) ?hr ?_; (case hd => rfl); (case hg => rfl); (case hr => first | (go_simp; done) | (go_simp; rfl))
    intro gb283 hg w20 hbox hb
    have BK283 := Aside0.mk (hbox)
    have GW283 := Aside0.mk (bz hg)
    have GE283 := GW283
    have NB281_283 := Aside0.mk (bn gb281 hg)
    have NB283_281 := Aside0.mk NB281_283.out.symm
    replace BK281 := Aside0.mk (bb gb281 hb)
    replace HB := Aside0.mk (bs hb)
    clear hb hbox hg
    refine hK.out _ _ trivial (fun hHeld => ?_)
    clear hK K
    refine nm 7 ?_
    refine one_ (i := 8) (N := none) (tb 9 0) rfl rfl (one_of HT_.out (by kernel_rfl)) (by decide) (fun K hK => ?_)
    have hs21 : w20.cell? ⟨gb283, 0, none⟩ = some (.int .i64 0) := (blk_cell BK283.out 0).trans rfl
    have hfs21 := blk_frozen BK283.out 0
    have hns21_0 := NB281_283.out
    have hms21_0 := NB283_281.out
    have hs22 : w20.cell? ⟨gb283, 1, none⟩ = some (.int .i64 0) := (blk_cell BK283.out 1).trans rfl
    have hfs22 := blk_frozen BK283.out 1
    have hns22_0 := NB281_283.out
    have hms22_0 := NB283_281.out
    refine skip_ (w1 := ?_) (by rfl) rfl ?_ ?_
    rotate_left
    ·go_simp
     rfl
    refine hK.out _ _ trivial (fun hHeld => ?_)
    clear hK K
    refine done_ (done_of HT_.out (by kernel_rfl)) ?_
    have hnb23 := NB283_281.out
    have hnc23 := NB281_283.out
    have hcz24_0 : w20.cell? ⟨gb283, 0, none⟩ = some (.int .i64 0) := (blk_cell BK283.out 0).trans rfl
    have hcz24_1 : w20.cell? ⟨gb283, 1, none⟩ = some (.int .i64 0) := (blk_cell BK283.out 1).trans rfl
    have hfz24_0 := blk_frozen BK283.out 0
    have hfz24_1 := blk_frozen BK283.out 1
    try go_wp2_with (first | ((with_reducible refine gate_callee (f := 116) rfl ?_); refine gl 23 Try.func116 #[.agg #[.int .i64 (wrap64 (Int.tdiv a0 (wrap64 (-t282)))), .int .i64 (wrap64 (Int.tdiv a1 (wrap64 (-t282))))]] ?_; (with_reducible refine (impl_isRat.calls k (wrap64 (Int.tdiv a0 (wrap64 (-t282)))) (wrap64 (Int.tdiv a1 (wrap64 (-t282)))) false _ A6.out).mono ?_); rintro e w25 ⟨rfl, hb⟩; refine ⟨_, rfl, ?_⟩; replace BK281 := Aside0.mk (blk_below (g := gb281) (o := .cells #[.int .i64 0, .int .i64 0] 28 (0, 0)) (by (with_reducible repeat (first | refine blk_drewN ?_ _ | refine blk_drew ?_ | refine blk_alloc ?_ _)); refine blk_far ?_ NB281_283.out _; (with_reducible repeat (first | refine blk_drewN ?_ _ | refine blk_drew ?_ | refine blk_alloc ?_ _)); refine blk_far ?_ NB281_283.out _; (with_reducible repeat (first | refine blk_drewN ?_ _ | refine blk_drew ?_ | refine blk_alloc ?_ _)); exact BK281.out) hb); replace BK283 := Aside0.mk (blk_below (g := gb283) (o := .cells #[.int .i64 (wrap64 (Int.tdiv a0 (wrap64 (-t282)))), .int .i64 (wrap64 (Int.tdiv a1 (wrap64 (-t282))))] 28 (0, 0)) (by (with_reducible repeat (first | refine blk_drewN ?_ _ | refine blk_drew ?_ | refine blk_alloc ?_ _)); refine blk_put (cs := #[.int .i64 (wrap64 (Int.tdiv a0 (wrap64 (-t282)))), .int .i64 0]) ?_ 1 _ rfl; (with_reducible repeat (first | refine blk_drewN ?_ _ | refine blk_drew ?_ | refine blk_alloc ?_ _)); refine blk_put (cs := #[.int .i64 0, .int .i64 0]) ?_ 0 _ rfl; (with_reducible repeat (first | refine blk_drewN ?_ _ | refine blk_drew ?_ | refine blk_alloc ?_ _)); exact BK283.out) hb); replace HB := Aside0.mk (bs hb); (try clear hb); (try clear hb2); (try clear hk); (try clear hi); have hcz26_0 : w25.cell? ⟨gb281, 0, none⟩ = some (.int .i64 0) := (blk_cell BK281.out 0).trans rfl; have hcz26_1 : w25.cell? ⟨gb281, 1, none⟩ = some (.int .i64 0) := (blk_cell BK281.out 1).trans rfl; have hfz26_0 := blk_frozen BK281.out 0; have hfz26_1 := blk_frozen BK281.out 1))
    refine bodyPost_ret (results_ct rfl _ _ gb281 28 #[.int .i64 0, .int .i64 0] (0, 0) _ rfl (by (with_reducible repeat (first | refine blk_drewN ?_ _ | refine blk_drew ?_ | refine blk_alloc ?_ _)); refine blk_put (cs := #[.int .i64 0, .int .i64 0]) ?_ 1 _ rfl; (with_reducible repeat (first | refine blk_drewN ?_ _ | refine blk_drew ?_ | refine blk_alloc ?_ _)); refine blk_put (cs := #[.int .i64 0, .int .i64 0]) ?_ 0 _ rfl; (with_reducible repeat (first | refine blk_drewN ?_ _ | refine blk_drew ?_ | refine blk_alloc ?_ _)); exact BK281.out) Try.underlying28 rfl (by kernel_rfl)) rfl ?_
    exact ⟨by first | rfl | (simp [errW_none, errW_some] <;> rfl) | (simp [*, errW_none, errW_some] <;> rfl), bl⟩
 ·rw [if_neg c4] at H
  have c4b0 : decide (a1 < 0) = false := decide_eq_false c4
  clear c4
  by_cases c27 : t282 = 0
  ·rw [if_pos c27] at H
   exact absurd H (by simp)
  ·rw [if_neg c27] at H
   have c27b0 : (t282 == 0) = false := beq_eq_false_iff_ne.mpr c27
   have c27b1 : (t282 != 0) = true := bne_iff_ne.mpr c27
   replace H := Option.bind_eq_some_iff.mp H
   obtain ⟨t286, A280, H⟩ := H
   replace H : (if t286 = true then (some (wrap64 (Int.tdiv a0 t282), wrap64 (Int.tdiv a1 t282), true)) else (some (0, 0, false))) = some (r1, r2, r3) := H
   have A28 := Aside0.mk A280
   clear A280
   by_cases c29 : t286 = true
   ·subst c29
    have H1 : (some (wrap64 (Int.tdiv a0 t282), wrap64 (Int.tdiv a1 t282), true)) = some (r1, r2, r3) := by rw [if_pos rfl] at H; exact H
    clear H
    have H := H1
    clear H1
    simp only [Option.some.injEq, Prod.mk.injEq] at H
    obtain ⟨rfl, rfl, rfl⟩ := H
    go_enter Try.func140, Try.ntmps140
    try go_wp2_with (first | ((with_reducible refine gate_dst (N := 4) rfl ?_); refine bx 4 #[.int .i64 0, .int .i64 0] 28 ?_; intro gb281 hg w30 hbox hb; have BK281 := Aside0.mk (hbox); have GW281 := Aside0.mk (bz hg); have GE281 := GW281; replace HB := Aside0.mk (bs hb); clear hb hbox hg) | ((with_reducible refine gate_callee (f := 136) rfl ?_); refine gl 10 Try.func136 #[.int .i64 a0, .int .i64 a1] ?_; (with_reducible refine (impl_greatestDivisor.calls k a0 a1 t282 _ A3.out).mono ?_); rintro e w' ⟨rfl, ⟨nd, rfl⟩⟩; refine ⟨_, rfl, ?_⟩; (try (rw [drewN_self w30]; generalize hq_ : World.drewN w30 _ = w30; have n0_ : Aside0 (w30.heap[gb281]? = some (.cells #[.int .i64 0, .int .i64 0] 28 (0, 0))) := ⟨by rw [← hq_]; exact (bo gb281)⟩; have n1_ : Aside0 (Below w.heap.size w w30) := ⟨by rw [← hq_]; exact bl⟩; clear BK281 HB hq_; have BK281 := n0_; have HB := n1_; clear n0_ n1_))))
    replace BK281 := Aside0.mk (blk_drew BK281.out)
    replace HB := Aside0.mk (below_drew1 HB.out)
    refine start_ (n := 9) (S := fun w' => True) (ds := []) (tb 0 9) (by kernel_rfl) rfl rfl trivial (fun hHeld => ?_); refine with_tabW impl_lowest.tab4 impl_lowest.bits4 (fun HT_ HW_ => ?_)
    generalize w30.drew = w31 at BK281 HB hHeld ⊢
    refine pu 0 15 (tb 1 8) ?_
    refine pu 1 16 (tb 2 7) ?_
    refine pu 2 17 (tb 3 6) ?_
    refine pu 3 18 (tb 4 5) ?_
    refine pu 4 19 (tb 5 4) ?_
    refine pu 5 20 (tb 6 3) ?_
    refine pu 6 21 (tb 7 2) ?_
    refine on 7 7 (tb 8 1) (fun K hK => ?_)
    refine box_step ?hg (N := 7) ?hd (cs := #[.int .i64 0, .int .i64 0]) (t := 28) ?hr ?_; (case hd => rfl); (case hg => rfl); (case hr => first | (go_simp; done) | (go_simp; rfl))
    intro gb285 hg w32 hbox hb
    have BK285 := Aside0.mk (hbox)
    have GW285 := Aside0.mk (bz hg)
    have GE285 := GW285
    have NB281_285 := Aside0.mk (bn gb281 hg)
    have NB285_281 := Aside0.mk NB281_285.out.symm
    replace BK281 := Aside0.mk (bb gb281 hb)
    replace HB := Aside0.mk (bs hb)
    clear hb hbox hg
    refine hK.out _ _ trivial (fun hHeld => ?_)
    clear hK K
    refine nm 7 ?_
    refine one_ (i := 8) (N := none) (tb 9 0) rfl rfl (one_of HT_.out (by kernel_rfl)) (by decide) (fun K hK => ?_)
    have hs33 : w32.cell? ⟨gb285, 0, none⟩ = some (.int .i64 0) := (blk_cell BK285.out 0).trans rfl
    have hfs33 := blk_frozen BK285.out 0
    have hns33_0 := NB281_285.out
    have hms33_0 := NB285_281.out
    have hs34 : w32.cell? ⟨gb285, 1, none⟩ = some (.int .i64 0) := (blk_cell BK285.out 1).trans rfl
    have hfs34 := blk_frozen BK285.out 1
    have hns34_0 := NB281_285.out
    have hms34_0 := NB285_281.out
    refine skip_ (w1 := ?_) (by rfl) rfl ?_ ?_
    rotate_left
    ·go_simp
     rfl
    refine hK.out _ _ trivial (fun hHeld => ?_)
    clear hK K
    refine done_ (done_of HT_.out (by kernel_rfl)) ?_
    have hnb35 := NB285_281.out
    have hnc35 := NB281_285.out
    have hcz36_0 : w32.cell? ⟨gb285, 0, none⟩ = some (.int .i64 0) := (blk_cell BK285.out 0).trans rfl
    have hcz36_1 : w32.cell? ⟨gb285, 1, none⟩ = some (.int .i64 0) := (blk_cell BK285.out 1).trans rfl
    have hfz36_0 := blk_frozen BK285.out 0
    have hfz36_1 := blk_frozen BK285.out 1
    try go_wp2_with (first | ((with_reducible refine gate_callee (f := 116) rfl ?_); refine gl 23 Try.func116 #[.agg #[.int .i64 (wrap64 (Int.tdiv a0 t282)), .int .i64 (wrap64 (Int.tdiv a1 t282))]] ?_; (with_reducible refine (impl_isRat.calls k (wrap64 (Int.tdiv a0 t282)) (wrap64 (Int.tdiv a1 t282)) true _ A28.out).mono ?_); rintro e w37 ⟨rfl, hb⟩; refine ⟨_, rfl, ?_⟩; replace BK281 := Aside0.mk (blk_below (g := gb281) (o := .cells #[.int .i64 0, .int .i64 0] 28 (0, 0)) (by (with_reducible repeat (first | refine blk_drewN ?_ _ | refine blk_drew ?_ | refine blk_alloc ?_ _)); refine blk_far ?_ NB281_285.out _; (with_reducible repeat (first | refine blk_drewN ?_ _ | refine blk_drew ?_ | refine blk_alloc ?_ _)); refine blk_far ?_ NB281_285.out _; (with_reducible repeat (first | refine blk_drewN ?_ _ | refine blk_drew ?_ | refine blk_alloc ?_ _)); exact BK281.out) hb); replace BK285 := Aside0.mk (blk_below (g := gb285) (o := .cells #[.int .i64 (wrap64 (Int.tdiv a0 t282)), .int .i64 (wrap64 (Int.tdiv a1 t282))] 28 (0, 0)) (by (with_reducible repeat (first | refine blk_drewN ?_ _ | refine blk_drew ?_ | refine blk_alloc ?_ _)); refine blk_put (cs := #[.int .i64 (wrap64 (Int.tdiv a0 t282)), .int .i64 0]) ?_ 1 _ rfl; (with_reducible repeat (first | refine blk_drewN ?_ _ | refine blk_drew ?_ | refine blk_alloc ?_ _)); refine blk_put (cs := #[.int .i64 0, .int .i64 0]) ?_ 0 _ rfl; (with_reducible repeat (first | refine blk_drewN ?_ _ | refine blk_drew ?_ | refine blk_alloc ?_ _)); exact BK285.out) hb); replace HB := Aside0.mk (bs hb); (try clear hb); (try clear hb2); (try clear hk); (try clear hi); have hcz38_0 : w37.cell? ⟨gb285, 0, none⟩ = some (.int .i64 (wrap64 (Int.tdiv a0 t282))) := (blk_cell BK285.out 0).trans rfl; have hcz38_1 : w37.cell? ⟨gb285, 1, none⟩ = some (.int .i64 (wrap64 (Int.tdiv a1 t282))) := (blk_cell BK285.out 1).trans rfl; have hfz38_0 := blk_frozen BK285.out 0; have hfz38_1 := blk_frozen BK285.out 1; have hcz39_0 : w37.cell? ⟨gb281, 0, none⟩ = some (.int .i64 0) := (blk_cell BK281.out 0).trans rfl; have hcz39_1 : w37.cell? ⟨gb281, 1, none⟩ = some (.int .i64 0) := (blk_cell BK281.out 1).trans rfl; have hfz39_0 := blk_frozen BK281.out 0; have hfz39_1 := blk_frozen BK281.out 1))
    refine bodyPost_ret (results_ct rfl _ _ gb281 28 #[.int .i64 (wrap64 (Int.tdiv a0 t282)), .int .i64 (wrap64 (Int.tdiv a1 t282))] (0, 0) _ rfl (by (with_reducible repeat (first | refine blk_drewN ?_ _ | refine blk_drew ?_ | refine blk_alloc ?_ _)); refine blk_put (cs := #[.int .i64 (wrap64 (Int.tdiv a0 t282)), .int .i64 0]) ?_ 1 _ rfl; (with_reducible repeat (first | refine blk_drewN ?_ _ | refine blk_drew ?_ | refine blk_alloc ?_ _)); refine blk_put (cs := #[.int .i64 0, .int .i64 0]) ?_ 0 _ rfl; (with_reducible repeat (first | refine blk_drewN ?_ _ | refine blk_drew ?_ | refine blk_alloc ?_ _)); exact BK281.out) Try.underlying28 rfl (by kernel_rfl)) rfl ?_
    exact ⟨by first | rfl | (simp [errW_none, errW_some] <;> rfl) | (simp [*, errW_none, errW_some] <;> rfl), bl⟩
   ·replace c29 := Bool.eq_false_iff.mpr c29
    subst c29
    have H1 : (some (0, 0, false)) = some (r1, r2, r3) := by rw [if_neg (show ¬ (false = true) by decide)] at H; exact H
    clear H
    have H := H1
    clear H1
    simp only [Option.some.injEq, Prod.mk.injEq] at H
    obtain ⟨rfl, rfl, rfl⟩ := H
    go_enter Try.func140, Try.ntmps140
    try go_wp2_with (first | ((with_reducible refine gate_dst (N := 4) rfl ?_); refine bx 4 #[.int .i64 0, .int .i64 0] 28 ?_; intro gb281 hg w40 hbox hb; have BK281 := Aside0.mk (hbox); have GW281 := Aside0.mk (bz hg); have GE281 := GW281; replace HB := Aside0.mk (bs hb); clear hb hbox hg) | ((with_reducible refine gate_callee (f := 136) rfl ?_); refine gl 10 Try.func136 #[.int .i64 a0, .int .i64 a1] ?_; (with_reducible refine (impl_greatestDivisor.calls k a0 a1 t282 _ A3.out).mono ?_); rintro e w' ⟨rfl, ⟨nd, rfl⟩⟩; refine ⟨_, rfl, ?_⟩; (try (rw [drewN_self w40]; generalize hq_ : World.drewN w40 _ = w40; have n0_ : Aside0 (w40.heap[gb281]? = some (.cells #[.int .i64 0, .int .i64 0] 28 (0, 0))) := ⟨by rw [← hq_]; exact (bo gb281)⟩; have n1_ : Aside0 (Below w.heap.size w w40) := ⟨by rw [← hq_]; exact bl⟩; clear BK281 HB hq_; have BK281 := n0_; have HB := n1_; clear n0_ n1_))))
    replace BK281 := Aside0.mk (blk_drew BK281.out)
    replace HB := Aside0.mk (below_drew1 HB.out)
    refine start_ (n := 9) (S := fun w' => True) (ds := []) (tb 0 9) (by kernel_rfl) rfl rfl trivial (fun hHeld => ?_); refine with_tabW impl_lowest.tab4 impl_lowest.bits4 (fun HT_ HW_ => ?_)
    generalize w40.drew = w41 at BK281 HB hHeld ⊢
    refine pu 0 15 (tb 1 8) ?_
    refine pu 1 16 (tb 2 7) ?_
    refine pu 2 17 (tb 3 6) ?_
    refine pu 3 18 (tb 4 5) ?_
    refine pu 4 19 (tb 5 4) ?_
    refine pu 5 20 (tb 6 3) ?_
    refine pu 6 21 (tb 7 2) ?_
    refine on 7 7 (tb 8 1) (fun K hK => ?_)
    refine box_step ?hg (N := 7) ?hd (cs := #[.int .i64 0, .int .i64 0]) (t := 28) ?hr ?_; (case hd => rfl); (case hg => rfl); (case hr => first | (go_simp; done) | (go_simp; rfl))
    intro gb285 hg w42 hbox hb
    have BK285 := Aside0.mk (hbox)
    have GW285 := Aside0.mk (bz hg)
    have GE285 := GW285
    have NB281_285 := Aside0.mk (bn gb281 hg)
    have NB285_281 := Aside0.mk NB281_285.out.symm
    replace BK281 := Aside0.mk (bb gb281 hb)
    replace HB := Aside0.mk (bs hb)
    clear hb hbox hg
    refine hK.out _ _ trivial (fun hHeld => ?_)
    clear hK K
    refine nm 7 ?_
    refine one_ (i := 8) (N := none) (tb 9 0) rfl rfl (one_of HT_.out (by kernel_rfl)) (by decide) (fun K hK => ?_)
    have hs43 : w42.cell? ⟨gb285, 0, none⟩ = some (.int .i64 0) := (blk_cell BK285.out 0).trans rfl
    have hfs43 := blk_frozen BK285.out 0
    have hns43_0 := NB281_285.out
    have hms43_0 := NB285_281.out
    have hs44 : w42.cell? ⟨gb285, 1, none⟩ = some (.int .i64 0) := (blk_cell BK285.out 1).trans rfl
    have hfs44 := blk_frozen BK285.out 1
    have hns44_0 := NB281_285.out
    have hms44_0 := NB285_281.out
    refine skip_ (w1 := ?_) (by rfl) rfl ?_ ?_
    rotate_left
    ·go_simp
     rfl
    refine hK.out _ _ trivial (fun hHeld => ?_)
    clear hK K
    refine done_ (done_of HT_.out (by kernel_rfl)) ?_
    have hnb45 := NB285_281.out
    have hnc45 := NB281_285.out
    have hcz46_0 : w42.cell? ⟨gb285, 0, none⟩ = some (.int .i64 0) := (blk_cell BK285.out 0).trans rfl
    have hcz46_1 : w42.cell? ⟨gb285, 1, none⟩ = some (.int .i64 0) := (blk_cell BK285.out 1).trans rfl
    have hfz46_0 := blk_frozen BK285.out 0
    have hfz46_1 := blk_frozen BK285.out 1
    try go_wp2_with (first | ((with_reducible refine gate_callee (f := 116) rfl ?_); refine gl 23 Try.func116 #[.agg #[.int .i64 (wrap64 (Int.tdiv a0 t282)), .int .i64 (wrap64 (Int.tdiv a1 t282))]] ?_; (with_reducible refine (impl_isRat.calls k (wrap64 (Int.tdiv a0 t282)) (wrap64 (Int.tdiv a1 t282)) false _ A28.out).mono ?_); rintro e w47 ⟨rfl, hb⟩; refine ⟨_, rfl, ?_⟩; replace BK281 := Aside0.mk (blk_below (g := gb281) (o := .cells #[.int .i64 0, .int .i64 0] 28 (0, 0)) (by (with_reducible repeat (first | refine blk_drewN ?_ _ | refine blk_drew ?_ | refine blk_alloc ?_ _)); refine blk_far ?_ NB281_285.out _; (with_reducible repeat (first | refine blk_drewN ?_ _ | refine blk_drew ?_ | refine blk_alloc ?_ _)); refine blk_far ?_ NB281_285.out _; (with_reducible repeat (first | refine blk_drewN ?_ _ | refine blk_drew ?_ | refine blk_alloc ?_ _)); exact BK281.out) hb); replace BK285 := Aside0.mk (blk_below (g := gb285) (o := .cells #[.int .i64 (wrap64 (Int.tdiv a0 t282)), .int .i64 (wrap64 (Int.tdiv a1 t282))] 28 (0, 0)) (by (with_reducible repeat (first | refine blk_drewN ?_ _ | refine blk_drew ?_ | refine blk_alloc ?_ _)); refine blk_put (cs := #[.int .i64 (wrap64 (Int.tdiv a0 t282)), .int .i64 0]) ?_ 1 _ rfl; (with_reducible repeat (first | refine blk_drewN ?_ _ | refine blk_drew ?_ | refine blk_alloc ?_ _)); refine blk_put (cs := #[.int .i64 0, .int .i64 0]) ?_ 0 _ rfl; (with_reducible repeat (first | refine blk_drewN ?_ _ | refine blk_drew ?_ | refine blk_alloc ?_ _)); exact BK285.out) hb); replace HB := Aside0.mk (bs hb); (try clear hb); (try clear hb2); (try clear hk); (try clear hi); have hcz48_0 : w47.cell? ⟨gb281, 0, none⟩ = some (.int .i64 0) := (blk_cell BK281.out 0).trans rfl; have hcz48_1 : w47.cell? ⟨gb281, 1, none⟩ = some (.int .i64 0) := (blk_cell BK281.out 1).trans rfl; have hfz48_0 := blk_frozen BK281.out 0; have hfz48_1 := blk_frozen BK281.out 1))
    refine bodyPost_ret (results_ct rfl _ _ gb281 28 #[.int .i64 0, .int .i64 0] (0, 0) _ rfl (by (with_reducible repeat (first | refine blk_drewN ?_ _ | refine blk_drew ?_ | refine blk_alloc ?_ _)); refine blk_put (cs := #[.int .i64 0, .int .i64 0]) ?_ 1 _ rfl; (with_reducible repeat (first | refine blk_drewN ?_ _ | refine blk_drew ?_ | refine blk_alloc ?_ _)); refine blk_put (cs := #[.int .i64 0, .int .i64 0]) ?_ 0 _ rfl; (with_reducible repeat (first | refine blk_drewN ?_ _ | refine blk_drew ?_ | refine blk_alloc ?_ _)); exact BK281.out) Try.underlying28 rfl (by kernel_rfl)) rfl ?_
    exact ⟨by first | rfl | (simp [errW_none, errW_some] <;> rfl) | (simp [*, errW_none, errW_some] <;> rfl), bl⟩

/-! ### impl_AddRats: function 129 -/
def impl_AddRats.f (k : Nat) (a0_0 : Int) (a0_1 : Int) (a1_0 : Int) (a1_1 : Int) : Option (Int × Int × Bool) := (impl_areRats.f k (([(⟨a0_0, a0_1⟩ : S28), (⟨a1_0, a1_1⟩ : S28)] : List (S28)))).bind fun t293 => (if t293 = true then ((impl_lowest.f k (wrap64 ((wrap64 (a0_0 * a1_1)) + (wrap64 (a1_0 * a0_1)))) (wrap64 (a0_1 * a1_1))).bind fun bt294 => (some (bt294.1, bt294.2.1, bt294.2.2))) else (some (0, 0, false)))
set_option maxHeartbeats 8000000 in
set_option maxRecDepth 100000 in
theorem impl_AddRats.calls (k : Nat) (a0_0 : Int) (a0_1 : Int) (a1_0 : Int) (a1_1 : Int) (r1 : Int) (r2 : Int) (r3 : Bool) (w : World) (h : impl_AddRats.f k a0_0 a0_1 a1_0 a1_1 = some (r1, r2, r3)) :
  Calls Try.prog 129 #[.agg #[.int .i64 a0_0, .int .i64 a0_1], .agg #[.int .i64 a1_0, .int .i64 a1_1]] w fun e w' => e = .returned (.tuple #[.agg #[.int .i64 r1, .int .i64 r2], .bool r3]) ∧ Below w.heap.size w w' := by
 have hu28 := Try.underlying28
 have HB := Aside0.mk (Below.refl w.heap.size w)
 have H : ((impl_areRats.f k (([(⟨a0_0, a0_1⟩ : S28), (⟨a1_0, a1_1⟩ : S28)] : List (S28)))).bind fun t293 => (if t293 = true then ((impl_lowest.f k (wrap64 ((wrap64 (a0_0 * a1_1)) + (wrap64 (a1_0 * a0_1)))) (wrap64 (a0_1 * a1_1))).bind fun bt294 => (some (bt294.1, bt294.2.1, bt294.2.2))) else (some (0, 0, false)))) = some (r1, r2, r3) := h
 clear h
 obtain ⟨y290, hy290⟩ : ∃ y_ : List (S28), y_ = (([(⟨a0_0, a0_1⟩ : S28), (⟨a1_0, a1_1⟩ : S28)] : List (S28))) := ⟨_, rfl⟩
 replace H : ((impl_areRats.f k y290).bind fun t293 => (if t293 = true then ((impl_lowest.f k (wrap64 ((wrap64 (a0_0 * a1_1)) + (wrap64 (a1_0 * a0_1)))) (wrap64 (a0_1 * a1_1))).bind fun bt294 => (some (bt294.1, bt294.2.1, bt294.2.2))) else (some (0, 0, false)))) = some (r1, r2, r3) := by first | (rw [hy290]; with_reducible exact H) | (have H2_ := (Option.bind_some _ _).symm.trans H; rw [hy290]; with_reducible exact H2_) | (have H2_ := (Option.bind_some _ _).symm.trans H; with_reducible exact H2_) | with_reducible exact H | (rw [hy290]; exact H) | exact H
 have Ny290 := Aside0.mk hy290
 clear hy290
 replace H := Option.bind_eq_some_iff.mp H
 obtain ⟨t293, A30, H⟩ := H
 replace H : (if t293 = true then ((impl_lowest.f k (wrap64 ((wrap64 (a0_0 * a1_1)) + (wrap64 (a1_0 * a0_1)))) (wrap64 (a0_1 * a1_1))).bind fun bt294 => (some (bt294.1, bt294.2.1, bt294.2.2))) else (some (0, 0, false))) = some (r1, r2, r3) := H
 have A3 := Aside0.mk A30
 clear A30
 by_cases c4 : t293 = true
 ·subst c4
  have H1 : ((impl_lowest.f k (wrap64 ((wrap64 (a0_0 * a1_1)) + (wrap64 (a1_0 * a0_1)))) (wrap64 (a0_1 * a1_1))).bind fun bt294 => (some (bt294.1, bt294.2.1, bt294.2.2))) = some (r1, r2, r3) := by rw [if_pos rfl] at H; exact H
  clear H
  have H := H1
  clear H1
  replace H := Option.bind_eq_some_iff.mp H
  obtain ⟨⟨t294, t295, t296⟩, A50, H⟩ := H
  replace H : (some (t294, t295, t296)) = some (r1, r2, r3) := H
  have A5 := Aside0.mk A50
  clear A50
  simp only [Option.some.injEq, Prod.mk.injEq] at H
  obtain ⟨rfl, rfl, rfl⟩ := H
  go_enter Try.func129, Try.ntmps129
  go_wp2_with (first | ((with_reducible refine gate_dst (N := 2) rfl ?_); refine bx 2 #[.int .i64 a0_0, .int .i64 a0_1] 28 ?_; intro gb287 hg w6 hbox hb; have BK287 := Aside0.mk (hbox); have GW287 := Aside0.mk (bz hg); have GE287 := GW287; replace HB := Aside0.mk (bs hb); clear hb hbox hg) | ((with_reducible refine gate_dst (N := 3) rfl ?_); refine bx 3 #[.int .i64 a1_0, .int .i64 a1_1] 28 ?_; intro gb288 hg w7 hbox hb; have BK288 := Aside0.mk (hbox); have GW288 := Aside0.mk (bz hg); have GE288 := GW288; have NB287_288 := Aside0.mk (bn gb287 hg); have NB288_287 := Aside0.mk NB287_288.out.symm; replace BK287 := Aside0.mk (bb gb287 hb); replace HB := Aside0.mk (bs hb); clear hb hbox hg) | ((with_reducible refine gate_dst (N := 4) rfl ?_); refine bx 4 #[.int .i64 0, .int .i64 0] 28 ?_; intro gb289 hg w8 hbox hb; have BK289 := Aside0.mk (hbox); have GW289 := Aside0.mk (bz hg); have GE289 := GW289; have NB287_289 := Aside0.mk (bn gb287 hg); have NB289_287 := Aside0.mk NB287_289.out.symm; have NB288_289 := Aside0.mk (bn gb288 hg); have NB289_288 := Aside0.mk NB288_289.out.symm; replace BK287 := Aside0.mk (bb gb287 hb); replace BK288 := Aside0.mk (bb gb288 hb); replace HB := Aside0.mk (bs hb); clear hb hbox hg; have hnb9 := NB287_288.out; have hnc9 := NB288_287.out; have hnb10 := NB287_289.out; have hnc10 := NB289_287.out; have hcz11_0 : w8.cell? ⟨gb287, 0, none⟩ = some (.int .i64 a0_0) := (blk_cell BK287.out 0).trans rfl; have hcz11_1 : w8.cell? ⟨gb287, 1, none⟩ = some (.int .i64 a0_1) := (blk_cell BK287.out 1).trans rfl; have hfz11_0 := blk_frozen BK287.out 0; have hfz11_1 := blk_frozen BK287.out 1; have hnb12 := NB288_289.out; have hnc12 := NB289_288.out; have hcz13_0 : w8.cell? ⟨gb288, 0, none⟩ = some (.int .i64 a1_0) := (blk_cell BK288.out 0).trans rfl; have hcz13_1 : w8.cell? ⟨gb288, 1, none⟩ = some (.int .i64 a1_1) := (blk_cell BK288.out 1).trans rfl; have hfz13_0 := blk_frozen BK288.out 0; have hfz13_1 := blk_frozen BK288.out 1) | ((with_reducible refine gate_dst (N := 8) rfl ?_); refine Kd.R_lit k28 _ 28 ?hg (N := 8) ?hd (xs := ([(⟨a0_0, a0_1⟩ : S28), (⟨a1_0, a1_1⟩ : S28)] : List (S28))) (inner := [.int .i64 a0_0, .int .i64 a0_1, .int .i64 a1_0, .int .i64 a1_1]) (ok := fun _ => True) (okp := fun _ => True) ?hr ?hp (fun _ hk => hk) trivial (Below.refl _ _) (Nat.le_refl _) (by simp) ?_; (case hd => rfl); (case hg => rfl); (case hr => first | (go_simp; done) | (go_simp; rfl)); (case hp => exact (Reps.c2 (show Kd.M k28 _ _ _ (⟨a0_0, a0_1⟩ : S28) [.int .i64 a0_0, .int .i64 a0_1] from (k28_mkM _ _ _ (⟨a0_0, a0_1⟩ : S28) )) (Reps.c2 (show Kd.M k28 _ _ _ (⟨a1_0, a1_1⟩ : S28) [.int .i64 a1_0, .int .i64 a1_1] from (k28_mkM _ _ _ (⟨a1_0, a1_1⟩ : S28) )) (Reps.none _ _)))); intro v291 w14 ho15 hb hg_ hnew_; clear hg_ hnew_; (first | rw [← Ny290.out] at ho15 | (simp only [Int.reduceToNat] at ho15; rw [← Ny290.out] at ho15)); have HO292 := Aside0.mk (Kd.R_lower (Kd.R_newB (Kd.R_newB (Kd.R_newB ho15 (g := gb287) (o := .cells #[.int .i64 a0_0, .int .i64 a0_1] 28 (0, 0)) (bo gb287)) (g := gb288) (o := .cells #[.int .i64 a1_0, .int .i64 a1_1] 28 (0, 0)) (bo gb288)) (g := gb289) (o := .cells #[.int .i64 0, .int .i64 0] 28 (0, 0)) (bo gb289)) (below_size bl)); replace BK287 := Aside0.mk (bb gb287 hb); replace BK288 := Aside0.mk (bb gb288 hb); replace BK289 := Aside0.mk (bb gb289 hb); replace HB := Aside0.mk (bs hb); clear hb ho15; obtain ⟨Ao16, co16, eo16⟩ := Kd.R_slice HO292.out; subst eo16) | ((with_reducible refine gate_callee (f := 139) rfl ?_); refine gl 9 Try.func139 #[.slice Ao16 y290.length co16] ?_; (with_reducible refine (impl_areRats.calls k _ _ y290 true _ ?side1 ?side2 A3.out).mono ?_); (case side1 => repeat (first | exact (Kd.R_reads' HO292.out).2.2 | (with_reducible refine Kd.C_alloc ?_ _) | (with_reducible refine Kd.C_drewN ?_ _) | (with_reducible refine Kd.C_drew ?_))); (case side2 => exact (Kd.R_reads' HO292.out).2.1); rintro e w17 ⟨rfl, hb⟩; refine ⟨_, rfl, ?_⟩; replace HO292 := Aside0.mk (Kd.R_below (by (with_reducible repeat (first | apply Kd.R_alloc | apply Kd.R_drewN | apply Kd.R_drew)); exact HO292.out) hb); replace BK287 := Aside0.mk (bb gb287 hb); replace BK288 := Aside0.mk (bb gb288 hb); replace BK289 := Aside0.mk (bb gb289 hb); replace HB := Aside0.mk (bs hb); (try clear hb); (try clear hb2); (try clear hk); (try clear hi); have hcz18_0 : w17.cell? ⟨gb287, 0, none⟩ = some (.int .i64 a0_0) := (blk_cell BK287.out 0).trans rfl; have hcz18_1 : w17.cell? ⟨gb287, 1, none⟩ = some (.int .i64 a0_1) := (blk_cell BK287.out 1).trans rfl; have hfz18_0 := blk_frozen BK287.out 0; have hfz18_1 := blk_frozen BK287.out 1; have hcz19_0 : w17.cell? ⟨gb288, 0, none⟩ = some (.int .i64 a1_0) := (blk_cell BK288.out 0).trans rfl; have hcz19_1 : w17.cell? ⟨gb288, 1, none⟩ = some (.int .i64 a1_1) := (blk_cell BK288.out 1).trans rfl; have hfz19_0 := blk_frozen BK288.out 0; have hfz19_1 := blk_frozen BK288.out 1) | ((with_reducible refine gate_callee (f := 140) rfl ?_); refine gl 28 Try.func140 #[.int .i64 (wrap64 ((wrap64 (a0_0 * a1_1)) + (wrap64 (a1_0 * a0_1)))), .int .i64 (wrap64 (a0_1 * a1_1))] ?_; (with_reducible refine (impl_lowest.calls k (wrap64 ((wrap64 (a0_0 * a1_1)) + (wrap64 (a1_0 * a0_1)))) (wrap64 (a0_1 * a1_1)) t294 t295 t296 _ A5.out).mono ?_); rintro e w20 ⟨rfl, hb⟩; refine ⟨_, rfl, ?_⟩; replace HO292 := Aside0.mk (Kd.R_below (by (with_reducible repeat (first | apply Kd.R_alloc | apply Kd.R_drewN | apply Kd.R_drew)); exact HO292.out) hb); replace BK287 := Aside0.mk (bb gb287 hb); replace BK288 := Aside0.mk (bb gb288 hb); replace BK289 := Aside0.mk (bb gb289 hb); replace HB := Aside0.mk (bs hb); (try clear hb); (try clear hb2); (try clear hk); (try clear hi); have hcz21_0 : w20.cell? ⟨gb289, 0, none⟩ = some (.int .i64 0) := (blk_cell BK289.out 0).trans rfl; have hcz21_1 : w20.cell? ⟨gb289, 1, none⟩ = some (.int .i64 0) := (blk_cell BK289.out 1).trans rfl; have hfz21_0 := blk_frozen BK289.out 0; have hfz21_1 := blk_frozen BK289.out 1))
  refine bodyPost_ret (results_ct rfl _ _ gb289 28 #[.int .i64 t294, .int .i64 t295] (0, 0) _ rfl (by (with_reducible repeat (first | refine blk_drewN ?_ _ | refine blk_drew ?_ | refine blk_alloc ?_ _)); refine blk_put (cs := #[.int .i64 t294, .int .i64 0]) ?_ 1 _ rfl; (with_reducible repeat (first | refine blk_drewN ?_ _ | refine blk_drew ?_ | refine blk_alloc ?_ _)); refine blk_put (cs := #[.int .i64 0, .int .i64 0]) ?_ 0 _ rfl; (with_reducible repeat (first | refine blk_drewN ?_ _ | refine blk_drew ?_ | refine blk_alloc ?_ _)); exact BK289.out) Try.underlying28 rfl (by kernel_rfl)) rfl ?_
  exact ⟨by first | rfl | (simp [errW_none, errW_some] <;> rfl) | (simp [*, errW_none, errW_some] <;> rfl), bl⟩
 ·replace c4 := Bool.eq_false_iff.mpr c4
  subst c4
  have H1 : (some (0, 0, false)) = some (r1, r2, r3) := by rw [if_neg (show ¬ (false = true) by decide)] at H; exact H
  clear H
  have H := H1
  clear H1
  simp only [Option.some.injEq, Prod.mk.injEq] at H
  obtain ⟨rfl, rfl, rfl⟩ := H
  go_enter Try.func129, Try.ntmps129
  go_wp2_with (first | ((with_reducible refine gate_dst (N := 2) rfl ?_); refine bx 2 #[.int .i64 a0_0, .int .i64 a0_1] 28 ?_; intro gb287 hg w22 hbox hb; have BK287 := Aside0.mk (hbox); have GW287 := Aside0.mk (bz hg); have GE287 := GW287; replace HB := Aside0.mk (bs hb); clear hb hbox hg) | ((with_reducible refine gate_dst (N := 3) rfl ?_); refine bx 3 #[.int .i64 a1_0, .int .i64 a1_1] 28 ?_; intro gb288 hg w23 hbox hb; have BK288 := Aside0.mk (hbox); have GW288 := Aside0.mk (bz hg); have GE288 := GW288; have NB287_288 := Aside0.mk (bn gb287 hg); have NB288_287 := Aside0.mk NB287_288.out.symm; replace BK287 := Aside0.mk (bb gb287 hb); replace HB := Aside0.mk (bs hb); clear hb hbox hg) | ((with_reducible refine gate_dst (N := 4) rfl ?_); refine bx 4 #[.int .i64 0, .int .i64 0] 28 ?_; intro gb289 hg w24 hbox hb; have BK289 := Aside0.mk (hbox); have GW289 := Aside0.mk (bz hg); have GE289 := GW289; have NB287_289 := Aside0.mk (bn gb287 hg); have NB289_287 := Aside0.mk NB287_289.out.symm; have NB288_289 := Aside0.mk (bn gb288 hg); have NB289_288 := Aside0.mk NB288_289.out.symm; replace BK287 := Aside0.mk (bb gb287 hb); replace BK288 := Aside0.mk (bb gb288 hb); replace HB := Aside0.mk (bs hb); clear hb hbox hg; have hnb25 := NB287_288.out; have hnc25 := NB288_287.out; have hnb26 := NB287_289.out; have hnc26 := NB289_287.out; have hcz27_0 : w24.cell? ⟨gb287, 0, none⟩ = some (.int .i64 a0_0) := (blk_cell BK287.out 0).trans rfl; have hcz27_1 : w24.cell? ⟨gb287, 1, none⟩ = some (.int .i64 a0_1) := (blk_cell BK287.out 1).trans rfl; have hfz27_0 := blk_frozen BK287.out 0; have hfz27_1 := blk_frozen BK287.out 1; have hnb28 := NB288_289.out; have hnc28 := NB289_288.out; have hcz29_0 : w24.cell? ⟨gb288, 0, none⟩ = some (.int .i64 a1_0) := (blk_cell BK288.out 0).trans rfl; have hcz29_1 : w24.cell? ⟨gb288, 1, none⟩ = some (.int .i64 a1_1) := (blk_cell BK288.out 1).trans rfl; have hfz29_0 := blk_frozen BK288.out 0; have hfz29_1 := blk_frozen BK288.out 1) | ((with_reducible refine gate_dst (N := 8) rfl ?_); refine Kd.R_lit k28 _ 28 ?hg (N := 8) ?hd (xs := ([(⟨a0_0, a0_1⟩ : S28), (⟨a1_0, a1_1⟩ : S28)] : List (S28))) (inner := [.int .i64 a0_0, .int .i64 a0_1, .int .i64 a1_0, .int .i64 a1_1]) (ok := fun _ => True) (okp := fun _ => True) ?hr ?hp (fun _ hk => hk) trivial (Below.refl _ _) (Nat.le_refl _) (by simp) ?_; (case hd => rfl); (case hg => rfl); (case hr => first | (go_simp; done) | (go_simp; rfl)); (case hp => exact (Reps.c2 (show Kd.M k28 _ _ _ (⟨a0_0, a0_1⟩ : S28) [.int .i64 a0_0, .int .i64 a0_1] from (k28_mkM _ _ _ (⟨a0_0, a0_1⟩ : S28) )) (Reps.c2 (show Kd.M k28 _ _ _ (⟨a1_0, a1_1⟩ : S28) [.int .i64 a1_0, .int .i64 a1_1] from (k28_mkM _ _ _ (⟨a1_0, a1_1⟩ : S28) )) (Reps.none _ _)))); intro v291 w30 ho31 hb hg_ hnew_; clear hg_ hnew_; (first | rw [← Ny290.out] at ho31 | (simp only [Int.reduceToNat] at ho31; rw [← Ny290.out] at ho31)); have HO292 := Aside0.mk (Kd.R_lower (Kd.R_newB (Kd.R_newB (Kd.R_newB ho31 (g := gb287) (o := .cells #[.int .i64 a0_0, .int .i64 a0_1] 28 (0, 0)) (bo gb287)) (g := gb288) (o := .cells #[.int .i64 a1_0, .int .i64 a1_1] 28 (0, 0)) (bo gb288)) (g := gb289) (o := .cells #[.int .i64 0, .int .i64 0] 28 (0, 0)) (bo gb289)) (below_size bl)); replace BK287 := Aside0.mk (bb gb287 hb); replace BK288 := Aside0.mk (bb gb288 hb); replace BK289 := Aside0.mk (bb gb289 hb); replace HB := Aside0.mk (bs hb); clear hb ho31; obtain ⟨Ao32, co32, eo32⟩ := Kd.R_slice HO292.out; subst eo32) | ((with_reducible refine gate_callee (f := 139) rfl ?_); refine gl 9 Try.func139 #[.slice Ao32 y290.length co32] ?_; (with_reducible refine (impl_areRats.calls k _ _ y290 false _ ?side1 ?side2 A3.out).mono ?_); (case side1 => repeat (first | exact (Kd.R_reads' HO292.out).2.2 | (with_reducible refine Kd.C_alloc ?_ _) | (with_reducible refine Kd.C_drewN ?_ _) | (with_reducible refine Kd.C_drew ?_))); (case side2 => exact (Kd.R_reads' HO292.out).2.1); rintro e w33 ⟨rfl, hb⟩; refine ⟨_, rfl, ?_⟩; replace HO292 := Aside0.mk (Kd.R_below (by (with_reducible repeat (first | apply Kd.R_alloc | apply Kd.R_drewN | apply Kd.R_drew)); exact HO292.out) hb); replace BK287 := Aside0.mk (bb gb287 hb); replace BK288 := Aside0.mk (bb gb288 hb); replace BK289 := Aside0.mk (bb gb289 hb); replace HB := Aside0.mk (bs hb); (try clear hb); (try clear hb2); (try clear hk); (try clear hi); have hcz34_0 : w33.cell? ⟨gb289, 0, none⟩ = some (.int .i64 0) := (blk_cell BK289.out 0).trans rfl; have hcz34_1 : w33.cell? ⟨gb289, 1, none⟩ = some (.int .i64 0) := (blk_cell BK289.out 1).trans rfl; have hfz34_0 := blk_frozen BK289.out 0; have hfz34_1 := blk_frozen BK289.out 1))
  refine bodyPost_ret (results_ct rfl _ _ gb289 28 #[.int .i64 0, .int .i64 0] (0, 0) _ rfl (by (with_reducible repeat (first | refine blk_drewN ?_ _ | refine blk_drew ?_ | refine blk_alloc ?_ _)); refine blk_put (cs := #[.int .i64 0, .int .i64 0]) ?_ 1 _ rfl; (with_reducible repeat (first | refine blk_drewN ?_ _ | refine blk_drew ?_ | refine blk_alloc ?_ _)); refine blk_put (cs := #[.int .i64 0, .int .i64 0]) ?_ 0 _ rfl; (with_reducible repeat (first | refine blk_drewN ?_ _ | refine blk_drew ?_ | refine blk_alloc ?_ _)); exact BK289.out) Try.underlying28 rfl (by kernel_rfl)) rfl ?_
  exact ⟨by first | rfl | (simp [errW_none, errW_some] <;> rfl) | (simp [*, errW_none, errW_some] <;> rfl), bl⟩

/-! ### impl_negated: function 141 -/
def impl_negated.f (a0_0 : Int) (a0_1 : Int) : Option (Int × Int) := some (wrap64 (-a0_0), a0_1)
set_option maxHeartbeats 8000000 in
set_option maxRecDepth 100000 in
theorem impl_negated.calls (a0_0 : Int) (a0_1 : Int) (r1 : Int) (r2 : Int) (w : World) (h : impl_negated.f a0_0 a0_1 = some (r1, r2)) :
  Calls Try.prog 141 #[.agg #[.int .i64 a0_0, .int .i64 a0_1]] w fun e w' => e = .returned (.agg #[.int .i64 r1, .int .i64 r2]) ∧ Below w.heap.size w w' := by
 have hu28 := Try.underlying28
 have HB := Aside0.mk (Below.refl w.heap.size w)
 have H : (some (wrap64 (-a0_0), a0_1)) = some (r1, r2) := h
 clear h
 simp only [Option.some.injEq, Prod.mk.injEq] at H
 obtain ⟨rfl, rfl⟩ := H
 go_enter Try.func141, Try.ntmps141
 go_wp2_with (first | ((with_reducible refine gate_dst (N := 1) rfl ?_); refine bx 1 #[.int .i64 a0_0, .int .i64 a0_1] 28 ?_; intro gb297 hg w2 hbox hb; have BK297 := Aside0.mk (hbox); have GW297 := Aside0.mk (bz hg); have GE297 := GW297; replace HB := Aside0.mk (bs hb); clear hb hbox hg) | ((with_reducible refine gate_dst (N := 2) rfl ?_); refine bx 2 #[.int .i64 0, .int .i64 0] 28 ?_; intro gb298 hg w3 hbox hb; have BK298 := Aside0.mk (hbox); have GW298 := Aside0.mk (bz hg); have GE298 := GW298; have NB297_298 := Aside0.mk (bn gb297 hg); have NB298_297 := Aside0.mk NB297_298.out.symm; replace BK297 := Aside0.mk (bb gb297 hb); replace HB := Aside0.mk (bs hb); clear hb hbox hg; have hnb4 := NB297_298.out; have hnc4 := NB298_297.out; have hcz5_0 : w3.cell? ⟨gb297, 0, none⟩ = some (.int .i64 a0_0) := (blk_cell BK297.out 0).trans rfl; have hcz5_1 : w3.cell? ⟨gb297, 1, none⟩ = some (.int .i64 a0_1) := (blk_cell BK297.out 1).trans rfl; have hfz5_0 := blk_frozen BK297.out 0; have hfz5_1 := blk_frozen BK297.out 1; have hcz6_0 : w3.cell? ⟨gb298, 0, none⟩ = some (.int .i64 0) := (blk_cell BK298.out 0).trans rfl; have hcz6_1 : w3.cell? ⟨gb298, 1, none⟩ = some (.int .i64 0) := (blk_cell BK298.out 1).trans rfl; have hfz6_0 := blk_frozen BK298.out 0; have hfz6_1 := blk_frozen BK298.out 1))
 refine bodyPost_ret (results_cell_row rfl _ _ gb298 28 #[.int .i64 (wrap64 (-a0_0)), .int .i64 a0_1] (0, 0) _ rfl (by (with_reducible repeat (first | refine blk_drewN ?_ _ | refine blk_drew ?_ | refine blk_alloc ?_ _)); refine blk_put (cs := #[.int .i64 (wrap64 (-a0_0)), .int .i64 0]) ?_ 1 _ rfl; (with_reducible repeat (first | refine blk_drewN ?_ _ | refine blk_drew ?_ | refine blk_alloc ?_ _)); refine blk_put (cs := #[.int .i64 0, .int .i64 0]) ?_ 0 _ rfl; (with_reducible repeat (first | refine blk_drewN ?_ _ | refine blk_drew ?_ | refine blk_alloc ?_ _)); exact BK298.out) Try.underlying28 rfl (by kernel_rfl)) rfl ?_
 exact ⟨by first | rfl | (simp [errW_none, errW_some] <;> rfl) | (simp [*, errW_none, errW_some] <;> rfl), bl⟩

/-! ### impl_SubtractRats: function 130 -/
def impl_SubtractRats.f (k : Nat) (a0_0 : Int) (a0_1 : Int) (a1_0 : Int) (a1_1 : Int) : Option (Int × Int × Bool) := (impl_negated.f a1_0 a1_1).bind fun bt302 => ((impl_AddRats.f k a0_0 a0_1 bt302.1 bt302.2).bind fun bt304 => (some (bt304.1, bt304.2.1, bt304.2.2)))
def impl_SubtractRats.T1 : Bool × List (List Nat × List Nat) := (true, [([], []), ([], []), ([1], [1]), ([0, 2, 2], [0, 2]), ([3], [3]), ([3], [3]), ([4, 3, 0, 1, 2, 3, 4, 5], [4]), ([5, 6, 0, 1, 2, 3, 4, 5, 6], [5])])
def impl_SubtractRats.B1 : List Nat := [0, 0, 2, 7, 15, 15, 63, 127]
theorem impl_SubtractRats.tab1 : rtab .any (opsOf Try.f130 1) = impl_SubtractRats.T1 := by kernel_rfl
theorem impl_SubtractRats.bits1 : waitsOk impl_SubtractRats.T1.2 impl_SubtractRats.B1 = true := by kernel_rfl
set_option maxHeartbeats 8000000 in
set_option maxRecDepth 100000 in
theorem impl_SubtractRats.calls (k : Nat) (a0_0 : Int) (a0_1 : Int) (a1_0 : Int) (a1_1 : Int) (r1 : Int) (r2 : Int) (r3 : Bool) (w : World) (h : impl_SubtractRats.f k a0_0 a0_1 a1_0 a1_1 = some (r1, r2, r3)) :
  Calls Try.prog 130 #[.agg #[.int .i64 a0_0, .int .i64 a0_1], .agg #[.int .i64 a1_0, .int .i64 a1_1]] w fun e w' => e = .returned (.tuple #[.agg #[.int .i64 r1, .int .i64 r2], .bool r3]) ∧ Below w.heap.size w w' := by
 have hu28 := Try.underlying28
 have HB := Aside0.mk (Below.refl w.heap.size w)
 have H : ((impl_negated.f a1_0 a1_1).bind fun bt302 => ((impl_AddRats.f k a0_0 a0_1 bt302.1 bt302.2).bind fun bt304 => (some (bt304.1, bt304.2.1, bt304.2.2)))) = some (r1, r2, r3) := h
 clear h
 replace H := Option.bind_eq_some_iff.mp H
 obtain ⟨⟨t302, t303⟩, A30, H⟩ := H
 replace H : ((impl_AddRats.f k a0_0 a0_1 t302 t303).bind fun bt304 => (some (bt304.1, bt304.2.1, bt304.2.2))) = some (r1, r2, r3) := H
 have A3 := Aside0.mk A30
 clear A30
 replace H := Option.bind_eq_some_iff.mp H
 obtain ⟨⟨t304, t305, t306⟩, A40, H⟩ := H
 replace H : (some (t304, t305, t306)) = some (r1, r2, r3) := H
 have A4 := Aside0.mk A40
 clear A40
 simp only [Option.some.injEq, Prod.mk.injEq] at H
 obtain ⟨rfl, rfl, rfl⟩ := H
 go_enter Try.func130, Try.ntmps130
 try go_wp2_with (first | ((with_reducible refine gate_dst (N := 2) rfl ?_); refine bx 2 #[.int .i64 a0_0, .int .i64 a0_1] 28 ?_; intro gb299 hg w5 hbox hb; have BK299 := Aside0.mk (hbox); have GW299 := Aside0.mk (bz hg); have GE299 := GW299; replace HB := Aside0.mk (bs hb); clear hb hbox hg) | ((with_reducible refine gate_dst (N := 3) rfl ?_); refine bx 3 #[.int .i64 a1_0, .int .i64 a1_1] 28 ?_; intro gb300 hg w6 hbox hb; have BK300 := Aside0.mk (hbox); have GW300 := Aside0.mk (bz hg); have GE300 := GW300; have NB299_300 := Aside0.mk (bn gb299 hg); have NB300_299 := Aside0.mk NB299_300.out.symm; replace BK299 := Aside0.mk (bb gb299 hb); replace HB := Aside0.mk (bs hb); clear hb hbox hg) | ((with_reducible refine gate_dst (N := 4) rfl ?_); refine bx 4 #[.int .i64 0, .int .i64 0] 28 ?_; intro gb301 hg w7 hbox hb; have BK301 := Aside0.mk (hbox); have GW301 := Aside0.mk (bz hg); have GE301 := GW301; have NB299_301 := Aside0.mk (bn gb299 hg); have NB301_299 := Aside0.mk NB299_301.out.symm; have NB300_301 := Aside0.mk (bn gb300 hg); have NB301_300 := Aside0.mk NB300_301.out.symm; replace BK299 := Aside0.mk (bb gb299 hb); replace BK300 := Aside0.mk (bb gb300 hb); replace HB := Aside0.mk (bs hb); clear hb hbox hg))
 replace BK299 := Aside0.mk (blk_drew BK299.out)
 replace BK300 := Aside0.mk (blk_drew BK300.out)
 replace BK301 := Aside0.mk (blk_drew BK301.out)
 replace HB := Aside0.mk (below_drew1 HB.out)
 refine start_ (n := 8) (S := fun w' => w'.cell? ⟨gb299, 0, none⟩ = some (.int .i64 a0_0) ∧ w'.cell? ⟨gb299, 1, none⟩ = some (.int .i64 a0_1) ∧ w'.cell? ⟨gb300, 0, none⟩ = some (.int .i64 a1_0) ∧ w'.cell? ⟨gb300, 1, none⟩ = some (.int .i64 a1_1)) (ds := []) (tb 0 8) (by kernel_rfl) rfl rfl ⟨(blk_cell BK299.out 0).trans rfl, (blk_cell BK299.out 1).trans rfl, (blk_cell BK300.out 0).trans rfl, (blk_cell BK300.out 1).trans rfl⟩ (fun hHeld => ?_); refine with_tabW impl_SubtractRats.tab1 impl_SubtractRats.bits1 (fun HT_ HW_ => ?_)
 generalize w7.drew = w8 at BK299 BK300 BK301 HB hHeld ⊢
 refine tk 0 6 (tb 1 7) (hy := by rintro w' ⟨s0, s1, s2, s3⟩; go_simp; with_reducible rfl) (h := ?_)
 refine tk 1 7 (tb 2 6) (hy := by rintro w' ⟨s0, s1, s2, s3⟩; go_simp; with_reducible rfl) (h := ?_)
 refine on 2 8 (tb 3 5) (fun K hK => ?_)
 refine gs Try.func141 #[.agg #[.int .i64 a1_0, .int .i64 a1_1]] ?_
 with_reducible refine (impl_negated.calls a1_0 a1_1 t302 t303 _ A3.out).mono ?_
 rintro e w9 ⟨rfl, hb⟩
 refine ⟨_, rfl, ?_⟩
 replace BK299 := Aside0.mk (bb gb299 hb)
 replace BK300 := Aside0.mk (bb gb300 hb)
 replace BK301 := Aside0.mk (bb gb301 hb)
 replace HB := Aside0.mk (bs hb)
 (try clear hb)
 (try clear hb2)
 (try clear hk)
 (try clear hi)
 refine hK.out _ _ ⟨(blk_cell BK299.out 0).trans rfl, (blk_cell BK299.out 1).trans rfl, (blk_cell BK300.out 0).trans rfl, (blk_cell BK300.out 1).trans rfl⟩ (fun hHeld => ?_)
 clear hK K
 refine nm 8 ?_
 refine on 3 9 (tb 4 4) (fun K hK => ?_)
 refine gs Try.func129 #[.agg #[.int .i64 a0_0, .int .i64 a0_1], .agg #[.int .i64 t302, .int .i64 t303]] ?_
 with_reducible refine (impl_AddRats.calls k a0_0 a0_1 t302 t303 t304 t305 t306 _ A4.out).mono ?_
 rintro e w10 ⟨rfl, hb⟩
 refine ⟨_, rfl, ?_⟩
 replace BK299 := Aside0.mk (bb gb299 hb)
 replace BK300 := Aside0.mk (bb gb300 hb)
 replace BK301 := Aside0.mk (bb gb301 hb)
 replace HB := Aside0.mk (bs hb)
 (try clear hb)
 (try clear hb2)
 (try clear hk)
 (try clear hi)
 refine hK.out _ _ ⟨(blk_cell BK299.out 0).trans rfl, (blk_cell BK299.out 1).trans rfl, (blk_cell BK300.out 0).trans rfl, (blk_cell BK300.out 1).trans rfl⟩ (fun hHeld => ?_)
 clear hK K
 refine nm 9 ?_
 refine pu 4 10 (tb 5 3) ?_
 refine pu 5 11 (tb 6 2) ?_
 refine one_ (i := 6) (N := none) (tb 7 1) rfl rfl (one_of HT_.out (by kernel_rfl)) (by decide) (fun K hK => ?_)
 have hs11 : w10.cell? ⟨gb301, 0, none⟩ = some (.int .i64 0) := (blk_cell BK301.out 0).trans rfl
 have hfs11 := blk_frozen BK301.out 0
 have hns11_0 := NB299_301.out
 have hns11_1 := NB300_301.out
 have hms11_0 := NB301_299.out
 have hms11_1 := NB301_300.out
 have hs12 : w10.cell? ⟨gb301, 1, none⟩ = some (.int .i64 0) := (blk_cell BK301.out 1).trans rfl
 have hfs12 := blk_frozen BK301.out 1
 have hns12_0 := NB299_301.out
 have hns12_1 := NB300_301.out
 have hms12_0 := NB301_299.out
 have hms12_1 := NB301_300.out
 refine skip_ (w1 := ?_) (by rfl) rfl ?_ ?_
 rotate_left
 ·go_simp
  rfl
 refine hK.out _ _ ⟨(by (iterate 2 refine (cell_far (p := ⟨gb301, _, none⟩) NB299_301.out _).trans ?_); exact hHeld.1), (by (iterate 2 refine (cell_far (p := ⟨gb301, _, none⟩) NB299_301.out _).trans ?_); exact hHeld.2.1), (by (iterate 2 refine (cell_far (p := ⟨gb301, _, none⟩) NB300_301.out _).trans ?_); exact hHeld.2.2.1), (by (iterate 2 refine (cell_far (p := ⟨gb301, _, none⟩) NB300_301.out _).trans ?_); exact hHeld.2.2.2)⟩ (fun hHeld => ?_)
 clear hK K
 refine pu 7 5 (tb 8 0) ?_
 refine done_ (done_of HT_.out (by kernel_rfl)) ?_
 try go_wp2
 refine bodyPost_ret (results_ct rfl _ _ gb301 28 #[.int .i64 t304, .int .i64 t305] (0, 0) _ rfl (by (with_reducible repeat (first | refine blk_drewN ?_ _ | refine blk_drew ?_ | refine blk_alloc ?_ _)); refine blk_put (cs := #[.int .i64 t304, .int .i64 0]) ?_ 1 _ rfl; (with_reducible repeat (first | refine blk_drewN ?_ _ | refine blk_drew ?_ | refine blk_alloc ?_ _)); refine blk_put (cs := #[.int .i64 0, .int .i64 0]) ?_ 0 _ rfl; (with_reducible repeat (first | refine blk_drewN ?_ _ | refine blk_drew ?_ | refine blk_alloc ?_ _)); exact BK301.out) Try.underlying28 rfl (by kernel_rfl)) rfl ?_
 exact ⟨by first | rfl | (simp [errW_none, errW_some] <;> rfl) | (simp [*, errW_none, errW_some] <;> rfl), bl⟩

/-! ### impl_calc_sub: function 107 -/
def impl_calc_sub.f (k : Nat) (s0_0 : Bool) (a1_0 : Int) (a1_1 : Int) (a2_0 : Int) (a2_1 : Int) : Option (Int × Int × Bool) := (impl_SubtractRats.f k a1_0 a1_1 a2_0 a2_1).bind fun bt310 => ((impl_calc_keep.f s0_0 bt310.1 bt310.2.1 bt310.2.2).bind fun bt313 => (some (bt313.1, bt313.2.1, bt313.2.2)))
set_option maxHeartbeats 8000000 in
set_option maxRecDepth 100000 in
theorem impl_calc_sub.calls (k : Nat) (g : Nat) (s0_0 : Bool) (a1_0 : Int) (a1_1 : Int) (a2_0 : Int) (a2_1 : Int) (r1 : Int) (r2 : Int) (r3 : Bool) (w0 w : World) (hI : IsS78 w0 w g s0_0) (hB : Below w0.heap.size w0 w) (h : impl_calc_sub.f k s0_0 a1_0 a1_1 a2_0 a2_1 = some (r1, r2, r3)) :
  Calls Try.prog 107 #[.pointer (some ⟨g, 0, none⟩), .agg #[.int .i64 a1_0, .int .i64 a1_1], .agg #[.int .i64 a2_0, .int .i64 a2_1]] w fun e w' => e = .returned (.agg #[.int .i64 r1, .int .i64 r2]) ∧ IsS78 w0 w' g r3 ∧ Below w0.heap.size w0 w' ∧ KeepBut w w' g none := by
 have hu28 := Try.underlying28
 have HI0 := Aside0.mk hI
 have HK := Aside0.mk (KeepBut.refl w g none)
 have HL := Aside0.mk hB.size
 clear hI
 have HW0 := Aside0.mk hB.size
 have HB := Aside0.mk hB
 clear hB
 have H : ((impl_SubtractRats.f k a1_0 a1_1 a2_0 a2_1).bind fun bt310 => ((impl_calc_keep.f s0_0 bt310.1 bt310.2.1 bt310.2.2).bind fun bt313 => (some (bt313.1, bt313.2.1, bt313.2.2)))) = some (r1, r2, r3) := h
 clear h
 replace H := Option.bind_eq_some_iff.mp H
 obtain ⟨⟨t310, t311, t312⟩, A40, H⟩ := H
 replace H : ((impl_calc_keep.f s0_0 t310 t311 t312).bind fun bt313 => (some (bt313.1, bt313.2.1, bt313.2.2))) = some (r1, r2, r3) := H
 have A4 := Aside0.mk A40
 clear A40
 replace H := Option.bind_eq_some_iff.mp H
 obtain ⟨⟨t313, t314, t315⟩, A50, H⟩ := H
 replace H : (some (t313, t314, t315)) = some (r1, r2, r3) := H
 have A5 := Aside0.mk A50
 clear A50
 simp only [Option.some.injEq, Prod.mk.injEq] at H
 obtain ⟨rfl, rfl, rfl⟩ := H
 go_enter Try.func107, Try.ntmps107
 go_wp2_with (first | ((with_reducible refine gate_dst (N := 4) rfl ?_); refine bx 4 #[.int .i64 a1_0, .int .i64 a1_1] 28 ?_; intro gb307 hg w6 hbox hb; have BK307 := Aside0.mk (hbox); have GW307 := Aside0.mk ((by rw [hg]; exact (keep_size (w := w) (g := g) (row := none) (by repeat (first | (with_reducible first | exact HK.out | apply KeepBut.set_ | apply keep_drewN | apply keep_drew | apply keep_alloc) | exact HK.out))) : w.heap.size ≤ gb307)); have GE307 := Aside0.mk ((Nat.le_trans HW0.out GW307.out : w0.heap.size ≤ gb307)); have NB0_307 := Aside0.mk ((by rw [hg]; exact Nat.ne_of_lt (IsS78.lt (show IsS78 w0 _ g s0_0 from by repeat (first | (with_reducible first | exact HI0.out | apply IsS78.alloc | apply IsS78.drewN | apply IsS78.drew | apply IsS78.set_0) | exact HI0.out))) : g ≠ gb307)); have NB307_0 := Aside0.mk NB0_307.out.symm; replace HK := Aside0.mk (KeepBut.trans (by repeat (first | (with_reducible first | exact HK.out | apply KeepBut.set_ | apply keep_drewN | apply keep_drew | apply keep_alloc) | exact HK.out)) (KeepBut.of_below hb g none) (.inl rfl)); replace HB := Aside0.mk (below_step (by repeat (first | (with_reducible first | exact HB.out | apply below_alloc | apply pw_below_drewN | apply below_drew1 | refine below_set ?_ (IsS78.ge HI0.out)) | exact HB.out)) hb); replace HI0 := Aside0.mk (IsS78.below (by repeat (first | (with_reducible first | exact HI0.out | apply IsS78.alloc | apply IsS78.drewN | apply IsS78.drew | apply IsS78.set_0) | exact HI0.out)) hb); clear hb hbox hg) | ((with_reducible refine gate_dst (N := 5) rfl ?_); refine bx 5 #[.int .i64 a2_0, .int .i64 a2_1] 28 ?_; intro gb308 hg w7 hbox hb; have BK308 := Aside0.mk (hbox); have GW308 := Aside0.mk ((by rw [hg]; exact (keep_size (w := w) (g := g) (row := none) (by repeat (first | (with_reducible first | exact HK.out | apply KeepBut.set_ | apply keep_drewN | apply keep_drew | apply keep_alloc | refine keep_far ?_ GW307.out _) | exact HK.out))) : w.heap.size ≤ gb308)); have GE308 := Aside0.mk ((Nat.le_trans HW0.out GW308.out : w0.heap.size ≤ gb308)); have NB307_308 := Aside0.mk (bn gb307 hg); have NB308_307 := Aside0.mk NB307_308.out.symm; have NB0_308 := Aside0.mk ((by rw [hg]; exact Nat.ne_of_lt (IsS78.lt (show IsS78 w0 _ g s0_0 from by repeat (first | (with_reducible first | exact HI0.out | apply IsS78.alloc | apply IsS78.drewN | apply IsS78.drew | apply IsS78.set_0 | refine IsS78.far ?_ NB0_307.out _) | exact HI0.out))) : g ≠ gb308)); have NB308_0 := Aside0.mk NB0_308.out.symm; replace BK307 := Aside0.mk (bb gb307 hb); replace HK := Aside0.mk (KeepBut.trans (by repeat (first | (with_reducible first | exact HK.out | apply KeepBut.set_ | apply keep_drewN | apply keep_drew | apply keep_alloc | refine keep_far ?_ GW307.out _) | exact HK.out)) (KeepBut.of_below hb g none) (.inl rfl)); replace HB := Aside0.mk (below_step (by repeat (first | (with_reducible first | exact HB.out | apply below_alloc | apply pw_below_drewN | apply below_drew1 | refine below_set ?_ (IsS78.ge HI0.out) | refine below_set ?_ GE307.out) | exact HB.out)) hb); replace HI0 := Aside0.mk (IsS78.below (by repeat (first | (with_reducible first | exact HI0.out | apply IsS78.alloc | apply IsS78.drewN | apply IsS78.drew | apply IsS78.set_0 | refine IsS78.far ?_ NB0_307.out _) | exact HI0.out)) hb); clear hb hbox hg) | ((with_reducible refine gate_dst (N := 6) rfl ?_); refine bx 6 #[.int .i64 0, .int .i64 0] 28 ?_; intro gb309 hg w8 hbox hb; have BK309 := Aside0.mk (hbox); have GW309 := Aside0.mk ((by rw [hg]; exact (keep_size (w := w) (g := g) (row := none) (by repeat (first | (with_reducible first | exact HK.out | apply KeepBut.set_ | apply keep_drewN | apply keep_drew | apply keep_alloc | refine keep_far ?_ GW307.out _ | refine keep_far ?_ GW308.out _) | exact HK.out))) : w.heap.size ≤ gb309)); have GE309 := Aside0.mk ((Nat.le_trans HW0.out GW309.out : w0.heap.size ≤ gb309)); have NB307_309 := Aside0.mk (bn gb307 hg); have NB309_307 := Aside0.mk NB307_309.out.symm; have NB308_309 := Aside0.mk (bn gb308 hg); have NB309_308 := Aside0.mk NB308_309.out.symm; have NB0_309 := Aside0.mk ((by rw [hg]; exact Nat.ne_of_lt (IsS78.lt (show IsS78 w0 _ g s0_0 from by repeat (first | (with_reducible first | exact HI0.out | apply IsS78.alloc | apply IsS78.drewN | apply IsS78.drew | apply IsS78.set_0 | refine IsS78.far ?_ NB0_307.out _ | refine IsS78.far ?_ NB0_308.out _) | exact HI0.out))) : g ≠ gb309)); have NB309_0 := Aside0.mk NB0_309.out.symm; replace BK307 := Aside0.mk (bb gb307 hb); replace BK308 := Aside0.mk (bb gb308 hb); replace HK := Aside0.mk (KeepBut.trans (by repeat (first | (with_reducible first | exact HK.out | apply KeepBut.set_ | apply keep_drewN | apply keep_drew | apply keep_alloc | refine keep_far ?_ GW307.out _ | refine keep_far ?_ GW308.out _) | exact HK.out)) (KeepBut.of_below hb g none) (.inl rfl)); replace HB := Aside0.mk (below_step (by repeat (first | (with_reducible first | exact HB.out | apply below_alloc | apply pw_below_drewN | apply below_drew1 | refine below_set ?_ (IsS78.ge HI0.out) | refine below_set ?_ GE307.out | refine below_set ?_ GE308.out) | exact HB.out)) hb); replace HI0 := Aside0.mk (IsS78.below (by repeat (first | (with_reducible first | exact HI0.out | apply IsS78.alloc | apply IsS78.drewN | apply IsS78.drew | apply IsS78.set_0 | refine IsS78.far ?_ NB0_307.out _ | refine IsS78.far ?_ NB0_308.out _) | exact HI0.out)) hb); clear hb hbox hg; have hnb9 := NB307_308.out; have hnc9 := NB308_307.out; have hnb10 := NB307_309.out; have hnc10 := NB309_307.out; have hnb11 := NB307_0.out; have hnc11 := NB0_307.out; have hcz12_0 : w8.cell? ⟨gb307, 0, none⟩ = some (.int .i64 a1_0) := (blk_cell BK307.out 0).trans rfl; have hcz12_1 : w8.cell? ⟨gb307, 1, none⟩ = some (.int .i64 a1_1) := (blk_cell BK307.out 1).trans rfl; have hfz12_0 := blk_frozen BK307.out 0; have hfz12_1 := blk_frozen BK307.out 1; have hnb13 := NB308_309.out; have hnc13 := NB309_308.out; have hnb14 := NB308_0.out; have hnc14 := NB0_308.out; have hcz15_0 : w8.cell? ⟨gb308, 0, none⟩ = some (.int .i64 a2_0) := (blk_cell BK308.out 0).trans rfl; have hcz15_1 : w8.cell? ⟨gb308, 1, none⟩ = some (.int .i64 a2_1) := (blk_cell BK308.out 1).trans rfl; have hfz15_0 := blk_frozen BK308.out 0; have hfz15_1 := blk_frozen BK308.out 1) | ((with_reducible refine gate_callee (f := 130) rfl ?_); refine gl 10 Try.func130 #[.agg #[.int .i64 a1_0, .int .i64 a1_1], .agg #[.int .i64 a2_0, .int .i64 a2_1]] ?_; (with_reducible refine (impl_SubtractRats.calls k a1_0 a1_1 a2_0 a2_1 t310 t311 t312 _ A4.out).mono ?_); rintro e w16 ⟨rfl, hb⟩; refine ⟨_, rfl, ?_⟩; replace BK307 := Aside0.mk (bb gb307 hb); replace BK308 := Aside0.mk (bb gb308 hb); replace BK309 := Aside0.mk (bb gb309 hb); replace HK := Aside0.mk (KeepBut.trans (by repeat (first | (with_reducible first | exact HK.out | apply KeepBut.set_ | apply keep_drewN | apply keep_drew | apply keep_alloc | refine keep_far ?_ GW307.out _ | refine keep_far ?_ GW308.out _ | refine keep_far ?_ GW309.out _) | exact HK.out)) (KeepBut.of_below hb g none) (.inl rfl)); replace HB := Aside0.mk (below_step (by repeat (first | (with_reducible first | exact HB.out | apply below_alloc | apply pw_below_drewN | apply below_drew1 | refine below_set ?_ (IsS78.ge HI0.out) | refine below_set ?_ GE307.out | refine below_set ?_ GE308.out | refine below_set ?_ GE309.out) | exact HB.out)) hb); replace HI0 := Aside0.mk (IsS78.below (by repeat (first | (with_reducible first | exact HI0.out | apply IsS78.alloc | apply IsS78.drewN | apply IsS78.drew | apply IsS78.set_0 | refine IsS78.far ?_ NB0_307.out _ | refine IsS78.far ?_ NB0_308.out _ | refine IsS78.far ?_ NB0_309.out _) | exact HI0.out)) hb); (try clear hb); (try clear hb2); (try clear hk); (try clear hi)) | ((with_reducible refine gate_callee (f := 127) rfl ?_); refine gl 13 Try.func127 #[.pointer (some ⟨g, 0, none⟩), .agg #[.int .i64 t310, .int .i64 t311], .bool t312] ?_; (with_reducible refine (impl_calc_keep.calls g s0_0 t310 t311 t312 t313 t314 t315 w0 _ ?side1 ?side2 A5.out).mono ?_); (case side1 => repeat (first | (with_reducible first | exact HI0.out | apply IsS78.alloc | apply IsS78.drewN | apply IsS78.drew | apply IsS78.set_0 | refine IsS78.far ?_ NB0_307.out _ | refine IsS78.far ?_ NB0_308.out _ | refine IsS78.far ?_ NB0_309.out _) | exact HI0.out)); (case side2 => repeat (first | (with_reducible first | exact HB.out | apply below_alloc | apply pw_below_drewN | apply below_drew1 | refine below_set ?_ (IsS78.ge HI0.out) | refine below_set ?_ GE307.out | refine below_set ?_ GE308.out | refine below_set ?_ GE309.out) | exact HB.out)); rintro e w17 ⟨rfl, hi, hb, hk⟩; refine ⟨_, rfl, ?_⟩; replace BK307 := Aside0.mk (KeepBut.blk hk (g' := gb307) (o := .cells #[.int .i64 a1_0, .int .i64 a1_1] 28 (0, 0)) (bo gb307) NB307_0.out (by simp)); replace BK308 := Aside0.mk (KeepBut.blk hk (g' := gb308) (o := .cells #[.int .i64 a2_0, .int .i64 a2_1] 28 (0, 0)) (bo gb308) NB308_0.out (by simp)); replace BK309 := Aside0.mk (KeepBut.blk hk (g' := gb309) (o := .cells #[.int .i64 0, .int .i64 0] 28 (0, 0)) (bo gb309) NB309_0.out (by simp)); replace HK := Aside0.mk (KeepBut.trans (by repeat (first | (with_reducible first | exact HK.out | apply KeepBut.set_ | apply keep_drewN | apply keep_drew | apply keep_alloc | refine keep_far ?_ GW307.out _ | refine keep_far ?_ GW308.out _ | refine keep_far ?_ GW309.out _) | exact HK.out)) hk (.inl rfl)); replace HB := Aside0.mk (hb); replace HI0 := Aside0.mk (hi); (try clear hb); (try clear hb2); (try clear hk); (try clear hi); have hnb18 := NB309_0.out; have hnc18 := NB0_309.out; have hcz19_0 : w17.cell? ⟨gb309, 0, none⟩ = some (.int .i64 0) := (blk_cell BK309.out 0).trans rfl; have hcz19_1 : w17.cell? ⟨gb309, 1, none⟩ = some (.int .i64 0) := (blk_cell BK309.out 1).trans rfl; have hfz19_0 := blk_frozen BK309.out 0; have hfz19_1 := blk_frozen BK309.out 1))
 refine bodyPost_ret (results_cell_row rfl _ _ gb309 28 #[.int .i64 t313, .int .i64 t314] (0, 0) _ rfl (by (with_reducible repeat (first | refine blk_drewN ?_ _ | refine blk_drew ?_ | refine blk_alloc ?_ _)); refine blk_put (cs := #[.int .i64 t313, .int .i64 0]) ?_ 1 _ rfl; (with_reducible repeat (first | refine blk_drewN ?_ _ | refine blk_drew ?_ | refine blk_alloc ?_ _)); refine blk_put (cs := #[.int .i64 0, .int .i64 0]) ?_ 0 _ rfl; (with_reducible repeat (first | refine blk_drewN ?_ _ | refine blk_drew ?_ | refine blk_alloc ?_ _)); exact BK309.out) Try.underlying28 rfl (by kernel_rfl)) rfl ?_
 exact ⟨by first | rfl | (simp [errW_none, errW_some] <;> rfl) | (simp [*, errW_none, errW_some] <;> rfl), by repeat (first | (with_reducible first | exact HI0.out | apply IsS78.alloc | apply IsS78.drewN | apply IsS78.drew | apply IsS78.set_0 | refine IsS78.far ?_ NB0_307.out _ | refine IsS78.far ?_ NB0_308.out _ | refine IsS78.far ?_ NB0_309.out _) | exact HI0.out), by repeat (first | (with_reducible first | exact HB.out | apply below_alloc | apply pw_below_drewN | apply below_drew1 | refine below_set ?_ (IsS78.ge HI0.out) | refine below_set ?_ GE307.out | refine below_set ?_ GE308.out | refine below_set ?_ GE309.out) | exact HB.out), by repeat (first | (with_reducible first | exact HK.out | apply KeepBut.set_ | apply keep_drewN | apply keep_drew | apply keep_alloc | refine keep_far ?_ GW307.out _ | refine keep_far ?_ GW308.out _ | refine keep_far ?_ GW309.out _) | exact HK.out)⟩

end Go.Proofs.Ytmecnnnagallnaa.PFnExactLeastSlope
