-- Written by this session's program wip/pp (the kit's print tool with additions) 35421559b90ae4d0a3588c463048766b98c2df88dd9212a6774a882060cdf62d
import Derived.Test.YtmecnnnagallnaaPFnExactPiecesOfx0
import Derived.Test.YtmecnnnagallnaaPFnExactPiecesOfx8
import Derived.Test.YtmecnnnagallnaaPFnExactPiecesOfx9
import Derived.Test.YtmecnnnagallnaaPFnExactPiecesOfx12
namespace Go.Proofs.Ytmecnnnagallnaa.PFnExactPiecesOf
open Go.RowKit Go.Proofs.YtmecnnnagallnaaW.PrintWords Go.Proofs.YtmecnnnagallnaaW.PrintLast Go.Proofs.YtmecnnnagallnaaW.PrintMore
attribute [local go_sem] max2_int min2_int max_two min_two max_three min_three max_four min_four   -- for this text's walks alone
set_option linter.unusedVariables false
set_option linter.unusedSimpArgs false

/-! ### impl_lowest: function 140 -/
def impl_lowest.f (k : Nat) (a0 : Int) (a1 : Int) : Option (Int × Int × Bool) := (impl_greatestDivisor.f k a0 a1).bind fun t320 => (if a1 < 0 then (if (wrap64 (-t320)) = 0 then (none) else ((impl_isRat.f k (wrap64 (Int.tdiv a0 (wrap64 (-t320)))) (wrap64 (Int.tdiv a1 (wrap64 (-t320))))).bind fun t322 => (if t322 = true then (some (wrap64 (Int.tdiv a0 (wrap64 (-t320))), wrap64 (Int.tdiv a1 (wrap64 (-t320))), true)) else (some (0, 0, false))))) else (if t320 = 0 then (none) else ((impl_isRat.f k (wrap64 (Int.tdiv a0 t320)) (wrap64 (Int.tdiv a1 t320))).bind fun t324 => (if t324 = true then (some (wrap64 (Int.tdiv a0 t320), wrap64 (Int.tdiv a1 t320), true)) else (some (0, 0, false))))))
def impl_lowest.T4 : Bool × List (List Nat × List Nat) := (true, [([], []), ([], []), ([0, 1], [0, 1]), ([], []), ([], []), ([3, 4], [3, 4]), ([2, 5], [2, 5]), ([], []), ([7, 6, 0, 1, 2, 3, 4, 5, 6, 7], [6, 7])])
def impl_lowest.B4 : List Nat := [0, 0, 3, 0, 0, 24, 63, 0, 255]
theorem impl_lowest.tab4 : rtab .any (opsOf Try.f140 4) = impl_lowest.T4 := by kernel_rfl
theorem impl_lowest.bits4 : waitsOk impl_lowest.T4.2 impl_lowest.B4 = true := by kernel_rfl
set_option maxHeartbeats 8000000 in
set_option maxRecDepth 100000 in
theorem impl_lowest.calls (k : Nat) (a0 : Int) (a1 : Int) (r1 : Int) (r2 : Int) (r3 : Bool) (w : World) (h : impl_lowest.f k a0 a1 = some (r1, r2, r3)) :
  Calls Try.prog 140 #[.int .i64 a0, .int .i64 a1] w fun e w' => e = .returned (.tuple #[.agg #[.int .i64 r1, .int .i64 r2], .bool r3]) ∧ Below w.heap.size w w' := by
 have hu28 := Try.underlying28
 have HB := Aside0.mk (Below.refl w.heap.size w)
 have H : ((impl_greatestDivisor.f k a0 a1).bind fun t320 => (if a1 < 0 then (if (wrap64 (-t320)) = 0 then (none) else ((impl_isRat.f k (wrap64 (Int.tdiv a0 (wrap64 (-t320)))) (wrap64 (Int.tdiv a1 (wrap64 (-t320))))).bind fun t322 => (if t322 = true then (some (wrap64 (Int.tdiv a0 (wrap64 (-t320))), wrap64 (Int.tdiv a1 (wrap64 (-t320))), true)) else (some (0, 0, false))))) else (if t320 = 0 then (none) else ((impl_isRat.f k (wrap64 (Int.tdiv a0 t320)) (wrap64 (Int.tdiv a1 t320))).bind fun t324 => (if t324 = true then (some (wrap64 (Int.tdiv a0 t320), wrap64 (Int.tdiv a1 t320), true)) else (some (0, 0, false))))))) = some (r1, r2, r3) := h
 clear h
 replace H := Option.bind_eq_some_iff.mp H
 obtain ⟨t320, A30, H⟩ := H
 replace H : (if a1 < 0 then (if (wrap64 (-t320)) = 0 then (none) else ((impl_isRat.f k (wrap64 (Int.tdiv a0 (wrap64 (-t320)))) (wrap64 (Int.tdiv a1 (wrap64 (-t320))))).bind fun t322 => (if t322 = true then (some (wrap64 (Int.tdiv a0 (wrap64 (-t320))), wrap64 (Int.tdiv a1 (wrap64 (-t320))), true)) else (some (0, 0, false))))) else (if t320 = 0 then (none) else ((impl_isRat.f k (wrap64 (Int.tdiv a0 t320)) (wrap64 (Int.tdiv a1 t320))).bind fun t324 => (if t324 = true then (some (wrap64 (Int.tdiv a0 t320), wrap64 (Int.tdiv a1 t320), true)) else (some (0, 0, false)))))) = some (r1, r2, r3) := H
 have A3 := Aside0.mk A30
 clear A30
 by_cases c4 : a1 < 0
 ·rw [if_pos c4] at H
  have c4b0 : decide (a1 < 0) = true := decide_eq_true c4
  clear c4
  by_cases c5 : (wrap64 (-t320)) = 0
  ·rw [if_pos c5] at H
   exact absurd H (by simp)
  ·rw [if_neg c5] at H
   have c5b0 : ((wrap64 (-t320)) == 0) = false := beq_eq_false_iff_ne.mpr c5
   have c5b1 : ((wrap64 (-t320)) != 0) = true := bne_iff_ne.mpr c5
   replace H := Option.bind_eq_some_iff.mp H
   obtain ⟨t322, A60, H⟩ := H
   replace H : (if t322 = true then (some (wrap64 (Int.tdiv a0 (wrap64 (-t320))), wrap64 (Int.tdiv a1 (wrap64 (-t320))), true)) else (some (0, 0, false))) = some (r1, r2, r3) := H
   have A6 := Aside0.mk A60
   clear A60
   by_cases c7 : t322 = true
   ·subst c7
    have H1 : (some (wrap64 (Int.tdiv a0 (wrap64 (-t320))), wrap64 (Int.tdiv a1 (wrap64 (-t320))), true)) = some (r1, r2, r3) := by rw [if_pos rfl] at H; exact H
    clear H
    have H := H1
    clear H1
    simp only [Option.some.injEq, Prod.mk.injEq] at H
    obtain ⟨rfl, rfl, rfl⟩ := H
    go_enter Try.func140, Try.ntmps140
    try go_wp2_with (first | ((with_reducible refine gate_dst (N := 4) rfl ?_); refine bx 4 #[.int .i64 0, .int .i64 0] 28 ?_; intro gb319 hg w8 hbox hb; have BK319 := Aside0.mk (hbox); have GW319 := Aside0.mk (bz hg); have GE319 := GW319; replace HB := Aside0.mk (bs hb); clear hb hbox hg) | ((with_reducible refine gate_callee (f := 136) rfl ?_); refine gl 10 Try.func136 #[.int .i64 a0, .int .i64 a1] ?_; (with_reducible refine (impl_greatestDivisor.calls k a0 a1 t320 _ A3.out).mono ?_); rintro e w' ⟨rfl, ⟨nd, rfl⟩⟩; refine ⟨_, rfl, ?_⟩; (try (rw [drewN_self w8]; generalize hq_ : World.drewN w8 _ = w8; have n0_ : Aside0 (w8.heap[gb319]? = some (.cells #[.int .i64 0, .int .i64 0] 28 (0, 0))) := ⟨by rw [← hq_]; exact (bo gb319)⟩; have n1_ : Aside0 (Below w.heap.size w w8) := ⟨by rw [← hq_]; exact bl⟩; clear BK319 HB hq_; have BK319 := n0_; have HB := n1_; clear n0_ n1_))))
    replace BK319 := Aside0.mk (blk_drew BK319.out)
    replace HB := Aside0.mk (below_drew1 HB.out)
    refine start_ (n := 9) (S := fun w' => True) (ds := []) (tb 0 9) (by kernel_rfl) rfl rfl trivial (fun hHeld => ?_); refine with_tabW impl_lowest.tab4 impl_lowest.bits4 (fun HT_ HW_ => ?_)
    generalize w8.drew = w9 at BK319 HB hHeld ⊢
    refine pu 0 15 (tb 1 8) ?_
    refine pu 1 16 (tb 2 7) ?_
    refine pu 2 17 (tb 3 6) ?_
    refine pu 3 18 (tb 4 5) ?_
    refine pu 4 19 (tb 5 4) ?_
    refine pu 5 20 (tb 6 3) ?_
    refine pu 6 21 (tb 7 2) ?_
    refine on 7 7 (tb 8 1) (fun K hK => ?_)
    refine box_step ?hg (N := 7) ?hd (cs := #[.int .i64 0, .int .i64 0]) (t := 28) ?hr ?_; (case hd => rfl); (case hg => rfl); (case hr => first | (go_simp; done) | (go_simp; rfl))
    intro gb321 hg w10 hbox hb
    have BK321 := Aside0.mk (hbox)
    have GW321 := Aside0.mk (bz hg)
    have GE321 := GW321
    have NB319_321 := Aside0.mk (bn gb319 hg)
    have NB321_319 := Aside0.mk NB319_321.out.symm
    replace BK319 := Aside0.mk (bb gb319 hb)
    replace HB := Aside0.mk (bs hb)
    clear hb hbox hg
    refine hK.out _ _ trivial (fun hHeld => ?_)
    clear hK K
    refine nm 7 ?_
    refine one_ (i := 8) (N := none) (tb 9 0) rfl rfl (one_of HT_.out (by kernel_rfl)) (by decide) (fun K hK => ?_)
    have hs11 : w10.cell? ⟨gb321, 0, none⟩ = some (.int .i64 0) := (blk_cell BK321.out 0).trans rfl
    have hfs11 := blk_frozen BK321.out 0
    have hns11_0 := NB319_321.out
    have hms11_0 := NB321_319.out
    have hs12 : w10.cell? ⟨gb321, 1, none⟩ = some (.int .i64 0) := (blk_cell BK321.out 1).trans rfl
    have hfs12 := blk_frozen BK321.out 1
    have hns12_0 := NB319_321.out
    have hms12_0 := NB321_319.out
    refine skip_ (w1 := ?_) (by rfl) rfl ?_ ?_
    rotate_left
    ·go_simp
     rfl
    refine hK.out _ _ trivial (fun hHeld => ?_)
    clear hK K
    refine done_ (done_of HT_.out (by kernel_rfl)) ?_
    have hnb13 := NB321_319.out
    have hnc13 := NB319_321.out
    have hcz14_0 : w10.cell? ⟨gb321, 0, none⟩ = some (.int .i64 0) := (blk_cell BK321.out 0).trans rfl
    have hcz14_1 : w10.cell? ⟨gb321, 1, none⟩ = some (.int .i64 0) := (blk_cell BK321.out 1).trans rfl
    have hfz14_0 := blk_frozen BK321.out 0
    have hfz14_1 := blk_frozen BK321.out 1
    try go_wp2_with (first | ((with_reducible refine gate_callee (f := 116) rfl ?_); refine gl 23 Try.func116 #[.agg #[.int .i64 (wrap64 (Int.tdiv a0 (wrap64 (-t320)))), .int .i64 (wrap64 (Int.tdiv a1 (wrap64 (-t320))))]] ?_; (with_reducible refine (impl_isRat.calls k (wrap64 (Int.tdiv a0 (wrap64 (-t320)))) (wrap64 (Int.tdiv a1 (wrap64 (-t320)))) true _ A6.out).mono ?_); rintro e w15 ⟨rfl, hb⟩; refine ⟨_, rfl, ?_⟩; replace BK319 := Aside0.mk (blk_below (g := gb319) (o := .cells #[.int .i64 0, .int .i64 0] 28 (0, 0)) (by (with_reducible repeat (first | refine blk_drewN ?_ _ | refine blk_drew ?_ | refine blk_alloc ?_ _)); refine blk_far ?_ NB319_321.out _; (with_reducible repeat (first | refine blk_drewN ?_ _ | refine blk_drew ?_ | refine blk_alloc ?_ _)); refine blk_far ?_ NB319_321.out _; (with_reducible repeat (first | refine blk_drewN ?_ _ | refine blk_drew ?_ | refine blk_alloc ?_ _)); exact BK319.out) hb); replace BK321 := Aside0.mk (blk_below (g := gb321) (o := .cells #[.int .i64 (wrap64 (Int.tdiv a0 (wrap64 (-t320)))), .int .i64 (wrap64 (Int.tdiv a1 (wrap64 (-t320))))] 28 (0, 0)) (by (with_reducible repeat (first | refine blk_drewN ?_ _ | refine blk_drew ?_ | refine blk_alloc ?_ _)); refine blk_put (cs := #[.int .i64 (wrap64 (Int.tdiv a0 (wrap64 (-t320)))), .int .i64 0]) ?_ 1 _ rfl; (with_reducible repeat (first | refine blk_drewN ?_ _ | refine blk_drew ?_ | refine blk_alloc ?_ _)); refine blk_put (cs := #[.int .i64 0, .int .i64 0]) ?_ 0 _ rfl; (with_reducible repeat (first | refine blk_drewN ?_ _ | refine blk_drew ?_ | refine blk_alloc ?_ _)); exact BK321.out) hb); replace HB := Aside0.mk (bs hb); (try clear hb); (try clear hb2); (try clear hk); (try clear hi); have hcz16_0 : w15.cell? ⟨gb321, 0, none⟩ = some (.int .i64 (wrap64 (Int.tdiv a0 (wrap64 (-t320))))) := (blk_cell BK321.out 0).trans rfl; have hcz16_1 : w15.cell? ⟨gb321, 1, none⟩ = some (.int .i64 (wrap64 (Int.tdiv a1 (wrap64 (-t320))))) := (blk_cell BK321.out 1).trans rfl; have hfz16_0 := blk_frozen BK321.out 0; have hfz16_1 := blk_frozen BK321.out 1; have hcz17_0 : w15.cell? ⟨gb319, 0, none⟩ = some (.int .i64 0) := (blk_cell BK319.out 0).trans rfl; have hcz17_1 : w15.cell? ⟨gb319, 1, none⟩ = some (.int .i64 0) := (blk_cell BK319.out 1).trans rfl; have hfz17_0 := blk_frozen BK319.out 0; have hfz17_1 := blk_frozen BK319.out 1))
    refine bodyPost_ret (results_ct rfl _ _ gb319 28 #[.int .i64 (wrap64 (Int.tdiv a0 (wrap64 (-t320)))), .int .i64 (wrap64 (Int.tdiv a1 (wrap64 (-t320))))] (0, 0) _ rfl (by (with_reducible repeat (first | refine blk_drewN ?_ _ | refine blk_drew ?_ | refine blk_alloc ?_ _)); refine blk_put (cs := #[.int .i64 (wrap64 (Int.tdiv a0 (wrap64 (-t320)))), .int .i64 0]) ?_ 1 _ rfl; (with_reducible repeat (first | refine blk_drewN ?_ _ | refine blk_drew ?_ | refine blk_alloc ?_ _)); refine blk_put (cs := #[.int .i64 0, .int .i64 0]) ?_ 0 _ rfl; (with_reducible repeat (first | refine blk_drewN ?_ _ | refine blk_drew ?_ | refine blk_alloc ?_ _)); exact BK319.out) Try.underlying28 rfl (by kernel_rfl)) rfl ?_
    exact ⟨by first | rfl | (simp [errW_none, errW_some] <;> rfl) | (simp [*, errW_none, errW_some] <;> rfl), bl⟩
   ·replace c7 := Bool.eq_false_iff.mpr c7
    subst c7
    have H1 : (some (0, 0, false)) = some (r1, r2, r3) := by rw [if_neg (show ¬ (false = true) by decide)] at H; exact H
    clear H
    have H := H1
    clear H1
    simp only [Option.some.injEq, Prod.mk.injEq] at H
    obtain ⟨rfl, rfl, rfl⟩ := H
    go_enter Try.func140, Try.ntmps140
    try go_wp2_with (first | ((with_reducible refine gate_dst (N := 4) rfl ?_); refine bx 4 #[.int .i64 0, .int .i64 0] 28 ?_; intro gb319 hg w18 hbox hb; have BK319 := Aside0.mk (hbox); have GW319 := Aside0.mk (bz hg); have GE319 := GW319; replace HB := Aside0.mk (bs hb); clear hb hbox hg) | ((with_reducible refine gate_callee (f := 136) rfl ?_); refine gl 10 Try.func136 #[.int .i64 a0, .int .i64 a1] ?_; (with_reducible refine (impl_greatestDivisor.calls k a0 a1 t320 _ A3.out).mono ?_); rintro e w' ⟨rfl, ⟨nd, rfl⟩⟩; refine ⟨_, rfl, ?_⟩; (try (rw [drewN_self w18]; generalize hq_ : World.drewN w18 _ = w18; have n0_ : Aside0 (w18.heap[gb319]? = some (.cells #[.int .i64 0, .int .i64 0] 28 (0, 0))) := ⟨by rw [← hq_]; exact (bo gb319)⟩; have n1_ : Aside0 (Below w.heap.size w w18) := ⟨by rw [← hq_]; exact bl⟩; clear BK319 HB hq_; have BK319 := n0_; have HB := n1_; clear n0_ n1_))))
    replace BK319 := Aside0.mk (blk_drew BK319.out)
    replace HB := Aside0.mk (below_drew1 HB.out)
    refine start_ (n := 9) (S := fun w' => True) (ds := []) (tb 0 9) (by kernel_rfl) rfl rfl trivial (fun hHeld => ?_); refine with_tabW impl_lowest.tab4 impl_lowest.bits4 (fun HT_ HW_ => ?_)
    generalize w18.drew = w19 at BK319 HB hHeld ⊢
    refine pu 0 15 (tb 1 8) ?_
    refine pu 1 16 (tb 2 7) ?_
    refine pu 2 17 (tb 3 6) ?_
    refine pu 3 18 (tb 4 5) ?_
    refine pu 4 19 (tb 5 4) ?_
    refine pu 5 20 (tb 6 3) ?_
    refine pu 6 21 (tb 7 2) ?_
    refine on 7 7 (tb 8 1) (fun K hK => ?_)
    refine box_step ?hg (N := 7) ?hd (cs := #[.int .i64 0, .int .i64 0]) (t := 28) ?hr ?_; (case hd => rfl); (case hg => rfl); (case hr => first | (go_simp; done) | (go_simp; rfl))
    intro gb321 hg w20 hbox hb
    have BK321 := Aside0.mk (hbox)
    have GW321 := Aside0.mk (bz hg)
    have GE321 := GW321
    have NB319_321 := Aside0.mk (bn gb319 hg)
    have NB321_319 := Aside0.mk NB319_321.out.symm
    replace BK319 := Aside0.mk (bb gb319 hb)
    replace HB := Aside0.mk (bs hb)
    clear hb hbox hg
    refine hK.out _ _ trivial (fun hHeld => ?_)
    clear hK K
    refine nm 7 ?_
    refine one_ (i := 8) (N := none) (tb 9 0) rfl rfl (one_of HT_.out (by kernel_rfl)) (by decide) (fun K hK => ?_)
    have hs21 : w20.cell? ⟨gb321, 0, none⟩ = some (.int .i64 0) := (blk_cell BK321.out 0).trans rfl
    have hfs21 := blk_frozen BK321.out 0
    have hns21_0 := NB319_321.out
    have hms21_0 := NB321_319.out
    have hs22 : w20.cell? ⟨gb321, 1, none⟩ = some (.int .i64 0) := (blk_cell BK321.out 1).trans rfl
    have hfs22 := blk_frozen BK321.out 1
    have hns22_0 := NB319_321.out
    have hms22_0 := NB321_319.out
    refine skip_ (w1 := ?_) (by rfl) rfl ?_ ?_
    rotate_left
    ·go_simp
     rfl
    refine hK.out _ _ trivial (fun hHeld => ?_)
    clear hK K
    refine done_ (done_of HT_.out (by kernel_rfl)) ?_
    have hnb23 := NB321_319.out
    have hnc23 := NB319_321.out
    have hcz24_0 : w20.cell? ⟨gb321, 0, none⟩ = some (.int .i64 0) := (blk_cell BK321.out 0).trans rfl
    have hcz24_1 : w20.cell? ⟨gb321, 1, none⟩ = some (.int .i64 0) := (blk_cell BK321.out 1).trans rfl
    have hfz24_0 := blk_frozen BK321.out 0
    have hfz24_1 := blk_frozen BK321.out 1
    try go_wp2_with (first | ((with_reducible refine gate_callee (f := 116) rfl ?_); refine gl 23 Try.func116 #[.agg #[.int .i64 (wrap64 (Int.tdiv a0 (wrap64 (-t320)))), .int .i64 (wrap64 (Int.tdiv a1 (wrap64 (-t320))))]] ?_; (with_reducible refine (impl_isRat.calls k (wrap64 (Int.tdiv a0 (wrap64 (-t320)))) (wrap64 (Int.tdiv a1 (wrap64 (-t320)))) false _ A6.out).mono ?_); rintro e w25 ⟨rfl, hb⟩; refine ⟨_, rfl, ?_⟩; replace BK319 := Aside0.mk (blk_below (g := gb319) (o := .cells #[.int .i64 0, .int .i64 0] 28 (0, 0)) (by (with_reducible repeat (first | refine blk_drewN ?_ _ | refine blk_drew ?_ | refine blk_alloc ?_ _)); refine blk_far ?_ NB319_321.out _; (with_reducible repeat (first | refine blk_drewN ?_ _ | refine blk_drew ?_ | refine blk_alloc ?_ _)); refine blk_far ?_ NB319_321.out _; (with_reducible repeat (first | refine blk_drewN ?_ _ | refine blk_drew ?_ | refine blk_alloc ?_ _)); exact BK319.out) hb); replace BK321 := Aside0.mk (blk_below (g := gb321) (o := .cells #[.int .i64 (wrap64 (Int.tdiv a0 (wrap64 (-t320)))), .int .i64 (wrap64 (Int.tdiv a1 (wrap64 (-t320))))] 28 (0, 0)) (by (with_reducible repeat (first | refine blk_drewN ?_ _ | refine blk_drew ?_ | refine blk_alloc ?_ _)); refine blk_put (cs := #[.int .i64 (wrap64 (Int.tdiv a0 (wrap64 (-t320)))), .int .i64 0]) ?_ 1 _ rfl; (with_reducible repeat (first | refine blk_drewN ?_ _ | refine blk_drew ?_ | refine blk_alloc ?_ _)); refine blk_put (cs := #[.int .i64 0, .int .i64 0]) ?_ 0 _ rfl; (with_reducible repeat (first | refine blk_drewN ?_ _ | refine blk_drew ?_ | refine blk_alloc ?_ _)); exact BK321.out) hb); replace HB := Aside0.mk (bs hb); (try clear hb); (try clear hb2); (try clear hk); (try clear hi); have hcz26_0 : w25.cell? ⟨gb319, 0, none⟩ = some (.int .i64 0) := (blk_cell BK319.out 0).trans rfl; have hcz26_1 : w25.cell? ⟨gb319, 1, none⟩ = some (.int .i64 0) := (blk_cell BK319.out 1).trans rfl; have hfz26_0 := blk_frozen BK319.out 0; have hfz26_1 := blk_frozen BK319.out 1))
    refine bodyPost_ret (results_ct rfl _ _ gb319 28 #[.int .i64 0, .int .i64 0] (0, 0) _ rfl (by (with_reducible repeat (first | refine blk_drewN ?_ _ | refine blk_drew ?_ | refine blk_alloc ?_ _)); refine blk_put (cs := #[.int .i64 0, .int .i64 0]) ?_ 1 _ rfl; (with_reducible repeat (first | refine blk_drewN ?_ _ | refine blk_drew ?_ | refine blk_alloc ?_ _)); refine blk_put (cs := #[.int .i64 0, .int .i64 0]) ?_ 0 _ rfl; (with_reducible repeat (first | refine blk_drewN ?_ _ | refine blk_drew ?_ | refine blk_alloc ?_ _)); exact BK319.out) Try.underlying28 rfl (by kernel_rfl)) rfl ?_
    exact ⟨by first | rfl | (simp [errW_none, errW_some] <;> rfl) | (simp [*, errW_none, errW_some] <;> rfl), bl⟩
 ·rw [if_neg c4] at H
  have c4b0 : decide (a1 < 0) = false := decide_eq_false c4
  clear c4
  by_cases c27 : t320 = 0
  ·rw [if_pos c27] at H
   exact absurd H (by simp)
  ·rw [if_neg c27] at H
   have c27b0 : (t320 == 0) = false := beq_eq_false_iff_ne.mpr c27
   have c27b1 : (t320 != 0) = true := bne_iff_ne.mpr c27
   replace H := Option.bind_eq_some_iff.mp H
   obtain ⟨t324, A280, H⟩ := H
   replace H : (if t324 = true then (some (wrap64 (Int.tdiv a0 t320), wrap64 (Int.tdiv a1 t320), true)) else (some (0, 0, false))) = some (r1, r2, r3) := H
   have A28 := Aside0.mk A280
   clear A280
   by_cases c29 : t324 = true
   ·subst c29
    have H1 : (some (wrap64 (Int.tdiv a0 t320), wrap64 (Int.tdiv a1 t320), true)) = some (r1, r2, r3) := by rw [if_pos rfl] at H; exact H
    clear H
    have H := H1
    clear H1
    simp only [Option.some.injEq, Prod.mk.injEq] at H
    obtain ⟨rfl, rfl, rfl⟩ := H
    go_enter Try.func140, Try.ntmps140
    try go_wp2_with (first | ((with_reducible refine gate_dst (N := 4) rfl ?_); refine bx 4 #[.int .i64 0, .int .i64 0] 28 ?_; intro gb319 hg w30 hbox hb; have BK319 := Aside0.mk (hbox); have GW319 := Aside0.mk (bz hg); have GE319 := GW319; replace HB := Aside0.mk (bs hb); clear hb hbox hg) | ((with_reducible refine gate_callee (f := 136) rfl ?_); refine gl 10 Try.func136 #[.int .i64 a0, .int .i64 a1] ?_; (with_reducible refine (impl_greatestDivisor.calls k a0 a1 t320 _ A3.out).mono ?_); rintro e w' ⟨rfl, ⟨nd, rfl⟩⟩; refine ⟨_, rfl, ?_⟩; (try (rw [drewN_self w30]; generalize hq_ : World.drewN w30 _ = w30; have n0_ : Aside0 (w30.heap[gb319]? = some (.cells #[.int .i64 0, .int .i64 0] 28 (0, 0))) := ⟨by rw [← hq_]; exact (bo gb319)⟩; have n1_ : Aside0 (Below w.heap.size w w30) := ⟨by rw [← hq_]; exact bl⟩; clear BK319 HB hq_; have BK319 := n0_; have HB := n1_; clear n0_ n1_))))
    replace BK319 := Aside0.mk (blk_drew BK319.out)
    replace HB := Aside0.mk (below_drew1 HB.out)
    refine start_ (n := 9) (S := fun w' => True) (ds := []) (tb 0 9) (by kernel_rfl) rfl rfl trivial (fun hHeld => ?_); refine with_tabW impl_lowest.tab4 impl_lowest.bits4 (fun HT_ HW_ => ?_)
    generalize w30.drew = w31 at BK319 HB hHeld ⊢
    refine pu 0 15 (tb 1 8) ?_
    refine pu 1 16 (tb 2 7) ?_
    refine pu 2 17 (tb 3 6) ?_
    refine pu 3 18 (tb 4 5) ?_
    refine pu 4 19 (tb 5 4) ?_
    refine pu 5 20 (tb 6 3) ?_
    refine pu 6 21 (tb 7 2) ?_
    refine on 7 7 (tb 8 1) (fun K hK => ?_)
    refine box_step ?hg (N := 7) ?hd (cs := #[.int .i64 0, .int .i64 0]) (t := 28) ?hr ?_; (case hd => rfl); (case hg => rfl); (case hr => first | (go_simp; done) | (go_simp; rfl))
    intro gb323 hg w32 hbox hb
    have BK323 := Aside0.mk (hbox)
    have GW323 := Aside0.mk (bz hg)
    have GE323 := GW323
    have NB319_323 := Aside0.mk (bn gb319 hg)
    have NB323_319 := Aside0.mk NB319_323.out.symm
    replace BK319 := Aside0.mk (bb gb319 hb)
    replace HB := Aside0.mk (bs hb)
    clear hb hbox hg
    refine hK.out _ _ trivial (fun hHeld => ?_)
    clear hK K
    refine nm 7 ?_
    refine one_ (i := 8) (N := none) (tb 9 0) rfl rfl (one_of HT_.out (by kernel_rfl)) (by decide) (fun K hK => ?_)
    have hs33 : w32.cell? ⟨gb323, 0, none⟩ = some (.int .i64 0) := (blk_cell BK323.out 0).trans rfl
    have hfs33 := blk_frozen BK323.out 0
    have hns33_0 := NB319_323.out
    have hms33_0 := NB323_319.out
    have hs34 : w32.cell? ⟨gb323, 1, none⟩ = some (.int .i64 0) := (blk_cell BK323.out 1).trans rfl
    have hfs34 := blk_frozen BK323.out 1
    have hns34_0 := NB319_323.out
    have hms34_0 := NB323_319.out
    refine skip_ (w1 := ?_) (by rfl) rfl ?_ ?_
    rotate_left
    ·go_simp
     rfl
    refine hK.out _ _ trivial (fun hHeld => ?_)
    clear hK K
    refine done_ (done_of HT_.out (by kernel_rfl)) ?_
    have hnb35 := NB323_319.out
    have hnc35 := NB319_323.out
    have hcz36_0 : w32.cell? ⟨gb323, 0, none⟩ = some (.int .i64 0) := (blk_cell BK323.out 0).trans rfl
    have hcz36_1 : w32.cell? ⟨gb323, 1, none⟩ = some (.int .i64 0) := (blk_cell BK323.out 1).trans rfl
    have hfz36_0 := blk_frozen BK323.out 0
    have hfz36_1 := blk_frozen BK323.out 1
    try go_wp2_with (first | ((with_reducible refine gate_callee (f := 116) rfl ?_); refine gl 23 Try.func116 #[.agg #[.int .i64 (wrap64 (Int.tdiv a0 t320)), .int .i64 (wrap64 (Int.tdiv a1 t320))]] ?_; (with_reducible refine (impl_isRat.calls k (wrap64 (Int.tdiv a0 t320)) (wrap64 (Int.tdiv a1 t320)) true _ A28.out).mono ?_); rintro e w37 ⟨rfl, hb⟩; refine ⟨_, rfl, ?_⟩; replace BK319 := Aside0.mk (blk_below (g := gb319) (o := .cells #[.int .i64 0, .int .i64 0] 28 (0, 0)) (by (with_reducible repeat (first | refine blk_drewN ?_ _ | refine blk_drew ?_ | refine blk_alloc ?_ _)); refine blk_far ?_ NB319_323.out _; (with_reducible repeat (first | refine blk_drewN ?_ _ | refine blk_drew ?_ | refine blk_alloc ?_ _)); refine blk_far ?_ NB319_323.out _; (with_reducible repeat (first | refine blk_drewN ?_ _ | refine blk_drew ?_ | refine blk_alloc ?_ _)); exact BK319.out) hb); replace BK323 := Aside0.mk (blk_below (g := gb323) (o := .cells #[.int .i64 (wrap64 (Int.tdiv a0 t320)), .int .i64 (wrap64 (Int.tdiv a1 t320))] 28 (0, 0)) (by (with_reducible repeat (first | refine blk_drewN ?_ _ | refine blk_drew ?_ | refine blk_alloc ?_ _)); refine blk_put (cs := #[.int .i64 (wrap64 (Int.tdiv a0 t320)), .int .i64 0]) ?_ 1 _ rfl; (with_reducible repeat (first | refine blk_drewN ?_ _ | refine blk_drew ?_ | refine blk_alloc ?_ _)); refine blk_put (cs := #[.int .i64 0, .int .i64 0]) ?_ 0 _ rfl; (with_reducible repeat (first | refine blk_drewN ?_ _ | refine blk_drew ?_ | refine blk_alloc ?_ _)); exact BK323.out) hb); replace HB := Aside0.mk (bs hb); (try clear hb); (try clear hb2); (try clear hk); (try clear hi); have hcz38_0 : w37.cell? ⟨gb323, 0, none⟩ = some (.int .i64 (wrap64 (Int.tdiv a0 t320))) := (blk_cell BK323.out 0).trans rfl; have hcz38_1 : w37.cell? ⟨gb323, 1, none⟩ = some (.int .i64 (wrap64 (Int.tdiv a1 t320))) := (blk_cell BK323.out 1).trans rfl; have hfz38_0 := blk_frozen BK323.out 0; have hfz38_1 := blk_frozen BK323.out 1; have hcz39_0 : w37.cell? ⟨gb319, 0, none⟩ = some (.int .i64 0) := (blk_cell BK319.out 0).trans rfl; have hcz39_1 : w37.cell? ⟨gb319, 1, none⟩ = some (.int .i64 0) := (blk_cell BK319.out 1).trans rfl; have hfz39_0 := blk_frozen BK319.out 0; have hfz39_1 := blk_frozen BK319.out 1))
    refine bodyPost_ret (results_ct rfl _ _ gb319 28 #[.int .i64 (wrap64 (Int.tdiv a0 t320)), .int .i64 (wrap64 (Int.tdiv a1 t320))] (0, 0) _ rfl (by (with_reducible repeat (first | refine blk_drewN ?_ _ | refine blk_drew ?_ | refine blk_alloc ?_ _)); refine blk_put (cs := #[.int .i64 (wrap64 (Int.tdiv a0 t320)), .int .i64 0]) ?_ 1 _ rfl; (with_reducible repeat (first | refine blk_drewN ?_ _ | refine blk_drew ?_ | refine blk_alloc ?_ _)); refine blk_put (cs := #[.int .i64 0, .int .i64 0]) ?_ 0 _ rfl; (with_reducible repeat (first | refine blk_drewN ?_ _ | refine blk_drew ?_ | refine blk_alloc ?_ _)); exact BK319.out) Try.underlying28 rfl (by kernel_rfl)) rfl ?_
    exact ⟨by first | rfl | (simp [errW_none, errW_some] <;> rfl) | (simp [*, errW_none, errW_some] <;> rfl), bl⟩
   ·replace c29 := Bool.eq_false_iff.mpr c29
    subst c29
    have H1 : (some (0, 0, false)) = some (r1, r2, r3) := by rw [if_neg (show ¬ (false = true) by decide)] at H; exact H
    clear H
    have H := H1
    clear H1
    simp only [Option.some.injEq, Prod.mk.injEq] at H
    obtain ⟨rfl, rfl, rfl⟩ := H
    go_enter Try.func140, Try.ntmps140
    try go_wp2_with (first | ((with_reducible refine gate_dst (N := 4) rfl ?_); refine bx 4 #[.int .i64 0, .int .i64 0] 28 ?_; intro gb319 hg w40 hbox hb; have BK319 := Aside0.mk (hbox); have GW319 := Aside0.mk (bz hg); have GE319 := GW319; replace HB := Aside0.mk (bs hb); clear hb hbox hg) | ((with_reducible refine gate_callee (f := 136) rfl ?_); refine gl 10 Try.func136 #[.int .i64 a0, .int .i64 a1] ?_; (with_reducible refine (impl_greatestDivisor.calls k a0 a1 t320 _ A3.out).mono ?_); rintro e w' ⟨rfl, ⟨nd, rfl⟩⟩; refine ⟨_, rfl, ?_⟩; (try (rw [drewN_self w40]; generalize hq_ : World.drewN w40 _ = w40; have n0_ : Aside0 (w40.heap[gb319]? = some (.cells #[.int .i64 0, .int .i64 0] 28 (0, 0))) := ⟨by rw [← hq_]; exact (bo gb319)⟩; have n1_ : Aside0 (Below w.heap.size w w40) := ⟨by rw [← hq_]; exact bl⟩; clear BK319 HB hq_; have BK319 := n0_; have HB := n1_; clear n0_ n1_))))
    replace BK319 := Aside0.mk (blk_drew BK319.out)
    replace HB := Aside0.mk (below_drew1 HB.out)
    refine start_ (n := 9) (S := fun w' => True) (ds := []) (tb 0 9) (by kernel_rfl) rfl rfl trivial (fun hHeld => ?_); refine with_tabW impl_lowest.tab4 impl_lowest.bits4 (fun HT_ HW_ => ?_)
    generalize w40.drew = w41 at BK319 HB hHeld ⊢
    refine pu 0 15 (tb 1 8) ?_
    refine pu 1 16 (tb 2 7) ?_
    refine pu 2 17 (tb 3 6) ?_
    refine pu 3 18 (tb 4 5) ?_
    refine pu 4 19 (tb 5 4) ?_
    refine pu 5 20 (tb 6 3) ?_
    refine pu 6 21 (tb 7 2) ?_
    refine on 7 7 (tb 8 1) (fun K hK => ?_)
    refine box_step ?hg (N := 7) ?hd (cs := #[.int .i64 0, .int .i64 0]) (t := 28) ?hr ?_; (case hd => rfl); (case hg => rfl); (case hr => first | (go_simp; done) | (go_simp; rfl))
    intro gb323 hg w42 hbox hb
    have BK323 := Aside0.mk (hbox)
    have GW323 := Aside0.mk (bz hg)
    have GE323 := GW323
    have NB319_323 := Aside0.mk (bn gb319 hg)
    have NB323_319 := Aside0.mk NB319_323.out.symm
    replace BK319 := Aside0.mk (bb gb319 hb)
    replace HB := Aside0.mk (bs hb)
    clear hb hbox hg
    refine hK.out _ _ trivial (fun hHeld => ?_)
    clear hK K
    refine nm 7 ?_
    refine one_ (i := 8) (N := none) (tb 9 0) rfl rfl (one_of HT_.out (by kernel_rfl)) (by decide) (fun K hK => ?_)
    have hs43 : w42.cell? ⟨gb323, 0, none⟩ = some (.int .i64 0) := (blk_cell BK323.out 0).trans rfl
    have hfs43 := blk_frozen BK323.out 0
    have hns43_0 := NB319_323.out
    have hms43_0 := NB323_319.out
    have hs44 : w42.cell? ⟨gb323, 1, none⟩ = some (.int .i64 0) := (blk_cell BK323.out 1).trans rfl
    have hfs44 := blk_frozen BK323.out 1
    have hns44_0 := NB319_323.out
    have hms44_0 := NB323_319.out
    refine skip_ (w1 := ?_) (by rfl) rfl ?_ ?_
    rotate_left
    ·go_simp
     rfl
    refine hK.out _ _ trivial (fun hHeld => ?_)
    clear hK K
    refine done_ (done_of HT_.out (by kernel_rfl)) ?_
    have hnb45 := NB323_319.out
    have hnc45 := NB319_323.out
    have hcz46_0 : w42.cell? ⟨gb323, 0, none⟩ = some (.int .i64 0) := (blk_cell BK323.out 0).trans rfl
    have hcz46_1 : w42.cell? ⟨gb323, 1, none⟩ = some (.int .i64 0) := (blk_cell BK323.out 1).trans rfl
    have hfz46_0 := blk_frozen BK323.out 0
    have hfz46_1 := blk_frozen BK323.out 1
    try go_wp2_with (first | ((with_reducible refine gate_callee (f := 116) rfl ?_); refine gl 23 Try.func116 #[.agg #[.int .i64 (wrap64 (Int.tdiv a0 t320)), .int .i64 (wrap64 (Int.tdiv a1 t320))]] ?_; (with_reducible refine (impl_isRat.calls k (wrap64 (Int.tdiv a0 t320)) (wrap64 (Int.tdiv a1 t320)) false _ A28.out).mono ?_); rintro e w47 ⟨rfl, hb⟩; refine ⟨_, rfl, ?_⟩; replace BK319 := Aside0.mk (blk_below (g := gb319) (o := .cells #[.int .i64 0, .int .i64 0] 28 (0, 0)) (by (with_reducible repeat (first | refine blk_drewN ?_ _ | refine blk_drew ?_ | refine blk_alloc ?_ _)); refine blk_far ?_ NB319_323.out _; (with_reducible repeat (first | refine blk_drewN ?_ _ | refine blk_drew ?_ | refine blk_alloc ?_ _)); refine blk_far ?_ NB319_323.out _; (with_reducible repeat (first | refine blk_drewN ?_ _ | refine blk_drew ?_ | refine blk_alloc ?_ _)); exact BK319.out) hb); replace BK323 := Aside0.mk (blk_below (g := gb323) (o := .cells #[.int .i64 (wrap64 (Int.tdiv a0 t320)), .int .i64 (wrap64 (Int.tdiv a1 t320))] 28 (0, 0)) (by (with_reducible repeat (first | refine blk_drewN ?_ _ | refine blk_drew ?_ | refine blk_alloc ?_ _)); refine blk_put (cs := #[.int .i64 (wrap64 (Int.tdiv a0 t320)), .int .i64 0]) ?_ 1 _ rfl; (with_reducible repeat (first | refine blk_drewN ?_ _ | refine blk_drew ?_ | refine blk_alloc ?_ _)); refine blk_put (cs := #[.int .i64 0, .int .i64 0]) ?_ 0 _ rfl; (with_reducible repeat (first | refine blk_drewN ?_ _ | refine blk_drew ?_ | refine blk_alloc ?_ _)); exact BK323.out) hb); replace HB := Aside0.mk (bs hb); (try clear hb); (try clear hb2); (try clear hk); (try clear hi); have hcz48_0 : w47.cell? ⟨gb319, 0, none⟩ = some (.int .i64 0) := (blk_cell BK319.out 0).trans rfl; have hcz48_1 : w47.cell? ⟨gb319, 1, none⟩ = some (.int .i64 0) := (blk_cell BK319.out 1).trans rfl; have hfz48_0 := blk_frozen BK319.out 0; have hfz48_1 := blk_frozen BK319.out 1))
    refine bodyPost_ret (results_ct rfl _ _ gb319 28 #[.int .i64 0, .int .i64 0] (0, 0) _ rfl (by (with_reducible repeat (first | refine blk_drewN ?_ _ | refine blk_drew ?_ | refine blk_alloc ?_ _)); refine blk_put (cs := #[.int .i64 0, .int .i64 0]) ?_ 1 _ rfl; (with_reducible repeat (first | refine blk_drewN ?_ _ | refine blk_drew ?_ | refine blk_alloc ?_ _)); refine blk_put (cs := #[.int .i64 0, .int .i64 0]) ?_ 0 _ rfl; (with_reducible repeat (first | refine blk_drewN ?_ _ | refine blk_drew ?_ | refine blk_alloc ?_ _)); exact BK319.out) Try.underlying28 rfl (by kernel_rfl)) rfl ?_
    exact ⟨by first | rfl | (simp [errW_none, errW_some] <;> rfl) | (simp [*, errW_none, errW_some] <;> rfl), bl⟩

/-! ### impl_AddRats: function 129 -/
def impl_AddRats.f (k : Nat) (a0_0 : Int) (a0_1 : Int) (a1_0 : Int) (a1_1 : Int) : Option (Int × Int × Bool) := (impl_areRats.f k (([(⟨a0_0, a0_1⟩ : S28), (⟨a1_0, a1_1⟩ : S28)] : List (S28)))).bind fun t331 => (if t331 = true then ((impl_lowest.f k (wrap64 ((wrap64 (a0_0 * a1_1)) + (wrap64 (a1_0 * a0_1)))) (wrap64 (a0_1 * a1_1))).bind fun bt332 => (some (bt332.1, bt332.2.1, bt332.2.2))) else (some (0, 0, false)))
set_option maxHeartbeats 8000000 in
set_option maxRecDepth 100000 in
theorem impl_AddRats.calls (k : Nat) (a0_0 : Int) (a0_1 : Int) (a1_0 : Int) (a1_1 : Int) (r1 : Int) (r2 : Int) (r3 : Bool) (w : World) (h : impl_AddRats.f k a0_0 a0_1 a1_0 a1_1 = some (r1, r2, r3)) :
  Calls Try.prog 129 #[.agg #[.int .i64 a0_0, .int .i64 a0_1], .agg #[.int .i64 a1_0, .int .i64 a1_1]] w fun e w' => e = .returned (.tuple #[.agg #[.int .i64 r1, .int .i64 r2], .bool r3]) ∧ Below w.heap.size w w' := by
 have hu28 := Try.underlying28
 have HB := Aside0.mk (Below.refl w.heap.size w)
 have H : ((impl_areRats.f k (([(⟨a0_0, a0_1⟩ : S28), (⟨a1_0, a1_1⟩ : S28)] : List (S28)))).bind fun t331 => (if t331 = true then ((impl_lowest.f k (wrap64 ((wrap64 (a0_0 * a1_1)) + (wrap64 (a1_0 * a0_1)))) (wrap64 (a0_1 * a1_1))).bind fun bt332 => (some (bt332.1, bt332.2.1, bt332.2.2))) else (some (0, 0, false)))) = some (r1, r2, r3) := h
 clear h
 obtain ⟨y328, hy328⟩ : ∃ y_ : List (S28), y_ = (([(⟨a0_0, a0_1⟩ : S28), (⟨a1_0, a1_1⟩ : S28)] : List (S28))) := ⟨_, rfl⟩
 replace H : ((impl_areRats.f k y328).bind fun t331 => (if t331 = true then ((impl_lowest.f k (wrap64 ((wrap64 (a0_0 * a1_1)) + (wrap64 (a1_0 * a0_1)))) (wrap64 (a0_1 * a1_1))).bind fun bt332 => (some (bt332.1, bt332.2.1, bt332.2.2))) else (some (0, 0, false)))) = some (r1, r2, r3) := by first | (rw [hy328]; with_reducible exact H) | (have H2_ := (Option.bind_some _ _).symm.trans H; rw [hy328]; with_reducible exact H2_) | (have H2_ := (Option.bind_some _ _).symm.trans H; with_reducible exact H2_) | with_reducible exact H | (rw [hy328]; exact H) | exact H
 have Ny328 := Aside0.mk hy328
 clear hy328
 replace H := Option.bind_eq_some_iff.mp H
 obtain ⟨t331, A30, H⟩ := H
 replace H : (if t331 = true then ((impl_lowest.f k (wrap64 ((wrap64 (a0_0 * a1_1)) + (wrap64 (a1_0 * a0_1)))) (wrap64 (a0_1 * a1_1))).bind fun bt332 => (some (bt332.1, bt332.2.1, bt332.2.2))) else (some (0, 0, false))) = some (r1, r2, r3) := H
 have A3 := Aside0.mk A30
 clear A30
 by_cases c4 : t331 = true
 ·subst c4
  have H1 : ((impl_lowest.f k (wrap64 ((wrap64 (a0_0 * a1_1)) + (wrap64 (a1_0 * a0_1)))) (wrap64 (a0_1 * a1_1))).bind fun bt332 => (some (bt332.1, bt332.2.1, bt332.2.2))) = some (r1, r2, r3) := by rw [if_pos rfl] at H; exact H
  clear H
  have H := H1
  clear H1
  replace H := Option.bind_eq_some_iff.mp H
  obtain ⟨⟨t332, t333, t334⟩, A50, H⟩ := H
  replace H : (some (t332, t333, t334)) = some (r1, r2, r3) := H
  have A5 := Aside0.mk A50
  clear A50
  simp only [Option.some.injEq, Prod.mk.injEq] at H
  obtain ⟨rfl, rfl, rfl⟩ := H
  go_enter Try.func129, Try.ntmps129
  go_wp2_with (first | ((with_reducible refine gate_dst (N := 2) rfl ?_); refine bx 2 #[.int .i64 a0_0, .int .i64 a0_1] 28 ?_; intro gb325 hg w6 hbox hb; have BK325 := Aside0.mk (hbox); have GW325 := Aside0.mk (bz hg); have GE325 := GW325; replace HB := Aside0.mk (bs hb); clear hb hbox hg) | ((with_reducible refine gate_dst (N := 3) rfl ?_); refine bx 3 #[.int .i64 a1_0, .int .i64 a1_1] 28 ?_; intro gb326 hg w7 hbox hb; have BK326 := Aside0.mk (hbox); have GW326 := Aside0.mk (bz hg); have GE326 := GW326; have NB325_326 := Aside0.mk (bn gb325 hg); have NB326_325 := Aside0.mk NB325_326.out.symm; replace BK325 := Aside0.mk (bb gb325 hb); replace HB := Aside0.mk (bs hb); clear hb hbox hg) | ((with_reducible refine gate_dst (N := 4) rfl ?_); refine bx 4 #[.int .i64 0, .int .i64 0] 28 ?_; intro gb327 hg w8 hbox hb; have BK327 := Aside0.mk (hbox); have GW327 := Aside0.mk (bz hg); have GE327 := GW327; have NB325_327 := Aside0.mk (bn gb325 hg); have NB327_325 := Aside0.mk NB325_327.out.symm; have NB326_327 := Aside0.mk (bn gb326 hg); have NB327_326 := Aside0.mk NB326_327.out.symm; replace BK325 := Aside0.mk (bb gb325 hb); replace BK326 := Aside0.mk (bb gb326 hb); replace HB := Aside0.mk (bs hb); clear hb hbox hg; have hnb9 := NB325_326.out; have hnc9 := NB326_325.out; have hnb10 := NB325_327.out; have hnc10 := NB327_325.out; have hcz11_0 : w8.cell? ⟨gb325, 0, none⟩ = some (.int .i64 a0_0) := (blk_cell BK325.out 0).trans rfl; have hcz11_1 : w8.cell? ⟨gb325, 1, none⟩ = some (.int .i64 a0_1) := (blk_cell BK325.out 1).trans rfl; have hfz11_0 := blk_frozen BK325.out 0; have hfz11_1 := blk_frozen BK325.out 1; have hnb12 := NB326_327.out; have hnc12 := NB327_326.out; have hcz13_0 : w8.cell? ⟨gb326, 0, none⟩ = some (.int .i64 a1_0) := (blk_cell BK326.out 0).trans rfl; have hcz13_1 : w8.cell? ⟨gb326, 1, none⟩ = some (.int .i64 a1_1) := (blk_cell BK326.out 1).trans rfl; have hfz13_0 := blk_frozen BK326.out 0; have hfz13_1 := blk_frozen BK326.out 1) | ((with_reducible refine gate_dst (N := 8) rfl ?_); refine Kd.R_lit k28 _ 28 ?hg (N := 8) ?hd (xs := ([(⟨a0_0, a0_1⟩ : S28), (⟨a1_0, a1_1⟩ : S28)] : List (S28))) (inner := [.int .i64 a0_0, .int .i64 a0_1, .int .i64 a1_0, .int .i64 a1_1]) (ok := fun _ => True) (okp := fun _ => True) ?hr ?hp (fun _ hk => hk) trivial (Below.refl _ _) (Nat.le_refl _) (by simp) ?_; (case hd => rfl); (case hg => rfl); (case hr => first | (go_simp; done) | (go_simp; rfl)); (case hp => exact (Reps.c2 (show Kd.M k28 _ _ _ (⟨a0_0, a0_1⟩ : S28) [.int .i64 a0_0, .int .i64 a0_1] from (k28_mkM _ _ _ (⟨a0_0, a0_1⟩ : S28) )) (Reps.c2 (show Kd.M k28 _ _ _ (⟨a1_0, a1_1⟩ : S28) [.int .i64 a1_0, .int .i64 a1_1] from (k28_mkM _ _ _ (⟨a1_0, a1_1⟩ : S28) )) (Reps.none _ _)))); intro v329 w14 ho15 hb hg_ hnew_; clear hg_ hnew_; (first | rw [← Ny328.out] at ho15 | (simp only [Int.reduceToNat] at ho15; rw [← Ny328.out] at ho15)); have HO330 := Aside0.mk (Kd.R_lower (Kd.R_newB (Kd.R_newB (Kd.R_newB ho15 (g := gb325) (o := .cells #[.int .i64 a0_0, .int .i64 a0_1] 28 (0, 0)) (bo gb325)) (g := gb326) (o := .cells #[.int .i64 a1_0, .int .i64 a1_1] 28 (0, 0)) (bo gb326)) (g := gb327) (o := .cells #[.int .i64 0, .int .i64 0] 28 (0, 0)) (bo gb327)) (below_size bl)); replace BK325 := Aside0.mk (bb gb325 hb); replace BK326 := Aside0.mk (bb gb326 hb); replace BK327 := Aside0.mk (bb gb327 hb); replace HB := Aside0.mk (bs hb); clear hb ho15; obtain ⟨Ao16, co16, eo16⟩ := Kd.R_slice HO330.out; subst eo16) | ((with_reducible refine gate_callee (f := 139) rfl ?_); refine gl 9 Try.func139 #[.slice Ao16 y328.length co16] ?_; (with_reducible refine (impl_areRats.calls k _ _ y328 true _ ?side1 ?side2 A3.out).mono ?_); (case side1 => repeat (first | exact (Kd.R_reads' HO330.out).2.2 | (with_reducible refine Kd.C_alloc ?_ _) | (with_reducible refine Kd.C_drewN ?_ _) | (with_reducible refine Kd.C_drew ?_))); (case side2 => exact (Kd.R_reads' HO330.out).2.1); rintro e w17 ⟨rfl, hb⟩; refine ⟨_, rfl, ?_⟩; replace HO330 := Aside0.mk (Kd.R_below (by (with_reducible repeat (first | apply Kd.R_alloc | apply Kd.R_drewN | apply Kd.R_drew)); exact HO330.out) hb); replace BK325 := Aside0.mk (bb gb325 hb); replace BK326 := Aside0.mk (bb gb326 hb); replace BK327 := Aside0.mk (bb gb327 hb); replace HB := Aside0.mk (bs hb); (try clear hb); (try clear hb2); (try clear hk); (try clear hi); have hcz18_0 : w17.cell? ⟨gb325, 0, none⟩ = some (.int .i64 a0_0) := (blk_cell BK325.out 0).trans rfl; have hcz18_1 : w17.cell? ⟨gb325, 1, none⟩ = some (.int .i64 a0_1) := (blk_cell BK325.out 1).trans rfl; have hfz18_0 := blk_frozen BK325.out 0; have hfz18_1 := blk_frozen BK325.out 1; have hcz19_0 : w17.cell? ⟨gb326, 0, none⟩ = some (.int .i64 a1_0) := (blk_cell BK326.out 0).trans rfl; have hcz19_1 : w17.cell? ⟨gb326, 1, none⟩ = some (.int .i64 a1_1) := (blk_cell BK326.out 1).trans rfl; have hfz19_0 := blk_frozen BK326.out 0; have hfz19_1 := blk_frozen BK326.out 1) | ((with_reducible refine gate_callee (f := 140) rfl ?_); refine gl 28 Try.func140 #[.int .i64 (wrap64 ((wrap64 (a0_0 * a1_1)) + (wrap64 (a1_0 * a0_1)))), .int .i64 (wrap64 (a0_1 * a1_1))] ?_; (with_reducible refine (impl_lowest.calls k (wrap64 ((wrap64 (a0_0 * a1_1)) + (wrap64 (a1_0 * a0_1)))) (wrap64 (a0_1 * a1_1)) t332 t333 t334 _ A5.out).mono ?_); rintro e w20 ⟨rfl, hb⟩; refine ⟨_, rfl, ?_⟩; replace HO330 := Aside0.mk (Kd.R_below (by (with_reducible repeat (first | apply Kd.R_alloc | apply Kd.R_drewN | apply Kd.R_drew)); exact HO330.out) hb); replace BK325 := Aside0.mk (bb gb325 hb); replace BK326 := Aside0.mk (bb gb326 hb); replace BK327 := Aside0.mk (bb gb327 hb); replace HB := Aside0.mk (bs hb); (try clear hb); (try clear hb2); (try clear hk); (try clear hi); have hcz21_0 : w20.cell? ⟨gb327, 0, none⟩ = some (.int .i64 0) := (blk_cell BK327.out 0).trans rfl; have hcz21_1 : w20.cell? ⟨gb327, 1, none⟩ = some (.int .i64 0) := (blk_cell BK327.out 1).trans rfl; have hfz21_0 := blk_frozen BK327.out 0; have hfz21_1 := blk_frozen BK327.out 1))
  refine bodyPost_ret (results_ct rfl _ _ gb327 28 #[.int .i64 t332, .int .i64 t333] (0, 0) _ rfl (by (with_reducible repeat (first | refine blk_drewN ?_ _ | refine blk_drew ?_ | refine blk_alloc ?_ _)); refine blk_put (cs := #[.int .i64 t332, .int .i64 0]) ?_ 1 _ rfl; (with_reducible repeat (first | refine blk_drewN ?_ _ | refine blk_drew ?_ | refine blk_alloc ?_ _)); refine blk_put (cs := #[.int .i64 0, .int .i64 0]) ?_ 0 _ rfl; (with_reducible repeat (first | refine blk_drewN ?_ _ | refine blk_drew ?_ | refine blk_alloc ?_ _)); exact BK327.out) Try.underlying28 rfl (by kernel_rfl)) rfl ?_
  exact ⟨by first | rfl | (simp [errW_none, errW_some] <;> rfl) | (simp [*, errW_none, errW_some] <;> rfl), bl⟩
 ·replace c4 := Bool.eq_false_iff.mpr c4
  subst c4
  have H1 : (some (0, 0, false)) = some (r1, r2, r3) := by rw [if_neg (show ¬ (false = true) by decide)] at H; exact H
  clear H
  have H := H1
  clear H1
  simp only [Option.some.injEq, Prod.mk.injEq] at H
  obtain ⟨rfl, rfl, rfl⟩ := H
  go_enter Try.func129, Try.ntmps129
  go_wp2_with (first | ((with_reducible refine gate_dst (N := 2) rfl ?_); refine bx 2 #[.int .i64 a0_0, .int .i64 a0_1] 28 ?_; intro gb325 hg w22 hbox hb; have BK325 := Aside0.mk (hbox); have GW325 := Aside0.mk (bz hg); have GE325 := GW325; replace HB := Aside0.mk (bs hb); clear hb hbox hg) | ((with_reducible refine gate_dst (N := 3) rfl ?_); refine bx 3 #[.int .i64 a1_0, .int .i64 a1_1] 28 ?_; intro gb326 hg w23 hbox hb; have BK326 := Aside0.mk (hbox); have GW326 := Aside0.mk (bz hg); have GE326 := GW326; have NB325_326 := Aside0.mk (bn gb325 hg); have NB326_325 := Aside0.mk NB325_326.out.symm; replace BK325 := Aside0.mk (bb gb325 hb); replace HB := Aside0.mk (bs hb); clear hb hbox hg) | ((with_reducible refine gate_dst (N := 4) rfl ?_); refine bx 4 #[.int .i64 0, .int .i64 0] 28 ?_; intro gb327 hg w24 hbox hb; have BK327 := Aside0.mk (hbox); have GW327 := Aside0.mk (bz hg); have GE327 := GW327; have NB325_327 := Aside0.mk (bn gb325 hg); have NB327_325 := Aside0.mk NB325_327.out.symm; have NB326_327 := Aside0.mk (bn gb326 hg); have NB327_326 := Aside0.mk NB326_327.out.symm; replace BK325 := Aside0.mk (bb gb325 hb); replace BK326 := Aside0.mk (bb gb326 hb); replace HB := Aside0.mk (bs hb); clear hb hbox hg; have hnb25 := NB325_326.out; have hnc25 := NB326_325.out; have hnb26 := NB325_327.out; have hnc26 := NB327_325.out; have hcz27_0 : w24.cell? ⟨gb325, 0, none⟩ = some (.int .i64 a0_0) := (blk_cell BK325.out 0).trans rfl; have hcz27_1 : w24.cell? ⟨gb325, 1, none⟩ = some (.int .i64 a0_1) := (blk_cell BK325.out 1).trans rfl; have hfz27_0 := blk_frozen BK325.out 0; have hfz27_1 := blk_frozen BK325.out 1; have hnb28 := NB326_327.out; have hnc28 := NB327_326.out; have hcz29_0 : w24.cell? ⟨gb326, 0, none⟩ = some (.int .i64 a1_0) := (blk_cell BK326.out 0).trans rfl; have hcz29_1 : w24.cell? ⟨gb326, 1, none⟩ = some (.int .i64 a1_1) := (blk_cell BK326.out 1).trans rfl; have hfz29_0 := blk_frozen BK326.out 0; have hfz29_1 := blk_frozen BK326.out 1) | ((with_reducible refine gate_dst (N := 8) rfl ?_); refine Kd.R_lit k28 _ 28 ?hg (N := 8) ?hd (xs := ([(⟨a0_0, a0_1⟩ : S28), (⟨a1_0, a1_1⟩ : S28)] : List (S28))) (inner := [.int .i64 a0_0, .int .i64 a0_1, .int .i64 a1_0, .int .i64 a1_1]) (ok := fun _ => True) (okp := fun _ => True) ?hr ?hp (fun _ hk => hk) trivial (Below.refl _ _) (Nat.le_refl _) (by simp) ?_; (case hd => rfl); (case hg => rfl); (case hr => first | (go_simp; done) | (go_simp; rfl)); (case hp => exact (Reps.c2 (show Kd.M k28 _ _ _ (⟨a0_0, a0_1⟩ : S28) [.int .i64 a0_0, .int .i64 a0_1] from (k28_mkM _ _ _ (⟨a0_0, a0_1⟩ : S28) )) (Reps.c2 (show Kd.M k28 _ _ _ (⟨a1_0, a1_1⟩ : S28) [.int .i64 a1_0, .int .i64 a1_1] from (k28_mkM _ _ _ (⟨a1_0, a1_1⟩ : S28) )) (Reps.none _ _)))); intro v329 w30 ho31 hb hg_ hnew_; clear hg_ hnew_; (first | rw [← Ny328.out] at ho31 | (simp only [Int.reduceToNat] at ho31; rw [← Ny328.out] at ho31)); have HO330 := Aside0.mk (Kd.R_lower (Kd.R_newB (Kd.R_newB (Kd.R_newB ho31 (g := gb325) (o := .cells #[.int .i64 a0_0, .int .i64 a0_1] 28 (0, 0)) (bo gb325)) (g := gb326) (o := .cells #[.int .i64 a1_0, .int .i64 a1_1] 28 (0, 0)) (bo gb326)) (g := gb327) (o := .cells #[.int .i64 0, .int .i64 0] 28 (0, 0)) (bo gb327)) (below_size bl)); replace BK325 := Aside0.mk (bb gb325 hb); replace BK326 := Aside0.mk (bb gb326 hb); replace BK327 := Aside0.mk (bb gb327 hb); replace HB := Aside0.mk (bs hb); clear hb ho31; obtain ⟨Ao32, co32, eo32⟩ := Kd.R_slice HO330.out; subst eo32) | ((with_reducible refine gate_callee (f := 139) rfl ?_); refine gl 9 Try.func139 #[.slice Ao32 y328.length co32] ?_; (with_reducible refine (impl_areRats.calls k _ _ y328 false _ ?side1 ?side2 A3.out).mono ?_); (case side1 => repeat (first | exact (Kd.R_reads' HO330.out).2.2 | (with_reducible refine Kd.C_alloc ?_ _) | (with_reducible refine Kd.C_drewN ?_ _) | (with_reducible refine Kd.C_drew ?_))); (case side2 => exact (Kd.R_reads' HO330.out).2.1); rintro e w33 ⟨rfl, hb⟩; refine ⟨_, rfl, ?_⟩; replace HO330 := Aside0.mk (Kd.R_below (by (with_reducible repeat (first | apply Kd.R_alloc | apply Kd.R_drewN | apply Kd.R_drew)); exact HO330.out) hb); replace BK325 := Aside0.mk (bb gb325 hb); replace BK326 := Aside0.mk (bb gb326 hb); replace BK327 := Aside0.mk (bb gb327 hb); replace HB := Aside0.mk (bs hb); (try clear hb); (try clear hb2); (try clear hk); (try clear hi); have hcz34_0 : w33.cell? ⟨gb327, 0, none⟩ = some (.int .i64 0) := (blk_cell BK327.out 0).trans rfl; have hcz34_1 : w33.cell? ⟨gb327, 1, none⟩ = some (.int .i64 0) := (blk_cell BK327.out 1).trans rfl; have hfz34_0 := blk_frozen BK327.out 0; have hfz34_1 := blk_frozen BK327.out 1))
  refine bodyPost_ret (results_ct rfl _ _ gb327 28 #[.int .i64 0, .int .i64 0] (0, 0) _ rfl (by (with_reducible repeat (first | refine blk_drewN ?_ _ | refine blk_drew ?_ | refine blk_alloc ?_ _)); refine blk_put (cs := #[.int .i64 0, .int .i64 0]) ?_ 1 _ rfl; (with_reducible repeat (first | refine blk_drewN ?_ _ | refine blk_drew ?_ | refine blk_alloc ?_ _)); refine blk_put (cs := #[.int .i64 0, .int .i64 0]) ?_ 0 _ rfl; (with_reducible repeat (first | refine blk_drewN ?_ _ | refine blk_drew ?_ | refine blk_alloc ?_ _)); exact BK327.out) Try.underlying28 rfl (by kernel_rfl)) rfl ?_
  exact ⟨by first | rfl | (simp [errW_none, errW_some] <;> rfl) | (simp [*, errW_none, errW_some] <;> rfl), bl⟩

/-! ### impl_negated: function 141 -/
def impl_negated.f (a0_0 : Int) (a0_1 : Int) : Option (Int × Int) := some (wrap64 (-a0_0), a0_1)
set_option maxHeartbeats 8000000 in
set_option maxRecDepth 100000 in
theorem impl_negated.calls (a0_0 : Int) (a0_1 : Int) (r1 : Int) (r2 : Int) (w : World) (h : impl_negated.f a0_0 a0_1 = some (r1, r2)) :
  Calls Try.prog 141 #[.agg #[.int .i64 a0_0, .int .i64 a0_1]] w fun e w' => e = .returned (.agg #[.int .i64 r1, .int .i64 r2]) ∧ Below w.heap.size w w' := by
 have hu28 := Try.underlying28
 have HB := Aside0.mk (Below.refl w.heap.size w)
 have H : (some (wrap64 (-a0_0), a0_1)) = some (r1, r2) := h
 clear h
 simp only [Option.some.injEq, Prod.mk.injEq] at H
 obtain ⟨rfl, rfl⟩ := H
 go_enter Try.func141, Try.ntmps141
 go_wp2_with (first | ((with_reducible refine gate_dst (N := 1) rfl ?_); refine bx 1 #[.int .i64 a0_0, .int .i64 a0_1] 28 ?_; intro gb335 hg w2 hbox hb; have BK335 := Aside0.mk (hbox); have GW335 := Aside0.mk (bz hg); have GE335 := GW335; replace HB := Aside0.mk (bs hb); clear hb hbox hg) | ((with_reducible refine gate_dst (N := 2) rfl ?_); refine bx 2 #[.int .i64 0, .int .i64 0] 28 ?_; intro gb336 hg w3 hbox hb; have BK336 := Aside0.mk (hbox); have GW336 := Aside0.mk (bz hg); have GE336 := GW336; have NB335_336 := Aside0.mk (bn gb335 hg); have NB336_335 := Aside0.mk NB335_336.out.symm; replace BK335 := Aside0.mk (bb gb335 hb); replace HB := Aside0.mk (bs hb); clear hb hbox hg; have hnb4 := NB335_336.out; have hnc4 := NB336_335.out; have hcz5_0 : w3.cell? ⟨gb335, 0, none⟩ = some (.int .i64 a0_0) := (blk_cell BK335.out 0).trans rfl; have hcz5_1 : w3.cell? ⟨gb335, 1, none⟩ = some (.int .i64 a0_1) := (blk_cell BK335.out 1).trans rfl; have hfz5_0 := blk_frozen BK335.out 0; have hfz5_1 := blk_frozen BK335.out 1; have hcz6_0 : w3.cell? ⟨gb336, 0, none⟩ = some (.int .i64 0) := (blk_cell BK336.out 0).trans rfl; have hcz6_1 : w3.cell? ⟨gb336, 1, none⟩ = some (.int .i64 0) := (blk_cell BK336.out 1).trans rfl; have hfz6_0 := blk_frozen BK336.out 0; have hfz6_1 := blk_frozen BK336.out 1))
 refine bodyPost_ret (results_cell_row rfl _ _ gb336 28 #[.int .i64 (wrap64 (-a0_0)), .int .i64 a0_1] (0, 0) _ rfl (by (with_reducible repeat (first | refine blk_drewN ?_ _ | refine blk_drew ?_ | refine blk_alloc ?_ _)); refine blk_put (cs := #[.int .i64 (wrap64 (-a0_0)), .int .i64 0]) ?_ 1 _ rfl; (with_reducible repeat (first | refine blk_drewN ?_ _ | refine blk_drew ?_ | refine blk_alloc ?_ _)); refine blk_put (cs := #[.int .i64 0, .int .i64 0]) ?_ 0 _ rfl; (with_reducible repeat (first | refine blk_drewN ?_ _ | refine blk_drew ?_ | refine blk_alloc ?_ _)); exact BK336.out) Try.underlying28 rfl (by kernel_rfl)) rfl ?_
 exact ⟨by first | rfl | (simp [errW_none, errW_some] <;> rfl) | (simp [*, errW_none, errW_some] <;> rfl), bl⟩

/-! ### impl_SubtractRats: function 130 -/
def impl_SubtractRats.f (k : Nat) (a0_0 : Int) (a0_1 : Int) (a1_0 : Int) (a1_1 : Int) : Option (Int × Int × Bool) := (impl_negated.f a1_0 a1_1).bind fun bt340 => ((impl_AddRats.f k a0_0 a0_1 bt340.1 bt340.2).bind fun bt342 => (some (bt342.1, bt342.2.1, bt342.2.2)))
def impl_SubtractRats.T1 : Bool × List (List Nat × List Nat) := (true, [([], []), ([], []), ([1], [1]), ([0, 2, 2], [0, 2]), ([3], [3]), ([3], [3]), ([4, 3, 0, 1, 2, 3, 4, 5], [4]), ([5, 6, 0, 1, 2, 3, 4, 5, 6], [5])])
def impl_SubtractRats.B1 : List Nat := [0, 0, 2, 7, 15, 15, 63, 127]
theorem impl_SubtractRats.tab1 : rtab .any (opsOf Try.f130 1) = impl_SubtractRats.T1 := by kernel_rfl
theorem impl_SubtractRats.bits1 : waitsOk impl_SubtractRats.T1.2 impl_SubtractRats.B1 = true := by kernel_rfl
set_option maxHeartbeats 8000000 in
set_option maxRecDepth 100000 in
theorem impl_SubtractRats.calls (k : Nat) (a0_0 : Int) (a0_1 : Int) (a1_0 : Int) (a1_1 : Int) (r1 : Int) (r2 : Int) (r3 : Bool) (w : World) (h : impl_SubtractRats.f k a0_0 a0_1 a1_0 a1_1 = some (r1, r2, r3)) :
  Calls Try.prog 130 #[.agg #[.int .i64 a0_0, .int .i64 a0_1], .agg #[.int .i64 a1_0, .int .i64 a1_1]] w fun e w' => e = .returned (.tuple #[.agg #[.int .i64 r1, .int .i64 r2], .bool r3]) ∧ Below w.heap.size w w' := by
 have hu28 := Try.underlying28
 have HB := Aside0.mk (Below.refl w.heap.size w)
 have H : ((impl_negated.f a1_0 a1_1).bind fun bt340 => ((impl_AddRats.f k a0_0 a0_1 bt340.1 bt340.2).bind fun bt342 => (some (bt342.1, bt342.2.1, bt342.2.2)))) = some (r1, r2, r3) := h
 clear h
 replace H := Option.bind_eq_some_iff.mp H
 obtain ⟨⟨t340, t341⟩, A30, H⟩ := H
 replace H : ((impl_AddRats.f k a0_0 a0_1 t340 t341).bind fun bt342 => (some (bt342.1, bt342.2.1, bt342.2.2))) = some (r1, r2, r3) := H
 have A3 := Aside0.mk A30
 clear A30
 replace H := Option.bind_eq_some_iff.mp H
 obtain ⟨⟨t342, t343, t344⟩, A40, H⟩ := H
 replace H : (some (t342, t343, t344)) = some (r1, r2, r3) := H
 have A4 := Aside0.mk A40
 clear A40
 simp only [Option.some.injEq, Prod.mk.injEq] at H
 obtain ⟨rfl, rfl, rfl⟩ := H
 go_enter Try.func130, Try.ntmps130
 try go_wp2_with (first | ((with_reducible refine gate_dst (N := 2) rfl ?_); refine bx 2 #[.int .i64 a0_0, .int .i64 a0_1] 28 ?_; intro gb337 hg w5 hbox hb; have BK337 := Aside0.mk (hbox); have GW337 := Aside0.mk (bz hg); have GE337 := GW337; replace HB := Aside0.mk (bs hb); clear hb hbox hg) | ((with_reducible refine gate_dst (N := 3) rfl ?_); refine bx 3 #[.int .i64 a1_0, .int .i64 a1_1] 28 ?_; intro gb338 hg w6 hbox hb; have BK338 := Aside0.mk (hbox); have GW338 := Aside0.mk (bz hg); have GE338 := GW338; have NB337_338 := Aside0.mk (bn gb337 hg); have NB338_337 := Aside0.mk NB337_338.out.symm; replace BK337 := Aside0.mk (bb gb337 hb); replace HB := Aside0.mk (bs hb); clear hb hbox hg) | ((with_reducible refine gate_dst (N := 4) rfl ?_); refine bx 4 #[.int .i64 0, .int .i64 0] 28 ?_; intro gb339 hg w7 hbox hb; have BK339 := Aside0.mk (hbox); have GW339 := Aside0.mk (bz hg); have GE339 := GW339; have NB337_339 := Aside0.mk (bn gb337 hg); have NB339_337 := Aside0.mk NB337_339.out.symm; have NB338_339 := Aside0.mk (bn gb338 hg); have NB339_338 := Aside0.mk NB338_339.out.symm; replace BK337 := Aside0.mk (bb gb337 hb); replace BK338 := Aside0.mk (bb gb338 hb); replace HB := Aside0.mk (bs hb); clear hb hbox hg))
 replace BK337 := Aside0.mk (blk_drew BK337.out)
 replace BK338 := Aside0.mk (blk_drew BK338.out)
 replace BK339 := Aside0.mk (blk_drew BK339.out)
 replace HB := Aside0.mk (below_drew1 HB.out)
 refine start_ (n := 8) (S := fun w' => w'.cell? ⟨gb337, 0, none⟩ = some (.int .i64 a0_0) ∧ w'.cell? ⟨gb337, 1, none⟩ = some (.int .i64 a0_1) ∧ w'.cell? ⟨gb338, 0, none⟩ = some (.int .i64 a1_0) ∧ w'.cell? ⟨gb338, 1, none⟩ = some (.int .i64 a1_1)) (ds := []) (tb 0 8) (by kernel_rfl) rfl rfl ⟨(blk_cell BK337.out 0).trans rfl, (blk_cell BK337.out 1).trans rfl, (blk_cell BK338.out 0).trans rfl, (blk_cell BK338.out 1).trans rfl⟩ (fun hHeld => ?_); refine with_tabW impl_SubtractRats.tab1 impl_SubtractRats.bits1 (fun HT_ HW_ => ?_)
 generalize w7.drew = w8 at BK337 BK338 BK339 HB hHeld ⊢
 refine tk 0 6 (tb 1 7) (hy := by rintro w' ⟨s0, s1, s2, s3⟩; go_simp; with_reducible rfl) (h := ?_)
 refine tk 1 7 (tb 2 6) (hy := by rintro w' ⟨s0, s1, s2, s3⟩; go_simp; with_reducible rfl) (h := ?_)
 refine on 2 8 (tb 3 5) (fun K hK => ?_)
 refine gs Try.func141 #[.agg #[.int .i64 a1_0, .int .i64 a1_1]] ?_
 with_reducible refine (impl_negated.calls a1_0 a1_1 t340 t341 _ A3.out).mono ?_
 rintro e w9 ⟨rfl, hb⟩
 refine ⟨_, rfl, ?_⟩
 replace BK337 := Aside0.mk (bb gb337 hb)
 replace BK338 := Aside0.mk (bb gb338 hb)
 replace BK339 := Aside0.mk (bb gb339 hb)
 replace HB := Aside0.mk (bs hb)
 (try clear hb)
 (try clear hb2)
 (try clear hk)
 (try clear hi)
 refine hK.out _ _ ⟨(blk_cell BK337.out 0).trans rfl, (blk_cell BK337.out 1).trans rfl, (blk_cell BK338.out 0).trans rfl, (blk_cell BK338.out 1).trans rfl⟩ (fun hHeld => ?_)
 clear hK K
 refine nm 8 ?_
 refine on 3 9 (tb 4 4) (fun K hK => ?_)
 refine gs Try.func129 #[.agg #[.int .i64 a0_0, .int .i64 a0_1], .agg #[.int .i64 t340, .int .i64 t341]] ?_
 with_reducible refine (impl_AddRats.calls k a0_0 a0_1 t340 t341 t342 t343 t344 _ A4.out).mono ?_
 rintro e w10 ⟨rfl, hb⟩
 refine ⟨_, rfl, ?_⟩
 replace BK337 := Aside0.mk (bb gb337 hb)
 replace BK338 := Aside0.mk (bb gb338 hb)
 replace BK339 := Aside0.mk (bb gb339 hb)
 replace HB := Aside0.mk (bs hb)
 (try clear hb)
 (try clear hb2)
 (try clear hk)
 (try clear hi)
 refine hK.out _ _ ⟨(blk_cell BK337.out 0).trans rfl, (blk_cell BK337.out 1).trans rfl, (blk_cell BK338.out 0).trans rfl, (blk_cell BK338.out 1).trans rfl⟩ (fun hHeld => ?_)
 clear hK K
 refine nm 9 ?_
 refine pu 4 10 (tb 5 3) ?_
 refine pu 5 11 (tb 6 2) ?_
 refine one_ (i := 6) (N := none) (tb 7 1) rfl rfl (one_of HT_.out (by kernel_rfl)) (by decide) (fun K hK => ?_)
 have hs11 : w10.cell? ⟨gb339, 0, none⟩ = some (.int .i64 0) := (blk_cell BK339.out 0).trans rfl
 have hfs11 := blk_frozen BK339.out 0
 have hns11_0 := NB337_339.out
 have hns11_1 := NB338_339.out
 have hms11_0 := NB339_337.out
 have hms11_1 := NB339_338.out
 have hs12 : w10.cell? ⟨gb339, 1, none⟩ = some (.int .i64 0) := (blk_cell BK339.out 1).trans rfl
 have hfs12 := blk_frozen BK339.out 1
 have hns12_0 := NB337_339.out
 have hns12_1 := NB338_339.out
 have hms12_0 := NB339_337.out
 have hms12_1 := NB339_338.out
 refine skip_ (w1 := ?_) (by rfl) rfl ?_ ?_
 rotate_left
 ·go_simp
  rfl
 refine hK.out _ _ ⟨(by (iterate 2 refine (cell_far (p := ⟨gb339, _, none⟩) NB337_339.out _).trans ?_); exact hHeld.1), (by (iterate 2 refine (cell_far (p := ⟨gb339, _, none⟩) NB337_339.out _).trans ?_); exact hHeld.2.1), (by (iterate 2 refine (cell_far (p := ⟨gb339, _, none⟩) NB338_339.out _).trans ?_); exact hHeld.2.2.1), (by (iterate 2 refine (cell_far (p := ⟨gb339, _, none⟩) NB338_339.out _).trans ?_); exact hHeld.2.2.2)⟩ (fun hHeld => ?_)
 clear hK K
 refine pu 7 5 (tb 8 0) ?_
 refine done_ (done_of HT_.out (by kernel_rfl)) ?_
 try go_wp2
 refine bodyPost_ret (results_ct rfl _ _ gb339 28 #[.int .i64 t342, .int .i64 t343] (0, 0) _ rfl (by (with_reducible repeat (first | refine blk_drewN ?_ _ | refine blk_drew ?_ | refine blk_alloc ?_ _)); refine blk_put (cs := #[.int .i64 t342, .int .i64 0]) ?_ 1 _ rfl; (with_reducible repeat (first | refine blk_drewN ?_ _ | refine blk_drew ?_ | refine blk_alloc ?_ _)); refine blk_put (cs := #[.int .i64 0, .int .i64 0]) ?_ 0 _ rfl; (with_reducible repeat (first | refine blk_drewN ?_ _ | refine blk_drew ?_ | refine blk_alloc ?_ _)); exact BK339.out) Try.underlying28 rfl (by kernel_rfl)) rfl ?_
 exact ⟨by first | rfl | (simp [errW_none, errW_some] <;> rfl) | (simp [*, errW_none, errW_some] <;> rfl), bl⟩

/-! ### impl_calc_sub: function 107 -/
def impl_calc_sub.f (k : Nat) (s0_0 : Bool) (a1_0 : Int) (a1_1 : Int) (a2_0 : Int) (a2_1 : Int) : Option (Int × Int × Bool) := (impl_SubtractRats.f k a1_0 a1_1 a2_0 a2_1).bind fun bt348 => ((impl_calc_keep.f s0_0 bt348.1 bt348.2.1 bt348.2.2).bind fun bt351 => (some (bt351.1, bt351.2.1, bt351.2.2)))
set_option maxHeartbeats 8000000 in
set_option maxRecDepth 100000 in
theorem impl_calc_sub.calls (k : Nat) (g : Nat) (s0_0 : Bool) (a1_0 : Int) (a1_1 : Int) (a2_0 : Int) (a2_1 : Int) (r1 : Int) (r2 : Int) (r3 : Bool) (w0 w : World) (hI : IsS78 w0 w g s0_0) (hB : Below w0.heap.size w0 w) (h : impl_calc_sub.f k s0_0 a1_0 a1_1 a2_0 a2_1 = some (r1, r2, r3)) :
  Calls Try.prog 107 #[.pointer (some ⟨g, 0, none⟩), .agg #[.int .i64 a1_0, .int .i64 a1_1], .agg #[.int .i64 a2_0, .int .i64 a2_1]] w fun e w' => e = .returned (.agg #[.int .i64 r1, .int .i64 r2]) ∧ IsS78 w0 w' g r3 ∧ Below w0.heap.size w0 w' ∧ KeepBut w w' g none := by
 have hu28 := Try.underlying28
 have HI0 := Aside0.mk hI
 have HK := Aside0.mk (KeepBut.refl w g none)
 have HL := Aside0.mk hB.size
 clear hI
 have HW0 := Aside0.mk hB.size
 have HB := Aside0.mk hB
 clear hB
 have H : ((impl_SubtractRats.f k a1_0 a1_1 a2_0 a2_1).bind fun bt348 => ((impl_calc_keep.f s0_0 bt348.1 bt348.2.1 bt348.2.2).bind fun bt351 => (some (bt351.1, bt351.2.1, bt351.2.2)))) = some (r1, r2, r3) := h
 clear h
 replace H := Option.bind_eq_some_iff.mp H
 obtain ⟨⟨t348, t349, t350⟩, A40, H⟩ := H
 replace H : ((impl_calc_keep.f s0_0 t348 t349 t350).bind fun bt351 => (some (bt351.1, bt351.2.1, bt351.2.2))) = some (r1, r2, r3) := H
 have A4 := Aside0.mk A40
 clear A40
 replace H := Option.bind_eq_some_iff.mp H
 obtain ⟨⟨t351, t352, t353⟩, A50, H⟩ := H
 replace H : (some (t351, t352, t353)) = some (r1, r2, r3) := H
 have A5 := Aside0.mk A50
 clear A50
 simp only [Option.some.injEq, Prod.mk.injEq] at H
 obtain ⟨rfl, rfl, rfl⟩ := H
 go_enter Try.func107, Try.ntmps107
 go_wp2_with (first | ((with_reducible refine gate_dst (N := 4) rfl ?_); refine bx 4 #[.int .i64 a1_0, .int .i64 a1_1] 28 ?_; intro gb345 hg w6 hbox hb; have BK345 := Aside0.mk (hbox); have GW345 := Aside0.mk ((by rw [hg]; exact (keep_size (w := w) (g := g) (row := none) (by repeat (first | (with_reducible first | exact HK.out | apply KeepBut.set_ | apply keep_drewN | apply keep_drew | apply keep_alloc) | exact HK.out))) : w.heap.size ≤ gb345)); have GE345 := Aside0.mk ((Nat.le_trans HW0.out GW345.out : w0.heap.size ≤ gb345)); have NB0_345 := Aside0.mk ((by rw [hg]; exact Nat.ne_of_lt (IsS78.lt (show IsS78 w0 _ g s0_0 from by repeat (first | (with_reducible first | exact HI0.out | apply IsS78.alloc | apply IsS78.drewN | apply IsS78.drew | apply IsS78.set_0) | exact HI0.out))) : g ≠ gb345)); have NB345_0 := Aside0.mk NB0_345.out.symm; replace HK := Aside0.mk (KeepBut.trans (by repeat (first | (with_reducible first | exact HK.out | apply KeepBut.set_ | apply keep_drewN | apply keep_drew | apply keep_alloc) | exact HK.out)) (KeepBut.of_below hb g none) (.inl rfl)); replace HB := Aside0.mk (below_step (by repeat (first | (with_reducible first | exact HB.out | apply below_alloc | apply pw_below_drewN | apply below_drew1 | refine below_set ?_ (IsS78.ge HI0.out)) | exact HB.out)) hb); replace HI0 := Aside0.mk (IsS78.below (by repeat (first | (with_reducible first | exact HI0.out | apply IsS78.alloc | apply IsS78.drewN | apply IsS78.drew | apply IsS78.set_0) | exact HI0.out)) hb); clear hb hbox hg) | ((with_reducible refine gate_dst (N := 5) rfl ?_); refine bx 5 #[.int .i64 a2_0, .int .i64 a2_1] 28 ?_; intro gb346 hg w7 hbox hb; have BK346 := Aside0.mk (hbox); have GW346 := Aside0.mk ((by rw [hg]; exact (keep_size (w := w) (g := g) (row := none) (by repeat (first | (with_reducible first | exact HK.out | apply KeepBut.set_ | apply keep_drewN | apply keep_drew | apply keep_alloc | refine keep_far ?_ GW345.out _) | exact HK.out))) : w.heap.size ≤ gb346)); have GE346 := Aside0.mk ((Nat.le_trans HW0.out GW346.out : w0.heap.size ≤ gb346)); have NB345_346 := Aside0.mk (bn gb345 hg); have NB346_345 := Aside0.mk NB345_346.out.symm; have NB0_346 := Aside0.mk ((by rw [hg]; exact Nat.ne_of_lt (IsS78.lt (show IsS78 w0 _ g s0_0 from by repeat (first | (with_reducible first | exact HI0.out | apply IsS78.alloc | apply IsS78.drewN | apply IsS78.drew | apply IsS78.set_0 | refine IsS78.far ?_ NB0_345.out _) | exact HI0.out))) : g ≠ gb346)); have NB346_0 := Aside0.mk NB0_346.out.symm; replace BK345 := Aside0.mk (bb gb345 hb); replace HK := Aside0.mk (KeepBut.trans (by repeat (first | (with_reducible first | exact HK.out | apply KeepBut.set_ | apply keep_drewN | apply keep_drew | apply keep_alloc | refine keep_far ?_ GW345.out _) | exact HK.out)) (KeepBut.of_below hb g none) (.inl rfl)); replace HB := Aside0.mk (below_step (by repeat (first | (with_reducible first | exact HB.out | apply below_alloc | apply pw_below_drewN | apply below_drew1 | refine below_set ?_ (IsS78.ge HI0.out) | refine below_set ?_ GE345.out) | exact HB.out)) hb); replace HI0 := Aside0.mk (IsS78.below (by repeat (first | (with_reducible first | exact HI0.out | apply IsS78.alloc | apply IsS78.drewN | apply IsS78.drew | apply IsS78.set_0 | refine IsS78.far ?_ NB0_345.out _) | exact HI0.out)) hb); clear hb hbox hg) | ((with_reducible refine gate_dst (N := 6) rfl ?_); refine bx 6 #[.int .i64 0, .int .i64 0] 28 ?_; intro gb347 hg w8 hbox hb; have BK347 := Aside0.mk (hbox); have GW347 := Aside0.mk ((by rw [hg]; exact (keep_size (w := w) (g := g) (row := none) (by repeat (first | (with_reducible first | exact HK.out | apply KeepBut.set_ | apply keep_drewN | apply keep_drew | apply keep_alloc | refine keep_far ?_ GW345.out _ | refine keep_far ?_ GW346.out _) | exact HK.out))) : w.heap.size ≤ gb347)); have GE347 := Aside0.mk ((Nat.le_trans HW0.out GW347.out : w0.heap.size ≤ gb347)); have NB345_347 := Aside0.mk (bn gb345 hg); have NB347_345 := Aside0.mk NB345_347.out.symm; have NB346_347 := Aside0.mk (bn gb346 hg); have NB347_346 := Aside0.mk NB346_347.out.symm; have NB0_347 := Aside0.mk ((by rw [hg]; exact Nat.ne_of_lt (IsS78.lt (show IsS78 w0 _ g s0_0 from by repeat (first | (with_reducible first | exact HI0.out | apply IsS78.alloc | apply IsS78.drewN | apply IsS78.drew | apply IsS78.set_0 | refine IsS78.far ?_ NB0_345.out _ | refine IsS78.far ?_ NB0_346.out _) | exact HI0.out))) : g ≠ gb347)); have NB347_0 := Aside0.mk NB0_347.out.symm; replace BK345 := Aside0.mk (bb gb345 hb); replace BK346 := Aside0.mk (bb gb346 hb); replace HK := Aside0.mk (KeepBut.trans (by repeat (first | (with_reducible first | exact HK.out | apply KeepBut.set_ | apply keep_drewN | apply keep_drew | apply keep_alloc | refine keep_far ?_ GW345.out _ | refine keep_far ?_ GW346.out _) | exact HK.out)) (KeepBut.of_below hb g none) (.inl rfl)); replace HB := Aside0.mk (below_step (by repeat (first | (with_reducible first | exact HB.out | apply below_alloc | apply pw_below_drewN | apply below_drew1 | refine below_set ?_ (IsS78.ge HI0.out) | refine below_set ?_ GE345.out | refine below_set ?_ GE346.out) | exact HB.out)) hb); replace HI0 := Aside0.mk (IsS78.below (by repeat (first | (with_reducible first | exact HI0.out | apply IsS78.alloc | apply IsS78.drewN | apply IsS78.drew | apply IsS78.set_0 | refine IsS78.far ?_ NB0_345.out _ | refine IsS78.far ?_ NB0_346.out _) | exact HI0.out)) hb); clear hb hbox hg; have hnb9 := NB345_346.out; have hnc9 := NB346_345.out; have hnb10 := NB345_347.out; have hnc10 := NB347_345.out; have hnb11 := NB345_0.out; have hnc11 := NB0_345.out; have hcz12_0 : w8.cell? ⟨gb345, 0, none⟩ = some (.int .i64 a1_0) := (blk_cell BK345.out 0).trans rfl; have hcz12_1 : w8.cell? ⟨gb345, 1, none⟩ = some (.int .i64 a1_1) := (blk_cell BK345.out 1).trans rfl; have hfz12_0 := blk_frozen BK345.out 0; have hfz12_1 := blk_frozen BK345.out 1; have hnb13 := NB346_347.out; have hnc13 := NB347_346.out; have hnb14 := NB346_0.out; have hnc14 := NB0_346.out; have hcz15_0 : w8.cell? ⟨gb346, 0, none⟩ = some (.int .i64 a2_0) := (blk_cell BK346.out 0).trans rfl; have hcz15_1 : w8.cell? ⟨gb346, 1, none⟩ = some (.int .i64 a2_1) := (blk_cell BK346.out 1).trans rfl; have hfz15_0 := blk_frozen BK346.out 0; have hfz15_1 := blk_frozen BK346.out 1) | ((with_reducible refine gate_callee (f := 130) rfl ?_); refine gl 10 Try.func130 #[.agg #[.int .i64 a1_0, .int .i64 a1_1], .agg #[.int .i64 a2_0, .int .i64 a2_1]] ?_; (with_reducible refine (impl_SubtractRats.calls k a1_0 a1_1 a2_0 a2_1 t348 t349 t350 _ A4.out).mono ?_); rintro e w16 ⟨rfl, hb⟩; refine ⟨_, rfl, ?_⟩; replace BK345 := Aside0.mk (bb gb345 hb); replace BK346 := Aside0.mk (bb gb346 hb); replace BK347 := Aside0.mk (bb gb347 hb); replace HK := Aside0.mk (KeepBut.trans (by repeat (first | (with_reducible first | exact HK.out | apply KeepBut.set_ | apply keep_drewN | apply keep_drew | apply keep_alloc | refine keep_far ?_ GW345.out _ | refine keep_far ?_ GW346.out _ | refine keep_far ?_ GW347.out _) | exact HK.out)) (KeepBut.of_below hb g none) (.inl rfl)); replace HB := Aside0.mk (below_step (by repeat (first | (with_reducible first | exact HB.out | apply below_alloc | apply pw_below_drewN | apply below_drew1 | refine below_set ?_ (IsS78.ge HI0.out) | refine below_set ?_ GE345.out | refine below_set ?_ GE346.out | refine below_set ?_ GE347.out) | exact HB.out)) hb); replace HI0 := Aside0.mk (IsS78.below (by repeat (first | (with_reducible first | exact HI0.out | apply IsS78.alloc | apply IsS78.drewN | apply IsS78.drew | apply IsS78.set_0 | refine IsS78.far ?_ NB0_345.out _ | refine IsS78.far ?_ NB0_346.out _ | refine IsS78.far ?_ NB0_347.out _) | exact HI0.out)) hb); (try clear hb); (try clear hb2); (try clear hk); (try clear hi)) | ((with_reducible refine gate_callee (f := 127) rfl ?_); refine gl 13 Try.func127 #[.pointer (some ⟨g, 0, none⟩), .agg #[.int .i64 t348, .int .i64 t349], .bool t350] ?_; (with_reducible refine (impl_calc_keep.calls g s0_0 t348 t349 t350 t351 t352 t353 w0 _ ?side1 ?side2 A5.out).mono ?_); (case side1 => repeat (first | (with_reducible first | exact HI0.out | apply IsS78.alloc | apply IsS78.drewN | apply IsS78.drew | apply IsS78.set_0 | refine IsS78.far ?_ NB0_345.out _ | refine IsS78.far ?_ NB0_346.out _ | refine IsS78.far ?_ NB0_347.out _) | exact HI0.out)); (case side2 => repeat (first | (with_reducible first | exact HB.out | apply below_alloc | apply pw_below_drewN | apply below_drew1 | refine below_set ?_ (IsS78.ge HI0.out) | refine below_set ?_ GE345.out | refine below_set ?_ GE346.out | refine below_set ?_ GE347.out) | exact HB.out)); rintro e w17 ⟨rfl, hi, hb, hk⟩; refine ⟨_, rfl, ?_⟩; replace BK345 := Aside0.mk (KeepBut.blk hk (g' := gb345) (o := .cells #[.int .i64 a1_0, .int .i64 a1_1] 28 (0, 0)) (bo gb345) NB345_0.out (by simp)); replace BK346 := Aside0.mk (KeepBut.blk hk (g' := gb346) (o := .cells #[.int .i64 a2_0, .int .i64 a2_1] 28 (0, 0)) (bo gb346) NB346_0.out (by simp)); replace BK347 := Aside0.mk (KeepBut.blk hk (g' := gb347) (o := .cells #[.int .i64 0, .int .i64 0] 28 (0, 0)) (bo gb347) NB347_0.out (by simp)); replace HK := Aside0.mk (KeepBut.trans (by repeat (first | (with_reducible first | exact HK.out | apply KeepBut.set_ | apply keep_drewN | apply keep_drew | apply keep_alloc | refine keep_far ?_ GW345.out _ | refine keep_far ?_ GW346.out _ | refine keep_far ?_ GW347.out _) | exact HK.out)) hk (.inl rfl)); replace HB := Aside0.mk (hb); replace HI0 := Aside0.mk (hi); (try clear hb); (try clear hb2); (try clear hk); (try clear hi); have hnb18 := NB347_0.out; have hnc18 := NB0_347.out; have hcz19_0 : w17.cell? ⟨gb347, 0, none⟩ = some (.int .i64 0) := (blk_cell BK347.out 0).trans rfl; have hcz19_1 : w17.cell? ⟨gb347, 1, none⟩ = some (.int .i64 0) := (blk_cell BK347.out 1).trans rfl; have hfz19_0 := blk_frozen BK347.out 0; have hfz19_1 := blk_frozen BK347.out 1))
 refine bodyPost_ret (results_cell_row rfl _ _ gb347 28 #[.int .i64 t351, .int .i64 t352] (0, 0) _ rfl (by (with_reducible repeat (first | refine blk_drewN ?_ _ | refine blk_drew ?_ | refine blk_alloc ?_ _)); refine blk_put (cs := #[.int .i64 t351, .int .i64 0]) ?_ 1 _ rfl; (with_reducible repeat (first | refine blk_drewN ?_ _ | refine blk_drew ?_ | refine blk_alloc ?_ _)); refine blk_put (cs := #[.int .i64 0, .int .i64 0]) ?_ 0 _ rfl; (with_reducible repeat (first | refine blk_drewN ?_ _ | refine blk_drew ?_ | refine blk_alloc ?_ _)); exact BK347.out) Try.underlying28 rfl (by kernel_rfl)) rfl ?_
 exact ⟨by first | rfl | (simp [errW_none, errW_some] <;> rfl) | (simp [*, errW_none, errW_some] <;> rfl), by repeat (first | (with_reducible first | exact HI0.out | apply IsS78.alloc | apply IsS78.drewN | apply IsS78.drew | apply IsS78.set_0 | refine IsS78.far ?_ NB0_345.out _ | refine IsS78.far ?_ NB0_346.out _ | refine IsS78.far ?_ NB0_347.out _) | exact HI0.out), by repeat (first | (with_reducible first | exact HB.out | apply below_alloc | apply pw_below_drewN | apply below_drew1 | refine below_set ?_ (IsS78.ge HI0.out) | refine below_set ?_ GE345.out | refine below_set ?_ GE346.out | refine below_set ?_ GE347.out) | exact HB.out), by repeat (first | (with_reducible first | exact HK.out | apply KeepBut.set_ | apply keep_drewN | apply keep_drew | apply keep_alloc | refine keep_far ?_ GW345.out _ | refine keep_far ?_ GW346.out _ | refine keep_far ?_ GW347.out _) | exact HK.out)⟩

end Go.Proofs.Ytmecnnnagallnaa.PFnExactPiecesOf
