-- Written by this session's program wip/pp (the kit's print tool with additions) 35421559b90ae4d0a3588c463048766b98c2df88dd9212a6774a882060cdf62d
import Derived.Test.YtmecnnnagallnaaPFnExactItineraryOfx0
import Derived.Test.YtmecnnnagallnaaPFnExactItineraryOfx3
namespace Go.Proofs.Ytmecnnnagallnaa.PFnExactItineraryOf
open Go.RowKit Go.Proofs.YtmecnnnagallnaaW.PrintWords Go.Proofs.YtmecnnnagallnaaW.PrintLast Go.Proofs.YtmecnnnagallnaaW.PrintMore
attribute [local go_sem] max2_int min2_int max_two min_two max_three min_three max_four min_four   -- for this text's walks alone
set_option linter.unusedVariables false
set_option linter.unusedSimpArgs false

/-! ### spec_raMake: function 125 -/
def spec_raMake.f (k : Nat) (a0 : Int) (a1 : Int) : Option (Int × Int × Bool) := if a1 = 0 then (some (0, 0, false)) else ((spec_l1Abs.f a0).bind fun t153 => ((spec_l1Abs.f a1).bind fun t154 => ((spec_raCommon.f k t153 t154).bind fun t155 => (if a1 < 0 then (if (wrap64 (-t155)) = 0 then (none) else ((spec_raGood.f k (wrap64 (Int.tdiv a0 (wrap64 (-t155)))) (wrap64 (Int.tdiv a1 (wrap64 (-t155))))).bind fun t157 => (if t157 = true then (some (wrap64 (Int.tdiv a0 (wrap64 (-t155))), wrap64 (Int.tdiv a1 (wrap64 (-t155))), true)) else (some (0, 0, false))))) else (if t155 = 0 then (none) else ((spec_raGood.f k (wrap64 (Int.tdiv a0 t155)) (wrap64 (Int.tdiv a1 t155))).bind fun t159 => (if t159 = true then (some (wrap64 (Int.tdiv a0 t155), wrap64 (Int.tdiv a1 t155), true)) else (some (0, 0, false)))))))))
def spec_raMake.T6 : Bool × List (List Nat × List Nat) := (true, [([], []), ([], []), ([0, 1], [0, 1]), ([], []), ([], []), ([3, 4], [3, 4]), ([2, 5], [2, 5]), ([], []), ([7, 6, 0, 1, 2, 3, 4, 5, 6, 7], [6, 7])])
def spec_raMake.B6 : List Nat := [0, 0, 3, 0, 0, 24, 63, 0, 255]
theorem spec_raMake.tab6 : rtab .any (opsOf Try.f125 6) = spec_raMake.T6 := by kernel_rfl
theorem spec_raMake.bits6 : waitsOk spec_raMake.T6.2 spec_raMake.B6 = true := by kernel_rfl
set_option maxHeartbeats 8000000 in
set_option maxRecDepth 100000 in
theorem spec_raMake.calls (k : Nat) (a0 : Int) (a1 : Int) (r1 : Int) (r2 : Int) (r3 : Bool) (w : World) (h : spec_raMake.f k a0 a1 = some (r1, r2, r3)) :
  Calls Try.prog 125 #[.int .i64 a0, .int .i64 a1] w fun e w' => e = .returned (.tuple #[.agg #[.int .i64 r1, .int .i64 r2], .bool r3]) ∧ Below w.heap.size w w' := by
 have hu28 := Try.underlying28
 have HB := Aside0.mk (Below.refl w.heap.size w)
 have H : (if a1 = 0 then (some (0, 0, false)) else ((spec_l1Abs.f a0).bind fun t153 => ((spec_l1Abs.f a1).bind fun t154 => ((spec_raCommon.f k t153 t154).bind fun t155 => (if a1 < 0 then (if (wrap64 (-t155)) = 0 then (none) else ((spec_raGood.f k (wrap64 (Int.tdiv a0 (wrap64 (-t155)))) (wrap64 (Int.tdiv a1 (wrap64 (-t155))))).bind fun t157 => (if t157 = true then (some (wrap64 (Int.tdiv a0 (wrap64 (-t155))), wrap64 (Int.tdiv a1 (wrap64 (-t155))), true)) else (some (0, 0, false))))) else (if t155 = 0 then (none) else ((spec_raGood.f k (wrap64 (Int.tdiv a0 t155)) (wrap64 (Int.tdiv a1 t155))).bind fun t159 => (if t159 = true then (some (wrap64 (Int.tdiv a0 t155), wrap64 (Int.tdiv a1 t155), true)) else (some (0, 0, false)))))))))) = some (r1, r2, r3) := h
 clear h
 by_cases c3 : a1 = 0
 ·rw [if_pos c3] at H
  have c3b0 : (a1 == 0) = true := beq_iff_eq.mpr c3
  have c3b1 : (a1 != 0) = false := bne_eq_false_iff_eq.mpr c3
  clear c3
  simp only [Option.some.injEq, Prod.mk.injEq] at H
  obtain ⟨rfl, rfl, rfl⟩ := H
  go_enter Try.func125, Try.ntmps125
  go_wp2_with (first | ((with_reducible refine gate_dst (N := 4) rfl ?_); refine bx 4 #[.int .i64 0, .int .i64 0] 28 ?_; intro gb152 hg w4 hbox hb; have BK152 := Aside0.mk (hbox); have GW152 := Aside0.mk (bz hg); have GE152 := GW152; replace HB := kh hb; clear hb hbox hg; obtain ⟨hcz5_0, hcz5_1, hfz5_0, hfz5_1⟩ := b2 BK152))
  refine bodyPost_ret (results_ct rfl _ _ gb152 28 #[.int .i64 0, .int .i64 0] (0, 0) _ rfl (by (with_reducible repeat (first | refine blk_drewN ?_ _ | refine blk_drew ?_ | refine blk_alloc ?_ _)); refine blk_put (cs := #[.int .i64 0, .int .i64 0]) ?_ 1 _ rfl; (with_reducible repeat (first | refine blk_drewN ?_ _ | refine blk_drew ?_ | refine blk_alloc ?_ _)); refine blk_put (cs := #[.int .i64 0, .int .i64 0]) ?_ 0 _ rfl; (with_reducible repeat (first | refine blk_drewN ?_ _ | refine blk_drew ?_ | refine blk_alloc ?_ _)); exact BK152.out) Try.underlying28 rfl (by kernel_rfl)) rfl ?_
  exact ⟨rt, bl⟩
 ·rw [if_neg c3] at H
  have c3b0 : (a1 == 0) = false := beq_eq_false_iff_ne.mpr c3
  have c3b1 : (a1 != 0) = true := bne_iff_ne.mpr c3
  replace H := Option.bind_eq_some_iff.mp H
  obtain ⟨t153, A60, H⟩ := H
  replace H : ((spec_l1Abs.f a1).bind fun t154 => ((spec_raCommon.f k t153 t154).bind fun t155 => (if a1 < 0 then (if (wrap64 (-t155)) = 0 then (none) else ((spec_raGood.f k (wrap64 (Int.tdiv a0 (wrap64 (-t155)))) (wrap64 (Int.tdiv a1 (wrap64 (-t155))))).bind fun t157 => (if t157 = true then (some (wrap64 (Int.tdiv a0 (wrap64 (-t155))), wrap64 (Int.tdiv a1 (wrap64 (-t155))), true)) else (some (0, 0, false))))) else (if t155 = 0 then (none) else ((spec_raGood.f k (wrap64 (Int.tdiv a0 t155)) (wrap64 (Int.tdiv a1 t155))).bind fun t159 => (if t159 = true then (some (wrap64 (Int.tdiv a0 t155), wrap64 (Int.tdiv a1 t155), true)) else (some (0, 0, false)))))))) = some (r1, r2, r3) := H
  have A6 := Aside0.mk A60
  clear A60
  replace H := Option.bind_eq_some_iff.mp H
  obtain ⟨t154, A70, H⟩ := H
  replace H : ((spec_raCommon.f k t153 t154).bind fun t155 => (if a1 < 0 then (if (wrap64 (-t155)) = 0 then (none) else ((spec_raGood.f k (wrap64 (Int.tdiv a0 (wrap64 (-t155)))) (wrap64 (Int.tdiv a1 (wrap64 (-t155))))).bind fun t157 => (if t157 = true then (some (wrap64 (Int.tdiv a0 (wrap64 (-t155))), wrap64 (Int.tdiv a1 (wrap64 (-t155))), true)) else (some (0, 0, false))))) else (if t155 = 0 then (none) else ((spec_raGood.f k (wrap64 (Int.tdiv a0 t155)) (wrap64 (Int.tdiv a1 t155))).bind fun t159 => (if t159 = true then (some (wrap64 (Int.tdiv a0 t155), wrap64 (Int.tdiv a1 t155), true)) else (some (0, 0, false))))))) = some (r1, r2, r3) := H
  have A7 := Aside0.mk A70
  clear A70
  replace H := Option.bind_eq_some_iff.mp H
  obtain ⟨t155, A80, H⟩ := H
  replace H : (if a1 < 0 then (if (wrap64 (-t155)) = 0 then (none) else ((spec_raGood.f k (wrap64 (Int.tdiv a0 (wrap64 (-t155)))) (wrap64 (Int.tdiv a1 (wrap64 (-t155))))).bind fun t157 => (if t157 = true then (some (wrap64 (Int.tdiv a0 (wrap64 (-t155))), wrap64 (Int.tdiv a1 (wrap64 (-t155))), true)) else (some (0, 0, false))))) else (if t155 = 0 then (none) else ((spec_raGood.f k (wrap64 (Int.tdiv a0 t155)) (wrap64 (Int.tdiv a1 t155))).bind fun t159 => (if t159 = true then (some (wrap64 (Int.tdiv a0 t155), wrap64 (Int.tdiv a1 t155), true)) else (some (0, 0, false)))))) = some (r1, r2, r3) := H
  have A8 := Aside0.mk A80
  clear A80
  by_cases c9 : a1 < 0
  ·rw [if_pos c9] at H
   have c9b0 : decide (a1 < 0) = true := decide_eq_true c9
   clear c9
   by_cases c10 : (wrap64 (-t155)) = 0
   ·rw [if_pos c10] at H
    exact absurd H (by simp)
   ·rw [if_neg c10] at H
    have c10b0 : ((wrap64 (-t155)) == 0) = false := beq_eq_false_iff_ne.mpr c10
    have c10b1 : ((wrap64 (-t155)) != 0) = true := bne_iff_ne.mpr c10
    replace H := Option.bind_eq_some_iff.mp H
    obtain ⟨t157, A110, H⟩ := H
    replace H : (if t157 = true then (some (wrap64 (Int.tdiv a0 (wrap64 (-t155))), wrap64 (Int.tdiv a1 (wrap64 (-t155))), true)) else (some (0, 0, false))) = some (r1, r2, r3) := H
    have A11 := Aside0.mk A110
    clear A110
    by_cases c12 : t157 = true
    ·subst c12
     have H1 : (some (wrap64 (Int.tdiv a0 (wrap64 (-t155))), wrap64 (Int.tdiv a1 (wrap64 (-t155))), true)) = some (r1, r2, r3) := by rw [if_pos rfl] at H; exact H
     clear H
     have H := H1
     clear H1
     simp only [Option.some.injEq, Prod.mk.injEq] at H
     obtain ⟨rfl, rfl, rfl⟩ := H
     go_enter Try.func125, Try.ntmps125
     try go_wp2_with (first | ((with_reducible refine gate_dst (N := 4) rfl ?_); refine bx 4 #[.int .i64 0, .int .i64 0] 28 ?_; intro gb152 hg w13 hbox hb; have BK152 := Aside0.mk (hbox); have GW152 := Aside0.mk (bz hg); have GE152 := GW152; replace HB := kh hb; clear hb hbox hg) | ((with_reducible refine gate_callee (f := 46) rfl ?_); refine gl 12 Try.func46 #[.int .i64 a0] ?_; (with_reducible refine (spec_l1Abs.calls a0 t153 _ A6.out).mono ?_); rintro e w' ⟨rfl, ⟨nd, rfl⟩⟩; refine ⟨_, rfl, ?_⟩; (try (rw [drewN_self w13]; generalize hq_ : World.drewN w13 _ = w13; have n0_ : Aside0 (w13.heap[gb152]? = some (.cells #[.int .i64 0, .int .i64 0] 28 (0, 0))) := ⟨by rw [← hq_]; exact (bo gb152)⟩; have n1_ : Aside0 (Below w.heap.size w w13) := ⟨by rw [← hq_]; exact bl⟩; clear BK152 HB hq_; have BK152 := n0_; have HB := n1_; clear n0_ n1_))) | ((with_reducible refine gate_callee (f := 46) rfl ?_); refine gl 14 Try.func46 #[.int .i64 a1] ?_; (with_reducible refine (spec_l1Abs.calls a1 t154 _ A7.out).mono ?_); rintro e w' ⟨rfl, ⟨nd, rfl⟩⟩; refine ⟨_, rfl, ?_⟩; (try (rw [drewN_self w13]; generalize hq_ : World.drewN w13 _ = w13; have n0_ : Aside0 (w13.heap[gb152]? = some (.cells #[.int .i64 0, .int .i64 0] 28 (0, 0))) := ⟨by rw [← hq_]; exact (bo gb152)⟩; have n1_ : Aside0 (Below w.heap.size w w13) := ⟨by rw [← hq_]; exact bl⟩; clear BK152 HB hq_; have BK152 := n0_; have HB := n1_; clear n0_ n1_))) | ((with_reducible refine gate_callee (f := 134) rfl ?_); refine gl 15 Try.func134 #[.int .i64 t153, .int .i64 t154] ?_; (with_reducible refine (spec_raCommon.calls k t153 t154 t155 _ A8.out).mono ?_); rintro e w' ⟨rfl, ⟨nd, rfl⟩⟩; refine ⟨_, rfl, ?_⟩; (try (rw [drewN_self w13]; generalize hq_ : World.drewN w13 _ = w13; have n0_ : Aside0 (w13.heap[gb152]? = some (.cells #[.int .i64 0, .int .i64 0] 28 (0, 0))) := ⟨by rw [← hq_]; exact (bo gb152)⟩; have n1_ : Aside0 (Below w.heap.size w w13) := ⟨by rw [← hq_]; exact bl⟩; clear BK152 HB hq_; have BK152 := n0_; have HB := n1_; clear n0_ n1_))))
     replace BK152 := Aside0.mk (blk_drew BK152.out)
     replace HB := Aside0.mk (below_drew1 HB.out)
     refine start_ (n := 9) (S := fun w' => True) (ds := []) (tb 0 9) (by kernel_rfl) rfl rfl trivial (fun hHeld => ?_); refine with_tabW spec_raMake.tab6 spec_raMake.bits6 (fun HT_ HW_ => ?_)
     generalize w13.drew = w14 at BK152 HB hHeld ⊢
     refine pu 0 20 (tb 1 8) ?_
     refine pu 1 21 (tb 2 7) ?_
     refine pu 2 22 (tb 3 6) ?_
     refine pu 3 23 (tb 4 5) ?_
     refine pu 4 24 (tb 5 4) ?_
     refine pu 5 25 (tb 6 3) ?_
     refine pu 6 26 (tb 7 2) ?_
     refine on 7 7 (tb 8 1) (fun K hK => ?_)
     refine box_step ?hg (N := 7) ?hd (cs := #[.int .i64 0, .int .i64 0]) (t := 28) ?hr ?_; (case hd => rfl); (case hg => rfl); (case hr => first | (go_simp; done) | (go_simp; rfl))
     intro gb156 hg w15 hbox hb
     have BK156 := Aside0.mk (hbox)
     have GW156 := Aside0.mk (bz hg)
     have GE156 := GW156
     have NB152_156 := Aside0.mk (bn gb152 hg)
     have NB156_152 := sy NB152_156
     replace BK152 := kb BK152 hb
     replace HB := kh hb
     clear hb hbox hg
     refine hK.out _ _ trivial (fun hHeld => ?_)
     clear hK K
     refine nm 7 ?_
     refine one_ (i := 8) (N := none) (tb 9 0) rfl rfl (one_of HT_.out (by kernel_rfl)) (by decide) (fun K hK => ?_)
     have hs16 : w15.cell? ⟨gb156, 0, none⟩ = some (.int .i64 0) := (blk_cell BK156.out 0).trans rfl
     have hfs16 := blk_frozen BK156.out 0
     have hns16_0 := NB152_156.out
     have hms16_0 := NB156_152.out
     have hs17 : w15.cell? ⟨gb156, 1, none⟩ = some (.int .i64 0) := (blk_cell BK156.out 1).trans rfl
     have hfs17 := blk_frozen BK156.out 1
     have hns17_0 := NB152_156.out
     have hms17_0 := NB156_152.out
     refine skip_ (w1 := ?_) (by rfl) rfl ?_ ?_
     rotate_left
     ·go_simp
      rfl
     refine hK.out _ _ trivial (fun hHeld => ?_)
     clear hK K
     refine done_ (done_of HT_.out (by kernel_rfl)) ?_
     have hnb18 := NB156_152.out
     have hnc18 := NB152_156.out
     obtain ⟨hcz19_0, hcz19_1, hfz19_0, hfz19_1⟩ := b2 BK156
     try go_wp2_with (first | ((with_reducible refine gate_callee (f := 114) rfl ?_); refine gl 28 Try.func114 #[.agg #[.int .i64 (wrap64 (Int.tdiv a0 (wrap64 (-t155)))), .int .i64 (wrap64 (Int.tdiv a1 (wrap64 (-t155))))]] ?_; (with_reducible refine (spec_raGood.calls k (wrap64 (Int.tdiv a0 (wrap64 (-t155)))) (wrap64 (Int.tdiv a1 (wrap64 (-t155)))) true _ A11.out).mono ?_); rintro e w20 ⟨rfl, hb⟩; refine ⟨_, rfl, ?_⟩; replace BK152 := Aside0.mk (blk_below (g := gb152) (o := .cells #[.int .i64 0, .int .i64 0] 28 (0, 0)) (by (with_reducible repeat (first | refine blk_drewN ?_ _ | refine blk_drew ?_ | refine blk_alloc ?_ _)); refine blk_far ?_ NB152_156.out _; (with_reducible repeat (first | refine blk_drewN ?_ _ | refine blk_drew ?_ | refine blk_alloc ?_ _)); refine blk_far ?_ NB152_156.out _; (with_reducible repeat (first | refine blk_drewN ?_ _ | refine blk_drew ?_ | refine blk_alloc ?_ _)); exact BK152.out) hb); replace BK156 := Aside0.mk (blk_below (g := gb156) (o := .cells #[.int .i64 (wrap64 (Int.tdiv a0 (wrap64 (-t155)))), .int .i64 (wrap64 (Int.tdiv a1 (wrap64 (-t155))))] 28 (0, 0)) (by (with_reducible repeat (first | refine blk_drewN ?_ _ | refine blk_drew ?_ | refine blk_alloc ?_ _)); refine blk_put (cs := #[.int .i64 (wrap64 (Int.tdiv a0 (wrap64 (-t155)))), .int .i64 0]) ?_ 1 _ rfl; (with_reducible repeat (first | refine blk_drewN ?_ _ | refine blk_drew ?_ | refine blk_alloc ?_ _)); refine blk_put (cs := #[.int .i64 0, .int .i64 0]) ?_ 0 _ rfl; (with_reducible repeat (first | refine blk_drewN ?_ _ | refine blk_drew ?_ | refine blk_alloc ?_ _)); exact BK156.out) hb); replace HB := kh hb; (try clear hb); (try clear hb2); (try clear hk); (try clear hi); obtain ⟨hcz21_0, hcz21_1, hfz21_0, hfz21_1⟩ := b2 BK156; obtain ⟨hcz22_0, hcz22_1, hfz22_0, hfz22_1⟩ := b2 BK152))
     refine bodyPost_ret (results_ct rfl _ _ gb152 28 #[.int .i64 (wrap64 (Int.tdiv a0 (wrap64 (-t155)))), .int .i64 (wrap64 (Int.tdiv a1 (wrap64 (-t155))))] (0, 0) _ rfl (by (with_reducible repeat (first | refine blk_drewN ?_ _ | refine blk_drew ?_ | refine blk_alloc ?_ _)); refine blk_put (cs := #[.int .i64 (wrap64 (Int.tdiv a0 (wrap64 (-t155)))), .int .i64 0]) ?_ 1 _ rfl; (with_reducible repeat (first | refine blk_drewN ?_ _ | refine blk_drew ?_ | refine blk_alloc ?_ _)); refine blk_put (cs := #[.int .i64 0, .int .i64 0]) ?_ 0 _ rfl; (with_reducible repeat (first | refine blk_drewN ?_ _ | refine blk_drew ?_ | refine blk_alloc ?_ _)); exact BK152.out) Try.underlying28 rfl (by kernel_rfl)) rfl ?_
     exact ⟨rt, bl⟩
    ·replace c12 := Bool.eq_false_iff.mpr c12
     subst c12
     have H1 : (some (0, 0, false)) = some (r1, r2, r3) := by rw [if_neg (show ¬ (false = true) by decide)] at H; exact H
     clear H
     have H := H1
     clear H1
     simp only [Option.some.injEq, Prod.mk.injEq] at H
     obtain ⟨rfl, rfl, rfl⟩ := H
     go_enter Try.func125, Try.ntmps125
     try go_wp2_with (first | ((with_reducible refine gate_dst (N := 4) rfl ?_); refine bx 4 #[.int .i64 0, .int .i64 0] 28 ?_; intro gb152 hg w23 hbox hb; have BK152 := Aside0.mk (hbox); have GW152 := Aside0.mk (bz hg); have GE152 := GW152; replace HB := kh hb; clear hb hbox hg) | ((with_reducible refine gate_callee (f := 46) rfl ?_); refine gl 12 Try.func46 #[.int .i64 a0] ?_; (with_reducible refine (spec_l1Abs.calls a0 t153 _ A6.out).mono ?_); rintro e w' ⟨rfl, ⟨nd, rfl⟩⟩; refine ⟨_, rfl, ?_⟩; (try (rw [drewN_self w23]; generalize hq_ : World.drewN w23 _ = w23; have n0_ : Aside0 (w23.heap[gb152]? = some (.cells #[.int .i64 0, .int .i64 0] 28 (0, 0))) := ⟨by rw [← hq_]; exact (bo gb152)⟩; have n1_ : Aside0 (Below w.heap.size w w23) := ⟨by rw [← hq_]; exact bl⟩; clear BK152 HB hq_; have BK152 := n0_; have HB := n1_; clear n0_ n1_))) | ((with_reducible refine gate_callee (f := 46) rfl ?_); refine gl 14 Try.func46 #[.int .i64 a1] ?_; (with_reducible refine (spec_l1Abs.calls a1 t154 _ A7.out).mono ?_); rintro e w' ⟨rfl, ⟨nd, rfl⟩⟩; refine ⟨_, rfl, ?_⟩; (try (rw [drewN_self w23]; generalize hq_ : World.drewN w23 _ = w23; have n0_ : Aside0 (w23.heap[gb152]? = some (.cells #[.int .i64 0, .int .i64 0] 28 (0, 0))) := ⟨by rw [← hq_]; exact (bo gb152)⟩; have n1_ : Aside0 (Below w.heap.size w w23) := ⟨by rw [← hq_]; exact bl⟩; clear BK152 HB hq_; have BK152 := n0_; have HB := n1_; clear n0_ n1_))) | ((with_reducible refine gate_callee (f := 134) rfl ?_); refine gl 15 Try.func134 #[.int .i64 t153, .int .i64 t154] ?_; (with_reducible refine (spec_raCommon.calls k t153 t154 t155 _ A8.out).mono ?_); rintro e w' ⟨rfl, ⟨nd, rfl⟩⟩; refine ⟨_, rfl, ?_⟩; (try (rw [drewN_self w23]; generalize hq_ : World.drewN w23 _ = w23; have n0_ : Aside0 (w23.heap[gb152]? = some (.cells #[.int .i64 0, .int .i64 0] 28 (0, 0))) := ⟨by rw [← hq_]; exact (bo gb152)⟩; have n1_ : Aside0 (Below w.heap.size w w23) := ⟨by rw [← hq_]; exact bl⟩; clear BK152 HB hq_; have BK152 := n0_; have HB := n1_; clear n0_ n1_))))
     replace BK152 := Aside0.mk (blk_drew BK152.out)
     replace HB := Aside0.mk (below_drew1 HB.out)
     refine start_ (n := 9) (S := fun w' => True) (ds := []) (tb 0 9) (by kernel_rfl) rfl rfl trivial (fun hHeld => ?_); refine with_tabW spec_raMake.tab6 spec_raMake.bits6 (fun HT_ HW_ => ?_)
     generalize w23.drew = w24 at BK152 HB hHeld ⊢
     refine pu 0 20 (tb 1 8) ?_
     refine pu 1 21 (tb 2 7) ?_
     refine pu 2 22 (tb 3 6) ?_
     refine pu 3 23 (tb 4 5) ?_
     refine pu 4 24 (tb 5 4) ?_
     refine pu 5 25 (tb 6 3) ?_
     refine pu 6 26 (tb 7 2) ?_
     refine on 7 7 (tb 8 1) (fun K hK => ?_)
     refine box_step ?hg (N := 7) ?hd (cs := #[.int .i64 0, .int .i64 0]) (t := 28) ?hr ?_; (case hd => rfl); (case hg => rfl); (case hr => first | (go_simp; done) | (go_simp; rfl))
     intro gb156 hg w25 hbox hb
     have BK156 := Aside0.mk (hbox)
     have GW156 := Aside0.mk (bz hg)
     have GE156 := GW156
     have NB152_156 := Aside0.mk (bn gb152 hg)
     have NB156_152 := sy NB152_156
     replace BK152 := kb BK152 hb
     replace HB := kh hb
     clear hb hbox hg
     refine hK.out _ _ trivial (fun hHeld => ?_)
     clear hK K
     refine nm 7 ?_
     refine one_ (i := 8) (N := none) (tb 9 0) rfl rfl (one_of HT_.out (by kernel_rfl)) (by decide) (fun K hK => ?_)
     have hs26 : w25.cell? ⟨gb156, 0, none⟩ = some (.int .i64 0) := (blk_cell BK156.out 0).trans rfl
     have hfs26 := blk_frozen BK156.out 0
     have hns26_0 := NB152_156.out
     have hms26_0 := NB156_152.out
     have hs27 : w25.cell? ⟨gb156, 1, none⟩ = some (.int .i64 0) := (blk_cell BK156.out 1).trans rfl
     have hfs27 := blk_frozen BK156.out 1
     have hns27_0 := NB152_156.out
     have hms27_0 := NB156_152.out
     refine skip_ (w1 := ?_) (by rfl) rfl ?_ ?_
     rotate_left
     ·go_simp
      rfl
     refine hK.out _ _ trivial (fun hHeld => ?_)
     clear hK K
     refine done_ (done_of HT_.out (by kernel_rfl)) ?_
     have hnb28 := NB156_152.out
     have hnc28 := NB152_156.out
     obtain ⟨hcz29_0, hcz29_1, hfz29_0, hfz29_1⟩ := b2 BK156
     try go_wp2_with (first | ((with_reducible refine gate_callee (f := 114) rfl ?_); refine gl 28 Try.func114 #[.agg #[.int .i64 (wrap64 (Int.tdiv a0 (wrap64 (-t155)))), .int .i64 (wrap64 (Int.tdiv a1 (wrap64 (-t155))))]] ?_; (with_reducible refine (spec_raGood.calls k (wrap64 (Int.tdiv a0 (wrap64 (-t155)))) (wrap64 (Int.tdiv a1 (wrap64 (-t155)))) false _ A11.out).mono ?_); rintro e w30 ⟨rfl, hb⟩; refine ⟨_, rfl, ?_⟩; replace BK152 := Aside0.mk (blk_below (g := gb152) (o := .cells #[.int .i64 0, .int .i64 0] 28 (0, 0)) (by (with_reducible repeat (first | refine blk_drewN ?_ _ | refine blk_drew ?_ | refine blk_alloc ?_ _)); refine blk_far ?_ NB152_156.out _; (with_reducible repeat (first | refine blk_drewN ?_ _ | refine blk_drew ?_ | refine blk_alloc ?_ _)); refine blk_far ?_ NB152_156.out _; (with_reducible repeat (first | refine blk_drewN ?_ _ | refine blk_drew ?_ | refine blk_alloc ?_ _)); exact BK152.out) hb); replace BK156 := Aside0.mk (blk_below (g := gb156) (o := .cells #[.int .i64 (wrap64 (Int.tdiv a0 (wrap64 (-t155)))), .int .i64 (wrap64 (Int.tdiv a1 (wrap64 (-t155))))] 28 (0, 0)) (by (with_reducible repeat (first | refine blk_drewN ?_ _ | refine blk_drew ?_ | refine blk_alloc ?_ _)); refine blk_put (cs := #[.int .i64 (wrap64 (Int.tdiv a0 (wrap64 (-t155)))), .int .i64 0]) ?_ 1 _ rfl; (with_reducible repeat (first | refine blk_drewN ?_ _ | refine blk_drew ?_ | refine blk_alloc ?_ _)); refine blk_put (cs := #[.int .i64 0, .int .i64 0]) ?_ 0 _ rfl; (with_reducible repeat (first | refine blk_drewN ?_ _ | refine blk_drew ?_ | refine blk_alloc ?_ _)); exact BK156.out) hb); replace HB := kh hb; (try clear hb); (try clear hb2); (try clear hk); (try clear hi); obtain ⟨hcz31_0, hcz31_1, hfz31_0, hfz31_1⟩ := b2 BK152))
     refine bodyPost_ret (results_ct rfl _ _ gb152 28 #[.int .i64 0, .int .i64 0] (0, 0) _ rfl (by (with_reducible repeat (first | refine blk_drewN ?_ _ | refine blk_drew ?_ | refine blk_alloc ?_ _)); refine blk_put (cs := #[.int .i64 0, .int .i64 0]) ?_ 1 _ rfl; (with_reducible repeat (first | refine blk_drewN ?_ _ | refine blk_drew ?_ | refine blk_alloc ?_ _)); refine blk_put (cs := #[.int .i64 0, .int .i64 0]) ?_ 0 _ rfl; (with_reducible repeat (first | refine blk_drewN ?_ _ | refine blk_drew ?_ | refine blk_alloc ?_ _)); exact BK152.out) Try.underlying28 rfl (by kernel_rfl)) rfl ?_
     exact ⟨rt, bl⟩
  ·rw [if_neg c9] at H
   have c9b0 : decide (a1 < 0) = false := decide_eq_false c9
   clear c9
   by_cases c32 : t155 = 0
   ·rw [if_pos c32] at H
    exact absurd H (by simp)
   ·rw [if_neg c32] at H
    have c32b0 : (t155 == 0) = false := beq_eq_false_iff_ne.mpr c32
    have c32b1 : (t155 != 0) = true := bne_iff_ne.mpr c32
    replace H := Option.bind_eq_some_iff.mp H
    obtain ⟨t159, A330, H⟩ := H
    replace H : (if t159 = true then (some (wrap64 (Int.tdiv a0 t155), wrap64 (Int.tdiv a1 t155), true)) else (some (0, 0, false))) = some (r1, r2, r3) := H
    have A33 := Aside0.mk A330
    clear A330
    by_cases c34 : t159 = true
    ·subst c34
     have H1 : (some (wrap64 (Int.tdiv a0 t155), wrap64 (Int.tdiv a1 t155), true)) = some (r1, r2, r3) := by rw [if_pos rfl] at H; exact H
     clear H
     have H := H1
     clear H1
     simp only [Option.some.injEq, Prod.mk.injEq] at H
     obtain ⟨rfl, rfl, rfl⟩ := H
     go_enter Try.func125, Try.ntmps125
     try go_wp2_with (first | ((with_reducible refine gate_dst (N := 4) rfl ?_); refine bx 4 #[.int .i64 0, .int .i64 0] 28 ?_; intro gb152 hg w35 hbox hb; have BK152 := Aside0.mk (hbox); have GW152 := Aside0.mk (bz hg); have GE152 := GW152; replace HB := kh hb; clear hb hbox hg) | ((with_reducible refine gate_callee (f := 46) rfl ?_); refine gl 12 Try.func46 #[.int .i64 a0] ?_; (with_reducible refine (spec_l1Abs.calls a0 t153 _ A6.out).mono ?_); rintro e w' ⟨rfl, ⟨nd, rfl⟩⟩; refine ⟨_, rfl, ?_⟩; (try (rw [drewN_self w35]; generalize hq_ : World.drewN w35 _ = w35; have n0_ : Aside0 (w35.heap[gb152]? = some (.cells #[.int .i64 0, .int .i64 0] 28 (0, 0))) := ⟨by rw [← hq_]; exact (bo gb152)⟩; have n1_ : Aside0 (Below w.heap.size w w35) := ⟨by rw [← hq_]; exact bl⟩; clear BK152 HB hq_; have BK152 := n0_; have HB := n1_; clear n0_ n1_))) | ((with_reducible refine gate_callee (f := 46) rfl ?_); refine gl 14 Try.func46 #[.int .i64 a1] ?_; (with_reducible refine (spec_l1Abs.calls a1 t154 _ A7.out).mono ?_); rintro e w' ⟨rfl, ⟨nd, rfl⟩⟩; refine ⟨_, rfl, ?_⟩; (try (rw [drewN_self w35]; generalize hq_ : World.drewN w35 _ = w35; have n0_ : Aside0 (w35.heap[gb152]? = some (.cells #[.int .i64 0, .int .i64 0] 28 (0, 0))) := ⟨by rw [← hq_]; exact (bo gb152)⟩; have n1_ : Aside0 (Below w.heap.size w w35) := ⟨by rw [← hq_]; exact bl⟩; clear BK152 HB hq_; have BK152 := n0_; have HB := n1_; clear n0_ n1_))) | ((with_reducible refine gate_callee (f := 134) rfl ?_); refine gl 15 Try.func134 #[.int .i64 t153, .int .i64 t154] ?_; (with_reducible refine (spec_raCommon.calls k t153 t154 t155 _ A8.out).mono ?_); rintro e w' ⟨rfl, ⟨nd, rfl⟩⟩; refine ⟨_, rfl, ?_⟩; (try (rw [drewN_self w35]; generalize hq_ : World.drewN w35 _ = w35; have n0_ : Aside0 (w35.heap[gb152]? = some (.cells #[.int .i64 0, .int .i64 0] 28 (0, 0))) := ⟨by rw [← hq_]; exact (bo gb152)⟩; have n1_ : Aside0 (Below w.heap.size w w35) := ⟨by rw [← hq_]; exact bl⟩; clear BK152 HB hq_; have BK152 := n0_; have HB := n1_; clear n0_ n1_))))
     replace BK152 := Aside0.mk (blk_drew BK152.out)
     replace HB := Aside0.mk (below_drew1 HB.out)
     refine start_ (n := 9) (S := fun w' => True) (ds := []) (tb 0 9) (by kernel_rfl) rfl rfl trivial (fun hHeld => ?_); refine with_tabW spec_raMake.tab6 spec_raMake.bits6 (fun HT_ HW_ => ?_)
     generalize w35.drew = w36 at BK152 HB hHeld ⊢
     refine pu 0 20 (tb 1 8) ?_
     refine pu 1 21 (tb 2 7) ?_
     refine pu 2 22 (tb 3 6) ?_
     refine pu 3 23 (tb 4 5) ?_
     refine pu 4 24 (tb 5 4) ?_
     refine pu 5 25 (tb 6 3) ?_
     refine pu 6 26 (tb 7 2) ?_
     refine on 7 7 (tb 8 1) (fun K hK => ?_)
     refine box_step ?hg (N := 7) ?hd (cs := #[.int .i64 0, .int .i64 0]) (t := 28) ?hr ?_; (case hd => rfl); (case hg => rfl); (case hr => first | (go_simp; done) | (go_simp; rfl))
     intro gb158 hg w37 hbox hb
     have BK158 := Aside0.mk (hbox)
     have GW158 := Aside0.mk (bz hg)
     have GE158 := GW158
     have NB152_158 := Aside0.mk (bn gb152 hg)
     have NB158_152 := sy NB152_158
     replace BK152 := kb BK152 hb
     replace HB := kh hb
     clear hb hbox hg
     refine hK.out _ _ trivial (fun hHeld => ?_)
     clear hK K
     refine nm 7 ?_
     refine one_ (i := 8) (N := none) (tb 9 0) rfl rfl (one_of HT_.out (by kernel_rfl)) (by decide) (fun K hK => ?_)
     have hs38 : w37.cell? ⟨gb158, 0, none⟩ = some (.int .i64 0) := (blk_cell BK158.out 0).trans rfl
     have hfs38 := blk_frozen BK158.out 0
     have hns38_0 := NB152_158.out
     have hms38_0 := NB158_152.out
     have hs39 : w37.cell? ⟨gb158, 1, none⟩ = some (.int .i64 0) := (blk_cell BK158.out 1).trans rfl
     have hfs39 := blk_frozen BK158.out 1
     have hns39_0 := NB152_158.out
     have hms39_0 := NB158_152.out
     refine skip_ (w1 := ?_) (by rfl) rfl ?_ ?_
     rotate_left
     ·go_simp
      rfl
     refine hK.out _ _ trivial (fun hHeld => ?_)
     clear hK K
     refine done_ (done_of HT_.out (by kernel_rfl)) ?_
     have hnb40 := NB158_152.out
     have hnc40 := NB152_158.out
     obtain ⟨hcz41_0, hcz41_1, hfz41_0, hfz41_1⟩ := b2 BK158
     try go_wp2_with (first | ((with_reducible refine gate_callee (f := 114) rfl ?_); refine gl 28 Try.func114 #[.agg #[.int .i64 (wrap64 (Int.tdiv a0 t155)), .int .i64 (wrap64 (Int.tdiv a1 t155))]] ?_; (with_reducible refine (spec_raGood.calls k (wrap64 (Int.tdiv a0 t155)) (wrap64 (Int.tdiv a1 t155)) true _ A33.out).mono ?_); rintro e w42 ⟨rfl, hb⟩; refine ⟨_, rfl, ?_⟩; replace BK152 := Aside0.mk (blk_below (g := gb152) (o := .cells #[.int .i64 0, .int .i64 0] 28 (0, 0)) (by (with_reducible repeat (first | refine blk_drewN ?_ _ | refine blk_drew ?_ | refine blk_alloc ?_ _)); refine blk_far ?_ NB152_158.out _; (with_reducible repeat (first | refine blk_drewN ?_ _ | refine blk_drew ?_ | refine blk_alloc ?_ _)); refine blk_far ?_ NB152_158.out _; (with_reducible repeat (first | refine blk_drewN ?_ _ | refine blk_drew ?_ | refine blk_alloc ?_ _)); exact BK152.out) hb); replace BK158 := Aside0.mk (blk_below (g := gb158) (o := .cells #[.int .i64 (wrap64 (Int.tdiv a0 t155)), .int .i64 (wrap64 (Int.tdiv a1 t155))] 28 (0, 0)) (by (with_reducible repeat (first | refine blk_drewN ?_ _ | refine blk_drew ?_ | refine blk_alloc ?_ _)); refine blk_put (cs := #[.int .i64 (wrap64 (Int.tdiv a0 t155)), .int .i64 0]) ?_ 1 _ rfl; (with_reducible repeat (first | refine blk_drewN ?_ _ | refine blk_drew ?_ | refine blk_alloc ?_ _)); refine blk_put (cs := #[.int .i64 0, .int .i64 0]) ?_ 0 _ rfl; (with_reducible repeat (first | refine blk_drewN ?_ _ | refine blk_drew ?_ | refine blk_alloc ?_ _)); exact BK158.out) hb); replace HB := kh hb; (try clear hb); (try clear hb2); (try clear hk); (try clear hi); obtain ⟨hcz43_0, hcz43_1, hfz43_0, hfz43_1⟩ := b2 BK158; obtain ⟨hcz44_0, hcz44_1, hfz44_0, hfz44_1⟩ := b2 BK152))
     refine bodyPost_ret (results_ct rfl _ _ gb152 28 #[.int .i64 (wrap64 (Int.tdiv a0 t155)), .int .i64 (wrap64 (Int.tdiv a1 t155))] (0, 0) _ rfl (by (with_reducible repeat (first | refine blk_drewN ?_ _ | refine blk_drew ?_ | refine blk_alloc ?_ _)); refine blk_put (cs := #[.int .i64 (wrap64 (Int.tdiv a0 t155)), .int .i64 0]) ?_ 1 _ rfl; (with_reducible repeat (first | refine blk_drewN ?_ _ | refine blk_drew ?_ | refine blk_alloc ?_ _)); refine blk_put (cs := #[.int .i64 0, .int .i64 0]) ?_ 0 _ rfl; (with_reducible repeat (first | refine blk_drewN ?_ _ | refine blk_drew ?_ | refine blk_alloc ?_ _)); exact BK152.out) Try.underlying28 rfl (by kernel_rfl)) rfl ?_
     exact ⟨rt, bl⟩
    ·replace c34 := Bool.eq_false_iff.mpr c34
     subst c34
     have H1 : (some (0, 0, false)) = some (r1, r2, r3) := by rw [if_neg (show ¬ (false = true) by decide)] at H; exact H
     clear H
     have H := H1
     clear H1
     simp only [Option.some.injEq, Prod.mk.injEq] at H
     obtain ⟨rfl, rfl, rfl⟩ := H
     go_enter Try.func125, Try.ntmps125
     try go_wp2_with (first | ((with_reducible refine gate_dst (N := 4) rfl ?_); refine bx 4 #[.int .i64 0, .int .i64 0] 28 ?_; intro gb152 hg w45 hbox hb; have BK152 := Aside0.mk (hbox); have GW152 := Aside0.mk (bz hg); have GE152 := GW152; replace HB := kh hb; clear hb hbox hg) | ((with_reducible refine gate_callee (f := 46) rfl ?_); refine gl 12 Try.func46 #[.int .i64 a0] ?_; (with_reducible refine (spec_l1Abs.calls a0 t153 _ A6.out).mono ?_); rintro e w' ⟨rfl, ⟨nd, rfl⟩⟩; refine ⟨_, rfl, ?_⟩; (try (rw [drewN_self w45]; generalize hq_ : World.drewN w45 _ = w45; have n0_ : Aside0 (w45.heap[gb152]? = some (.cells #[.int .i64 0, .int .i64 0] 28 (0, 0))) := ⟨by rw [← hq_]; exact (bo gb152)⟩; have n1_ : Aside0 (Below w.heap.size w w45) := ⟨by rw [← hq_]; exact bl⟩; clear BK152 HB hq_; have BK152 := n0_; have HB := n1_; clear n0_ n1_))) | ((with_reducible refine gate_callee (f := 46) rfl ?_); refine gl 14 Try.func46 #[.int .i64 a1] ?_; (with_reducible refine (spec_l1Abs.calls a1 t154 _ A7.out).mono ?_); rintro e w' ⟨rfl, ⟨nd, rfl⟩⟩; refine ⟨_, rfl, ?_⟩; (try (rw [drewN_self w45]; generalize hq_ : World.drewN w45 _ = w45; have n0_ : Aside0 (w45.heap[gb152]? = some (.cells #[.int .i64 0, .int .i64 0] 28 (0, 0))) := ⟨by rw [← hq_]; exact (bo gb152)⟩; have n1_ : Aside0 (Below w.heap.size w w45) := ⟨by rw [← hq_]; exact bl⟩; clear BK152 HB hq_; have BK152 := n0_; have HB := n1_; clear n0_ n1_))) | ((with_reducible refine gate_callee (f := 134) rfl ?_); refine gl 15 Try.func134 #[.int .i64 t153, .int .i64 t154] ?_; (with_reducible refine (spec_raCommon.calls k t153 t154 t155 _ A8.out).mono ?_); rintro e w' ⟨rfl, ⟨nd, rfl⟩⟩; refine ⟨_, rfl, ?_⟩; (try (rw [drewN_self w45]; generalize hq_ : World.drewN w45 _ = w45; have n0_ : Aside0 (w45.heap[gb152]? = some (.cells #[.int .i64 0, .int .i64 0] 28 (0, 0))) := ⟨by rw [← hq_]; exact (bo gb152)⟩; have n1_ : Aside0 (Below w.heap.size w w45) := ⟨by rw [← hq_]; exact bl⟩; clear BK152 HB hq_; have BK152 := n0_; have HB := n1_; clear n0_ n1_))))
     replace BK152 := Aside0.mk (blk_drew BK152.out)
     replace HB := Aside0.mk (below_drew1 HB.out)
     refine start_ (n := 9) (S := fun w' => True) (ds := []) (tb 0 9) (by kernel_rfl) rfl rfl trivial (fun hHeld => ?_); refine with_tabW spec_raMake.tab6 spec_raMake.bits6 (fun HT_ HW_ => ?_)
     generalize w45.drew = w46 at BK152 HB hHeld ⊢
     refine pu 0 20 (tb 1 8) ?_
     refine pu 1 21 (tb 2 7) ?_
     refine pu 2 22 (tb 3 6) ?_
     refine pu 3 23 (tb 4 5) ?_
     refine pu 4 24 (tb 5 4) ?_
     refine pu 5 25 (tb 6 3) ?_
     refine pu 6 26 (tb 7 2) ?_
     refine on 7 7 (tb 8 1) (fun K hK => ?_)
     refine box_step ?hg (N := 7) ?hd (cs := #[.int .i64 0, .int .i64 0]) (t := 28) ?hr ?_; (case hd => rfl); (case hg => rfl); (case hr => first | (go_simp; done) | (go_simp; rfl))
     intro gb158 hg w47 hbox hb
     have BK158 := Aside0.mk (hbox)
     have GW158 := Aside0.mk (bz hg)
     have GE158 := GW158
     have NB152_158 := Aside0.mk (bn gb152 hg)
     have NB158_152 := sy NB152_158
     replace BK152 := kb BK152 hb
     replace HB := kh hb
     clear hb hbox hg
     refine hK.out _ _ trivial (fun hHeld => ?_)
     clear hK K
     refine nm 7 ?_
     refine one_ (i := 8) (N := none) (tb 9 0) rfl rfl (one_of HT_.out (by kernel_rfl)) (by decide) (fun K hK => ?_)
     have hs48 : w47.cell? ⟨gb158, 0, none⟩ = some (.int .i64 0) := (blk_cell BK158.out 0).trans rfl
     have hfs48 := blk_frozen BK158.out 0
     have hns48_0 := NB152_158.out
     have hms48_0 := NB158_152.out
     have hs49 : w47.cell? ⟨gb158, 1, none⟩ = some (.int .i64 0) := (blk_cell BK158.out 1).trans rfl
     have hfs49 := blk_frozen BK158.out 1
     have hns49_0 := NB152_158.out
     have hms49_0 := NB158_152.out
     refine skip_ (w1 := ?_) (by rfl) rfl ?_ ?_
     rotate_left
     ·go_simp
      rfl
     refine hK.out _ _ trivial (fun hHeld => ?_)
     clear hK K
     refine done_ (done_of HT_.out (by kernel_rfl)) ?_
     have hnb50 := NB158_152.out
     have hnc50 := NB152_158.out
     obtain ⟨hcz51_0, hcz51_1, hfz51_0, hfz51_1⟩ := b2 BK158
     try go_wp2_with (first | ((with_reducible refine gate_callee (f := 114) rfl ?_); refine gl 28 Try.func114 #[.agg #[.int .i64 (wrap64 (Int.tdiv a0 t155)), .int .i64 (wrap64 (Int.tdiv a1 t155))]] ?_; (with_reducible refine (spec_raGood.calls k (wrap64 (Int.tdiv a0 t155)) (wrap64 (Int.tdiv a1 t155)) false _ A33.out).mono ?_); rintro e w52 ⟨rfl, hb⟩; refine ⟨_, rfl, ?_⟩; replace BK152 := Aside0.mk (blk_below (g := gb152) (o := .cells #[.int .i64 0, .int .i64 0] 28 (0, 0)) (by (with_reducible repeat (first | refine blk_drewN ?_ _ | refine blk_drew ?_ | refine blk_alloc ?_ _)); refine blk_far ?_ NB152_158.out _; (with_reducible repeat (first | refine blk_drewN ?_ _ | refine blk_drew ?_ | refine blk_alloc ?_ _)); refine blk_far ?_ NB152_158.out _; (with_reducible repeat (first | refine blk_drewN ?_ _ | refine blk_drew ?_ | refine blk_alloc ?_ _)); exact BK152.out) hb); replace BK158 := Aside0.mk (blk_below (g := gb158) (o := .cells #[.int .i64 (wrap64 (Int.tdiv a0 t155)), .int .i64 (wrap64 (Int.tdiv a1 t155))] 28 (0, 0)) (by (with_reducible repeat (first | refine blk_drewN ?_ _ | refine blk_drew ?_ | refine blk_alloc ?_ _)); refine blk_put (cs := #[.int .i64 (wrap64 (Int.tdiv a0 t155)), .int .i64 0]) ?_ 1 _ rfl; (with_reducible repeat (first | refine blk_drewN ?_ _ | refine blk_drew ?_ | refine blk_alloc ?_ _)); refine blk_put (cs := #[.int .i64 0, .int .i64 0]) ?_ 0 _ rfl; (with_reducible repeat (first | refine blk_drewN ?_ _ | refine blk_drew ?_ | refine blk_alloc ?_ _)); exact BK158.out) hb); replace HB := kh hb; (try clear hb); (try clear hb2); (try clear hk); (try clear hi); obtain ⟨hcz53_0, hcz53_1, hfz53_0, hfz53_1⟩ := b2 BK152))
     refine bodyPost_ret (results_ct rfl _ _ gb152 28 #[.int .i64 0, .int .i64 0] (0, 0) _ rfl (by (with_reducible repeat (first | refine blk_drewN ?_ _ | refine blk_drew ?_ | refine blk_alloc ?_ _)); refine blk_put (cs := #[.int .i64 0, .int .i64 0]) ?_ 1 _ rfl; (with_reducible repeat (first | refine blk_drewN ?_ _ | refine blk_drew ?_ | refine blk_alloc ?_ _)); refine blk_put (cs := #[.int .i64 0, .int .i64 0]) ?_ 0 _ rfl; (with_reducible repeat (first | refine blk_drewN ?_ _ | refine blk_drew ?_ | refine blk_alloc ?_ _)); exact BK152.out) Try.underlying28 rfl (by kernel_rfl)) rfl ?_
     exact ⟨rt, bl⟩

/-! ### spec_raSub: function 101 -/
def spec_raSub.f (k : Nat) (a0_0 : Int) (a0_1 : Int) (a1_0 : Int) (a1_1 : Int) : Option (Int × Int × Bool) := (spec_raMake.f k (wrap64 ((wrap64 (a0_0 * a1_1)) - (wrap64 (a1_0 * a0_1)))) (wrap64 (a0_1 * a1_1))).bind fun bt163 => (some (bt163.1, bt163.2.1, bt163.2.2))
set_option maxHeartbeats 8000000 in
set_option maxRecDepth 100000 in
theorem spec_raSub.calls (k : Nat) (a0_0 : Int) (a0_1 : Int) (a1_0 : Int) (a1_1 : Int) (r1 : Int) (r2 : Int) (r3 : Bool) (w : World) (h : spec_raSub.f k a0_0 a0_1 a1_0 a1_1 = some (r1, r2, r3)) :
  Calls Try.prog 101 #[.agg #[.int .i64 a0_0, .int .i64 a0_1], .agg #[.int .i64 a1_0, .int .i64 a1_1]] w fun e w' => e = .returned (.tuple #[.agg #[.int .i64 r1, .int .i64 r2], .bool r3]) ∧ Below w.heap.size w w' := by
 have hu28 := Try.underlying28
 have HB := Aside0.mk (Below.refl w.heap.size w)
 have H : ((spec_raMake.f k (wrap64 ((wrap64 (a0_0 * a1_1)) - (wrap64 (a1_0 * a0_1)))) (wrap64 (a0_1 * a1_1))).bind fun bt163 => (some (bt163.1, bt163.2.1, bt163.2.2))) = some (r1, r2, r3) := h
 clear h
 replace H := Option.bind_eq_some_iff.mp H
 obtain ⟨⟨t163, t164, t165⟩, A30, H⟩ := H
 replace H : (some (t163, t164, t165)) = some (r1, r2, r3) := H
 have A3 := Aside0.mk A30
 clear A30
 simp only [Option.some.injEq, Prod.mk.injEq] at H
 obtain ⟨rfl, rfl, rfl⟩ := H
 go_enter Try.func101, Try.ntmps101
 go_wp2_with (first | ((with_reducible refine gate_dst (N := 2) rfl ?_); refine bx 2 #[.int .i64 a0_0, .int .i64 a0_1] 28 ?_; intro gb160 hg w4 hbox hb; have BK160 := Aside0.mk (hbox); have GW160 := Aside0.mk (bz hg); have GE160 := GW160; replace HB := kh hb; clear hb hbox hg) | ((with_reducible refine gate_dst (N := 3) rfl ?_); refine bx 3 #[.int .i64 a1_0, .int .i64 a1_1] 28 ?_; intro gb161 hg w5 hbox hb; have BK161 := Aside0.mk (hbox); have GW161 := Aside0.mk (bz hg); have GE161 := GW161; have NB160_161 := Aside0.mk (bn gb160 hg); have NB161_160 := sy NB160_161; replace BK160 := kb BK160 hb; replace HB := kh hb; clear hb hbox hg) | ((with_reducible refine gate_dst (N := 4) rfl ?_); refine bx 4 #[.int .i64 0, .int .i64 0] 28 ?_; intro gb162 hg w6 hbox hb; have BK162 := Aside0.mk (hbox); have GW162 := Aside0.mk (bz hg); have GE162 := GW162; have NB160_162 := Aside0.mk (bn gb160 hg); have NB162_160 := sy NB160_162; have NB161_162 := Aside0.mk (bn gb161 hg); have NB162_161 := sy NB161_162; replace BK160 := kb BK160 hb; replace BK161 := kb BK161 hb; replace HB := kh hb; clear hb hbox hg; have hnb7 := NB160_161.out; have hnc7 := NB161_160.out; have hnb8 := NB160_162.out; have hnc8 := NB162_160.out; obtain ⟨hcz9_0, hcz9_1, hfz9_0, hfz9_1⟩ := b2 BK160; have hnb10 := NB161_162.out; have hnc10 := NB162_161.out; obtain ⟨hcz11_0, hcz11_1, hfz11_0, hfz11_1⟩ := b2 BK161) | ((with_reducible refine gate_callee (f := 125) rfl ?_); refine gl 22 Try.func125 #[.int .i64 (wrap64 ((wrap64 (a0_0 * a1_1)) - (wrap64 (a1_0 * a0_1)))), .int .i64 (wrap64 (a0_1 * a1_1))] ?_; (with_reducible refine (spec_raMake.calls k (wrap64 ((wrap64 (a0_0 * a1_1)) - (wrap64 (a1_0 * a0_1)))) (wrap64 (a0_1 * a1_1)) t163 t164 t165 _ A3.out).mono ?_); rintro e w12 ⟨rfl, hb⟩; refine ⟨_, rfl, ?_⟩; replace BK160 := kb BK160 hb; replace BK161 := kb BK161 hb; replace BK162 := kb BK162 hb; replace HB := kh hb; (try clear hb); (try clear hb2); (try clear hk); (try clear hi); obtain ⟨hcz13_0, hcz13_1, hfz13_0, hfz13_1⟩ := b2 BK162))
 refine bodyPost_ret (results_ct rfl _ _ gb162 28 #[.int .i64 t163, .int .i64 t164] (0, 0) _ rfl (by (with_reducible repeat (first | refine blk_drewN ?_ _ | refine blk_drew ?_ | refine blk_alloc ?_ _)); refine blk_put (cs := #[.int .i64 t163, .int .i64 0]) ?_ 1 _ rfl; (with_reducible repeat (first | refine blk_drewN ?_ _ | refine blk_drew ?_ | refine blk_alloc ?_ _)); refine blk_put (cs := #[.int .i64 0, .int .i64 0]) ?_ 0 _ rfl; (with_reducible repeat (first | refine blk_drewN ?_ _ | refine blk_drew ?_ | refine blk_alloc ?_ _)); exact BK162.out) Try.underlying28 rfl (by kernel_rfl)) rfl ?_
 exact ⟨rt, bl⟩

/-! ### spec_raDiv: function 122 -/
def spec_raDiv.f (k : Nat) (a0_0 : Int) (a0_1 : Int) (a1_0 : Int) (a1_1 : Int) : Option (Int × Int × Bool) := if a1_0 = 0 then (some (0, 0, false)) else ((spec_raMake.f k (wrap64 (a0_0 * a1_1)) (wrap64 (a0_1 * a1_0))).bind fun bt169 => (some (bt169.1, bt169.2.1, bt169.2.2)))
set_option maxHeartbeats 8000000 in
set_option maxRecDepth 100000 in
theorem spec_raDiv.calls (k : Nat) (a0_0 : Int) (a0_1 : Int) (a1_0 : Int) (a1_1 : Int) (r1 : Int) (r2 : Int) (r3 : Bool) (w : World) (h : spec_raDiv.f k a0_0 a0_1 a1_0 a1_1 = some (r1, r2, r3)) :
  Calls Try.prog 122 #[.agg #[.int .i64 a0_0, .int .i64 a0_1], .agg #[.int .i64 a1_0, .int .i64 a1_1]] w fun e w' => e = .returned (.tuple #[.agg #[.int .i64 r1, .int .i64 r2], .bool r3]) ∧ Below w.heap.size w w' := by
 have hu28 := Try.underlying28
 have HB := Aside0.mk (Below.refl w.heap.size w)
 have H : (if a1_0 = 0 then (some (0, 0, false)) else ((spec_raMake.f k (wrap64 (a0_0 * a1_1)) (wrap64 (a0_1 * a1_0))).bind fun bt169 => (some (bt169.1, bt169.2.1, bt169.2.2)))) = some (r1, r2, r3) := h
 clear h
 by_cases c3 : a1_0 = 0
 ·rw [if_pos c3] at H
  have c3b0 : (a1_0 == 0) = true := beq_iff_eq.mpr c3
  have c3b1 : (a1_0 != 0) = false := bne_eq_false_iff_eq.mpr c3
  clear c3
  simp only [Option.some.injEq, Prod.mk.injEq] at H
  obtain ⟨rfl, rfl, rfl⟩ := H
  go_enter Try.func122, Try.ntmps122
  go_wp2_with (first | ((with_reducible refine gate_dst (N := 2) rfl ?_); refine bx 2 #[.int .i64 a0_0, .int .i64 a0_1] 28 ?_; intro gb166 hg w4 hbox hb; have BK166 := Aside0.mk (hbox); have GW166 := Aside0.mk (bz hg); have GE166 := GW166; replace HB := kh hb; clear hb hbox hg) | ((with_reducible refine gate_dst (N := 3) rfl ?_); refine bx 3 #[.int .i64 a1_0, .int .i64 a1_1] 28 ?_; intro gb167 hg w5 hbox hb; have BK167 := Aside0.mk (hbox); have GW167 := Aside0.mk (bz hg); have GE167 := GW167; have NB166_167 := Aside0.mk (bn gb166 hg); have NB167_166 := sy NB166_167; replace BK166 := kb BK166 hb; replace HB := kh hb; clear hb hbox hg) | ((with_reducible refine gate_dst (N := 4) rfl ?_); refine bx 4 #[.int .i64 0, .int .i64 0] 28 ?_; intro gb168 hg w6 hbox hb; have BK168 := Aside0.mk (hbox); have GW168 := Aside0.mk (bz hg); have GE168 := GW168; have NB166_168 := Aside0.mk (bn gb166 hg); have NB168_166 := sy NB166_168; have NB167_168 := Aside0.mk (bn gb167 hg); have NB168_167 := sy NB167_168; replace BK166 := kb BK166 hb; replace BK167 := kb BK167 hb; replace HB := kh hb; clear hb hbox hg; have hnb7 := NB167_166.out; have hnc7 := NB166_167.out; have hnb8 := NB167_168.out; have hnc8 := NB168_167.out; obtain ⟨hcz9_0, hcz9_1, hfz9_0, hfz9_1⟩ := b2 BK167; have hnb10 := NB168_166.out; have hnc10 := NB166_168.out; obtain ⟨hcz11_0, hcz11_1, hfz11_0, hfz11_1⟩ := b2 BK168))
  refine bodyPost_ret (results_ct rfl _ _ gb168 28 #[.int .i64 0, .int .i64 0] (0, 0) _ rfl (by (with_reducible repeat (first | refine blk_drewN ?_ _ | refine blk_drew ?_ | refine blk_alloc ?_ _)); refine blk_put (cs := #[.int .i64 0, .int .i64 0]) ?_ 1 _ rfl; (with_reducible repeat (first | refine blk_drewN ?_ _ | refine blk_drew ?_ | refine blk_alloc ?_ _)); refine blk_put (cs := #[.int .i64 0, .int .i64 0]) ?_ 0 _ rfl; (with_reducible repeat (first | refine blk_drewN ?_ _ | refine blk_drew ?_ | refine blk_alloc ?_ _)); exact BK168.out) Try.underlying28 rfl (by kernel_rfl)) rfl ?_
  exact ⟨rt, bl⟩
 ·rw [if_neg c3] at H
  have c3b0 : (a1_0 == 0) = false := beq_eq_false_iff_ne.mpr c3
  have c3b1 : (a1_0 != 0) = true := bne_iff_ne.mpr c3
  replace H := Option.bind_eq_some_iff.mp H
  obtain ⟨⟨t169, t170, t171⟩, A120, H⟩ := H
  replace H : (some (t169, t170, t171)) = some (r1, r2, r3) := H
  have A12 := Aside0.mk A120
  clear A120
  simp only [Option.some.injEq, Prod.mk.injEq] at H
  obtain ⟨rfl, rfl, rfl⟩ := H
  go_enter Try.func122, Try.ntmps122
  go_wp2_with (first | ((with_reducible refine gate_dst (N := 2) rfl ?_); refine bx 2 #[.int .i64 a0_0, .int .i64 a0_1] 28 ?_; intro gb166 hg w13 hbox hb; have BK166 := Aside0.mk (hbox); have GW166 := Aside0.mk (bz hg); have GE166 := GW166; replace HB := kh hb; clear hb hbox hg) | ((with_reducible refine gate_dst (N := 3) rfl ?_); refine bx 3 #[.int .i64 a1_0, .int .i64 a1_1] 28 ?_; intro gb167 hg w14 hbox hb; have BK167 := Aside0.mk (hbox); have GW167 := Aside0.mk (bz hg); have GE167 := GW167; have NB166_167 := Aside0.mk (bn gb166 hg); have NB167_166 := sy NB166_167; replace BK166 := kb BK166 hb; replace HB := kh hb; clear hb hbox hg) | ((with_reducible refine gate_dst (N := 4) rfl ?_); refine bx 4 #[.int .i64 0, .int .i64 0] 28 ?_; intro gb168 hg w15 hbox hb; have BK168 := Aside0.mk (hbox); have GW168 := Aside0.mk (bz hg); have GE168 := GW168; have NB166_168 := Aside0.mk (bn gb166 hg); have NB168_166 := sy NB166_168; have NB167_168 := Aside0.mk (bn gb167 hg); have NB168_167 := sy NB167_168; replace BK166 := kb BK166 hb; replace BK167 := kb BK167 hb; replace HB := kh hb; clear hb hbox hg; have hnb16 := NB167_166.out; have hnc16 := NB166_167.out; have hnb17 := NB167_168.out; have hnc17 := NB168_167.out; obtain ⟨hcz18_0, hcz18_1, hfz18_0, hfz18_1⟩ := b2 BK167; have hnb19 := NB166_168.out; have hnc19 := NB168_166.out; obtain ⟨hcz20_0, hcz20_1, hfz20_0, hfz20_1⟩ := b2 BK166) | ((with_reducible refine gate_callee (f := 125) rfl ?_); refine gl 20 Try.func125 #[.int .i64 (wrap64 (a0_0 * a1_1)), .int .i64 (wrap64 (a0_1 * a1_0))] ?_; (with_reducible refine (spec_raMake.calls k (wrap64 (a0_0 * a1_1)) (wrap64 (a0_1 * a1_0)) t169 t170 t171 _ A12.out).mono ?_); rintro e w21 ⟨rfl, hb⟩; refine ⟨_, rfl, ?_⟩; replace BK166 := kb BK166 hb; replace BK167 := kb BK167 hb; replace BK168 := kb BK168 hb; replace HB := kh hb; (try clear hb); (try clear hb2); (try clear hk); (try clear hi); obtain ⟨hcz22_0, hcz22_1, hfz22_0, hfz22_1⟩ := b2 BK168))
  refine bodyPost_ret (results_ct rfl _ _ gb168 28 #[.int .i64 t169, .int .i64 t170] (0, 0) _ rfl (by (with_reducible repeat (first | refine blk_drewN ?_ _ | refine blk_drew ?_ | refine blk_alloc ?_ _)); refine blk_put (cs := #[.int .i64 t169, .int .i64 0]) ?_ 1 _ rfl; (with_reducible repeat (first | refine blk_drewN ?_ _ | refine blk_drew ?_ | refine blk_alloc ?_ _)); refine blk_put (cs := #[.int .i64 0, .int .i64 0]) ?_ 0 _ rfl; (with_reducible repeat (first | refine blk_drewN ?_ _ | refine blk_drew ?_ | refine blk_alloc ?_ _)); exact BK168.out) Try.underlying28 rfl (by kernel_rfl)) rfl ?_
  exact ⟨rt, bl⟩

/-! ### spec_imSlope: function 84 -/
def spec_imSlope.f (k : Nat) (a0_0 : Int) (a0_1 : Int) (a0_2 : Int) (a0_3 : Int) (a1_0 : Int) (a1_1 : Int) (a1_2 : Int) (a1_3 : Int) : Option (Int × Int) := (spec_raSub.f k a1_2 a1_3 a0_2 a0_3).bind fun bt175 => ((spec_raSub.f k a1_0 a1_1 a0_0 a0_1).bind fun bt179 => ((spec_raDiv.f k bt175.1 bt175.2.1 bt179.1 bt179.2.1).bind fun bt183 => (some (bt183.1, bt183.2.1))))
set_option maxHeartbeats 8000000 in
set_option maxRecDepth 100000 in
theorem spec_imSlope.calls (k : Nat) (a0_0 : Int) (a0_1 : Int) (a0_2 : Int) (a0_3 : Int) (a1_0 : Int) (a1_1 : Int) (a1_2 : Int) (a1_3 : Int) (r1 : Int) (r2 : Int) (w : World) (h : spec_imSlope.f k a0_0 a0_1 a0_2 a0_3 a1_0 a1_1 a1_2 a1_3 = some (r1, r2)) :
  Calls Try.prog 84 #[.agg #[.int .i64 a0_0, .int .i64 a0_1, .int .i64 a0_2, .int .i64 a0_3], .agg #[.int .i64 a1_0, .int .i64 a1_1, .int .i64 a1_2, .int .i64 a1_3]] w fun e w' => e = .returned (.agg #[.int .i64 r1, .int .i64 r2]) ∧ Below w.heap.size w w' := by
 have hu68 := Try.underlying68
 have hu28 := Try.underlying28
 have HB := Aside0.mk (Below.refl w.heap.size w)
 have H : ((spec_raSub.f k a1_2 a1_3 a0_2 a0_3).bind fun bt175 => ((spec_raSub.f k a1_0 a1_1 a0_0 a0_1).bind fun bt179 => ((spec_raDiv.f k bt175.1 bt175.2.1 bt179.1 bt179.2.1).bind fun bt183 => (some (bt183.1, bt183.2.1))))) = some (r1, r2) := h
 clear h
 replace H := Option.bind_eq_some_iff.mp H
 obtain ⟨⟨t175, t176, t177⟩, A30, H⟩ := H
 replace H : ((spec_raSub.f k a1_0 a1_1 a0_0 a0_1).bind fun bt179 => ((spec_raDiv.f k t175 t176 bt179.1 bt179.2.1).bind fun bt183 => (some (bt183.1, bt183.2.1)))) = some (r1, r2) := H
 have A3 := Aside0.mk A30
 clear A30
 replace H := Option.bind_eq_some_iff.mp H
 obtain ⟨⟨t179, t180, t181⟩, A40, H⟩ := H
 replace H : ((spec_raDiv.f k t175 t176 t179 t180).bind fun bt183 => (some (bt183.1, bt183.2.1))) = some (r1, r2) := H
 have A4 := Aside0.mk A40
 clear A40
 replace H := Option.bind_eq_some_iff.mp H
 obtain ⟨⟨t183, t184, t185⟩, A50, H⟩ := H
 replace H : (some (t183, t184)) = some (r1, r2) := H
 have A5 := Aside0.mk A50
 clear A50
 simp only [Option.some.injEq, Prod.mk.injEq] at H
 obtain ⟨rfl, rfl⟩ := H
 go_enter Try.func84, Try.ntmps84
 go_wp2_with (first | ((with_reducible refine gate_dst (N := 2) rfl ?_); refine bx 2 #[.int .i64 a0_0, .int .i64 a0_1, .int .i64 a0_2, .int .i64 a0_3] 68 ?_; intro gb172 hg w6 hbox hb; have BK172 := Aside0.mk (hbox); have GW172 := Aside0.mk (bz hg); have GE172 := GW172; replace HB := kh hb; clear hb hbox hg) | ((with_reducible refine gate_dst (N := 3) rfl ?_); refine bx 3 #[.int .i64 a1_0, .int .i64 a1_1, .int .i64 a1_2, .int .i64 a1_3] 68 ?_; intro gb173 hg w7 hbox hb; have BK173 := Aside0.mk (hbox); have GW173 := Aside0.mk (bz hg); have GE173 := GW173; have NB172_173 := Aside0.mk (bn gb172 hg); have NB173_172 := sy NB172_173; replace BK172 := kb BK172 hb; replace HB := kh hb; clear hb hbox hg) | ((with_reducible refine gate_dst (N := 4) rfl ?_); refine bx 4 #[.int .i64 0, .int .i64 0] 28 ?_; intro gb174 hg w8 hbox hb; have BK174 := Aside0.mk (hbox); have GW174 := Aside0.mk (bz hg); have GE174 := GW174; have NB172_174 := Aside0.mk (bn gb172 hg); have NB174_172 := sy NB172_174; have NB173_174 := Aside0.mk (bn gb173 hg); have NB174_173 := sy NB173_174; replace BK172 := kb BK172 hb; replace BK173 := kb BK173 hb; replace HB := kh hb; clear hb hbox hg; have hnb9 := NB173_172.out; have hnc9 := NB172_173.out; have hnb10 := NB173_174.out; have hnc10 := NB174_173.out; obtain ⟨hcz11_0, hcz11_1, hcz11_2, hcz11_3, hfz11_0, hfz11_1, hfz11_2, hfz11_3⟩ := b4 BK173; have hnb12 := NB172_174.out; have hnc12 := NB174_172.out; obtain ⟨hcz13_0, hcz13_1, hcz13_2, hcz13_3, hfz13_0, hfz13_1, hfz13_2, hfz13_3⟩ := b4 BK172) | ((with_reducible refine gate_callee (f := 101) rfl ?_); refine gl 16 Try.func101 #[.agg #[.int .i64 a1_2, .int .i64 a1_3], .agg #[.int .i64 a0_2, .int .i64 a0_3]] ?_; (with_reducible refine (spec_raSub.calls k a1_2 a1_3 a0_2 a0_3 t175 t176 t177 _ A3.out).mono ?_); rintro e w14 ⟨rfl, hb⟩; refine ⟨_, rfl, ?_⟩; replace BK172 := kb BK172 hb; replace BK173 := kb BK173 hb; replace BK174 := kb BK174 hb; replace HB := kh hb; (try clear hb); (try clear hb2); (try clear hk); (try clear hi)) | ((with_reducible refine gate_dst (N := 5) rfl ?_); refine bx 5 #[.int .i64 0, .int .i64 0] 28 ?_; intro gb178 hg w15 hbox hb; have BK178 := Aside0.mk (hbox); have GW178 := Aside0.mk (bz hg); have GE178 := GW178; have NB172_178 := Aside0.mk (bn gb172 hg); have NB178_172 := sy NB172_178; have NB173_178 := Aside0.mk (bn gb173 hg); have NB178_173 := sy NB173_178; have NB174_178 := Aside0.mk (bn gb174 hg); have NB178_174 := sy NB174_178; replace BK172 := kb BK172 hb; replace BK173 := kb BK173 hb; replace BK174 := kb BK174 hb; replace HB := kh hb; clear hb hbox hg; have hnb16 := NB178_172.out; have hnc16 := NB172_178.out; have hnb17 := NB178_173.out; have hnc17 := NB173_178.out; have hnb18 := NB178_174.out; have hnc18 := NB174_178.out; obtain ⟨hcz19_0, hcz19_1, hfz19_0, hfz19_1⟩ := b2 BK178; obtain ⟨hcz20_0, hcz20_1, hcz20_2, hcz20_3, hfz20_0, hfz20_1, hfz20_2, hfz20_3⟩ := b4 BK173; obtain ⟨hcz21_0, hcz21_1, hcz21_2, hcz21_3, hfz21_0, hfz21_1, hfz21_2, hfz21_3⟩ := b4 BK172) | ((with_reducible refine gate_callee (f := 101) rfl ?_); refine gl 24 Try.func101 #[.agg #[.int .i64 a1_0, .int .i64 a1_1], .agg #[.int .i64 a0_0, .int .i64 a0_1]] ?_; (with_reducible refine (spec_raSub.calls k a1_0 a1_1 a0_0 a0_1 t179 t180 t181 _ A4.out).mono ?_); rintro e w22 ⟨rfl, hb⟩; refine ⟨_, rfl, ?_⟩; replace BK172 := Aside0.mk (blk_below (g := gb172) (o := .cells #[.int .i64 a0_0, .int .i64 a0_1, .int .i64 a0_2, .int .i64 a0_3] 68 (0, 0)) (by (with_reducible repeat (first | refine blk_drewN ?_ _ | refine blk_drew ?_ | refine blk_alloc ?_ _)); refine blk_far ?_ NB172_178.out _; (with_reducible repeat (first | refine blk_drewN ?_ _ | refine blk_drew ?_ | refine blk_alloc ?_ _)); refine blk_far ?_ NB172_178.out _; (with_reducible repeat (first | refine blk_drewN ?_ _ | refine blk_drew ?_ | refine blk_alloc ?_ _)); exact BK172.out) hb); replace BK173 := Aside0.mk (blk_below (g := gb173) (o := .cells #[.int .i64 a1_0, .int .i64 a1_1, .int .i64 a1_2, .int .i64 a1_3] 68 (0, 0)) (by (with_reducible repeat (first | refine blk_drewN ?_ _ | refine blk_drew ?_ | refine blk_alloc ?_ _)); refine blk_far ?_ NB173_178.out _; (with_reducible repeat (first | refine blk_drewN ?_ _ | refine blk_drew ?_ | refine blk_alloc ?_ _)); refine blk_far ?_ NB173_178.out _; (with_reducible repeat (first | refine blk_drewN ?_ _ | refine blk_drew ?_ | refine blk_alloc ?_ _)); exact BK173.out) hb); replace BK174 := Aside0.mk (blk_below (g := gb174) (o := .cells #[.int .i64 0, .int .i64 0] 28 (0, 0)) (by (with_reducible repeat (first | refine blk_drewN ?_ _ | refine blk_drew ?_ | refine blk_alloc ?_ _)); refine blk_far ?_ NB174_178.out _; (with_reducible repeat (first | refine blk_drewN ?_ _ | refine blk_drew ?_ | refine blk_alloc ?_ _)); refine blk_far ?_ NB174_178.out _; (with_reducible repeat (first | refine blk_drewN ?_ _ | refine blk_drew ?_ | refine blk_alloc ?_ _)); exact BK174.out) hb); replace BK178 := Aside0.mk (blk_below (g := gb178) (o := .cells #[.int .i64 t175, .int .i64 t176] 28 (0, 0)) (by (with_reducible repeat (first | refine blk_drewN ?_ _ | refine blk_drew ?_ | refine blk_alloc ?_ _)); refine blk_put (cs := #[.int .i64 t175, .int .i64 0]) ?_ 1 _ rfl; (with_reducible repeat (first | refine blk_drewN ?_ _ | refine blk_drew ?_ | refine blk_alloc ?_ _)); refine blk_put (cs := #[.int .i64 0, .int .i64 0]) ?_ 0 _ rfl; (with_reducible repeat (first | refine blk_drewN ?_ _ | refine blk_drew ?_ | refine blk_alloc ?_ _)); exact BK178.out) hb); replace HB := kh hb; (try clear hb); (try clear hb2); (try clear hk); (try clear hi)) | ((with_reducible refine gate_dst (N := 7) rfl ?_); refine bx 7 #[.int .i64 0, .int .i64 0] 28 ?_; intro gb182 hg w23 hbox hb; have BK182 := Aside0.mk (hbox); have GW182 := Aside0.mk (bz hg); have GE182 := GW182; have NB172_182 := Aside0.mk (bn gb172 hg); have NB182_172 := sy NB172_182; have NB173_182 := Aside0.mk (bn gb173 hg); have NB182_173 := sy NB173_182; have NB174_182 := Aside0.mk (bn gb174 hg); have NB182_174 := sy NB174_182; have NB178_182 := Aside0.mk (bn gb178 hg); have NB182_178 := sy NB178_182; replace BK172 := kb BK172 hb; replace BK173 := kb BK173 hb; replace BK174 := kb BK174 hb; replace BK178 := kb BK178 hb; replace HB := kh hb; clear hb hbox hg; have hnb24 := NB182_172.out; have hnc24 := NB172_182.out; have hnb25 := NB182_173.out; have hnc25 := NB173_182.out; have hnb26 := NB182_174.out; have hnc26 := NB174_182.out; have hnb27 := NB182_178.out; have hnc27 := NB178_182.out; obtain ⟨hcz28_0, hcz28_1, hfz28_0, hfz28_1⟩ := b2 BK182; obtain ⟨hcz29_0, hcz29_1, hfz29_0, hfz29_1⟩ := b2 BK178) | ((with_reducible refine gate_callee (f := 122) rfl ?_); refine gl 30 Try.func122 #[.agg #[.int .i64 t175, .int .i64 t176], .agg #[.int .i64 t179, .int .i64 t180]] ?_; (with_reducible refine (spec_raDiv.calls k t175 t176 t179 t180 t183 t184 t185 _ A5.out).mono ?_); rintro e w30 ⟨rfl, hb⟩; refine ⟨_, rfl, ?_⟩; replace BK172 := Aside0.mk (blk_below (g := gb172) (o := .cells #[.int .i64 a0_0, .int .i64 a0_1, .int .i64 a0_2, .int .i64 a0_3] 68 (0, 0)) (by (with_reducible repeat (first | refine blk_drewN ?_ _ | refine blk_drew ?_ | refine blk_alloc ?_ _)); refine blk_far ?_ NB172_182.out _; (with_reducible repeat (first | refine blk_drewN ?_ _ | refine blk_drew ?_ | refine blk_alloc ?_ _)); refine blk_far ?_ NB172_182.out _; (with_reducible repeat (first | refine blk_drewN ?_ _ | refine blk_drew ?_ | refine blk_alloc ?_ _)); exact BK172.out) hb); replace BK173 := Aside0.mk (blk_below (g := gb173) (o := .cells #[.int .i64 a1_0, .int .i64 a1_1, .int .i64 a1_2, .int .i64 a1_3] 68 (0, 0)) (by (with_reducible repeat (first | refine blk_drewN ?_ _ | refine blk_drew ?_ | refine blk_alloc ?_ _)); refine blk_far ?_ NB173_182.out _; (with_reducible repeat (first | refine blk_drewN ?_ _ | refine blk_drew ?_ | refine blk_alloc ?_ _)); refine blk_far ?_ NB173_182.out _; (with_reducible repeat (first | refine blk_drewN ?_ _ | refine blk_drew ?_ | refine blk_alloc ?_ _)); exact BK173.out) hb); replace BK174 := Aside0.mk (blk_below (g := gb174) (o := .cells #[.int .i64 0, .int .i64 0] 28 (0, 0)) (by (with_reducible repeat (first | refine blk_drewN ?_ _ | refine blk_drew ?_ | refine blk_alloc ?_ _)); refine blk_far ?_ NB174_182.out _; (with_reducible repeat (first | refine blk_drewN ?_ _ | refine blk_drew ?_ | refine blk_alloc ?_ _)); refine blk_far ?_ NB174_182.out _; (with_reducible repeat (first | refine blk_drewN ?_ _ | refine blk_drew ?_ | refine blk_alloc ?_ _)); exact BK174.out) hb); replace BK178 := Aside0.mk (blk_below (g := gb178) (o := .cells #[.int .i64 t175, .int .i64 t176] 28 (0, 0)) (by (with_reducible repeat (first | refine blk_drewN ?_ _ | refine blk_drew ?_ | refine blk_alloc ?_ _)); refine blk_far ?_ NB178_182.out _; (with_reducible repeat (first | refine blk_drewN ?_ _ | refine blk_drew ?_ | refine blk_alloc ?_ _)); refine blk_far ?_ NB178_182.out _; (with_reducible repeat (first | refine blk_drewN ?_ _ | refine blk_drew ?_ | refine blk_alloc ?_ _)); exact BK178.out) hb); replace BK182 := Aside0.mk (blk_below (g := gb182) (o := .cells #[.int .i64 t179, .int .i64 t180] 28 (0, 0)) (by (with_reducible repeat (first | refine blk_drewN ?_ _ | refine blk_drew ?_ | refine blk_alloc ?_ _)); refine blk_put (cs := #[.int .i64 t179, .int .i64 0]) ?_ 1 _ rfl; (with_reducible repeat (first | refine blk_drewN ?_ _ | refine blk_drew ?_ | refine blk_alloc ?_ _)); refine blk_put (cs := #[.int .i64 0, .int .i64 0]) ?_ 0 _ rfl; (with_reducible repeat (first | refine blk_drewN ?_ _ | refine blk_drew ?_ | refine blk_alloc ?_ _)); exact BK182.out) hb); replace HB := kh hb; (try clear hb); (try clear hb2); (try clear hk); (try clear hi)) | ((with_reducible refine gate_dst (N := 9) rfl ?_); refine bx 9 #[.int .i64 0, .int .i64 0] 28 ?_; intro gb186 hg w31 hbox hb; have BK186 := Aside0.mk (hbox); have GW186 := Aside0.mk (bz hg); have GE186 := GW186; have NB172_186 := Aside0.mk (bn gb172 hg); have NB186_172 := sy NB172_186; have NB173_186 := Aside0.mk (bn gb173 hg); have NB186_173 := sy NB173_186; have NB174_186 := Aside0.mk (bn gb174 hg); have NB186_174 := sy NB174_186; have NB178_186 := Aside0.mk (bn gb178 hg); have NB186_178 := sy NB178_186; have NB182_186 := Aside0.mk (bn gb182 hg); have NB186_182 := sy NB182_186; replace BK172 := kb BK172 hb; replace BK173 := kb BK173 hb; replace BK174 := kb BK174 hb; replace BK178 := kb BK178 hb; replace BK182 := kb BK182 hb; replace HB := kh hb; clear hb hbox hg; have hnb32 := NB186_172.out; have hnc32 := NB172_186.out; have hnb33 := NB186_173.out; have hnc33 := NB173_186.out; have hnb34 := NB186_174.out; have hnc34 := NB174_186.out; have hnb35 := NB186_178.out; have hnc35 := NB178_186.out; have hnb36 := NB186_182.out; have hnc36 := NB182_186.out; obtain ⟨hcz37_0, hcz37_1, hfz37_0, hfz37_1⟩ := b2 BK186; obtain ⟨hcz38_0, hcz38_1, hfz38_0, hfz38_1⟩ := b2 BK174))
 refine bodyPost_ret (results_cell_row rfl _ _ gb174 28 #[.int .i64 t183, .int .i64 t184] (0, 0) _ rfl (by (with_reducible repeat (first | refine blk_drewN ?_ _ | refine blk_drew ?_ | refine blk_alloc ?_ _)); refine blk_put (cs := #[.int .i64 t183, .int .i64 0]) ?_ 1 _ rfl; (with_reducible repeat (first | refine blk_drewN ?_ _ | refine blk_drew ?_ | refine blk_alloc ?_ _)); refine blk_put (cs := #[.int .i64 0, .int .i64 0]) ?_ 0 _ rfl; (with_reducible repeat (first | refine blk_drewN ?_ _ | refine blk_drew ?_ | refine blk_alloc ?_ _)); refine blk_far ?_ NB174_186.out _; (with_reducible repeat (first | refine blk_drewN ?_ _ | refine blk_drew ?_ | refine blk_alloc ?_ _)); refine blk_far ?_ NB174_186.out _; (with_reducible repeat (first | refine blk_drewN ?_ _ | refine blk_drew ?_ | refine blk_alloc ?_ _)); exact BK174.out) Try.underlying28 rfl (by kernel_rfl)) rfl ?_
 exact ⟨rt, bl⟩

/-! ### spec_raMul: function 100 -/
def spec_raMul.f (k : Nat) (a0_0 : Int) (a0_1 : Int) (a1_0 : Int) (a1_1 : Int) : Option (Int × Int × Bool) := (spec_raMake.f k (wrap64 (a0_0 * a1_0)) (wrap64 (a0_1 * a1_1))).bind fun bt190 => (some (bt190.1, bt190.2.1, bt190.2.2))
set_option maxHeartbeats 8000000 in
set_option maxRecDepth 100000 in
theorem spec_raMul.calls (k : Nat) (a0_0 : Int) (a0_1 : Int) (a1_0 : Int) (a1_1 : Int) (r1 : Int) (r2 : Int) (r3 : Bool) (w : World) (h : spec_raMul.f k a0_0 a0_1 a1_0 a1_1 = some (r1, r2, r3)) :
  Calls Try.prog 100 #[.agg #[.int .i64 a0_0, .int .i64 a0_1], .agg #[.int .i64 a1_0, .int .i64 a1_1]] w fun e w' => e = .returned (.tuple #[.agg #[.int .i64 r1, .int .i64 r2], .bool r3]) ∧ Below w.heap.size w w' := by
 have hu28 := Try.underlying28
 have HB := Aside0.mk (Below.refl w.heap.size w)
 have H : ((spec_raMake.f k (wrap64 (a0_0 * a1_0)) (wrap64 (a0_1 * a1_1))).bind fun bt190 => (some (bt190.1, bt190.2.1, bt190.2.2))) = some (r1, r2, r3) := h
 clear h
 replace H := Option.bind_eq_some_iff.mp H
 obtain ⟨⟨t190, t191, t192⟩, A30, H⟩ := H
 replace H : (some (t190, t191, t192)) = some (r1, r2, r3) := H
 have A3 := Aside0.mk A30
 clear A30
 simp only [Option.some.injEq, Prod.mk.injEq] at H
 obtain ⟨rfl, rfl, rfl⟩ := H
 go_enter Try.func100, Try.ntmps100
 go_wp2_with (first | ((with_reducible refine gate_dst (N := 2) rfl ?_); refine bx 2 #[.int .i64 a0_0, .int .i64 a0_1] 28 ?_; intro gb187 hg w4 hbox hb; have BK187 := Aside0.mk (hbox); have GW187 := Aside0.mk (bz hg); have GE187 := GW187; replace HB := kh hb; clear hb hbox hg) | ((with_reducible refine gate_dst (N := 3) rfl ?_); refine bx 3 #[.int .i64 a1_0, .int .i64 a1_1] 28 ?_; intro gb188 hg w5 hbox hb; have BK188 := Aside0.mk (hbox); have GW188 := Aside0.mk (bz hg); have GE188 := GW188; have NB187_188 := Aside0.mk (bn gb187 hg); have NB188_187 := sy NB187_188; replace BK187 := kb BK187 hb; replace HB := kh hb; clear hb hbox hg) | ((with_reducible refine gate_dst (N := 4) rfl ?_); refine bx 4 #[.int .i64 0, .int .i64 0] 28 ?_; intro gb189 hg w6 hbox hb; have BK189 := Aside0.mk (hbox); have GW189 := Aside0.mk (bz hg); have GE189 := GW189; have NB187_189 := Aside0.mk (bn gb187 hg); have NB189_187 := sy NB187_189; have NB188_189 := Aside0.mk (bn gb188 hg); have NB189_188 := sy NB188_189; replace BK187 := kb BK187 hb; replace BK188 := kb BK188 hb; replace HB := kh hb; clear hb hbox hg; have hnb7 := NB187_188.out; have hnc7 := NB188_187.out; have hnb8 := NB187_189.out; have hnc8 := NB189_187.out; obtain ⟨hcz9_0, hcz9_1, hfz9_0, hfz9_1⟩ := b2 BK187; have hnb10 := NB188_189.out; have hnc10 := NB189_188.out; obtain ⟨hcz11_0, hcz11_1, hfz11_0, hfz11_1⟩ := b2 BK188) | ((with_reducible refine gate_callee (f := 125) rfl ?_); refine gl 16 Try.func125 #[.int .i64 (wrap64 (a0_0 * a1_0)), .int .i64 (wrap64 (a0_1 * a1_1))] ?_; (with_reducible refine (spec_raMake.calls k (wrap64 (a0_0 * a1_0)) (wrap64 (a0_1 * a1_1)) t190 t191 t192 _ A3.out).mono ?_); rintro e w12 ⟨rfl, hb⟩; refine ⟨_, rfl, ?_⟩; replace BK187 := kb BK187 hb; replace BK188 := kb BK188 hb; replace BK189 := kb BK189 hb; replace HB := kh hb; (try clear hb); (try clear hb2); (try clear hk); (try clear hi); obtain ⟨hcz13_0, hcz13_1, hfz13_0, hfz13_1⟩ := b2 BK189))
 refine bodyPost_ret (results_ct rfl _ _ gb189 28 #[.int .i64 t190, .int .i64 t191] (0, 0) _ rfl (by (with_reducible repeat (first | refine blk_drewN ?_ _ | refine blk_drew ?_ | refine blk_alloc ?_ _)); refine blk_put (cs := #[.int .i64 t190, .int .i64 0]) ?_ 1 _ rfl; (with_reducible repeat (first | refine blk_drewN ?_ _ | refine blk_drew ?_ | refine blk_alloc ?_ _)); refine blk_put (cs := #[.int .i64 0, .int .i64 0]) ?_ 0 _ rfl; (with_reducible repeat (first | refine blk_drewN ?_ _ | refine blk_drew ?_ | refine blk_alloc ?_ _)); exact BK189.out) Try.underlying28 rfl (by kernel_rfl)) rfl ?_
 exact ⟨rt, bl⟩

/-! ### spec_raAdd: function 102 -/
def spec_raAdd.f (k : Nat) (a0_0 : Int) (a0_1 : Int) (a1_0 : Int) (a1_1 : Int) : Option (Int × Int × Bool) := (spec_raMake.f k (wrap64 ((wrap64 (a0_0 * a1_1)) + (wrap64 (a1_0 * a0_1)))) (wrap64 (a0_1 * a1_1))).bind fun bt196 => (some (bt196.1, bt196.2.1, bt196.2.2))
set_option maxHeartbeats 8000000 in
set_option maxRecDepth 100000 in
theorem spec_raAdd.calls (k : Nat) (a0_0 : Int) (a0_1 : Int) (a1_0 : Int) (a1_1 : Int) (r1 : Int) (r2 : Int) (r3 : Bool) (w : World) (h : spec_raAdd.f k a0_0 a0_1 a1_0 a1_1 = some (r1, r2, r3)) :
  Calls Try.prog 102 #[.agg #[.int .i64 a0_0, .int .i64 a0_1], .agg #[.int .i64 a1_0, .int .i64 a1_1]] w fun e w' => e = .returned (.tuple #[.agg #[.int .i64 r1, .int .i64 r2], .bool r3]) ∧ Below w.heap.size w w' := by
 have hu28 := Try.underlying28
 have HB := Aside0.mk (Below.refl w.heap.size w)
 have H : ((spec_raMake.f k (wrap64 ((wrap64 (a0_0 * a1_1)) + (wrap64 (a1_0 * a0_1)))) (wrap64 (a0_1 * a1_1))).bind fun bt196 => (some (bt196.1, bt196.2.1, bt196.2.2))) = some (r1, r2, r3) := h
 clear h
 replace H := Option.bind_eq_some_iff.mp H
 obtain ⟨⟨t196, t197, t198⟩, A30, H⟩ := H
 replace H : (some (t196, t197, t198)) = some (r1, r2, r3) := H
 have A3 := Aside0.mk A30
 clear A30
 simp only [Option.some.injEq, Prod.mk.injEq] at H
 obtain ⟨rfl, rfl, rfl⟩ := H
 go_enter Try.func102, Try.ntmps102
 go_wp2_with (first | ((with_reducible refine gate_dst (N := 2) rfl ?_); refine bx 2 #[.int .i64 a0_0, .int .i64 a0_1] 28 ?_; intro gb193 hg w4 hbox hb; have BK193 := Aside0.mk (hbox); have GW193 := Aside0.mk (bz hg); have GE193 := GW193; replace HB := kh hb; clear hb hbox hg) | ((with_reducible refine gate_dst (N := 3) rfl ?_); refine bx 3 #[.int .i64 a1_0, .int .i64 a1_1] 28 ?_; intro gb194 hg w5 hbox hb; have BK194 := Aside0.mk (hbox); have GW194 := Aside0.mk (bz hg); have GE194 := GW194; have NB193_194 := Aside0.mk (bn gb193 hg); have NB194_193 := sy NB193_194; replace BK193 := kb BK193 hb; replace HB := kh hb; clear hb hbox hg) | ((with_reducible refine gate_dst (N := 4) rfl ?_); refine bx 4 #[.int .i64 0, .int .i64 0] 28 ?_; intro gb195 hg w6 hbox hb; have BK195 := Aside0.mk (hbox); have GW195 := Aside0.mk (bz hg); have GE195 := GW195; have NB193_195 := Aside0.mk (bn gb193 hg); have NB195_193 := sy NB193_195; have NB194_195 := Aside0.mk (bn gb194 hg); have NB195_194 := sy NB194_195; replace BK193 := kb BK193 hb; replace BK194 := kb BK194 hb; replace HB := kh hb; clear hb hbox hg; have hnb7 := NB193_194.out; have hnc7 := NB194_193.out; have hnb8 := NB193_195.out; have hnc8 := NB195_193.out; obtain ⟨hcz9_0, hcz9_1, hfz9_0, hfz9_1⟩ := b2 BK193; have hnb10 := NB194_195.out; have hnc10 := NB195_194.out; obtain ⟨hcz11_0, hcz11_1, hfz11_0, hfz11_1⟩ := b2 BK194) | ((with_reducible refine gate_callee (f := 125) rfl ?_); refine gl 22 Try.func125 #[.int .i64 (wrap64 ((wrap64 (a0_0 * a1_1)) + (wrap64 (a1_0 * a0_1)))), .int .i64 (wrap64 (a0_1 * a1_1))] ?_; (with_reducible refine (spec_raMake.calls k (wrap64 ((wrap64 (a0_0 * a1_1)) + (wrap64 (a1_0 * a0_1)))) (wrap64 (a0_1 * a1_1)) t196 t197 t198 _ A3.out).mono ?_); rintro e w12 ⟨rfl, hb⟩; refine ⟨_, rfl, ?_⟩; replace BK193 := kb BK193 hb; replace BK194 := kb BK194 hb; replace BK195 := kb BK195 hb; replace HB := kh hb; (try clear hb); (try clear hb2); (try clear hk); (try clear hi); obtain ⟨hcz13_0, hcz13_1, hfz13_0, hfz13_1⟩ := b2 BK195))
 refine bodyPost_ret (results_ct rfl _ _ gb195 28 #[.int .i64 t196, .int .i64 t197] (0, 0) _ rfl (by (with_reducible repeat (first | refine blk_drewN ?_ _ | refine blk_drew ?_ | refine blk_alloc ?_ _)); refine blk_put (cs := #[.int .i64 t196, .int .i64 0]) ?_ 1 _ rfl; (with_reducible repeat (first | refine blk_drewN ?_ _ | refine blk_drew ?_ | refine blk_alloc ?_ _)); refine blk_put (cs := #[.int .i64 0, .int .i64 0]) ?_ 0 _ rfl; (with_reducible repeat (first | refine blk_drewN ?_ _ | refine blk_drew ?_ | refine blk_alloc ?_ _)); exact BK195.out) Try.underlying28 rfl (by kernel_rfl)) rfl ?_
 exact ⟨rt, bl⟩

end Go.Proofs.Ytmecnnnagallnaa.PFnExactItineraryOf
