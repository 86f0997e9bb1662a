-- Written by this session's program wip/pp (the kit's print tool with additions) 35421559b90ae4d0a3588c463048766b98c2df88dd9212a6774a882060cdf62d
import Derived.Test.YtmecnnnagallnaaPFnExactCompareWordsx0
import Derived.Test.YtmecnnnagallnaaPFnExactCompareWordsx3
namespace Go.Proofs.Ytmecnnnagallnaa.PFnExactCompareWords
open Go.RowKit Go.Proofs.YtmecnnnagallnaaW.PrintWords Go.Proofs.YtmecnnnagallnaaW.PrintLast Go.Proofs.YtmecnnnagallnaaW.PrintMore
attribute [local go_sem] max2_int min2_int max_two min_two max_three min_three max_four min_four   -- for this text's walks alone
set_option linter.unusedVariables false
set_option linter.unusedSimpArgs false

/-! ### spec_raMake: function 125 -/
def spec_raMake.f (k : Nat) (a0 : Int) (a1 : Int) : Option (Int × Int × Bool) := if a1 = 0 then (some (0, 0, false)) else ((spec_l1Abs.f a0).bind fun t167 => ((spec_l1Abs.f a1).bind fun t168 => ((spec_raCommon.f k t167 t168).bind fun t169 => (if a1 < 0 then (if (wrap64 (-t169)) = 0 then (none) else ((spec_raGood.f k (wrap64 (Int.tdiv a0 (wrap64 (-t169)))) (wrap64 (Int.tdiv a1 (wrap64 (-t169))))).bind fun t171 => (if t171 = true then (some (wrap64 (Int.tdiv a0 (wrap64 (-t169))), wrap64 (Int.tdiv a1 (wrap64 (-t169))), true)) else (some (0, 0, false))))) else (if t169 = 0 then (none) else ((spec_raGood.f k (wrap64 (Int.tdiv a0 t169)) (wrap64 (Int.tdiv a1 t169))).bind fun t173 => (if t173 = true then (some (wrap64 (Int.tdiv a0 t169), wrap64 (Int.tdiv a1 t169), true)) else (some (0, 0, false)))))))))
def spec_raMake.T6 : Bool × List (List Nat × List Nat) := (true, [([], []), ([], []), ([0, 1], [0, 1]), ([], []), ([], []), ([3, 4], [3, 4]), ([2, 5], [2, 5]), ([], []), ([7, 6, 0, 1, 2, 3, 4, 5, 6, 7], [6, 7])])
def spec_raMake.B6 : List Nat := [0, 0, 3, 0, 0, 24, 63, 0, 255]
theorem spec_raMake.tab6 : rtab .any (opsOf Try.f125 6) = spec_raMake.T6 := by kernel_rfl
theorem spec_raMake.bits6 : waitsOk spec_raMake.T6.2 spec_raMake.B6 = true := by kernel_rfl
set_option maxHeartbeats 8000000 in
set_option maxRecDepth 100000 in
theorem spec_raMake.calls (k : Nat) (a0 : Int) (a1 : Int) (r1 : Int) (r2 : Int) (r3 : Bool) (w : World) (h : spec_raMake.f k a0 a1 = some (r1, r2, r3)) :
  Calls Try.prog 125 #[.int .i64 a0, .int .i64 a1] w fun e w' => e = .returned (.tuple #[.agg #[.int .i64 r1, .int .i64 r2], .bool r3]) ∧ Below w.heap.size w w' := by
 have hu28 := Try.underlying28
 have HB := Aside0.mk (Below.refl w.heap.size w)
 have H : (if a1 = 0 then (some (0, 0, false)) else ((spec_l1Abs.f a0).bind fun t167 => ((spec_l1Abs.f a1).bind fun t168 => ((spec_raCommon.f k t167 t168).bind fun t169 => (if a1 < 0 then (if (wrap64 (-t169)) = 0 then (none) else ((spec_raGood.f k (wrap64 (Int.tdiv a0 (wrap64 (-t169)))) (wrap64 (Int.tdiv a1 (wrap64 (-t169))))).bind fun t171 => (if t171 = true then (some (wrap64 (Int.tdiv a0 (wrap64 (-t169))), wrap64 (Int.tdiv a1 (wrap64 (-t169))), true)) else (some (0, 0, false))))) else (if t169 = 0 then (none) else ((spec_raGood.f k (wrap64 (Int.tdiv a0 t169)) (wrap64 (Int.tdiv a1 t169))).bind fun t173 => (if t173 = true then (some (wrap64 (Int.tdiv a0 t169), wrap64 (Int.tdiv a1 t169), true)) else (some (0, 0, false)))))))))) = some (r1, r2, r3) := h
 clear h
 by_cases c3 : a1 = 0
 ·rw [if_pos c3] at H
  have c3b0 : (a1 == 0) = true := beq_iff_eq.mpr c3
  have c3b1 : (a1 != 0) = false := bne_eq_false_iff_eq.mpr c3
  clear c3
  simp only [Option.some.injEq, Prod.mk.injEq] at H
  obtain ⟨rfl, rfl, rfl⟩ := H
  go_enter Try.func125, Try.ntmps125
  go_wp2_with (first | ((with_reducible refine gate_dst (N := 4) rfl ?_); refine bx 4 #[.int .i64 0, .int .i64 0] 28 ?_; intro gb166 hg w4 hbox hb; have BK166 := Aside0.mk (hbox); have GW166 := Aside0.mk (bz hg); have GE166 := GW166; replace HB := kh hb; clear hb hbox hg; obtain ⟨hcz5_0, hcz5_1, hfz5_0, hfz5_1⟩ := b2 BK166))
  refine bodyPost_ret (results_ct rfl _ _ gb166 28 #[.int .i64 0, .int .i64 0] (0, 0) _ rfl (by (with_reducible repeat (first | refine blk_drewN ?_ _ | refine blk_drew ?_ | refine blk_alloc ?_ _)); refine blk_put (cs := #[.int .i64 0, .int .i64 0]) ?_ 1 _ rfl; (with_reducible repeat (first | refine blk_drewN ?_ _ | refine blk_drew ?_ | refine blk_alloc ?_ _)); refine blk_put (cs := #[.int .i64 0, .int .i64 0]) ?_ 0 _ rfl; (with_reducible repeat (first | refine blk_drewN ?_ _ | refine blk_drew ?_ | refine blk_alloc ?_ _)); exact BK166.out) Try.underlying28 rfl (by kernel_rfl)) rfl ?_
  exact ⟨rt, bl⟩
 ·rw [if_neg c3] at H
  have c3b0 : (a1 == 0) = false := beq_eq_false_iff_ne.mpr c3
  have c3b1 : (a1 != 0) = true := bne_iff_ne.mpr c3
  replace H := Option.bind_eq_some_iff.mp H
  obtain ⟨t167, A60, H⟩ := H
  replace H : ((spec_l1Abs.f a1).bind fun t168 => ((spec_raCommon.f k t167 t168).bind fun t169 => (if a1 < 0 then (if (wrap64 (-t169)) = 0 then (none) else ((spec_raGood.f k (wrap64 (Int.tdiv a0 (wrap64 (-t169)))) (wrap64 (Int.tdiv a1 (wrap64 (-t169))))).bind fun t171 => (if t171 = true then (some (wrap64 (Int.tdiv a0 (wrap64 (-t169))), wrap64 (Int.tdiv a1 (wrap64 (-t169))), true)) else (some (0, 0, false))))) else (if t169 = 0 then (none) else ((spec_raGood.f k (wrap64 (Int.tdiv a0 t169)) (wrap64 (Int.tdiv a1 t169))).bind fun t173 => (if t173 = true then (some (wrap64 (Int.tdiv a0 t169), wrap64 (Int.tdiv a1 t169), true)) else (some (0, 0, false)))))))) = some (r1, r2, r3) := H
  have A6 := Aside0.mk A60
  clear A60
  replace H := Option.bind_eq_some_iff.mp H
  obtain ⟨t168, A70, H⟩ := H
  replace H : ((spec_raCommon.f k t167 t168).bind fun t169 => (if a1 < 0 then (if (wrap64 (-t169)) = 0 then (none) else ((spec_raGood.f k (wrap64 (Int.tdiv a0 (wrap64 (-t169)))) (wrap64 (Int.tdiv a1 (wrap64 (-t169))))).bind fun t171 => (if t171 = true then (some (wrap64 (Int.tdiv a0 (wrap64 (-t169))), wrap64 (Int.tdiv a1 (wrap64 (-t169))), true)) else (some (0, 0, false))))) else (if t169 = 0 then (none) else ((spec_raGood.f k (wrap64 (Int.tdiv a0 t169)) (wrap64 (Int.tdiv a1 t169))).bind fun t173 => (if t173 = true then (some (wrap64 (Int.tdiv a0 t169), wrap64 (Int.tdiv a1 t169), true)) else (some (0, 0, false))))))) = some (r1, r2, r3) := H
  have A7 := Aside0.mk A70
  clear A70
  replace H := Option.bind_eq_some_iff.mp H
  obtain ⟨t169, A80, H⟩ := H
  replace H : (if a1 < 0 then (if (wrap64 (-t169)) = 0 then (none) else ((spec_raGood.f k (wrap64 (Int.tdiv a0 (wrap64 (-t169)))) (wrap64 (Int.tdiv a1 (wrap64 (-t169))))).bind fun t171 => (if t171 = true then (some (wrap64 (Int.tdiv a0 (wrap64 (-t169))), wrap64 (Int.tdiv a1 (wrap64 (-t169))), true)) else (some (0, 0, false))))) else (if t169 = 0 then (none) else ((spec_raGood.f k (wrap64 (Int.tdiv a0 t169)) (wrap64 (Int.tdiv a1 t169))).bind fun t173 => (if t173 = true then (some (wrap64 (Int.tdiv a0 t169), wrap64 (Int.tdiv a1 t169), true)) else (some (0, 0, false)))))) = some (r1, r2, r3) := H
  have A8 := Aside0.mk A80
  clear A80
  by_cases c9 : a1 < 0
  ·rw [if_pos c9] at H
   have c9b0 : decide (a1 < 0) = true := decide_eq_true c9
   clear c9
   by_cases c10 : (wrap64 (-t169)) = 0
   ·rw [if_pos c10] at H
    exact absurd H (by simp)
   ·rw [if_neg c10] at H
    have c10b0 : ((wrap64 (-t169)) == 0) = false := beq_eq_false_iff_ne.mpr c10
    have c10b1 : ((wrap64 (-t169)) != 0) = true := bne_iff_ne.mpr c10
    replace H := Option.bind_eq_some_iff.mp H
    obtain ⟨t171, A110, H⟩ := H
    replace H : (if t171 = true then (some (wrap64 (Int.tdiv a0 (wrap64 (-t169))), wrap64 (Int.tdiv a1 (wrap64 (-t169))), true)) else (some (0, 0, false))) = some (r1, r2, r3) := H
    have A11 := Aside0.mk A110
    clear A110
    by_cases c12 : t171 = true
    ·subst c12
     have H1 : (some (wrap64 (Int.tdiv a0 (wrap64 (-t169))), wrap64 (Int.tdiv a1 (wrap64 (-t169))), true)) = some (r1, r2, r3) := by rw [if_pos rfl] at H; exact H
     clear H
     have H := H1
     clear H1
     simp only [Option.some.injEq, Prod.mk.injEq] at H
     obtain ⟨rfl, rfl, rfl⟩ := H
     go_enter Try.func125, Try.ntmps125
     try go_wp2_with (first | ((with_reducible refine gate_dst (N := 4) rfl ?_); refine bx 4 #[.int .i64 0, .int .i64 0] 28 ?_; intro gb166 hg w13 hbox hb; have BK166 := Aside0.mk (hbox); have GW166 := Aside0.mk (bz hg); have GE166 := GW166; replace HB := kh hb; clear hb hbox hg) | ((with_reducible refine gate_callee (f := 46) rfl ?_); refine gl 12 Try.func46 #[.int .i64 a0] ?_; (with_reducible refine (spec_l1Abs.calls a0 t167 _ A6.out).mono ?_); rintro e w' ⟨rfl, ⟨nd, rfl⟩⟩; refine ⟨_, rfl, ?_⟩; (try (rw [drewN_self w13]; generalize hq_ : World.drewN w13 _ = w13; have n0_ : Aside0 (w13.heap[gb166]? = some (.cells #[.int .i64 0, .int .i64 0] 28 (0, 0))) := ⟨by rw [← hq_]; exact (bo gb166)⟩; have n1_ : Aside0 (Below w.heap.size w w13) := ⟨by rw [← hq_]; exact bl⟩; clear BK166 HB hq_; have BK166 := n0_; have HB := n1_; clear n0_ n1_))) | ((with_reducible refine gate_callee (f := 46) rfl ?_); refine gl 14 Try.func46 #[.int .i64 a1] ?_; (with_reducible refine (spec_l1Abs.calls a1 t168 _ A7.out).mono ?_); rintro e w' ⟨rfl, ⟨nd, rfl⟩⟩; refine ⟨_, rfl, ?_⟩; (try (rw [drewN_self w13]; generalize hq_ : World.drewN w13 _ = w13; have n0_ : Aside0 (w13.heap[gb166]? = some (.cells #[.int .i64 0, .int .i64 0] 28 (0, 0))) := ⟨by rw [← hq_]; exact (bo gb166)⟩; have n1_ : Aside0 (Below w.heap.size w w13) := ⟨by rw [← hq_]; exact bl⟩; clear BK166 HB hq_; have BK166 := n0_; have HB := n1_; clear n0_ n1_))) | ((with_reducible refine gate_callee (f := 134) rfl ?_); refine gl 15 Try.func134 #[.int .i64 t167, .int .i64 t168] ?_; (with_reducible refine (spec_raCommon.calls k t167 t168 t169 _ A8.out).mono ?_); rintro e w' ⟨rfl, ⟨nd, rfl⟩⟩; refine ⟨_, rfl, ?_⟩; (try (rw [drewN_self w13]; generalize hq_ : World.drewN w13 _ = w13; have n0_ : Aside0 (w13.heap[gb166]? = some (.cells #[.int .i64 0, .int .i64 0] 28 (0, 0))) := ⟨by rw [← hq_]; exact (bo gb166)⟩; have n1_ : Aside0 (Below w.heap.size w w13) := ⟨by rw [← hq_]; exact bl⟩; clear BK166 HB hq_; have BK166 := n0_; have HB := n1_; clear n0_ n1_))))
     replace BK166 := Aside0.mk (blk_drew BK166.out)
     replace HB := Aside0.mk (below_drew1 HB.out)
     refine start_ (n := 9) (S := fun w' => True) (ds := []) (tb 0 9) (by kernel_rfl) rfl rfl trivial (fun hHeld => ?_); refine with_tabW spec_raMake.tab6 spec_raMake.bits6 (fun HT_ HW_ => ?_)
     generalize w13.drew = w14 at BK166 HB hHeld ⊢
     refine pu 0 20 (tb 1 8) ?_
     refine pu 1 21 (tb 2 7) ?_
     refine pu 2 22 (tb 3 6) ?_
     refine pu 3 23 (tb 4 5) ?_
     refine pu 4 24 (tb 5 4) ?_
     refine pu 5 25 (tb 6 3) ?_
     refine pu 6 26 (tb 7 2) ?_
     refine on 7 7 (tb 8 1) (fun K hK => ?_)
     refine box_step ?hg (N := 7) ?hd (cs := #[.int .i64 0, .int .i64 0]) (t := 28) ?hr ?_; (case hd => rfl); (case hg => rfl); (case hr => first | (go_simp; done) | (go_simp; rfl))
     intro gb170 hg w15 hbox hb
     have BK170 := Aside0.mk (hbox)
     have GW170 := Aside0.mk (bz hg)
     have GE170 := GW170
     have NB166_170 := Aside0.mk (bn gb166 hg)
     have NB170_166 := sy NB166_170
     replace BK166 := kb BK166 hb
     replace HB := kh hb
     clear hb hbox hg
     refine hK.out _ _ trivial (fun hHeld => ?_)
     clear hK K
     refine nm 7 ?_
     refine one_ (i := 8) (N := none) (tb 9 0) rfl rfl (one_of HT_.out (by kernel_rfl)) (by decide) (fun K hK => ?_)
     have hs16 : w15.cell? ⟨gb170, 0, none⟩ = some (.int .i64 0) := (blk_cell BK170.out 0).trans rfl
     have hfs16 := blk_frozen BK170.out 0
     have hns16_0 := NB166_170.out
     have hms16_0 := NB170_166.out
     have hs17 : w15.cell? ⟨gb170, 1, none⟩ = some (.int .i64 0) := (blk_cell BK170.out 1).trans rfl
     have hfs17 := blk_frozen BK170.out 1
     have hns17_0 := NB166_170.out
     have hms17_0 := NB170_166.out
     refine skip_ (w1 := ?_) (by rfl) rfl ?_ ?_
     rotate_left
     ·go_simp
      rfl
     refine hK.out _ _ trivial (fun hHeld => ?_)
     clear hK K
     refine done_ (done_of HT_.out (by kernel_rfl)) ?_
     have hnb18 := NB170_166.out
     have hnc18 := NB166_170.out
     obtain ⟨hcz19_0, hcz19_1, hfz19_0, hfz19_1⟩ := b2 BK170
     try go_wp2_with (first | ((with_reducible refine gate_callee (f := 114) rfl ?_); refine gl 28 Try.func114 #[.agg #[.int .i64 (wrap64 (Int.tdiv a0 (wrap64 (-t169)))), .int .i64 (wrap64 (Int.tdiv a1 (wrap64 (-t169))))]] ?_; (with_reducible refine (spec_raGood.calls k (wrap64 (Int.tdiv a0 (wrap64 (-t169)))) (wrap64 (Int.tdiv a1 (wrap64 (-t169)))) true _ A11.out).mono ?_); rintro e w20 ⟨rfl, hb⟩; refine ⟨_, rfl, ?_⟩; replace BK166 := Aside0.mk (blk_below (g := gb166) (o := .cells #[.int .i64 0, .int .i64 0] 28 (0, 0)) (by (with_reducible repeat (first | refine blk_drewN ?_ _ | refine blk_drew ?_ | refine blk_alloc ?_ _)); refine blk_far ?_ NB166_170.out _; (with_reducible repeat (first | refine blk_drewN ?_ _ | refine blk_drew ?_ | refine blk_alloc ?_ _)); refine blk_far ?_ NB166_170.out _; (with_reducible repeat (first | refine blk_drewN ?_ _ | refine blk_drew ?_ | refine blk_alloc ?_ _)); exact BK166.out) hb); replace BK170 := Aside0.mk (blk_below (g := gb170) (o := .cells #[.int .i64 (wrap64 (Int.tdiv a0 (wrap64 (-t169)))), .int .i64 (wrap64 (Int.tdiv a1 (wrap64 (-t169))))] 28 (0, 0)) (by (with_reducible repeat (first | refine blk_drewN ?_ _ | refine blk_drew ?_ | refine blk_alloc ?_ _)); refine blk_put (cs := #[.int .i64 (wrap64 (Int.tdiv a0 (wrap64 (-t169)))), .int .i64 0]) ?_ 1 _ rfl; (with_reducible repeat (first | refine blk_drewN ?_ _ | refine blk_drew ?_ | refine blk_alloc ?_ _)); refine blk_put (cs := #[.int .i64 0, .int .i64 0]) ?_ 0 _ rfl; (with_reducible repeat (first | refine blk_drewN ?_ _ | refine blk_drew ?_ | refine blk_alloc ?_ _)); exact BK170.out) hb); replace HB := kh hb; (try clear hb); (try clear hb2); (try clear hk); (try clear hi); obtain ⟨hcz21_0, hcz21_1, hfz21_0, hfz21_1⟩ := b2 BK170; obtain ⟨hcz22_0, hcz22_1, hfz22_0, hfz22_1⟩ := b2 BK166))
     refine bodyPost_ret (results_ct rfl _ _ gb166 28 #[.int .i64 (wrap64 (Int.tdiv a0 (wrap64 (-t169)))), .int .i64 (wrap64 (Int.tdiv a1 (wrap64 (-t169))))] (0, 0) _ rfl (by (with_reducible repeat (first | refine blk_drewN ?_ _ | refine blk_drew ?_ | refine blk_alloc ?_ _)); refine blk_put (cs := #[.int .i64 (wrap64 (Int.tdiv a0 (wrap64 (-t169)))), .int .i64 0]) ?_ 1 _ rfl; (with_reducible repeat (first | refine blk_drewN ?_ _ | refine blk_drew ?_ | refine blk_alloc ?_ _)); refine blk_put (cs := #[.int .i64 0, .int .i64 0]) ?_ 0 _ rfl; (with_reducible repeat (first | refine blk_drewN ?_ _ | refine blk_drew ?_ | refine blk_alloc ?_ _)); exact BK166.out) Try.underlying28 rfl (by kernel_rfl)) rfl ?_
     exact ⟨rt, bl⟩
    ·replace c12 := Bool.eq_false_iff.mpr c12
     subst c12
     have H1 : (some (0, 0, false)) = some (r1, r2, r3) := by rw [if_neg (show ¬ (false = true) by decide)] at H; exact H
     clear H
     have H := H1
     clear H1
     simp only [Option.some.injEq, Prod.mk.injEq] at H
     obtain ⟨rfl, rfl, rfl⟩ := H
     go_enter Try.func125, Try.ntmps125
     try go_wp2_with (first | ((with_reducible refine gate_dst (N := 4) rfl ?_); refine bx 4 #[.int .i64 0, .int .i64 0] 28 ?_; intro gb166 hg w23 hbox hb; have BK166 := Aside0.mk (hbox); have GW166 := Aside0.mk (bz hg); have GE166 := GW166; replace HB := kh hb; clear hb hbox hg) | ((with_reducible refine gate_callee (f := 46) rfl ?_); refine gl 12 Try.func46 #[.int .i64 a0] ?_; (with_reducible refine (spec_l1Abs.calls a0 t167 _ A6.out).mono ?_); rintro e w' ⟨rfl, ⟨nd, rfl⟩⟩; refine ⟨_, rfl, ?_⟩; (try (rw [drewN_self w23]; generalize hq_ : World.drewN w23 _ = w23; have n0_ : Aside0 (w23.heap[gb166]? = some (.cells #[.int .i64 0, .int .i64 0] 28 (0, 0))) := ⟨by rw [← hq_]; exact (bo gb166)⟩; have n1_ : Aside0 (Below w.heap.size w w23) := ⟨by rw [← hq_]; exact bl⟩; clear BK166 HB hq_; have BK166 := n0_; have HB := n1_; clear n0_ n1_))) | ((with_reducible refine gate_callee (f := 46) rfl ?_); refine gl 14 Try.func46 #[.int .i64 a1] ?_; (with_reducible refine (spec_l1Abs.calls a1 t168 _ A7.out).mono ?_); rintro e w' ⟨rfl, ⟨nd, rfl⟩⟩; refine ⟨_, rfl, ?_⟩; (try (rw [drewN_self w23]; generalize hq_ : World.drewN w23 _ = w23; have n0_ : Aside0 (w23.heap[gb166]? = some (.cells #[.int .i64 0, .int .i64 0] 28 (0, 0))) := ⟨by rw [← hq_]; exact (bo gb166)⟩; have n1_ : Aside0 (Below w.heap.size w w23) := ⟨by rw [← hq_]; exact bl⟩; clear BK166 HB hq_; have BK166 := n0_; have HB := n1_; clear n0_ n1_))) | ((with_reducible refine gate_callee (f := 134) rfl ?_); refine gl 15 Try.func134 #[.int .i64 t167, .int .i64 t168] ?_; (with_reducible refine (spec_raCommon.calls k t167 t168 t169 _ A8.out).mono ?_); rintro e w' ⟨rfl, ⟨nd, rfl⟩⟩; refine ⟨_, rfl, ?_⟩; (try (rw [drewN_self w23]; generalize hq_ : World.drewN w23 _ = w23; have n0_ : Aside0 (w23.heap[gb166]? = some (.cells #[.int .i64 0, .int .i64 0] 28 (0, 0))) := ⟨by rw [← hq_]; exact (bo gb166)⟩; have n1_ : Aside0 (Below w.heap.size w w23) := ⟨by rw [← hq_]; exact bl⟩; clear BK166 HB hq_; have BK166 := n0_; have HB := n1_; clear n0_ n1_))))
     replace BK166 := Aside0.mk (blk_drew BK166.out)
     replace HB := Aside0.mk (below_drew1 HB.out)
     refine start_ (n := 9) (S := fun w' => True) (ds := []) (tb 0 9) (by kernel_rfl) rfl rfl trivial (fun hHeld => ?_); refine with_tabW spec_raMake.tab6 spec_raMake.bits6 (fun HT_ HW_ => ?_)
     generalize w23.drew = w24 at BK166 HB hHeld ⊢
     refine pu 0 20 (tb 1 8) ?_
     refine pu 1 21 (tb 2 7) ?_
     refine pu 2 22 (tb 3 6) ?_
     refine pu 3 23 (tb 4 5) ?_
     refine pu 4 24 (tb 5 4) ?_
     refine pu 5 25 (tb 6 3) ?_
     refine pu 6 26 (tb 7 2) ?_
     refine on 7 7 (tb 8 1) (fun K hK => ?_)
     refine box_step ?hg (N := 7) ?hd (cs := #[.int .i64 0, .int .i64 0]) (t := 28) ?hr ?_; (case hd => rfl); (case hg => rfl); (case hr => first | (go_simp; done) | (go_simp; rfl))
     intro gb170 hg w25 hbox hb
     have BK170 := Aside0.mk (hbox)
     have GW170 := Aside0.mk (bz hg)
     have GE170 := GW170
     have NB166_170 := Aside0.mk (bn gb166 hg)
     have NB170_166 := sy NB166_170
     replace BK166 := kb BK166 hb
     replace HB := kh hb
     clear hb hbox hg
     refine hK.out _ _ trivial (fun hHeld => ?_)
     clear hK K
     refine nm 7 ?_
     refine one_ (i := 8) (N := none) (tb 9 0) rfl rfl (one_of HT_.out (by kernel_rfl)) (by decide) (fun K hK => ?_)
     have hs26 : w25.cell? ⟨gb170, 0, none⟩ = some (.int .i64 0) := (blk_cell BK170.out 0).trans rfl
     have hfs26 := blk_frozen BK170.out 0
     have hns26_0 := NB166_170.out
     have hms26_0 := NB170_166.out
     have hs27 : w25.cell? ⟨gb170, 1, none⟩ = some (.int .i64 0) := (blk_cell BK170.out 1).trans rfl
     have hfs27 := blk_frozen BK170.out 1
     have hns27_0 := NB166_170.out
     have hms27_0 := NB170_166.out
     refine skip_ (w1 := ?_) (by rfl) rfl ?_ ?_
     rotate_left
     ·go_simp
      rfl
     refine hK.out _ _ trivial (fun hHeld => ?_)
     clear hK K
     refine done_ (done_of HT_.out (by kernel_rfl)) ?_
     have hnb28 := NB170_166.out
     have hnc28 := NB166_170.out
     obtain ⟨hcz29_0, hcz29_1, hfz29_0, hfz29_1⟩ := b2 BK170
     try go_wp2_with (first | ((with_reducible refine gate_callee (f := 114) rfl ?_); refine gl 28 Try.func114 #[.agg #[.int .i64 (wrap64 (Int.tdiv a0 (wrap64 (-t169)))), .int .i64 (wrap64 (Int.tdiv a1 (wrap64 (-t169))))]] ?_; (with_reducible refine (spec_raGood.calls k (wrap64 (Int.tdiv a0 (wrap64 (-t169)))) (wrap64 (Int.tdiv a1 (wrap64 (-t169)))) false _ A11.out).mono ?_); rintro e w30 ⟨rfl, hb⟩; refine ⟨_, rfl, ?_⟩; replace BK166 := Aside0.mk (blk_below (g := gb166) (o := .cells #[.int .i64 0, .int .i64 0] 28 (0, 0)) (by (with_reducible repeat (first | refine blk_drewN ?_ _ | refine blk_drew ?_ | refine blk_alloc ?_ _)); refine blk_far ?_ NB166_170.out _; (with_reducible repeat (first | refine blk_drewN ?_ _ | refine blk_drew ?_ | refine blk_alloc ?_ _)); refine blk_far ?_ NB166_170.out _; (with_reducible repeat (first | refine blk_drewN ?_ _ | refine blk_drew ?_ | refine blk_alloc ?_ _)); exact BK166.out) hb); replace BK170 := Aside0.mk (blk_below (g := gb170) (o := .cells #[.int .i64 (wrap64 (Int.tdiv a0 (wrap64 (-t169)))), .int .i64 (wrap64 (Int.tdiv a1 (wrap64 (-t169))))] 28 (0, 0)) (by (with_reducible repeat (first | refine blk_drewN ?_ _ | refine blk_drew ?_ | refine blk_alloc ?_ _)); refine blk_put (cs := #[.int .i64 (wrap64 (Int.tdiv a0 (wrap64 (-t169)))), .int .i64 0]) ?_ 1 _ rfl; (with_reducible repeat (first | refine blk_drewN ?_ _ | refine blk_drew ?_ | refine blk_alloc ?_ _)); refine blk_put (cs := #[.int .i64 0, .int .i64 0]) ?_ 0 _ rfl; (with_reducible repeat (first | refine blk_drewN ?_ _ | refine blk_drew ?_ | refine blk_alloc ?_ _)); exact BK170.out) hb); replace HB := kh hb; (try clear hb); (try clear hb2); (try clear hk); (try clear hi); obtain ⟨hcz31_0, hcz31_1, hfz31_0, hfz31_1⟩ := b2 BK166))
     refine bodyPost_ret (results_ct rfl _ _ gb166 28 #[.int .i64 0, .int .i64 0] (0, 0) _ rfl (by (with_reducible repeat (first | refine blk_drewN ?_ _ | refine blk_drew ?_ | refine blk_alloc ?_ _)); refine blk_put (cs := #[.int .i64 0, .int .i64 0]) ?_ 1 _ rfl; (with_reducible repeat (first | refine blk_drewN ?_ _ | refine blk_drew ?_ | refine blk_alloc ?_ _)); refine blk_put (cs := #[.int .i64 0, .int .i64 0]) ?_ 0 _ rfl; (with_reducible repeat (first | refine blk_drewN ?_ _ | refine blk_drew ?_ | refine blk_alloc ?_ _)); exact BK166.out) Try.underlying28 rfl (by kernel_rfl)) rfl ?_
     exact ⟨rt, bl⟩
  ·rw [if_neg c9] at H
   have c9b0 : decide (a1 < 0) = false := decide_eq_false c9
   clear c9
   by_cases c32 : t169 = 0
   ·rw [if_pos c32] at H
    exact absurd H (by simp)
   ·rw [if_neg c32] at H
    have c32b0 : (t169 == 0) = false := beq_eq_false_iff_ne.mpr c32
    have c32b1 : (t169 != 0) = true := bne_iff_ne.mpr c32
    replace H := Option.bind_eq_some_iff.mp H
    obtain ⟨t173, A330, H⟩ := H
    replace H : (if t173 = true then (some (wrap64 (Int.tdiv a0 t169), wrap64 (Int.tdiv a1 t169), true)) else (some (0, 0, false))) = some (r1, r2, r3) := H
    have A33 := Aside0.mk A330
    clear A330
    by_cases c34 : t173 = true
    ·subst c34
     have H1 : (some (wrap64 (Int.tdiv a0 t169), wrap64 (Int.tdiv a1 t169), true)) = some (r1, r2, r3) := by rw [if_pos rfl] at H; exact H
     clear H
     have H := H1
     clear H1
     simp only [Option.some.injEq, Prod.mk.injEq] at H
     obtain ⟨rfl, rfl, rfl⟩ := H
     go_enter Try.func125, Try.ntmps125
     try go_wp2_with (first | ((with_reducible refine gate_dst (N := 4) rfl ?_); refine bx 4 #[.int .i64 0, .int .i64 0] 28 ?_; intro gb166 hg w35 hbox hb; have BK166 := Aside0.mk (hbox); have GW166 := Aside0.mk (bz hg); have GE166 := GW166; replace HB := kh hb; clear hb hbox hg) | ((with_reducible refine gate_callee (f := 46) rfl ?_); refine gl 12 Try.func46 #[.int .i64 a0] ?_; (with_reducible refine (spec_l1Abs.calls a0 t167 _ A6.out).mono ?_); rintro e w' ⟨rfl, ⟨nd, rfl⟩⟩; refine ⟨_, rfl, ?_⟩; (try (rw [drewN_self w35]; generalize hq_ : World.drewN w35 _ = w35; have n0_ : Aside0 (w35.heap[gb166]? = some (.cells #[.int .i64 0, .int .i64 0] 28 (0, 0))) := ⟨by rw [← hq_]; exact (bo gb166)⟩; have n1_ : Aside0 (Below w.heap.size w w35) := ⟨by rw [← hq_]; exact bl⟩; clear BK166 HB hq_; have BK166 := n0_; have HB := n1_; clear n0_ n1_))) | ((with_reducible refine gate_callee (f := 46) rfl ?_); refine gl 14 Try.func46 #[.int .i64 a1] ?_; (with_reducible refine (spec_l1Abs.calls a1 t168 _ A7.out).mono ?_); rintro e w' ⟨rfl, ⟨nd, rfl⟩⟩; refine ⟨_, rfl, ?_⟩; (try (rw [drewN_self w35]; generalize hq_ : World.drewN w35 _ = w35; have n0_ : Aside0 (w35.heap[gb166]? = some (.cells #[.int .i64 0, .int .i64 0] 28 (0, 0))) := ⟨by rw [← hq_]; exact (bo gb166)⟩; have n1_ : Aside0 (Below w.heap.size w w35) := ⟨by rw [← hq_]; exact bl⟩; clear BK166 HB hq_; have BK166 := n0_; have HB := n1_; clear n0_ n1_))) | ((with_reducible refine gate_callee (f := 134) rfl ?_); refine gl 15 Try.func134 #[.int .i64 t167, .int .i64 t168] ?_; (with_reducible refine (spec_raCommon.calls k t167 t168 t169 _ A8.out).mono ?_); rintro e w' ⟨rfl, ⟨nd, rfl⟩⟩; refine ⟨_, rfl, ?_⟩; (try (rw [drewN_self w35]; generalize hq_ : World.drewN w35 _ = w35; have n0_ : Aside0 (w35.heap[gb166]? = some (.cells #[.int .i64 0, .int .i64 0] 28 (0, 0))) := ⟨by rw [← hq_]; exact (bo gb166)⟩; have n1_ : Aside0 (Below w.heap.size w w35) := ⟨by rw [← hq_]; exact bl⟩; clear BK166 HB hq_; have BK166 := n0_; have HB := n1_; clear n0_ n1_))))
     replace BK166 := Aside0.mk (blk_drew BK166.out)
     replace HB := Aside0.mk (below_drew1 HB.out)
     refine start_ (n := 9) (S := fun w' => True) (ds := []) (tb 0 9) (by kernel_rfl) rfl rfl trivial (fun hHeld => ?_); refine with_tabW spec_raMake.tab6 spec_raMake.bits6 (fun HT_ HW_ => ?_)
     generalize w35.drew = w36 at BK166 HB hHeld ⊢
     refine pu 0 20 (tb 1 8) ?_
     refine pu 1 21 (tb 2 7) ?_
     refine pu 2 22 (tb 3 6) ?_
     refine pu 3 23 (tb 4 5) ?_
     refine pu 4 24 (tb 5 4) ?_
     refine pu 5 25 (tb 6 3) ?_
     refine pu 6 26 (tb 7 2) ?_
     refine on 7 7 (tb 8 1) (fun K hK => ?_)
     refine box_step ?hg (N := 7) ?hd (cs := #[.int .i64 0, .int .i64 0]) (t := 28) ?hr ?_; (case hd => rfl); (case hg => rfl); (case hr => first | (go_simp; done) | (go_simp; rfl))
     intro gb172 hg w37 hbox hb
     have BK172 := Aside0.mk (hbox)
     have GW172 := Aside0.mk (bz hg)
     have GE172 := GW172
     have NB166_172 := Aside0.mk (bn gb166 hg)
     have NB172_166 := sy NB166_172
     replace BK166 := kb BK166 hb
     replace HB := kh hb
     clear hb hbox hg
     refine hK.out _ _ trivial (fun hHeld => ?_)
     clear hK K
     refine nm 7 ?_
     refine one_ (i := 8) (N := none) (tb 9 0) rfl rfl (one_of HT_.out (by kernel_rfl)) (by decide) (fun K hK => ?_)
     have hs38 : w37.cell? ⟨gb172, 0, none⟩ = some (.int .i64 0) := (blk_cell BK172.out 0).trans rfl
     have hfs38 := blk_frozen BK172.out 0
     have hns38_0 := NB166_172.out
     have hms38_0 := NB172_166.out
     have hs39 : w37.cell? ⟨gb172, 1, none⟩ = some (.int .i64 0) := (blk_cell BK172.out 1).trans rfl
     have hfs39 := blk_frozen BK172.out 1
     have hns39_0 := NB166_172.out
     have hms39_0 := NB172_166.out
     refine skip_ (w1 := ?_) (by rfl) rfl ?_ ?_
     rotate_left
     ·go_simp
      rfl
     refine hK.out _ _ trivial (fun hHeld => ?_)
     clear hK K
     refine done_ (done_of HT_.out (by kernel_rfl)) ?_
     have hnb40 := NB172_166.out
     have hnc40 := NB166_172.out
     obtain ⟨hcz41_0, hcz41_1, hfz41_0, hfz41_1⟩ := b2 BK172
     try go_wp2_with (first | ((with_reducible refine gate_callee (f := 114) rfl ?_); refine gl 28 Try.func114 #[.agg #[.int .i64 (wrap64 (Int.tdiv a0 t169)), .int .i64 (wrap64 (Int.tdiv a1 t169))]] ?_; (with_reducible refine (spec_raGood.calls k (wrap64 (Int.tdiv a0 t169)) (wrap64 (Int.tdiv a1 t169)) true _ A33.out).mono ?_); rintro e w42 ⟨rfl, hb⟩; refine ⟨_, rfl, ?_⟩; replace BK166 := Aside0.mk (blk_below (g := gb166) (o := .cells #[.int .i64 0, .int .i64 0] 28 (0, 0)) (by (with_reducible repeat (first | refine blk_drewN ?_ _ | refine blk_drew ?_ | refine blk_alloc ?_ _)); refine blk_far ?_ NB166_172.out _; (with_reducible repeat (first | refine blk_drewN ?_ _ | refine blk_drew ?_ | refine blk_alloc ?_ _)); refine blk_far ?_ NB166_172.out _; (with_reducible repeat (first | refine blk_drewN ?_ _ | refine blk_drew ?_ | refine blk_alloc ?_ _)); exact BK166.out) hb); replace BK172 := Aside0.mk (blk_below (g := gb172) (o := .cells #[.int .i64 (wrap64 (Int.tdiv a0 t169)), .int .i64 (wrap64 (Int.tdiv a1 t169))] 28 (0, 0)) (by (with_reducible repeat (first | refine blk_drewN ?_ _ | refine blk_drew ?_ | refine blk_alloc ?_ _)); refine blk_put (cs := #[.int .i64 (wrap64 (Int.tdiv a0 t169)), .int .i64 0]) ?_ 1 _ rfl; (with_reducible repeat (first | refine blk_drewN ?_ _ | refine blk_drew ?_ | refine blk_alloc ?_ _)); refine blk_put (cs := #[.int .i64 0, .int .i64 0]) ?_ 0 _ rfl; (with_reducible repeat (first | refine blk_drewN ?_ _ | refine blk_drew ?_ | refine blk_alloc ?_ _)); exact BK172.out) hb); replace HB := kh hb; (try clear hb); (try clear hb2); (try clear hk); (try clear hi); obtain ⟨hcz43_0, hcz43_1, hfz43_0, hfz43_1⟩ := b2 BK172; obtain ⟨hcz44_0, hcz44_1, hfz44_0, hfz44_1⟩ := b2 BK166))
     refine bodyPost_ret (results_ct rfl _ _ gb166 28 #[.int .i64 (wrap64 (Int.tdiv a0 t169)), .int .i64 (wrap64 (Int.tdiv a1 t169))] (0, 0) _ rfl (by (with_reducible repeat (first | refine blk_drewN ?_ _ | refine blk_drew ?_ | refine blk_alloc ?_ _)); refine blk_put (cs := #[.int .i64 (wrap64 (Int.tdiv a0 t169)), .int .i64 0]) ?_ 1 _ rfl; (with_reducible repeat (first | refine blk_drewN ?_ _ | refine blk_drew ?_ | refine blk_alloc ?_ _)); refine blk_put (cs := #[.int .i64 0, .int .i64 0]) ?_ 0 _ rfl; (with_reducible repeat (first | refine blk_drewN ?_ _ | refine blk_drew ?_ | refine blk_alloc ?_ _)); exact BK166.out) Try.underlying28 rfl (by kernel_rfl)) rfl ?_
     exact ⟨rt, bl⟩
    ·replace c34 := Bool.eq_false_iff.mpr c34
     subst c34
     have H1 : (some (0, 0, false)) = some (r1, r2, r3) := by rw [if_neg (show ¬ (false = true) by decide)] at H; exact H
     clear H
     have H := H1
     clear H1
     simp only [Option.some.injEq, Prod.mk.injEq] at H
     obtain ⟨rfl, rfl, rfl⟩ := H
     go_enter Try.func125, Try.ntmps125
     try go_wp2_with (first | ((with_reducible refine gate_dst (N := 4) rfl ?_); refine bx 4 #[.int .i64 0, .int .i64 0] 28 ?_; intro gb166 hg w45 hbox hb; have BK166 := Aside0.mk (hbox); have GW166 := Aside0.mk (bz hg); have GE166 := GW166; replace HB := kh hb; clear hb hbox hg) | ((with_reducible refine gate_callee (f := 46) rfl ?_); refine gl 12 Try.func46 #[.int .i64 a0] ?_; (with_reducible refine (spec_l1Abs.calls a0 t167 _ A6.out).mono ?_); rintro e w' ⟨rfl, ⟨nd, rfl⟩⟩; refine ⟨_, rfl, ?_⟩; (try (rw [drewN_self w45]; generalize hq_ : World.drewN w45 _ = w45; have n0_ : Aside0 (w45.heap[gb166]? = some (.cells #[.int .i64 0, .int .i64 0] 28 (0, 0))) := ⟨by rw [← hq_]; exact (bo gb166)⟩; have n1_ : Aside0 (Below w.heap.size w w45) := ⟨by rw [← hq_]; exact bl⟩; clear BK166 HB hq_; have BK166 := n0_; have HB := n1_; clear n0_ n1_))) | ((with_reducible refine gate_callee (f := 46) rfl ?_); refine gl 14 Try.func46 #[.int .i64 a1] ?_; (with_reducible refine (spec_l1Abs.calls a1 t168 _ A7.out).mono ?_); rintro e w' ⟨rfl, ⟨nd, rfl⟩⟩; refine ⟨_, rfl, ?_⟩; (try (rw [drewN_self w45]; generalize hq_ : World.drewN w45 _ = w45; have n0_ : Aside0 (w45.heap[gb166]? = some (.cells #[.int .i64 0, .int .i64 0] 28 (0, 0))) := ⟨by rw [← hq_]; exact (bo gb166)⟩; have n1_ : Aside0 (Below w.heap.size w w45) := ⟨by rw [← hq_]; exact bl⟩; clear BK166 HB hq_; have BK166 := n0_; have HB := n1_; clear n0_ n1_))) | ((with_reducible refine gate_callee (f := 134) rfl ?_); refine gl 15 Try.func134 #[.int .i64 t167, .int .i64 t168] ?_; (with_reducible refine (spec_raCommon.calls k t167 t168 t169 _ A8.out).mono ?_); rintro e w' ⟨rfl, ⟨nd, rfl⟩⟩; refine ⟨_, rfl, ?_⟩; (try (rw [drewN_self w45]; generalize hq_ : World.drewN w45 _ = w45; have n0_ : Aside0 (w45.heap[gb166]? = some (.cells #[.int .i64 0, .int .i64 0] 28 (0, 0))) := ⟨by rw [← hq_]; exact (bo gb166)⟩; have n1_ : Aside0 (Below w.heap.size w w45) := ⟨by rw [← hq_]; exact bl⟩; clear BK166 HB hq_; have BK166 := n0_; have HB := n1_; clear n0_ n1_))))
     replace BK166 := Aside0.mk (blk_drew BK166.out)
     replace HB := Aside0.mk (below_drew1 HB.out)
     refine start_ (n := 9) (S := fun w' => True) (ds := []) (tb 0 9) (by kernel_rfl) rfl rfl trivial (fun hHeld => ?_); refine with_tabW spec_raMake.tab6 spec_raMake.bits6 (fun HT_ HW_ => ?_)
     generalize w45.drew = w46 at BK166 HB hHeld ⊢
     refine pu 0 20 (tb 1 8) ?_
     refine pu 1 21 (tb 2 7) ?_
     refine pu 2 22 (tb 3 6) ?_
     refine pu 3 23 (tb 4 5) ?_
     refine pu 4 24 (tb 5 4) ?_
     refine pu 5 25 (tb 6 3) ?_
     refine pu 6 26 (tb 7 2) ?_
     refine on 7 7 (tb 8 1) (fun K hK => ?_)
     refine box_step ?hg (N := 7) ?hd (cs := #[.int .i64 0, .int .i64 0]) (t := 28) ?hr ?_; (case hd => rfl); (case hg => rfl); (case hr => first | (go_simp; done) | (go_simp; rfl))
     intro gb172 hg w47 hbox hb
     have BK172 := Aside0.mk (hbox)
     have GW172 := Aside0.mk (bz hg)
     have GE172 := GW172
     have NB166_172 := Aside0.mk (bn gb166 hg)
     have NB172_166 := sy NB166_172
     replace BK166 := kb BK166 hb
     replace HB := kh hb
     clear hb hbox hg
     refine hK.out _ _ trivial (fun hHeld => ?_)
     clear hK K
     refine nm 7 ?_
     refine one_ (i := 8) (N := none) (tb 9 0) rfl rfl (one_of HT_.out (by kernel_rfl)) (by decide) (fun K hK => ?_)
     have hs48 : w47.cell? ⟨gb172, 0, none⟩ = some (.int .i64 0) := (blk_cell BK172.out 0).trans rfl
     have hfs48 := blk_frozen BK172.out 0
     have hns48_0 := NB166_172.out
     have hms48_0 := NB172_166.out
     have hs49 : w47.cell? ⟨gb172, 1, none⟩ = some (.int .i64 0) := (blk_cell BK172.out 1).trans rfl
     have hfs49 := blk_frozen BK172.out 1
     have hns49_0 := NB166_172.out
     have hms49_0 := NB172_166.out
     refine skip_ (w1 := ?_) (by rfl) rfl ?_ ?_
     rotate_left
     ·go_simp
      rfl
     refine hK.out _ _ trivial (fun hHeld => ?_)
     clear hK K
     refine done_ (done_of HT_.out (by kernel_rfl)) ?_
     have hnb50 := NB172_166.out
     have hnc50 := NB166_172.out
     obtain ⟨hcz51_0, hcz51_1, hfz51_0, hfz51_1⟩ := b2 BK172
     try go_wp2_with (first | ((with_reducible refine gate_callee (f := 114) rfl ?_); refine gl 28 Try.func114 #[.agg #[.int .i64 (wrap64 (Int.tdiv a0 t169)), .int .i64 (wrap64 (Int.tdiv a1 t169))]] ?_; (with_reducible refine (spec_raGood.calls k (wrap64 (Int.tdiv a0 t169)) (wrap64 (Int.tdiv a1 t169)) false _ A33.out).mono ?_); rintro e w52 ⟨rfl, hb⟩; refine ⟨_, rfl, ?_⟩; replace BK166 := Aside0.mk (blk_below (g := gb166) (o := .cells #[.int .i64 0, .int .i64 0] 28 (0, 0)) (by (with_reducible repeat (first | refine blk_drewN ?_ _ | refine blk_drew ?_ | refine blk_alloc ?_ _)); refine blk_far ?_ NB166_172.out _; (with_reducible repeat (first | refine blk_drewN ?_ _ | refine blk_drew ?_ | refine blk_alloc ?_ _)); refine blk_far ?_ NB166_172.out _; (with_reducible repeat (first | refine blk_drewN ?_ _ | refine blk_drew ?_ | refine blk_alloc ?_ _)); exact BK166.out) hb); replace BK172 := Aside0.mk (blk_below (g := gb172) (o := .cells #[.int .i64 (wrap64 (Int.tdiv a0 t169)), .int .i64 (wrap64 (Int.tdiv a1 t169))] 28 (0, 0)) (by (with_reducible repeat (first | refine blk_drewN ?_ _ | refine blk_drew ?_ | refine blk_alloc ?_ _)); refine blk_put (cs := #[.int .i64 (wrap64 (Int.tdiv a0 t169)), .int .i64 0]) ?_ 1 _ rfl; (with_reducible repeat (first | refine blk_drewN ?_ _ | refine blk_drew ?_ | refine blk_alloc ?_ _)); refine blk_put (cs := #[.int .i64 0, .int .i64 0]) ?_ 0 _ rfl; (with_reducible repeat (first | refine blk_drewN ?_ _ | refine blk_drew ?_ | refine blk_alloc ?_ _)); exact BK172.out) hb); replace HB := kh hb; (try clear hb); (try clear hb2); (try clear hk); (try clear hi); obtain ⟨hcz53_0, hcz53_1, hfz53_0, hfz53_1⟩ := b2 BK166))
     refine bodyPost_ret (results_ct rfl _ _ gb166 28 #[.int .i64 0, .int .i64 0] (0, 0) _ rfl (by (with_reducible repeat (first | refine blk_drewN ?_ _ | refine blk_drew ?_ | refine blk_alloc ?_ _)); refine blk_put (cs := #[.int .i64 0, .int .i64 0]) ?_ 1 _ rfl; (with_reducible repeat (first | refine blk_drewN ?_ _ | refine blk_drew ?_ | refine blk_alloc ?_ _)); refine blk_put (cs := #[.int .i64 0, .int .i64 0]) ?_ 0 _ rfl; (with_reducible repeat (first | refine blk_drewN ?_ _ | refine blk_drew ?_ | refine blk_alloc ?_ _)); exact BK166.out) Try.underlying28 rfl (by kernel_rfl)) rfl ?_
     exact ⟨rt, bl⟩

/-! ### spec_raSub: function 101 -/
def spec_raSub.f (k : Nat) (a0_0 : Int) (a0_1 : Int) (a1_0 : Int) (a1_1 : Int) : Option (Int × Int × Bool) := (spec_raMake.f k (wrap64 ((wrap64 (a0_0 * a1_1)) - (wrap64 (a1_0 * a0_1)))) (wrap64 (a0_1 * a1_1))).bind fun bt177 => (some (bt177.1, bt177.2.1, bt177.2.2))
set_option maxHeartbeats 8000000 in
set_option maxRecDepth 100000 in
theorem spec_raSub.calls (k : Nat) (a0_0 : Int) (a0_1 : Int) (a1_0 : Int) (a1_1 : Int) (r1 : Int) (r2 : Int) (r3 : Bool) (w : World) (h : spec_raSub.f k a0_0 a0_1 a1_0 a1_1 = some (r1, r2, r3)) :
  Calls Try.prog 101 #[.agg #[.int .i64 a0_0, .int .i64 a0_1], .agg #[.int .i64 a1_0, .int .i64 a1_1]] w fun e w' => e = .returned (.tuple #[.agg #[.int .i64 r1, .int .i64 r2], .bool r3]) ∧ Below w.heap.size w w' := by
 have hu28 := Try.underlying28
 have HB := Aside0.mk (Below.refl w.heap.size w)
 have H : ((spec_raMake.f k (wrap64 ((wrap64 (a0_0 * a1_1)) - (wrap64 (a1_0 * a0_1)))) (wrap64 (a0_1 * a1_1))).bind fun bt177 => (some (bt177.1, bt177.2.1, bt177.2.2))) = some (r1, r2, r3) := h
 clear h
 replace H := Option.bind_eq_some_iff.mp H
 obtain ⟨⟨t177, t178, t179⟩, A30, H⟩ := H
 replace H : (some (t177, t178, t179)) = some (r1, r2, r3) := H
 have A3 := Aside0.mk A30
 clear A30
 simp only [Option.some.injEq, Prod.mk.injEq] at H
 obtain ⟨rfl, rfl, rfl⟩ := H
 go_enter Try.func101, Try.ntmps101
 go_wp2_with (first | ((with_reducible refine gate_dst (N := 2) rfl ?_); refine bx 2 #[.int .i64 a0_0, .int .i64 a0_1] 28 ?_; intro gb174 hg w4 hbox hb; have BK174 := Aside0.mk (hbox); have GW174 := Aside0.mk (bz hg); have GE174 := GW174; replace HB := kh hb; clear hb hbox hg) | ((with_reducible refine gate_dst (N := 3) rfl ?_); refine bx 3 #[.int .i64 a1_0, .int .i64 a1_1] 28 ?_; intro gb175 hg w5 hbox hb; have BK175 := Aside0.mk (hbox); have GW175 := Aside0.mk (bz hg); have GE175 := GW175; have NB174_175 := Aside0.mk (bn gb174 hg); have NB175_174 := sy NB174_175; replace BK174 := kb BK174 hb; replace HB := kh hb; clear hb hbox hg) | ((with_reducible refine gate_dst (N := 4) rfl ?_); refine bx 4 #[.int .i64 0, .int .i64 0] 28 ?_; intro gb176 hg w6 hbox hb; have BK176 := Aside0.mk (hbox); have GW176 := Aside0.mk (bz hg); have GE176 := GW176; have NB174_176 := Aside0.mk (bn gb174 hg); have NB176_174 := sy NB174_176; have NB175_176 := Aside0.mk (bn gb175 hg); have NB176_175 := sy NB175_176; replace BK174 := kb BK174 hb; replace BK175 := kb BK175 hb; replace HB := kh hb; clear hb hbox hg; have hnb7 := NB174_175.out; have hnc7 := NB175_174.out; have hnb8 := NB174_176.out; have hnc8 := NB176_174.out; obtain ⟨hcz9_0, hcz9_1, hfz9_0, hfz9_1⟩ := b2 BK174; have hnb10 := NB175_176.out; have hnc10 := NB176_175.out; obtain ⟨hcz11_0, hcz11_1, hfz11_0, hfz11_1⟩ := b2 BK175) | ((with_reducible refine gate_callee (f := 125) rfl ?_); refine gl 22 Try.func125 #[.int .i64 (wrap64 ((wrap64 (a0_0 * a1_1)) - (wrap64 (a1_0 * a0_1)))), .int .i64 (wrap64 (a0_1 * a1_1))] ?_; (with_reducible refine (spec_raMake.calls k (wrap64 ((wrap64 (a0_0 * a1_1)) - (wrap64 (a1_0 * a0_1)))) (wrap64 (a0_1 * a1_1)) t177 t178 t179 _ A3.out).mono ?_); rintro e w12 ⟨rfl, hb⟩; refine ⟨_, rfl, ?_⟩; replace BK174 := kb BK174 hb; replace BK175 := kb BK175 hb; replace BK176 := kb BK176 hb; replace HB := kh hb; (try clear hb); (try clear hb2); (try clear hk); (try clear hi); obtain ⟨hcz13_0, hcz13_1, hfz13_0, hfz13_1⟩ := b2 BK176))
 refine bodyPost_ret (results_ct rfl _ _ gb176 28 #[.int .i64 t177, .int .i64 t178] (0, 0) _ rfl (by (with_reducible repeat (first | refine blk_drewN ?_ _ | refine blk_drew ?_ | refine blk_alloc ?_ _)); refine blk_put (cs := #[.int .i64 t177, .int .i64 0]) ?_ 1 _ rfl; (with_reducible repeat (first | refine blk_drewN ?_ _ | refine blk_drew ?_ | refine blk_alloc ?_ _)); refine blk_put (cs := #[.int .i64 0, .int .i64 0]) ?_ 0 _ rfl; (with_reducible repeat (first | refine blk_drewN ?_ _ | refine blk_drew ?_ | refine blk_alloc ?_ _)); exact BK176.out) Try.underlying28 rfl (by kernel_rfl)) rfl ?_
 exact ⟨rt, bl⟩

/-! ### spec_raDiv: function 122 -/
def spec_raDiv.f (k : Nat) (a0_0 : Int) (a0_1 : Int) (a1_0 : Int) (a1_1 : Int) : Option (Int × Int × Bool) := if a1_0 = 0 then (some (0, 0, false)) else ((spec_raMake.f k (wrap64 (a0_0 * a1_1)) (wrap64 (a0_1 * a1_0))).bind fun bt183 => (some (bt183.1, bt183.2.1, bt183.2.2)))
set_option maxHeartbeats 8000000 in
set_option maxRecDepth 100000 in
theorem spec_raDiv.calls (k : Nat) (a0_0 : Int) (a0_1 : Int) (a1_0 : Int) (a1_1 : Int) (r1 : Int) (r2 : Int) (r3 : Bool) (w : World) (h : spec_raDiv.f k a0_0 a0_1 a1_0 a1_1 = some (r1, r2, r3)) :
  Calls Try.prog 122 #[.agg #[.int .i64 a0_0, .int .i64 a0_1], .agg #[.int .i64 a1_0, .int .i64 a1_1]] w fun e w' => e = .returned (.tuple #[.agg #[.int .i64 r1, .int .i64 r2], .bool r3]) ∧ Below w.heap.size w w' := by
 have hu28 := Try.underlying28
 have HB := Aside0.mk (Below.refl w.heap.size w)
 have H : (if a1_0 = 0 then (some (0, 0, false)) else ((spec_raMake.f k (wrap64 (a0_0 * a1_1)) (wrap64 (a0_1 * a1_0))).bind fun bt183 => (some (bt183.1, bt183.2.1, bt183.2.2)))) = some (r1, r2, r3) := h
 clear h
 by_cases c3 : a1_0 = 0
 ·rw [if_pos c3] at H
  have c3b0 : (a1_0 == 0) = true := beq_iff_eq.mpr c3
  have c3b1 : (a1_0 != 0) = false := bne_eq_false_iff_eq.mpr c3
  clear c3
  simp only [Option.some.injEq, Prod.mk.injEq] at H
  obtain ⟨rfl, rfl, rfl⟩ := H
  go_enter Try.func122, Try.ntmps122
  go_wp2_with (first | ((with_reducible refine gate_dst (N := 2) rfl ?_); refine bx 2 #[.int .i64 a0_0, .int .i64 a0_1] 28 ?_; intro gb180 hg w4 hbox hb; have BK180 := Aside0.mk (hbox); have GW180 := Aside0.mk (bz hg); have GE180 := GW180; replace HB := kh hb; clear hb hbox hg) | ((with_reducible refine gate_dst (N := 3) rfl ?_); refine bx 3 #[.int .i64 a1_0, .int .i64 a1_1] 28 ?_; intro gb181 hg w5 hbox hb; have BK181 := Aside0.mk (hbox); have GW181 := Aside0.mk (bz hg); have GE181 := GW181; have NB180_181 := Aside0.mk (bn gb180 hg); have NB181_180 := sy NB180_181; replace BK180 := kb BK180 hb; replace HB := kh hb; clear hb hbox hg) | ((with_reducible refine gate_dst (N := 4) rfl ?_); refine bx 4 #[.int .i64 0, .int .i64 0] 28 ?_; intro gb182 hg w6 hbox hb; have BK182 := Aside0.mk (hbox); have GW182 := Aside0.mk (bz hg); have GE182 := GW182; have NB180_182 := Aside0.mk (bn gb180 hg); have NB182_180 := sy NB180_182; have NB181_182 := Aside0.mk (bn gb181 hg); have NB182_181 := sy NB181_182; replace BK180 := kb BK180 hb; replace BK181 := kb BK181 hb; replace HB := kh hb; clear hb hbox hg; have hnb7 := NB181_180.out; have hnc7 := NB180_181.out; have hnb8 := NB181_182.out; have hnc8 := NB182_181.out; obtain ⟨hcz9_0, hcz9_1, hfz9_0, hfz9_1⟩ := b2 BK181; have hnb10 := NB182_180.out; have hnc10 := NB180_182.out; obtain ⟨hcz11_0, hcz11_1, hfz11_0, hfz11_1⟩ := b2 BK182))
  refine bodyPost_ret (results_ct rfl _ _ gb182 28 #[.int .i64 0, .int .i64 0] (0, 0) _ rfl (by (with_reducible repeat (first | refine blk_drewN ?_ _ | refine blk_drew ?_ | refine blk_alloc ?_ _)); refine blk_put (cs := #[.int .i64 0, .int .i64 0]) ?_ 1 _ rfl; (with_reducible repeat (first | refine blk_drewN ?_ _ | refine blk_drew ?_ | refine blk_alloc ?_ _)); refine blk_put (cs := #[.int .i64 0, .int .i64 0]) ?_ 0 _ rfl; (with_reducible repeat (first | refine blk_drewN ?_ _ | refine blk_drew ?_ | refine blk_alloc ?_ _)); exact BK182.out) Try.underlying28 rfl (by kernel_rfl)) rfl ?_
  exact ⟨rt, bl⟩
 ·rw [if_neg c3] at H
  have c3b0 : (a1_0 == 0) = false := beq_eq_false_iff_ne.mpr c3
  have c3b1 : (a1_0 != 0) = true := bne_iff_ne.mpr c3
  replace H := Option.bind_eq_some_iff.mp H
  obtain ⟨⟨t183, t184, t185⟩, A120, H⟩ := H
  replace H : (some (t183, t184, t185)) = some (r1, r2, r3) := H
  have A12 := Aside0.mk A120
  clear A120
  simp only [Option.some.injEq, Prod.mk.injEq] at H
  obtain ⟨rfl, rfl, rfl⟩ := H
  go_enter Try.func122, Try.ntmps122
  go_wp2_with (first | ((with_reducible refine gate_dst (N := 2) rfl ?_); refine bx 2 #[.int .i64 a0_0, .int .i64 a0_1] 28 ?_; intro gb180 hg w13 hbox hb; have BK180 := Aside0.mk (hbox); have GW180 := Aside0.mk (bz hg); have GE180 := GW180; replace HB := kh hb; clear hb hbox hg) | ((with_reducible refine gate_dst (N := 3) rfl ?_); refine bx 3 #[.int .i64 a1_0, .int .i64 a1_1] 28 ?_; intro gb181 hg w14 hbox hb; have BK181 := Aside0.mk (hbox); have GW181 := Aside0.mk (bz hg); have GE181 := GW181; have NB180_181 := Aside0.mk (bn gb180 hg); have NB181_180 := sy NB180_181; replace BK180 := kb BK180 hb; replace HB := kh hb; clear hb hbox hg) | ((with_reducible refine gate_dst (N := 4) rfl ?_); refine bx 4 #[.int .i64 0, .int .i64 0] 28 ?_; intro gb182 hg w15 hbox hb; have BK182 := Aside0.mk (hbox); have GW182 := Aside0.mk (bz hg); have GE182 := GW182; have NB180_182 := Aside0.mk (bn gb180 hg); have NB182_180 := sy NB180_182; have NB181_182 := Aside0.mk (bn gb181 hg); have NB182_181 := sy NB181_182; replace BK180 := kb BK180 hb; replace BK181 := kb BK181 hb; replace HB := kh hb; clear hb hbox hg; have hnb16 := NB181_180.out; have hnc16 := NB180_181.out; have hnb17 := NB181_182.out; have hnc17 := NB182_181.out; obtain ⟨hcz18_0, hcz18_1, hfz18_0, hfz18_1⟩ := b2 BK181; have hnb19 := NB180_182.out; have hnc19 := NB182_180.out; obtain ⟨hcz20_0, hcz20_1, hfz20_0, hfz20_1⟩ := b2 BK180) | ((with_reducible refine gate_callee (f := 125) rfl ?_); refine gl 20 Try.func125 #[.int .i64 (wrap64 (a0_0 * a1_1)), .int .i64 (wrap64 (a0_1 * a1_0))] ?_; (with_reducible refine (spec_raMake.calls k (wrap64 (a0_0 * a1_1)) (wrap64 (a0_1 * a1_0)) t183 t184 t185 _ A12.out).mono ?_); rintro e w21 ⟨rfl, hb⟩; refine ⟨_, rfl, ?_⟩; replace BK180 := kb BK180 hb; replace BK181 := kb BK181 hb; replace BK182 := kb BK182 hb; replace HB := kh hb; (try clear hb); (try clear hb2); (try clear hk); (try clear hi); obtain ⟨hcz22_0, hcz22_1, hfz22_0, hfz22_1⟩ := b2 BK182))
  refine bodyPost_ret (results_ct rfl _ _ gb182 28 #[.int .i64 t183, .int .i64 t184] (0, 0) _ rfl (by (with_reducible repeat (first | refine blk_drewN ?_ _ | refine blk_drew ?_ | refine blk_alloc ?_ _)); refine blk_put (cs := #[.int .i64 t183, .int .i64 0]) ?_ 1 _ rfl; (with_reducible repeat (first | refine blk_drewN ?_ _ | refine blk_drew ?_ | refine blk_alloc ?_ _)); refine blk_put (cs := #[.int .i64 0, .int .i64 0]) ?_ 0 _ rfl; (with_reducible repeat (first | refine blk_drewN ?_ _ | refine blk_drew ?_ | refine blk_alloc ?_ _)); exact BK182.out) Try.underlying28 rfl (by kernel_rfl)) rfl ?_
  exact ⟨rt, bl⟩

/-! ### spec_imSlope: function 84 -/
def spec_imSlope.f (k : Nat) (a0_0 : Int) (a0_1 : Int) (a0_2 : Int) (a0_3 : Int) (a1_0 : Int) (a1_1 : Int) (a1_2 : Int) (a1_3 : Int) : Option (Int × Int) := (spec_raSub.f k a1_2 a1_3 a0_2 a0_3).bind fun bt189 => ((spec_raSub.f k a1_0 a1_1 a0_0 a0_1).bind fun bt193 => ((spec_raDiv.f k bt189.1 bt189.2.1 bt193.1 bt193.2.1).bind fun bt197 => (some (bt197.1, bt197.2.1))))
set_option maxHeartbeats 8000000 in
set_option maxRecDepth 100000 in
theorem spec_imSlope.calls (k : Nat) (a0_0 : Int) (a0_1 : Int) (a0_2 : Int) (a0_3 : Int) (a1_0 : Int) (a1_1 : Int) (a1_2 : Int) (a1_3 : Int) (r1 : Int) (r2 : Int) (w : World) (h : spec_imSlope.f k a0_0 a0_1 a0_2 a0_3 a1_0 a1_1 a1_2 a1_3 = some (r1, r2)) :
  Calls Try.prog 84 #[.agg #[.int .i64 a0_0, .int .i64 a0_1, .int .i64 a0_2, .int .i64 a0_3], .agg #[.int .i64 a1_0, .int .i64 a1_1, .int .i64 a1_2, .int .i64 a1_3]] w fun e w' => e = .returned (.agg #[.int .i64 r1, .int .i64 r2]) ∧ Below w.heap.size w w' := by
 have hu68 := Try.underlying68
 have hu28 := Try.underlying28
 have HB := Aside0.mk (Below.refl w.heap.size w)
 have H : ((spec_raSub.f k a1_2 a1_3 a0_2 a0_3).bind fun bt189 => ((spec_raSub.f k a1_0 a1_1 a0_0 a0_1).bind fun bt193 => ((spec_raDiv.f k bt189.1 bt189.2.1 bt193.1 bt193.2.1).bind fun bt197 => (some (bt197.1, bt197.2.1))))) = some (r1, r2) := h
 clear h
 replace H := Option.bind_eq_some_iff.mp H
 obtain ⟨⟨t189, t190, t191⟩, A30, H⟩ := H
 replace H : ((spec_raSub.f k a1_0 a1_1 a0_0 a0_1).bind fun bt193 => ((spec_raDiv.f k t189 t190 bt193.1 bt193.2.1).bind fun bt197 => (some (bt197.1, bt197.2.1)))) = some (r1, r2) := H
 have A3 := Aside0.mk A30
 clear A30
 replace H := Option.bind_eq_some_iff.mp H
 obtain ⟨⟨t193, t194, t195⟩, A40, H⟩ := H
 replace H : ((spec_raDiv.f k t189 t190 t193 t194).bind fun bt197 => (some (bt197.1, bt197.2.1))) = some (r1, r2) := H
 have A4 := Aside0.mk A40
 clear A40
 replace H := Option.bind_eq_some_iff.mp H
 obtain ⟨⟨t197, t198, t199⟩, A50, H⟩ := H
 replace H : (some (t197, t198)) = some (r1, r2) := H
 have A5 := Aside0.mk A50
 clear A50
 simp only [Option.some.injEq, Prod.mk.injEq] at H
 obtain ⟨rfl, rfl⟩ := H
 go_enter Try.func84, Try.ntmps84
 go_wp2_with (first | ((with_reducible refine gate_dst (N := 2) rfl ?_); refine bx 2 #[.int .i64 a0_0, .int .i64 a0_1, .int .i64 a0_2, .int .i64 a0_3] 68 ?_; intro gb186 hg w6 hbox hb; have BK186 := Aside0.mk (hbox); have GW186 := Aside0.mk (bz hg); have GE186 := GW186; replace HB := kh hb; clear hb hbox hg) | ((with_reducible refine gate_dst (N := 3) rfl ?_); refine bx 3 #[.int .i64 a1_0, .int .i64 a1_1, .int .i64 a1_2, .int .i64 a1_3] 68 ?_; intro gb187 hg w7 hbox hb; have BK187 := Aside0.mk (hbox); have GW187 := Aside0.mk (bz hg); have GE187 := GW187; have NB186_187 := Aside0.mk (bn gb186 hg); have NB187_186 := sy NB186_187; replace BK186 := kb BK186 hb; replace HB := kh hb; clear hb hbox hg) | ((with_reducible refine gate_dst (N := 4) rfl ?_); refine bx 4 #[.int .i64 0, .int .i64 0] 28 ?_; intro gb188 hg w8 hbox hb; have BK188 := Aside0.mk (hbox); have GW188 := Aside0.mk (bz hg); have GE188 := GW188; have NB186_188 := Aside0.mk (bn gb186 hg); have NB188_186 := sy NB186_188; have NB187_188 := Aside0.mk (bn gb187 hg); have NB188_187 := sy NB187_188; replace BK186 := kb BK186 hb; replace BK187 := kb BK187 hb; replace HB := kh hb; clear hb hbox hg; have hnb9 := NB187_186.out; have hnc9 := NB186_187.out; have hnb10 := NB187_188.out; have hnc10 := NB188_187.out; obtain ⟨hcz11_0, hcz11_1, hcz11_2, hcz11_3, hfz11_0, hfz11_1, hfz11_2, hfz11_3⟩ := b4 BK187; have hnb12 := NB186_188.out; have hnc12 := NB188_186.out; obtain ⟨hcz13_0, hcz13_1, hcz13_2, hcz13_3, hfz13_0, hfz13_1, hfz13_2, hfz13_3⟩ := b4 BK186) | ((with_reducible refine gate_callee (f := 101) rfl ?_); refine gl 16 Try.func101 #[.agg #[.int .i64 a1_2, .int .i64 a1_3], .agg #[.int .i64 a0_2, .int .i64 a0_3]] ?_; (with_reducible refine (spec_raSub.calls k a1_2 a1_3 a0_2 a0_3 t189 t190 t191 _ A3.out).mono ?_); rintro e w14 ⟨rfl, hb⟩; refine ⟨_, rfl, ?_⟩; replace BK186 := kb BK186 hb; replace BK187 := kb BK187 hb; replace BK188 := kb BK188 hb; replace HB := kh hb; (try clear hb); (try clear hb2); (try clear hk); (try clear hi)) | ((with_reducible refine gate_dst (N := 5) rfl ?_); refine bx 5 #[.int .i64 0, .int .i64 0] 28 ?_; intro gb192 hg w15 hbox hb; have BK192 := Aside0.mk (hbox); have GW192 := Aside0.mk (bz hg); have GE192 := GW192; have NB186_192 := Aside0.mk (bn gb186 hg); have NB192_186 := sy NB186_192; have NB187_192 := Aside0.mk (bn gb187 hg); have NB192_187 := sy NB187_192; have NB188_192 := Aside0.mk (bn gb188 hg); have NB192_188 := sy NB188_192; replace BK186 := kb BK186 hb; replace BK187 := kb BK187 hb; replace BK188 := kb BK188 hb; replace HB := kh hb; clear hb hbox hg; have hnb16 := NB192_186.out; have hnc16 := NB186_192.out; have hnb17 := NB192_187.out; have hnc17 := NB187_192.out; have hnb18 := NB192_188.out; have hnc18 := NB188_192.out; obtain ⟨hcz19_0, hcz19_1, hfz19_0, hfz19_1⟩ := b2 BK192; obtain ⟨hcz20_0, hcz20_1, hcz20_2, hcz20_3, hfz20_0, hfz20_1, hfz20_2, hfz20_3⟩ := b4 BK187; obtain ⟨hcz21_0, hcz21_1, hcz21_2, hcz21_3, hfz21_0, hfz21_1, hfz21_2, hfz21_3⟩ := b4 BK186) | ((with_reducible refine gate_callee (f := 101) rfl ?_); refine gl 24 Try.func101 #[.agg #[.int .i64 a1_0, .int .i64 a1_1], .agg #[.int .i64 a0_0, .int .i64 a0_1]] ?_; (with_reducible refine (spec_raSub.calls k a1_0 a1_1 a0_0 a0_1 t193 t194 t195 _ A4.out).mono ?_); rintro e w22 ⟨rfl, hb⟩; refine ⟨_, rfl, ?_⟩; replace BK186 := Aside0.mk (blk_below (g := gb186) (o := .cells #[.int .i64 a0_0, .int .i64 a0_1, .int .i64 a0_2, .int .i64 a0_3] 68 (0, 0)) (by (with_reducible repeat (first | refine blk_drewN ?_ _ | refine blk_drew ?_ | refine blk_alloc ?_ _)); refine blk_far ?_ NB186_192.out _; (with_reducible repeat (first | refine blk_drewN ?_ _ | refine blk_drew ?_ | refine blk_alloc ?_ _)); refine blk_far ?_ NB186_192.out _; (with_reducible repeat (first | refine blk_drewN ?_ _ | refine blk_drew ?_ | refine blk_alloc ?_ _)); exact BK186.out) hb); replace BK187 := Aside0.mk (blk_below (g := gb187) (o := .cells #[.int .i64 a1_0, .int .i64 a1_1, .int .i64 a1_2, .int .i64 a1_3] 68 (0, 0)) (by (with_reducible repeat (first | refine blk_drewN ?_ _ | refine blk_drew ?_ | refine blk_alloc ?_ _)); refine blk_far ?_ NB187_192.out _; (with_reducible repeat (first | refine blk_drewN ?_ _ | refine blk_drew ?_ | refine blk_alloc ?_ _)); refine blk_far ?_ NB187_192.out _; (with_reducible repeat (first | refine blk_drewN ?_ _ | refine blk_drew ?_ | refine blk_alloc ?_ _)); exact BK187.out) hb); replace BK188 := Aside0.mk (blk_below (g := gb188) (o := .cells #[.int .i64 0, .int .i64 0] 28 (0, 0)) (by (with_reducible repeat (first | refine blk_drewN ?_ _ | refine blk_drew ?_ | refine blk_alloc ?_ _)); refine blk_far ?_ NB188_192.out _; (with_reducible repeat (first | refine blk_drewN ?_ _ | refine blk_drew ?_ | refine blk_alloc ?_ _)); refine blk_far ?_ NB188_192.out _; (with_reducible repeat (first | refine blk_drewN ?_ _ | refine blk_drew ?_ | refine blk_alloc ?_ _)); exact BK188.out) hb); replace BK192 := Aside0.mk (blk_below (g := gb192) (o := .cells #[.int .i64 t189, .int .i64 t190] 28 (0, 0)) (by (with_reducible repeat (first | refine blk_drewN ?_ _ | refine blk_drew ?_ | refine blk_alloc ?_ _)); refine blk_put (cs := #[.int .i64 t189, .int .i64 0]) ?_ 1 _ rfl; (with_reducible repeat (first | refine blk_drewN ?_ _ | refine blk_drew ?_ | refine blk_alloc ?_ _)); refine blk_put (cs := #[.int .i64 0, .int .i64 0]) ?_ 0 _ rfl; (with_reducible repeat (first | refine blk_drewN ?_ _ | refine blk_drew ?_ | refine blk_alloc ?_ _)); exact BK192.out) hb); replace HB := kh hb; (try clear hb); (try clear hb2); (try clear hk); (try clear hi)) | ((with_reducible refine gate_dst (N := 7) rfl ?_); refine bx 7 #[.int .i64 0, .int .i64 0] 28 ?_; intro gb196 hg w23 hbox hb; have BK196 := Aside0.mk (hbox); have GW196 := Aside0.mk (bz hg); have GE196 := GW196; have NB186_196 := Aside0.mk (bn gb186 hg); have NB196_186 := sy NB186_196; have NB187_196 := Aside0.mk (bn gb187 hg); have NB196_187 := sy NB187_196; have NB188_196 := Aside0.mk (bn gb188 hg); have NB196_188 := sy NB188_196; have NB192_196 := Aside0.mk (bn gb192 hg); have NB196_192 := sy NB192_196; replace BK186 := kb BK186 hb; replace BK187 := kb BK187 hb; replace BK188 := kb BK188 hb; replace BK192 := kb BK192 hb; replace HB := kh hb; clear hb hbox hg; have hnb24 := NB196_186.out; have hnc24 := NB186_196.out; have hnb25 := NB196_187.out; have hnc25 := NB187_196.out; have hnb26 := NB196_188.out; have hnc26 := NB188_196.out; have hnb27 := NB196_192.out; have hnc27 := NB192_196.out; obtain ⟨hcz28_0, hcz28_1, hfz28_0, hfz28_1⟩ := b2 BK196; obtain ⟨hcz29_0, hcz29_1, hfz29_0, hfz29_1⟩ := b2 BK192) | ((with_reducible refine gate_callee (f := 122) rfl ?_); refine gl 30 Try.func122 #[.agg #[.int .i64 t189, .int .i64 t190], .agg #[.int .i64 t193, .int .i64 t194]] ?_; (with_reducible refine (spec_raDiv.calls k t189 t190 t193 t194 t197 t198 t199 _ A5.out).mono ?_); rintro e w30 ⟨rfl, hb⟩; refine ⟨_, rfl, ?_⟩; replace BK186 := Aside0.mk (blk_below (g := gb186) (o := .cells #[.int .i64 a0_0, .int .i64 a0_1, .int .i64 a0_2, .int .i64 a0_3] 68 (0, 0)) (by (with_reducible repeat (first | refine blk_drewN ?_ _ | refine blk_drew ?_ | refine blk_alloc ?_ _)); refine blk_far ?_ NB186_196.out _; (with_reducible repeat (first | refine blk_drewN ?_ _ | refine blk_drew ?_ | refine blk_alloc ?_ _)); refine blk_far ?_ NB186_196.out _; (with_reducible repeat (first | refine blk_drewN ?_ _ | refine blk_drew ?_ | refine blk_alloc ?_ _)); exact BK186.out) hb); replace BK187 := Aside0.mk (blk_below (g := gb187) (o := .cells #[.int .i64 a1_0, .int .i64 a1_1, .int .i64 a1_2, .int .i64 a1_3] 68 (0, 0)) (by (with_reducible repeat (first | refine blk_drewN ?_ _ | refine blk_drew ?_ | refine blk_alloc ?_ _)); refine blk_far ?_ NB187_196.out _; (with_reducible repeat (first | refine blk_drewN ?_ _ | refine blk_drew ?_ | refine blk_alloc ?_ _)); refine blk_far ?_ NB187_196.out _; (with_reducible repeat (first | refine blk_drewN ?_ _ | refine blk_drew ?_ | refine blk_alloc ?_ _)); exact BK187.out) hb); replace BK188 := Aside0.mk (blk_below (g := gb188) (o := .cells #[.int .i64 0, .int .i64 0] 28 (0, 0)) (by (with_reducible repeat (first | refine blk_drewN ?_ _ | refine blk_drew ?_ | refine blk_alloc ?_ _)); refine blk_far ?_ NB188_196.out _; (with_reducible repeat (first | refine blk_drewN ?_ _ | refine blk_drew ?_ | refine blk_alloc ?_ _)); refine blk_far ?_ NB188_196.out _; (with_reducible repeat (first | refine blk_drewN ?_ _ | refine blk_drew ?_ | refine blk_alloc ?_ _)); exact BK188.out) hb); replace BK192 := Aside0.mk (blk_below (g := gb192) (o := .cells #[.int .i64 t189, .int .i64 t190] 28 (0, 0)) (by (with_reducible repeat (first | refine blk_drewN ?_ _ | refine blk_drew ?_ | refine blk_alloc ?_ _)); refine blk_far ?_ NB192_196.out _; (with_reducible repeat (first | refine blk_drewN ?_ _ | refine blk_drew ?_ | refine blk_alloc ?_ _)); refine blk_far ?_ NB192_196.out _; (with_reducible repeat (first | refine blk_drewN ?_ _ | refine blk_drew ?_ | refine blk_alloc ?_ _)); exact BK192.out) hb); replace BK196 := Aside0.mk (blk_below (g := gb196) (o := .cells #[.int .i64 t193, .int .i64 t194] 28 (0, 0)) (by (with_reducible repeat (first | refine blk_drewN ?_ _ | refine blk_drew ?_ | refine blk_alloc ?_ _)); refine blk_put (cs := #[.int .i64 t193, .int .i64 0]) ?_ 1 _ rfl; (with_reducible repeat (first | refine blk_drewN ?_ _ | refine blk_drew ?_ | refine blk_alloc ?_ _)); refine blk_put (cs := #[.int .i64 0, .int .i64 0]) ?_ 0 _ rfl; (with_reducible repeat (first | refine blk_drewN ?_ _ | refine blk_drew ?_ | refine blk_alloc ?_ _)); exact BK196.out) hb); replace HB := kh hb; (try clear hb); (try clear hb2); (try clear hk); (try clear hi)) | ((with_reducible refine gate_dst (N := 9) rfl ?_); refine bx 9 #[.int .i64 0, .int .i64 0] 28 ?_; intro gb200 hg w31 hbox hb; have BK200 := Aside0.mk (hbox); have GW200 := Aside0.mk (bz hg); have GE200 := GW200; have NB186_200 := Aside0.mk (bn gb186 hg); have NB200_186 := sy NB186_200; have NB187_200 := Aside0.mk (bn gb187 hg); have NB200_187 := sy NB187_200; have NB188_200 := Aside0.mk (bn gb188 hg); have NB200_188 := sy NB188_200; have NB192_200 := Aside0.mk (bn gb192 hg); have NB200_192 := sy NB192_200; have NB196_200 := Aside0.mk (bn gb196 hg); have NB200_196 := sy NB196_200; replace BK186 := kb BK186 hb; replace BK187 := kb BK187 hb; replace BK188 := kb BK188 hb; replace BK192 := kb BK192 hb; replace BK196 := kb BK196 hb; replace HB := kh hb; clear hb hbox hg; have hnb32 := NB200_186.out; have hnc32 := NB186_200.out; have hnb33 := NB200_187.out; have hnc33 := NB187_200.out; have hnb34 := NB200_188.out; have hnc34 := NB188_200.out; have hnb35 := NB200_192.out; have hnc35 := NB192_200.out; have hnb36 := NB200_196.out; have hnc36 := NB196_200.out; obtain ⟨hcz37_0, hcz37_1, hfz37_0, hfz37_1⟩ := b2 BK200; obtain ⟨hcz38_0, hcz38_1, hfz38_0, hfz38_1⟩ := b2 BK188))
 refine bodyPost_ret (results_cell_row rfl _ _ gb188 28 #[.int .i64 t197, .int .i64 t198] (0, 0) _ rfl (by (with_reducible repeat (first | refine blk_drewN ?_ _ | refine blk_drew ?_ | refine blk_alloc ?_ _)); refine blk_put (cs := #[.int .i64 t197, .int .i64 0]) ?_ 1 _ rfl; (with_reducible repeat (first | refine blk_drewN ?_ _ | refine blk_drew ?_ | refine blk_alloc ?_ _)); refine blk_put (cs := #[.int .i64 0, .int .i64 0]) ?_ 0 _ rfl; (with_reducible repeat (first | refine blk_drewN ?_ _ | refine blk_drew ?_ | refine blk_alloc ?_ _)); refine blk_far ?_ NB188_200.out _; (with_reducible repeat (first | refine blk_drewN ?_ _ | refine blk_drew ?_ | refine blk_alloc ?_ _)); refine blk_far ?_ NB188_200.out _; (with_reducible repeat (first | refine blk_drewN ?_ _ | refine blk_drew ?_ | refine blk_alloc ?_ _)); exact BK188.out) Try.underlying28 rfl (by kernel_rfl)) rfl ?_
 exact ⟨rt, bl⟩

end Go.Proofs.Ytmecnnnagallnaa.PFnExactCompareWords
