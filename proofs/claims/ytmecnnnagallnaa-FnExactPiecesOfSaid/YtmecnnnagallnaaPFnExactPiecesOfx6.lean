-- Written by this session's program wip/pp (the kit's print tool with additions) 35421559b90ae4d0a3588c463048766b98c2df88dd9212a6774a882060cdf62d
import Derived.Test.YtmecnnnagallnaaPFnExactPiecesOfx0
import Derived.Test.YtmecnnnagallnaaPFnExactPiecesOfx3
namespace Go.Proofs.Ytmecnnnagallnaa.PFnExactPiecesOf
open Go.RowKit Go.Proofs.YtmecnnnagallnaaW.PrintWords Go.Proofs.YtmecnnnagallnaaW.PrintLast Go.Proofs.YtmecnnnagallnaaW.PrintMore
attribute [local go_sem] max2_int min2_int max_two min_two max_three min_three max_four min_four   -- for this text's walks alone
set_option linter.unusedVariables false
set_option linter.unusedSimpArgs false

/-! ### spec_raMake: function 125 -/
def spec_raMake.f (k : Nat) (a0 : Int) (a1 : Int) : Option (Int × Int × Bool) := if a1 = 0 then (some (0, 0, false)) else ((spec_l1Abs.f a0).bind fun t165 => ((spec_l1Abs.f a1).bind fun t166 => ((spec_raCommon.f k t165 t166).bind fun t167 => (if a1 < 0 then (if (wrap64 (-t167)) = 0 then (none) else ((spec_raGood.f k (wrap64 (Int.tdiv a0 (wrap64 (-t167)))) (wrap64 (Int.tdiv a1 (wrap64 (-t167))))).bind fun t169 => (if t169 = true then (some (wrap64 (Int.tdiv a0 (wrap64 (-t167))), wrap64 (Int.tdiv a1 (wrap64 (-t167))), true)) else (some (0, 0, false))))) else (if t167 = 0 then (none) else ((spec_raGood.f k (wrap64 (Int.tdiv a0 t167)) (wrap64 (Int.tdiv a1 t167))).bind fun t171 => (if t171 = true then (some (wrap64 (Int.tdiv a0 t167), wrap64 (Int.tdiv a1 t167), true)) else (some (0, 0, false)))))))))
def spec_raMake.T6 : Bool × List (List Nat × List Nat) := (true, [([], []), ([], []), ([0, 1], [0, 1]), ([], []), ([], []), ([3, 4], [3, 4]), ([2, 5], [2, 5]), ([], []), ([7, 6, 0, 1, 2, 3, 4, 5, 6, 7], [6, 7])])
def spec_raMake.B6 : List Nat := [0, 0, 3, 0, 0, 24, 63, 0, 255]
theorem spec_raMake.tab6 : rtab .any (opsOf Try.f125 6) = spec_raMake.T6 := by kernel_rfl
theorem spec_raMake.bits6 : waitsOk spec_raMake.T6.2 spec_raMake.B6 = true := by kernel_rfl
set_option maxHeartbeats 8000000 in
set_option maxRecDepth 100000 in
theorem spec_raMake.calls (k : Nat) (a0 : Int) (a1 : Int) (r1 : Int) (r2 : Int) (r3 : Bool) (w : World) (h : spec_raMake.f k a0 a1 = some (r1, r2, r3)) :
  Calls Try.prog 125 #[.int .i64 a0, .int .i64 a1] w fun e w' => e = .returned (.tuple #[.agg #[.int .i64 r1, .int .i64 r2], .bool r3]) ∧ Below w.heap.size w w' := by
 have hu28 := Try.underlying28
 have HB := Aside0.mk (Below.refl w.heap.size w)
 have H : (if a1 = 0 then (some (0, 0, false)) else ((spec_l1Abs.f a0).bind fun t165 => ((spec_l1Abs.f a1).bind fun t166 => ((spec_raCommon.f k t165 t166).bind fun t167 => (if a1 < 0 then (if (wrap64 (-t167)) = 0 then (none) else ((spec_raGood.f k (wrap64 (Int.tdiv a0 (wrap64 (-t167)))) (wrap64 (Int.tdiv a1 (wrap64 (-t167))))).bind fun t169 => (if t169 = true then (some (wrap64 (Int.tdiv a0 (wrap64 (-t167))), wrap64 (Int.tdiv a1 (wrap64 (-t167))), true)) else (some (0, 0, false))))) else (if t167 = 0 then (none) else ((spec_raGood.f k (wrap64 (Int.tdiv a0 t167)) (wrap64 (Int.tdiv a1 t167))).bind fun t171 => (if t171 = true then (some (wrap64 (Int.tdiv a0 t167), wrap64 (Int.tdiv a1 t167), true)) else (some (0, 0, false)))))))))) = some (r1, r2, r3) := h
 clear h
 by_cases c3 : a1 = 0
 ·rw [if_pos c3] at H
  have c3b0 : (a1 == 0) = true := beq_iff_eq.mpr c3
  have c3b1 : (a1 != 0) = false := bne_eq_false_iff_eq.mpr c3
  clear c3
  simp only [Option.some.injEq, Prod.mk.injEq] at H
  obtain ⟨rfl, rfl, rfl⟩ := H
  go_enter Try.func125, Try.ntmps125
  go_wp2_with (first | ((with_reducible refine gate_dst (N := 4) rfl ?_); refine bx 4 #[.int .i64 0, .int .i64 0] 28 ?_; intro gb164 hg w4 hbox hb; have BK164 := Aside0.mk (hbox); have GW164 := Aside0.mk (bz hg); have GE164 := GW164; replace HB := Aside0.mk (bs hb); clear hb hbox hg; have hcz5_0 : w4.cell? ⟨gb164, 0, none⟩ = some (.int .i64 0) := (blk_cell BK164.out 0).trans rfl; have hcz5_1 : w4.cell? ⟨gb164, 1, none⟩ = some (.int .i64 0) := (blk_cell BK164.out 1).trans rfl; have hfz5_0 := blk_frozen BK164.out 0; have hfz5_1 := blk_frozen BK164.out 1))
  refine bodyPost_ret (results_ct rfl _ _ gb164 28 #[.int .i64 0, .int .i64 0] (0, 0) _ rfl (by (with_reducible repeat (first | refine blk_drewN ?_ _ | refine blk_drew ?_ | refine blk_alloc ?_ _)); refine blk_put (cs := #[.int .i64 0, .int .i64 0]) ?_ 1 _ rfl; (with_reducible repeat (first | refine blk_drewN ?_ _ | refine blk_drew ?_ | refine blk_alloc ?_ _)); refine blk_put (cs := #[.int .i64 0, .int .i64 0]) ?_ 0 _ rfl; (with_reducible repeat (first | refine blk_drewN ?_ _ | refine blk_drew ?_ | refine blk_alloc ?_ _)); exact BK164.out) Try.underlying28 rfl (by kernel_rfl)) rfl ?_
  exact ⟨by first | rfl | (simp [errW_none, errW_some] <;> rfl) | (simp [*, errW_none, errW_some] <;> rfl), bl⟩
 ·rw [if_neg c3] at H
  have c3b0 : (a1 == 0) = false := beq_eq_false_iff_ne.mpr c3
  have c3b1 : (a1 != 0) = true := bne_iff_ne.mpr c3
  replace H := Option.bind_eq_some_iff.mp H
  obtain ⟨t165, A60, H⟩ := H
  replace H : ((spec_l1Abs.f a1).bind fun t166 => ((spec_raCommon.f k t165 t166).bind fun t167 => (if a1 < 0 then (if (wrap64 (-t167)) = 0 then (none) else ((spec_raGood.f k (wrap64 (Int.tdiv a0 (wrap64 (-t167)))) (wrap64 (Int.tdiv a1 (wrap64 (-t167))))).bind fun t169 => (if t169 = true then (some (wrap64 (Int.tdiv a0 (wrap64 (-t167))), wrap64 (Int.tdiv a1 (wrap64 (-t167))), true)) else (some (0, 0, false))))) else (if t167 = 0 then (none) else ((spec_raGood.f k (wrap64 (Int.tdiv a0 t167)) (wrap64 (Int.tdiv a1 t167))).bind fun t171 => (if t171 = true then (some (wrap64 (Int.tdiv a0 t167), wrap64 (Int.tdiv a1 t167), true)) else (some (0, 0, false)))))))) = some (r1, r2, r3) := H
  have A6 := Aside0.mk A60
  clear A60
  replace H := Option.bind_eq_some_iff.mp H
  obtain ⟨t166, A70, H⟩ := H
  replace H : ((spec_raCommon.f k t165 t166).bind fun t167 => (if a1 < 0 then (if (wrap64 (-t167)) = 0 then (none) else ((spec_raGood.f k (wrap64 (Int.tdiv a0 (wrap64 (-t167)))) (wrap64 (Int.tdiv a1 (wrap64 (-t167))))).bind fun t169 => (if t169 = true then (some (wrap64 (Int.tdiv a0 (wrap64 (-t167))), wrap64 (Int.tdiv a1 (wrap64 (-t167))), true)) else (some (0, 0, false))))) else (if t167 = 0 then (none) else ((spec_raGood.f k (wrap64 (Int.tdiv a0 t167)) (wrap64 (Int.tdiv a1 t167))).bind fun t171 => (if t171 = true then (some (wrap64 (Int.tdiv a0 t167), wrap64 (Int.tdiv a1 t167), true)) else (some (0, 0, false))))))) = some (r1, r2, r3) := H
  have A7 := Aside0.mk A70
  clear A70
  replace H := Option.bind_eq_some_iff.mp H
  obtain ⟨t167, A80, H⟩ := H
  replace H : (if a1 < 0 then (if (wrap64 (-t167)) = 0 then (none) else ((spec_raGood.f k (wrap64 (Int.tdiv a0 (wrap64 (-t167)))) (wrap64 (Int.tdiv a1 (wrap64 (-t167))))).bind fun t169 => (if t169 = true then (some (wrap64 (Int.tdiv a0 (wrap64 (-t167))), wrap64 (Int.tdiv a1 (wrap64 (-t167))), true)) else (some (0, 0, false))))) else (if t167 = 0 then (none) else ((spec_raGood.f k (wrap64 (Int.tdiv a0 t167)) (wrap64 (Int.tdiv a1 t167))).bind fun t171 => (if t171 = true then (some (wrap64 (Int.tdiv a0 t167), wrap64 (Int.tdiv a1 t167), true)) else (some (0, 0, false)))))) = some (r1, r2, r3) := H
  have A8 := Aside0.mk A80
  clear A80
  by_cases c9 : a1 < 0
  ·rw [if_pos c9] at H
   have c9b0 : decide (a1 < 0) = true := decide_eq_true c9
   clear c9
   by_cases c10 : (wrap64 (-t167)) = 0
   ·rw [if_pos c10] at H
    exact absurd H (by simp)
   ·rw [if_neg c10] at H
    have c10b0 : ((wrap64 (-t167)) == 0) = false := beq_eq_false_iff_ne.mpr c10
    have c10b1 : ((wrap64 (-t167)) != 0) = true := bne_iff_ne.mpr c10
    replace H := Option.bind_eq_some_iff.mp H
    obtain ⟨t169, A110, H⟩ := H
    replace H : (if t169 = true then (some (wrap64 (Int.tdiv a0 (wrap64 (-t167))), wrap64 (Int.tdiv a1 (wrap64 (-t167))), true)) else (some (0, 0, false))) = some (r1, r2, r3) := H
    have A11 := Aside0.mk A110
    clear A110
    by_cases c12 : t169 = true
    ·subst c12
     have H1 : (some (wrap64 (Int.tdiv a0 (wrap64 (-t167))), wrap64 (Int.tdiv a1 (wrap64 (-t167))), true)) = some (r1, r2, r3) := by rw [if_pos rfl] at H; exact H
     clear H
     have H := H1
     clear H1
     simp only [Option.some.injEq, Prod.mk.injEq] at H
     obtain ⟨rfl, rfl, rfl⟩ := H
     go_enter Try.func125, Try.ntmps125
     try go_wp2_with (first | ((with_reducible refine gate_dst (N := 4) rfl ?_); refine bx 4 #[.int .i64 0, .int .i64 0] 28 ?_; intro gb164 hg w13 hbox hb; have BK164 := Aside0.mk (hbox); have GW164 := Aside0.mk (bz hg); have GE164 := GW164; replace HB := Aside0.mk (bs hb); clear hb hbox hg) | ((with_reducible refine gate_callee (f := 46) rfl ?_); refine gl 12 Try.func46 #[.int .i64 a0] ?_; (with_reducible refine (spec_l1Abs.calls a0 t165 _ A6.out).mono ?_); rintro e w' ⟨rfl, ⟨nd, rfl⟩⟩; refine ⟨_, rfl, ?_⟩; (try (rw [drewN_self w13]; generalize hq_ : World.drewN w13 _ = w13; have n0_ : Aside0 (w13.heap[gb164]? = some (.cells #[.int .i64 0, .int .i64 0] 28 (0, 0))) := ⟨by rw [← hq_]; exact (bo gb164)⟩; have n1_ : Aside0 (Below w.heap.size w w13) := ⟨by rw [← hq_]; exact bl⟩; clear BK164 HB hq_; have BK164 := n0_; have HB := n1_; clear n0_ n1_))) | ((with_reducible refine gate_callee (f := 46) rfl ?_); refine gl 14 Try.func46 #[.int .i64 a1] ?_; (with_reducible refine (spec_l1Abs.calls a1 t166 _ A7.out).mono ?_); rintro e w' ⟨rfl, ⟨nd, rfl⟩⟩; refine ⟨_, rfl, ?_⟩; (try (rw [drewN_self w13]; generalize hq_ : World.drewN w13 _ = w13; have n0_ : Aside0 (w13.heap[gb164]? = some (.cells #[.int .i64 0, .int .i64 0] 28 (0, 0))) := ⟨by rw [← hq_]; exact (bo gb164)⟩; have n1_ : Aside0 (Below w.heap.size w w13) := ⟨by rw [← hq_]; exact bl⟩; clear BK164 HB hq_; have BK164 := n0_; have HB := n1_; clear n0_ n1_))) | ((with_reducible refine gate_callee (f := 134) rfl ?_); refine gl 15 Try.func134 #[.int .i64 t165, .int .i64 t166] ?_; (with_reducible refine (spec_raCommon.calls k t165 t166 t167 _ A8.out).mono ?_); rintro e w' ⟨rfl, ⟨nd, rfl⟩⟩; refine ⟨_, rfl, ?_⟩; (try (rw [drewN_self w13]; generalize hq_ : World.drewN w13 _ = w13; have n0_ : Aside0 (w13.heap[gb164]? = some (.cells #[.int .i64 0, .int .i64 0] 28 (0, 0))) := ⟨by rw [← hq_]; exact (bo gb164)⟩; have n1_ : Aside0 (Below w.heap.size w w13) := ⟨by rw [← hq_]; exact bl⟩; clear BK164 HB hq_; have BK164 := n0_; have HB := n1_; clear n0_ n1_))))
     replace BK164 := Aside0.mk (blk_drew BK164.out)
     replace HB := Aside0.mk (below_drew1 HB.out)
     refine start_ (n := 9) (S := fun w' => True) (ds := []) (tb 0 9) (by kernel_rfl) rfl rfl trivial (fun hHeld => ?_); refine with_tabW spec_raMake.tab6 spec_raMake.bits6 (fun HT_ HW_ => ?_)
     generalize w13.drew = w14 at BK164 HB hHeld ⊢
     refine pu 0 20 (tb 1 8) ?_
     refine pu 1 21 (tb 2 7) ?_
     refine pu 2 22 (tb 3 6) ?_
     refine pu 3 23 (tb 4 5) ?_
     refine pu 4 24 (tb 5 4) ?_
     refine pu 5 25 (tb 6 3) ?_
     refine pu 6 26 (tb 7 2) ?_
     refine on 7 7 (tb 8 1) (fun K hK => ?_)
     refine box_step ?hg (N := 7) ?hd (cs := #[.int .i64 0, .int .i64 0]) (t := 28) ?hr ?_; (case hd => rfl); (case hg => rfl); (case hr => first | (go_simp; done) | (go_simp; rfl))
     intro gb168 hg w15 hbox hb
     have BK168 := Aside0.mk (hbox)
     have GW168 := Aside0.mk (bz hg)
     have GE168 := GW168
     have NB164_168 := Aside0.mk (bn gb164 hg)
     have NB168_164 := Aside0.mk NB164_168.out.symm
     replace BK164 := Aside0.mk (bb gb164 hb)
     replace HB := Aside0.mk (bs hb)
     clear hb hbox hg
     refine hK.out _ _ trivial (fun hHeld => ?_)
     clear hK K
     refine nm 7 ?_
     refine one_ (i := 8) (N := none) (tb 9 0) rfl rfl (one_of HT_.out (by kernel_rfl)) (by decide) (fun K hK => ?_)
     have hs16 : w15.cell? ⟨gb168, 0, none⟩ = some (.int .i64 0) := (blk_cell BK168.out 0).trans rfl
     have hfs16 := blk_frozen BK168.out 0
     have hns16_0 := NB164_168.out
     have hms16_0 := NB168_164.out
     have hs17 : w15.cell? ⟨gb168, 1, none⟩ = some (.int .i64 0) := (blk_cell BK168.out 1).trans rfl
     have hfs17 := blk_frozen BK168.out 1
     have hns17_0 := NB164_168.out
     have hms17_0 := NB168_164.out
     refine skip_ (w1 := ?_) (by rfl) rfl ?_ ?_
     rotate_left
     ·go_simp
      rfl
     refine hK.out _ _ trivial (fun hHeld => ?_)
     clear hK K
     refine done_ (done_of HT_.out (by kernel_rfl)) ?_
     have hnb18 := NB168_164.out
     have hnc18 := NB164_168.out
     have hcz19_0 : w15.cell? ⟨gb168, 0, none⟩ = some (.int .i64 0) := (blk_cell BK168.out 0).trans rfl
     have hcz19_1 : w15.cell? ⟨gb168, 1, none⟩ = some (.int .i64 0) := (blk_cell BK168.out 1).trans rfl
     have hfz19_0 := blk_frozen BK168.out 0
     have hfz19_1 := blk_frozen BK168.out 1
     try go_wp2_with (first | ((with_reducible refine gate_callee (f := 114) rfl ?_); refine gl 28 Try.func114 #[.agg #[.int .i64 (wrap64 (Int.tdiv a0 (wrap64 (-t167)))), .int .i64 (wrap64 (Int.tdiv a1 (wrap64 (-t167))))]] ?_; (with_reducible refine (spec_raGood.calls k (wrap64 (Int.tdiv a0 (wrap64 (-t167)))) (wrap64 (Int.tdiv a1 (wrap64 (-t167)))) true _ A11.out).mono ?_); rintro e w20 ⟨rfl, hb⟩; refine ⟨_, rfl, ?_⟩; replace BK164 := Aside0.mk (blk_below (g := gb164) (o := .cells #[.int .i64 0, .int .i64 0] 28 (0, 0)) (by (with_reducible repeat (first | refine blk_drewN ?_ _ | refine blk_drew ?_ | refine blk_alloc ?_ _)); refine blk_far ?_ NB164_168.out _; (with_reducible repeat (first | refine blk_drewN ?_ _ | refine blk_drew ?_ | refine blk_alloc ?_ _)); refine blk_far ?_ NB164_168.out _; (with_reducible repeat (first | refine blk_drewN ?_ _ | refine blk_drew ?_ | refine blk_alloc ?_ _)); exact BK164.out) hb); replace BK168 := Aside0.mk (blk_below (g := gb168) (o := .cells #[.int .i64 (wrap64 (Int.tdiv a0 (wrap64 (-t167)))), .int .i64 (wrap64 (Int.tdiv a1 (wrap64 (-t167))))] 28 (0, 0)) (by (with_reducible repeat (first | refine blk_drewN ?_ _ | refine blk_drew ?_ | refine blk_alloc ?_ _)); refine blk_put (cs := #[.int .i64 (wrap64 (Int.tdiv a0 (wrap64 (-t167)))), .int .i64 0]) ?_ 1 _ rfl; (with_reducible repeat (first | refine blk_drewN ?_ _ | refine blk_drew ?_ | refine blk_alloc ?_ _)); refine blk_put (cs := #[.int .i64 0, .int .i64 0]) ?_ 0 _ rfl; (with_reducible repeat (first | refine blk_drewN ?_ _ | refine blk_drew ?_ | refine blk_alloc ?_ _)); exact BK168.out) hb); replace HB := Aside0.mk (bs hb); (try clear hb); (try clear hb2); (try clear hk); (try clear hi); have hcz21_0 : w20.cell? ⟨gb168, 0, none⟩ = some (.int .i64 (wrap64 (Int.tdiv a0 (wrap64 (-t167))))) := (blk_cell BK168.out 0).trans rfl; have hcz21_1 : w20.cell? ⟨gb168, 1, none⟩ = some (.int .i64 (wrap64 (Int.tdiv a1 (wrap64 (-t167))))) := (blk_cell BK168.out 1).trans rfl; have hfz21_0 := blk_frozen BK168.out 0; have hfz21_1 := blk_frozen BK168.out 1; have hcz22_0 : w20.cell? ⟨gb164, 0, none⟩ = some (.int .i64 0) := (blk_cell BK164.out 0).trans rfl; have hcz22_1 : w20.cell? ⟨gb164, 1, none⟩ = some (.int .i64 0) := (blk_cell BK164.out 1).trans rfl; have hfz22_0 := blk_frozen BK164.out 0; have hfz22_1 := blk_frozen BK164.out 1))
     refine bodyPost_ret (results_ct rfl _ _ gb164 28 #[.int .i64 (wrap64 (Int.tdiv a0 (wrap64 (-t167)))), .int .i64 (wrap64 (Int.tdiv a1 (wrap64 (-t167))))] (0, 0) _ rfl (by (with_reducible repeat (first | refine blk_drewN ?_ _ | refine blk_drew ?_ | refine blk_alloc ?_ _)); refine blk_put (cs := #[.int .i64 (wrap64 (Int.tdiv a0 (wrap64 (-t167)))), .int .i64 0]) ?_ 1 _ rfl; (with_reducible repeat (first | refine blk_drewN ?_ _ | refine blk_drew ?_ | refine blk_alloc ?_ _)); refine blk_put (cs := #[.int .i64 0, .int .i64 0]) ?_ 0 _ rfl; (with_reducible repeat (first | refine blk_drewN ?_ _ | refine blk_drew ?_ | refine blk_alloc ?_ _)); exact BK164.out) Try.underlying28 rfl (by kernel_rfl)) rfl ?_
     exact ⟨by first | rfl | (simp [errW_none, errW_some] <;> rfl) | (simp [*, errW_none, errW_some] <;> rfl), bl⟩
    ·replace c12 := Bool.eq_false_iff.mpr c12
     subst c12
     have H1 : (some (0, 0, false)) = some (r1, r2, r3) := by rw [if_neg (show ¬ (false = true) by decide)] at H; exact H
     clear H
     have H := H1
     clear H1
     simp only [Option.some.injEq, Prod.mk.injEq] at H
     obtain ⟨rfl, rfl, rfl⟩ := H
     go_enter Try.func125, Try.ntmps125
     try go_wp2_with (first | ((with_reducible refine gate_dst (N := 4) rfl ?_); refine bx 4 #[.int .i64 0, .int .i64 0] 28 ?_; intro gb164 hg w23 hbox hb; have BK164 := Aside0.mk (hbox); have GW164 := Aside0.mk (bz hg); have GE164 := GW164; replace HB := Aside0.mk (bs hb); clear hb hbox hg) | ((with_reducible refine gate_callee (f := 46) rfl ?_); refine gl 12 Try.func46 #[.int .i64 a0] ?_; (with_reducible refine (spec_l1Abs.calls a0 t165 _ A6.out).mono ?_); rintro e w' ⟨rfl, ⟨nd, rfl⟩⟩; refine ⟨_, rfl, ?_⟩; (try (rw [drewN_self w23]; generalize hq_ : World.drewN w23 _ = w23; have n0_ : Aside0 (w23.heap[gb164]? = some (.cells #[.int .i64 0, .int .i64 0] 28 (0, 0))) := ⟨by rw [← hq_]; exact (bo gb164)⟩; have n1_ : Aside0 (Below w.heap.size w w23) := ⟨by rw [← hq_]; exact bl⟩; clear BK164 HB hq_; have BK164 := n0_; have HB := n1_; clear n0_ n1_))) | ((with_reducible refine gate_callee (f := 46) rfl ?_); refine gl 14 Try.func46 #[.int .i64 a1] ?_; (with_reducible refine (spec_l1Abs.calls a1 t166 _ A7.out).mono ?_); rintro e w' ⟨rfl, ⟨nd, rfl⟩⟩; refine ⟨_, rfl, ?_⟩; (try (rw [drewN_self w23]; generalize hq_ : World.drewN w23 _ = w23; have n0_ : Aside0 (w23.heap[gb164]? = some (.cells #[.int .i64 0, .int .i64 0] 28 (0, 0))) := ⟨by rw [← hq_]; exact (bo gb164)⟩; have n1_ : Aside0 (Below w.heap.size w w23) := ⟨by rw [← hq_]; exact bl⟩; clear BK164 HB hq_; have BK164 := n0_; have HB := n1_; clear n0_ n1_))) | ((with_reducible refine gate_callee (f := 134) rfl ?_); refine gl 15 Try.func134 #[.int .i64 t165, .int .i64 t166] ?_; (with_reducible refine (spec_raCommon.calls k t165 t166 t167 _ A8.out).mono ?_); rintro e w' ⟨rfl, ⟨nd, rfl⟩⟩; refine ⟨_, rfl, ?_⟩; (try (rw [drewN_self w23]; generalize hq_ : World.drewN w23 _ = w23; have n0_ : Aside0 (w23.heap[gb164]? = some (.cells #[.int .i64 0, .int .i64 0] 28 (0, 0))) := ⟨by rw [← hq_]; exact (bo gb164)⟩; have n1_ : Aside0 (Below w.heap.size w w23) := ⟨by rw [← hq_]; exact bl⟩; clear BK164 HB hq_; have BK164 := n0_; have HB := n1_; clear n0_ n1_))))
     replace BK164 := Aside0.mk (blk_drew BK164.out)
     replace HB := Aside0.mk (below_drew1 HB.out)
     refine start_ (n := 9) (S := fun w' => True) (ds := []) (tb 0 9) (by kernel_rfl) rfl rfl trivial (fun hHeld => ?_); refine with_tabW spec_raMake.tab6 spec_raMake.bits6 (fun HT_ HW_ => ?_)
     generalize w23.drew = w24 at BK164 HB hHeld ⊢
     refine pu 0 20 (tb 1 8) ?_
     refine pu 1 21 (tb 2 7) ?_
     refine pu 2 22 (tb 3 6) ?_
     refine pu 3 23 (tb 4 5) ?_
     refine pu 4 24 (tb 5 4) ?_
     refine pu 5 25 (tb 6 3) ?_
     refine pu 6 26 (tb 7 2) ?_
     refine on 7 7 (tb 8 1) (fun K hK => ?_)
     refine box_step ?hg (N := 7) ?hd (cs := #[.int .i64 0, .int .i64 0]) (t := 28) ?hr ?_; (case hd => rfl); (case hg => rfl); (case hr => first | (go_simp; done) | (go_simp; rfl))
     intro gb168 hg w25 hbox hb
     have BK168 := Aside0.mk (hbox)
     have GW168 := Aside0.mk (bz hg)
     have GE168 := GW168
     have NB164_168 := Aside0.mk (bn gb164 hg)
     have NB168_164 := Aside0.mk NB164_168.out.symm
     replace BK164 := Aside0.mk (bb gb164 hb)
     replace HB := Aside0.mk (bs hb)
     clear hb hbox hg
     refine hK.out _ _ trivial (fun hHeld => ?_)
     clear hK K
     refine nm 7 ?_
     refine one_ (i := 8) (N := none) (tb 9 0) rfl rfl (one_of HT_.out (by kernel_rfl)) (by decide) (fun K hK => ?_)
     have hs26 : w25.cell? ⟨gb168, 0, none⟩ = some (.int .i64 0) := (blk_cell BK168.out 0).trans rfl
     have hfs26 := blk_frozen BK168.out 0
     have hns26_0 := NB164_168.out
     have hms26_0 := NB168_164.out
     have hs27 : w25.cell? ⟨gb168, 1, none⟩ = some (.int .i64 0) := (blk_cell BK168.out 1).trans rfl
     have hfs27 := blk_frozen BK168.out 1
     have hns27_0 := NB164_168.out
     have hms27_0 := NB168_164.out
     refine skip_ (w1 := ?_) (by rfl) rfl ?_ ?_
     rotate_left
     ·go_simp
      rfl
     refine hK.out _ _ trivial (fun hHeld => ?_)
     clear hK K
     refine done_ (done_of HT_.out (by kernel_rfl)) ?_
     have hnb28 := NB168_164.out
     have hnc28 := NB164_168.out
     have hcz29_0 : w25.cell? ⟨gb168, 0, none⟩ = some (.int .i64 0) := (blk_cell BK168.out 0).trans rfl
     have hcz29_1 : w25.cell? ⟨gb168, 1, none⟩ = some (.int .i64 0) := (blk_cell BK168.out 1).trans rfl
     have hfz29_0 := blk_frozen BK168.out 0
     have hfz29_1 := blk_frozen BK168.out 1
     try go_wp2_with (first | ((with_reducible refine gate_callee (f := 114) rfl ?_); refine gl 28 Try.func114 #[.agg #[.int .i64 (wrap64 (Int.tdiv a0 (wrap64 (-t167)))), .int .i64 (wrap64 (Int.tdiv a1 (wrap64 (-t167))))]] ?_; (with_reducible refine (spec_raGood.calls k (wrap64 (Int.tdiv a0 (wrap64 (-t167)))) (wrap64 (Int.tdiv a1 (wrap64 (-t167)))) false _ A11.out).mono ?_); rintro e w30 ⟨rfl, hb⟩; refine ⟨_, rfl, ?_⟩; replace BK164 := Aside0.mk (blk_below (g := gb164) (o := .cells #[.int .i64 0, .int .i64 0] 28 (0, 0)) (by (with_reducible repeat (first | refine blk_drewN ?_ _ | refine blk_drew ?_ | refine blk_alloc ?_ _)); refine blk_far ?_ NB164_168.out _; (with_reducible repeat (first | refine blk_drewN ?_ _ | refine blk_drew ?_ | refine blk_alloc ?_ _)); refine blk_far ?_ NB164_168.out _; (with_reducible repeat (first | refine blk_drewN ?_ _ | refine blk_drew ?_ | refine blk_alloc ?_ _)); exact BK164.out) hb); replace BK168 := Aside0.mk (blk_below (g := gb168) (o := .cells #[.int .i64 (wrap64 (Int.tdiv a0 (wrap64 (-t167)))), .int .i64 (wrap64 (Int.tdiv a1 (wrap64 (-t167))))] 28 (0, 0)) (by (with_reducible repeat (first | refine blk_drewN ?_ _ | refine blk_drew ?_ | refine blk_alloc ?_ _)); refine blk_put (cs := #[.int .i64 (wrap64 (Int.tdiv a0 (wrap64 (-t167)))), .int .i64 0]) ?_ 1 _ rfl; (with_reducible repeat (first | refine blk_drewN ?_ _ | refine blk_drew ?_ | refine blk_alloc ?_ _)); refine blk_put (cs := #[.int .i64 0, .int .i64 0]) ?_ 0 _ rfl; (with_reducible repeat (first | refine blk_drewN ?_ _ | refine blk_drew ?_ | refine blk_alloc ?_ _)); exact BK168.out) hb); replace HB := Aside0.mk (bs hb); (try clear hb); (try clear hb2); (try clear hk); (try clear hi); have hcz31_0 : w30.cell? ⟨gb164, 0, none⟩ = some (.int .i64 0) := (blk_cell BK164.out 0).trans rfl; have hcz31_1 : w30.cell? ⟨gb164, 1, none⟩ = some (.int .i64 0) := (blk_cell BK164.out 1).trans rfl; have hfz31_0 := blk_frozen BK164.out 0; have hfz31_1 := blk_frozen BK164.out 1))
     refine bodyPost_ret (results_ct rfl _ _ gb164 28 #[.int .i64 0, .int .i64 0] (0, 0) _ rfl (by (with_reducible repeat (first | refine blk_drewN ?_ _ | refine blk_drew ?_ | refine blk_alloc ?_ _)); refine blk_put (cs := #[.int .i64 0, .int .i64 0]) ?_ 1 _ rfl; (with_reducible repeat (first | refine blk_drewN ?_ _ | refine blk_drew ?_ | refine blk_alloc ?_ _)); refine blk_put (cs := #[.int .i64 0, .int .i64 0]) ?_ 0 _ rfl; (with_reducible repeat (first | refine blk_drewN ?_ _ | refine blk_drew ?_ | refine blk_alloc ?_ _)); exact BK164.out) Try.underlying28 rfl (by kernel_rfl)) rfl ?_
     exact ⟨by first | rfl | (simp [errW_none, errW_some] <;> rfl) | (simp [*, errW_none, errW_some] <;> rfl), bl⟩
  ·rw [if_neg c9] at H
   have c9b0 : decide (a1 < 0) = false := decide_eq_false c9
   clear c9
   by_cases c32 : t167 = 0
   ·rw [if_pos c32] at H
    exact absurd H (by simp)
   ·rw [if_neg c32] at H
    have c32b0 : (t167 == 0) = false := beq_eq_false_iff_ne.mpr c32
    have c32b1 : (t167 != 0) = true := bne_iff_ne.mpr c32
    replace H := Option.bind_eq_some_iff.mp H
    obtain ⟨t171, A330, H⟩ := H
    replace H : (if t171 = true then (some (wrap64 (Int.tdiv a0 t167), wrap64 (Int.tdiv a1 t167), true)) else (some (0, 0, false))) = some (r1, r2, r3) := H
    have A33 := Aside0.mk A330
    clear A330
    by_cases c34 : t171 = true
    ·subst c34
     have H1 : (some (wrap64 (Int.tdiv a0 t167), wrap64 (Int.tdiv a1 t167), true)) = some (r1, r2, r3) := by rw [if_pos rfl] at H; exact H
     clear H
     have H := H1
     clear H1
     simp only [Option.some.injEq, Prod.mk.injEq] at H
     obtain ⟨rfl, rfl, rfl⟩ := H
     go_enter Try.func125, Try.ntmps125
     try go_wp2_with (first | ((with_reducible refine gate_dst (N := 4) rfl ?_); refine bx 4 #[.int .i64 0, .int .i64 0] 28 ?_; intro gb164 hg w35 hbox hb; have BK164 := Aside0.mk (hbox); have GW164 := Aside0.mk (bz hg); have GE164 := GW164; replace HB := Aside0.mk (bs hb); clear hb hbox hg) | ((with_reducible refine gate_callee (f := 46) rfl ?_); refine gl 12 Try.func46 #[.int .i64 a0] ?_; (with_reducible refine (spec_l1Abs.calls a0 t165 _ A6.out).mono ?_); rintro e w' ⟨rfl, ⟨nd, rfl⟩⟩; refine ⟨_, rfl, ?_⟩; (try (rw [drewN_self w35]; generalize hq_ : World.drewN w35 _ = w35; have n0_ : Aside0 (w35.heap[gb164]? = some (.cells #[.int .i64 0, .int .i64 0] 28 (0, 0))) := ⟨by rw [← hq_]; exact (bo gb164)⟩; have n1_ : Aside0 (Below w.heap.size w w35) := ⟨by rw [← hq_]; exact bl⟩; clear BK164 HB hq_; have BK164 := n0_; have HB := n1_; clear n0_ n1_))) | ((with_reducible refine gate_callee (f := 46) rfl ?_); refine gl 14 Try.func46 #[.int .i64 a1] ?_; (with_reducible refine (spec_l1Abs.calls a1 t166 _ A7.out).mono ?_); rintro e w' ⟨rfl, ⟨nd, rfl⟩⟩; refine ⟨_, rfl, ?_⟩; (try (rw [drewN_self w35]; generalize hq_ : World.drewN w35 _ = w35; have n0_ : Aside0 (w35.heap[gb164]? = some (.cells #[.int .i64 0, .int .i64 0] 28 (0, 0))) := ⟨by rw [← hq_]; exact (bo gb164)⟩; have n1_ : Aside0 (Below w.heap.size w w35) := ⟨by rw [← hq_]; exact bl⟩; clear BK164 HB hq_; have BK164 := n0_; have HB := n1_; clear n0_ n1_))) | ((with_reducible refine gate_callee (f := 134) rfl ?_); refine gl 15 Try.func134 #[.int .i64 t165, .int .i64 t166] ?_; (with_reducible refine (spec_raCommon.calls k t165 t166 t167 _ A8.out).mono ?_); rintro e w' ⟨rfl, ⟨nd, rfl⟩⟩; refine ⟨_, rfl, ?_⟩; (try (rw [drewN_self w35]; generalize hq_ : World.drewN w35 _ = w35; have n0_ : Aside0 (w35.heap[gb164]? = some (.cells #[.int .i64 0, .int .i64 0] 28 (0, 0))) := ⟨by rw [← hq_]; exact (bo gb164)⟩; have n1_ : Aside0 (Below w.heap.size w w35) := ⟨by rw [← hq_]; exact bl⟩; clear BK164 HB hq_; have BK164 := n0_; have HB := n1_; clear n0_ n1_))))
     replace BK164 := Aside0.mk (blk_drew BK164.out)
     replace HB := Aside0.mk (below_drew1 HB.out)
     refine start_ (n := 9) (S := fun w' => True) (ds := []) (tb 0 9) (by kernel_rfl) rfl rfl trivial (fun hHeld => ?_); refine with_tabW spec_raMake.tab6 spec_raMake.bits6 (fun HT_ HW_ => ?_)
     generalize w35.drew = w36 at BK164 HB hHeld ⊢
     refine pu 0 20 (tb 1 8) ?_
     refine pu 1 21 (tb 2 7) ?_
     refine pu 2 22 (tb 3 6) ?_
     refine pu 3 23 (tb 4 5) ?_
     refine pu 4 24 (tb 5 4) ?_
     refine pu 5 25 (tb 6 3) ?_
     refine pu 6 26 (tb 7 2) ?_
     refine on 7 7 (tb 8 1) (fun K hK => ?_)
     refine box_step ?hg (N := 7) ?hd (cs := #[.int .i64 0, .int .i64 0]) (t := 28) ?hr ?_; (case hd => rfl); (case hg => rfl); (case hr => first | (go_simp; done) | (go_simp; rfl))
     intro gb170 hg w37 hbox hb
     have BK170 := Aside0.mk (hbox)
     have GW170 := Aside0.mk (bz hg)
     have GE170 := GW170
     have NB164_170 := Aside0.mk (bn gb164 hg)
     have NB170_164 := Aside0.mk NB164_170.out.symm
     replace BK164 := Aside0.mk (bb gb164 hb)
     replace HB := Aside0.mk (bs hb)
     clear hb hbox hg
     refine hK.out _ _ trivial (fun hHeld => ?_)
     clear hK K
     refine nm 7 ?_
     refine one_ (i := 8) (N := none) (tb 9 0) rfl rfl (one_of HT_.out (by kernel_rfl)) (by decide) (fun K hK => ?_)
     have hs38 : w37.cell? ⟨gb170, 0, none⟩ = some (.int .i64 0) := (blk_cell BK170.out 0).trans rfl
     have hfs38 := blk_frozen BK170.out 0
     have hns38_0 := NB164_170.out
     have hms38_0 := NB170_164.out
     have hs39 : w37.cell? ⟨gb170, 1, none⟩ = some (.int .i64 0) := (blk_cell BK170.out 1).trans rfl
     have hfs39 := blk_frozen BK170.out 1
     have hns39_0 := NB164_170.out
     have hms39_0 := NB170_164.out
     refine skip_ (w1 := ?_) (by rfl) rfl ?_ ?_
     rotate_left
     ·go_simp
      rfl
     refine hK.out _ _ trivial (fun hHeld => ?_)
     clear hK K
     refine done_ (done_of HT_.out (by kernel_rfl)) ?_
     have hnb40 := NB170_164.out
     have hnc40 := NB164_170.out
     have hcz41_0 : w37.cell? ⟨gb170, 0, none⟩ = some (.int .i64 0) := (blk_cell BK170.out 0).trans rfl
     have hcz41_1 : w37.cell? ⟨gb170, 1, none⟩ = some (.int .i64 0) := (blk_cell BK170.out 1).trans rfl
     have hfz41_0 := blk_frozen BK170.out 0
     have hfz41_1 := blk_frozen BK170.out 1
     try go_wp2_with (first | ((with_reducible refine gate_callee (f := 114) rfl ?_); refine gl 28 Try.func114 #[.agg #[.int .i64 (wrap64 (Int.tdiv a0 t167)), .int .i64 (wrap64 (Int.tdiv a1 t167))]] ?_; (with_reducible refine (spec_raGood.calls k (wrap64 (Int.tdiv a0 t167)) (wrap64 (Int.tdiv a1 t167)) true _ A33.out).mono ?_); rintro e w42 ⟨rfl, hb⟩; refine ⟨_, rfl, ?_⟩; replace BK164 := Aside0.mk (blk_below (g := gb164) (o := .cells #[.int .i64 0, .int .i64 0] 28 (0, 0)) (by (with_reducible repeat (first | refine blk_drewN ?_ _ | refine blk_drew ?_ | refine blk_alloc ?_ _)); refine blk_far ?_ NB164_170.out _; (with_reducible repeat (first | refine blk_drewN ?_ _ | refine blk_drew ?_ | refine blk_alloc ?_ _)); refine blk_far ?_ NB164_170.out _; (with_reducible repeat (first | refine blk_drewN ?_ _ | refine blk_drew ?_ | refine blk_alloc ?_ _)); exact BK164.out) hb); replace BK170 := Aside0.mk (blk_below (g := gb170) (o := .cells #[.int .i64 (wrap64 (Int.tdiv a0 t167)), .int .i64 (wrap64 (Int.tdiv a1 t167))] 28 (0, 0)) (by (with_reducible repeat (first | refine blk_drewN ?_ _ | refine blk_drew ?_ | refine blk_alloc ?_ _)); refine blk_put (cs := #[.int .i64 (wrap64 (Int.tdiv a0 t167)), .int .i64 0]) ?_ 1 _ rfl; (with_reducible repeat (first | refine blk_drewN ?_ _ | refine blk_drew ?_ | refine blk_alloc ?_ _)); refine blk_put (cs := #[.int .i64 0, .int .i64 0]) ?_ 0 _ rfl; (with_reducible repeat (first | refine blk_drewN ?_ _ | refine blk_drew ?_ | refine blk_alloc ?_ _)); exact BK170.out) hb); replace HB := Aside0.mk (bs hb); (try clear hb); (try clear hb2); (try clear hk); (try clear hi); have hcz43_0 : w42.cell? ⟨gb170, 0, none⟩ = some (.int .i64 (wrap64 (Int.tdiv a0 t167))) := (blk_cell BK170.out 0).trans rfl; have hcz43_1 : w42.cell? ⟨gb170, 1, none⟩ = some (.int .i64 (wrap64 (Int.tdiv a1 t167))) := (blk_cell BK170.out 1).trans rfl; have hfz43_0 := blk_frozen BK170.out 0; have hfz43_1 := blk_frozen BK170.out 1; have hcz44_0 : w42.cell? ⟨gb164, 0, none⟩ = some (.int .i64 0) := (blk_cell BK164.out 0).trans rfl; have hcz44_1 : w42.cell? ⟨gb164, 1, none⟩ = some (.int .i64 0) := (blk_cell BK164.out 1).trans rfl; have hfz44_0 := blk_frozen BK164.out 0; have hfz44_1 := blk_frozen BK164.out 1))
     refine bodyPost_ret (results_ct rfl _ _ gb164 28 #[.int .i64 (wrap64 (Int.tdiv a0 t167)), .int .i64 (wrap64 (Int.tdiv a1 t167))] (0, 0) _ rfl (by (with_reducible repeat (first | refine blk_drewN ?_ _ | refine blk_drew ?_ | refine blk_alloc ?_ _)); refine blk_put (cs := #[.int .i64 (wrap64 (Int.tdiv a0 t167)), .int .i64 0]) ?_ 1 _ rfl; (with_reducible repeat (first | refine blk_drewN ?_ _ | refine blk_drew ?_ | refine blk_alloc ?_ _)); refine blk_put (cs := #[.int .i64 0, .int .i64 0]) ?_ 0 _ rfl; (with_reducible repeat (first | refine blk_drewN ?_ _ | refine blk_drew ?_ | refine blk_alloc ?_ _)); exact BK164.out) Try.underlying28 rfl (by kernel_rfl)) rfl ?_
     exact ⟨by first | rfl | (simp [errW_none, errW_some] <;> rfl) | (simp [*, errW_none, errW_some] <;> rfl), bl⟩
    ·replace c34 := Bool.eq_false_iff.mpr c34
     subst c34
     have H1 : (some (0, 0, false)) = some (r1, r2, r3) := by rw [if_neg (show ¬ (false = true) by decide)] at H; exact H
     clear H
     have H := H1
     clear H1
     simp only [Option.some.injEq, Prod.mk.injEq] at H
     obtain ⟨rfl, rfl, rfl⟩ := H
     go_enter Try.func125, Try.ntmps125
     try go_wp2_with (first | ((with_reducible refine gate_dst (N := 4) rfl ?_); refine bx 4 #[.int .i64 0, .int .i64 0] 28 ?_; intro gb164 hg w45 hbox hb; have BK164 := Aside0.mk (hbox); have GW164 := Aside0.mk (bz hg); have GE164 := GW164; replace HB := Aside0.mk (bs hb); clear hb hbox hg) | ((with_reducible refine gate_callee (f := 46) rfl ?_); refine gl 12 Try.func46 #[.int .i64 a0] ?_; (with_reducible refine (spec_l1Abs.calls a0 t165 _ A6.out).mono ?_); rintro e w' ⟨rfl, ⟨nd, rfl⟩⟩; refine ⟨_, rfl, ?_⟩; (try (rw [drewN_self w45]; generalize hq_ : World.drewN w45 _ = w45; have n0_ : Aside0 (w45.heap[gb164]? = some (.cells #[.int .i64 0, .int .i64 0] 28 (0, 0))) := ⟨by rw [← hq_]; exact (bo gb164)⟩; have n1_ : Aside0 (Below w.heap.size w w45) := ⟨by rw [← hq_]; exact bl⟩; clear BK164 HB hq_; have BK164 := n0_; have HB := n1_; clear n0_ n1_))) | ((with_reducible refine gate_callee (f := 46) rfl ?_); refine gl 14 Try.func46 #[.int .i64 a1] ?_; (with_reducible refine (spec_l1Abs.calls a1 t166 _ A7.out).mono ?_); rintro e w' ⟨rfl, ⟨nd, rfl⟩⟩; refine ⟨_, rfl, ?_⟩; (try (rw [drewN_self w45]; generalize hq_ : World.drewN w45 _ = w45; have n0_ : Aside0 (w45.heap[gb164]? = some (.cells #[.int .i64 0, .int .i64 0] 28 (0, 0))) := ⟨by rw [← hq_]; exact (bo gb164)⟩; have n1_ : Aside0 (Below w.heap.size w w45) := ⟨by rw [← hq_]; exact bl⟩; clear BK164 HB hq_; have BK164 := n0_; have HB := n1_; clear n0_ n1_))) | ((with_reducible refine gate_callee (f := 134) rfl ?_); refine gl 15 Try.func134 #[.int .i64 t165, .int .i64 t166] ?_; (with_reducible refine (spec_raCommon.calls k t165 t166 t167 _ A8.out).mono ?_); rintro e w' ⟨rfl, ⟨nd, rfl⟩⟩; refine ⟨_, rfl, ?_⟩; (try (rw [drewN_self w45]; generalize hq_ : World.drewN w45 _ = w45; have n0_ : Aside0 (w45.heap[gb164]? = some (.cells #[.int .i64 0, .int .i64 0] 28 (0, 0))) := ⟨by rw [← hq_]; exact (bo gb164)⟩; have n1_ : Aside0 (Below w.heap.size w w45) := ⟨by rw [← hq_]; exact bl⟩; clear BK164 HB hq_; have BK164 := n0_; have HB := n1_; clear n0_ n1_))))
     replace BK164 := Aside0.mk (blk_drew BK164.out)
     replace HB := Aside0.mk (below_drew1 HB.out)
     refine start_ (n := 9) (S := fun w' => True) (ds := []) (tb 0 9) (by kernel_rfl) rfl rfl trivial (fun hHeld => ?_); refine with_tabW spec_raMake.tab6 spec_raMake.bits6 (fun HT_ HW_ => ?_)
     generalize w45.drew = w46 at BK164 HB hHeld ⊢
     refine pu 0 20 (tb 1 8) ?_
     refine pu 1 21 (tb 2 7) ?_
     refine pu 2 22 (tb 3 6) ?_
     refine pu 3 23 (tb 4 5) ?_
     refine pu 4 24 (tb 5 4) ?_
     refine pu 5 25 (tb 6 3) ?_
     refine pu 6 26 (tb 7 2) ?_
     refine on 7 7 (tb 8 1) (fun K hK => ?_)
     refine box_step ?hg (N := 7) ?hd (cs := #[.int .i64 0, .int .i64 0]) (t := 28) ?hr ?_; (case hd => rfl); (case hg => rfl); (case hr => first | (go_simp; done) | (go_simp; rfl))
     intro gb170 hg w47 hbox hb
     have BK170 := Aside0.mk (hbox)
     have GW170 := Aside0.mk (bz hg)
     have GE170 := GW170
     have NB164_170 := Aside0.mk (bn gb164 hg)
     have NB170_164 := Aside0.mk NB164_170.out.symm
     replace BK164 := Aside0.mk (bb gb164 hb)
     replace HB := Aside0.mk (bs hb)
     clear hb hbox hg
     refine hK.out _ _ trivial (fun hHeld => ?_)
     clear hK K
     refine nm 7 ?_
     refine one_ (i := 8) (N := none) (tb 9 0) rfl rfl (one_of HT_.out (by kernel_rfl)) (by decide) (fun K hK => ?_)
     have hs48 : w47.cell? ⟨gb170, 0, none⟩ = some (.int .i64 0) := (blk_cell BK170.out 0).trans rfl
     have hfs48 := blk_frozen BK170.out 0
     have hns48_0 := NB164_170.out
     have hms48_0 := NB170_164.out
     have hs49 : w47.cell? ⟨gb170, 1, none⟩ = some (.int .i64 0) := (blk_cell BK170.out 1).trans rfl
     have hfs49 := blk_frozen BK170.out 1
     have hns49_0 := NB164_170.out
     have hms49_0 := NB170_164.out
     refine skip_ (w1 := ?_) (by rfl) rfl ?_ ?_
     rotate_left
     ·go_simp
      rfl
     refine hK.out _ _ trivial (fun hHeld => ?_)
     clear hK K
     refine done_ (done_of HT_.out (by kernel_rfl)) ?_
     have hnb50 := NB170_164.out
     have hnc50 := NB164_170.out
     have hcz51_0 : w47.cell? ⟨gb170, 0, none⟩ = some (.int .i64 0) := (blk_cell BK170.out 0).trans rfl
     have hcz51_1 : w47.cell? ⟨gb170, 1, none⟩ = some (.int .i64 0) := (blk_cell BK170.out 1).trans rfl
     have hfz51_0 := blk_frozen BK170.out 0
     have hfz51_1 := blk_frozen BK170.out 1
     try go_wp2_with (first | ((with_reducible refine gate_callee (f := 114) rfl ?_); refine gl 28 Try.func114 #[.agg #[.int .i64 (wrap64 (Int.tdiv a0 t167)), .int .i64 (wrap64 (Int.tdiv a1 t167))]] ?_; (with_reducible refine (spec_raGood.calls k (wrap64 (Int.tdiv a0 t167)) (wrap64 (Int.tdiv a1 t167)) false _ A33.out).mono ?_); rintro e w52 ⟨rfl, hb⟩; refine ⟨_, rfl, ?_⟩; replace BK164 := Aside0.mk (blk_below (g := gb164) (o := .cells #[.int .i64 0, .int .i64 0] 28 (0, 0)) (by (with_reducible repeat (first | refine blk_drewN ?_ _ | refine blk_drew ?_ | refine blk_alloc ?_ _)); refine blk_far ?_ NB164_170.out _; (with_reducible repeat (first | refine blk_drewN ?_ _ | refine blk_drew ?_ | refine blk_alloc ?_ _)); refine blk_far ?_ NB164_170.out _; (with_reducible repeat (first | refine blk_drewN ?_ _ | refine blk_drew ?_ | refine blk_alloc ?_ _)); exact BK164.out) hb); replace BK170 := Aside0.mk (blk_below (g := gb170) (o := .cells #[.int .i64 (wrap64 (Int.tdiv a0 t167)), .int .i64 (wrap64 (Int.tdiv a1 t167))] 28 (0, 0)) (by (with_reducible repeat (first | refine blk_drewN ?_ _ | refine blk_drew ?_ | refine blk_alloc ?_ _)); refine blk_put (cs := #[.int .i64 (wrap64 (Int.tdiv a0 t167)), .int .i64 0]) ?_ 1 _ rfl; (with_reducible repeat (first | refine blk_drewN ?_ _ | refine blk_drew ?_ | refine blk_alloc ?_ _)); refine blk_put (cs := #[.int .i64 0, .int .i64 0]) ?_ 0 _ rfl; (with_reducible repeat (first | refine blk_drewN ?_ _ | refine blk_drew ?_ | refine blk_alloc ?_ _)); exact BK170.out) hb); replace HB := Aside0.mk (bs hb); (try clear hb); (try clear hb2); (try clear hk); (try clear hi); have hcz53_0 : w52.cell? ⟨gb164, 0, none⟩ = some (.int .i64 0) := (blk_cell BK164.out 0).trans rfl; have hcz53_1 : w52.cell? ⟨gb164, 1, none⟩ = some (.int .i64 0) := (blk_cell BK164.out 1).trans rfl; have hfz53_0 := blk_frozen BK164.out 0; have hfz53_1 := blk_frozen BK164.out 1))
     refine bodyPost_ret (results_ct rfl _ _ gb164 28 #[.int .i64 0, .int .i64 0] (0, 0) _ rfl (by (with_reducible repeat (first | refine blk_drewN ?_ _ | refine blk_drew ?_ | refine blk_alloc ?_ _)); refine blk_put (cs := #[.int .i64 0, .int .i64 0]) ?_ 1 _ rfl; (with_reducible repeat (first | refine blk_drewN ?_ _ | refine blk_drew ?_ | refine blk_alloc ?_ _)); refine blk_put (cs := #[.int .i64 0, .int .i64 0]) ?_ 0 _ rfl; (with_reducible repeat (first | refine blk_drewN ?_ _ | refine blk_drew ?_ | refine blk_alloc ?_ _)); exact BK164.out) Try.underlying28 rfl (by kernel_rfl)) rfl ?_
     exact ⟨by first | rfl | (simp [errW_none, errW_some] <;> rfl) | (simp [*, errW_none, errW_some] <;> rfl), bl⟩

/-! ### spec_raSub: function 101 -/
def spec_raSub.f (k : Nat) (a0_0 : Int) (a0_1 : Int) (a1_0 : Int) (a1_1 : Int) : Option (Int × Int × Bool) := (spec_raMake.f k (wrap64 ((wrap64 (a0_0 * a1_1)) - (wrap64 (a1_0 * a0_1)))) (wrap64 (a0_1 * a1_1))).bind fun bt175 => (some (bt175.1, bt175.2.1, bt175.2.2))
set_option maxHeartbeats 8000000 in
set_option maxRecDepth 100000 in
theorem spec_raSub.calls (k : Nat) (a0_0 : Int) (a0_1 : Int) (a1_0 : Int) (a1_1 : Int) (r1 : Int) (r2 : Int) (r3 : Bool) (w : World) (h : spec_raSub.f k a0_0 a0_1 a1_0 a1_1 = some (r1, r2, r3)) :
  Calls Try.prog 101 #[.agg #[.int .i64 a0_0, .int .i64 a0_1], .agg #[.int .i64 a1_0, .int .i64 a1_1]] w fun e w' => e = .returned (.tuple #[.agg #[.int .i64 r1, .int .i64 r2], .bool r3]) ∧ Below w.heap.size w w' := by
 have hu28 := Try.underlying28
 have HB := Aside0.mk (Below.refl w.heap.size w)
 have H : ((spec_raMake.f k (wrap64 ((wrap64 (a0_0 * a1_1)) - (wrap64 (a1_0 * a0_1)))) (wrap64 (a0_1 * a1_1))).bind fun bt175 => (some (bt175.1, bt175.2.1, bt175.2.2))) = some (r1, r2, r3) := h
 clear h
 replace H := Option.bind_eq_some_iff.mp H
 obtain ⟨⟨t175, t176, t177⟩, A30, H⟩ := H
 replace H : (some (t175, t176, t177)) = some (r1, r2, r3) := H
 have A3 := Aside0.mk A30
 clear A30
 simp only [Option.some.injEq, Prod.mk.injEq] at H
 obtain ⟨rfl, rfl, rfl⟩ := H
 go_enter Try.func101, Try.ntmps101
 go_wp2_with (first | ((with_reducible refine gate_dst (N := 2) rfl ?_); refine bx 2 #[.int .i64 a0_0, .int .i64 a0_1] 28 ?_; intro gb172 hg w4 hbox hb; have BK172 := Aside0.mk (hbox); have GW172 := Aside0.mk (bz hg); have GE172 := GW172; replace HB := Aside0.mk (bs hb); clear hb hbox hg) | ((with_reducible refine gate_dst (N := 3) rfl ?_); refine bx 3 #[.int .i64 a1_0, .int .i64 a1_1] 28 ?_; intro gb173 hg w5 hbox hb; have BK173 := Aside0.mk (hbox); have GW173 := Aside0.mk (bz hg); have GE173 := GW173; have NB172_173 := Aside0.mk (bn gb172 hg); have NB173_172 := Aside0.mk NB172_173.out.symm; replace BK172 := Aside0.mk (bb gb172 hb); replace HB := Aside0.mk (bs hb); clear hb hbox hg) | ((with_reducible refine gate_dst (N := 4) rfl ?_); refine bx 4 #[.int .i64 0, .int .i64 0] 28 ?_; intro gb174 hg w6 hbox hb; have BK174 := Aside0.mk (hbox); have GW174 := Aside0.mk (bz hg); have GE174 := GW174; have NB172_174 := Aside0.mk (bn gb172 hg); have NB174_172 := Aside0.mk NB172_174.out.symm; have NB173_174 := Aside0.mk (bn gb173 hg); have NB174_173 := Aside0.mk NB173_174.out.symm; replace BK172 := Aside0.mk (bb gb172 hb); replace BK173 := Aside0.mk (bb gb173 hb); replace HB := Aside0.mk (bs hb); clear hb hbox hg; have hnb7 := NB172_173.out; have hnc7 := NB173_172.out; have hnb8 := NB172_174.out; have hnc8 := NB174_172.out; have hcz9_0 : w6.cell? ⟨gb172, 0, none⟩ = some (.int .i64 a0_0) := (blk_cell BK172.out 0).trans rfl; have hcz9_1 : w6.cell? ⟨gb172, 1, none⟩ = some (.int .i64 a0_1) := (blk_cell BK172.out 1).trans rfl; have hfz9_0 := blk_frozen BK172.out 0; have hfz9_1 := blk_frozen BK172.out 1; have hnb10 := NB173_174.out; have hnc10 := NB174_173.out; have hcz11_0 : w6.cell? ⟨gb173, 0, none⟩ = some (.int .i64 a1_0) := (blk_cell BK173.out 0).trans rfl; have hcz11_1 : w6.cell? ⟨gb173, 1, none⟩ = some (.int .i64 a1_1) := (blk_cell BK173.out 1).trans rfl; have hfz11_0 := blk_frozen BK173.out 0; have hfz11_1 := blk_frozen BK173.out 1) | ((with_reducible refine gate_callee (f := 125) rfl ?_); refine gl 22 Try.func125 #[.int .i64 (wrap64 ((wrap64 (a0_0 * a1_1)) - (wrap64 (a1_0 * a0_1)))), .int .i64 (wrap64 (a0_1 * a1_1))] ?_; (with_reducible refine (spec_raMake.calls k (wrap64 ((wrap64 (a0_0 * a1_1)) - (wrap64 (a1_0 * a0_1)))) (wrap64 (a0_1 * a1_1)) t175 t176 t177 _ A3.out).mono ?_); rintro e w12 ⟨rfl, hb⟩; refine ⟨_, rfl, ?_⟩; replace BK172 := Aside0.mk (bb gb172 hb); replace BK173 := Aside0.mk (bb gb173 hb); replace BK174 := Aside0.mk (bb gb174 hb); replace HB := Aside0.mk (bs hb); (try clear hb); (try clear hb2); (try clear hk); (try clear hi); have hcz13_0 : w12.cell? ⟨gb174, 0, none⟩ = some (.int .i64 0) := (blk_cell BK174.out 0).trans rfl; have hcz13_1 : w12.cell? ⟨gb174, 1, none⟩ = some (.int .i64 0) := (blk_cell BK174.out 1).trans rfl; have hfz13_0 := blk_frozen BK174.out 0; have hfz13_1 := blk_frozen BK174.out 1))
 refine bodyPost_ret (results_ct rfl _ _ gb174 28 #[.int .i64 t175, .int .i64 t176] (0, 0) _ rfl (by (with_reducible repeat (first | refine blk_drewN ?_ _ | refine blk_drew ?_ | refine blk_alloc ?_ _)); refine blk_put (cs := #[.int .i64 t175, .int .i64 0]) ?_ 1 _ rfl; (with_reducible repeat (first | refine blk_drewN ?_ _ | refine blk_drew ?_ | refine blk_alloc ?_ _)); refine blk_put (cs := #[.int .i64 0, .int .i64 0]) ?_ 0 _ rfl; (with_reducible repeat (first | refine blk_drewN ?_ _ | refine blk_drew ?_ | refine blk_alloc ?_ _)); exact BK174.out) Try.underlying28 rfl (by kernel_rfl)) rfl ?_
 exact ⟨by first | rfl | (simp [errW_none, errW_some] <;> rfl) | (simp [*, errW_none, errW_some] <;> rfl), bl⟩

/-! ### spec_raDiv: function 122 -/
def spec_raDiv.f (k : Nat) (a0_0 : Int) (a0_1 : Int) (a1_0 : Int) (a1_1 : Int) : Option (Int × Int × Bool) := if a1_0 = 0 then (some (0, 0, false)) else ((spec_raMake.f k (wrap64 (a0_0 * a1_1)) (wrap64 (a0_1 * a1_0))).bind fun bt181 => (some (bt181.1, bt181.2.1, bt181.2.2)))
set_option maxHeartbeats 8000000 in
set_option maxRecDepth 100000 in
theorem spec_raDiv.calls (k : Nat) (a0_0 : Int) (a0_1 : Int) (a1_0 : Int) (a1_1 : Int) (r1 : Int) (r2 : Int) (r3 : Bool) (w : World) (h : spec_raDiv.f k a0_0 a0_1 a1_0 a1_1 = some (r1, r2, r3)) :
  Calls Try.prog 122 #[.agg #[.int .i64 a0_0, .int .i64 a0_1], .agg #[.int .i64 a1_0, .int .i64 a1_1]] w fun e w' => e = .returned (.tuple #[.agg #[.int .i64 r1, .int .i64 r2], .bool r3]) ∧ Below w.heap.size w w' := by
 have hu28 := Try.underlying28
 have HB := Aside0.mk (Below.refl w.heap.size w)
 have H : (if a1_0 = 0 then (some (0, 0, false)) else ((spec_raMake.f k (wrap64 (a0_0 * a1_1)) (wrap64 (a0_1 * a1_0))).bind fun bt181 => (some (bt181.1, bt181.2.1, bt181.2.2)))) = some (r1, r2, r3) := h
 clear h
 by_cases c3 : a1_0 = 0
 ·rw [if_pos c3] at H
  have c3b0 : (a1_0 == 0) = true := beq_iff_eq.mpr c3
  have c3b1 : (a1_0 != 0) = false := bne_eq_false_iff_eq.mpr c3
  clear c3
  simp only [Option.some.injEq, Prod.mk.injEq] at H
  obtain ⟨rfl, rfl, rfl⟩ := H
  go_enter Try.func122, Try.ntmps122
  go_wp2_with (first | ((with_reducible refine gate_dst (N := 2) rfl ?_); refine bx 2 #[.int .i64 a0_0, .int .i64 a0_1] 28 ?_; intro gb178 hg w4 hbox hb; have BK178 := Aside0.mk (hbox); have GW178 := Aside0.mk (bz hg); have GE178 := GW178; replace HB := Aside0.mk (bs hb); clear hb hbox hg) | ((with_reducible refine gate_dst (N := 3) rfl ?_); refine bx 3 #[.int .i64 a1_0, .int .i64 a1_1] 28 ?_; intro gb179 hg w5 hbox hb; have BK179 := Aside0.mk (hbox); have GW179 := Aside0.mk (bz hg); have GE179 := GW179; have NB178_179 := Aside0.mk (bn gb178 hg); have NB179_178 := Aside0.mk NB178_179.out.symm; replace BK178 := Aside0.mk (bb gb178 hb); replace HB := Aside0.mk (bs hb); clear hb hbox hg) | ((with_reducible refine gate_dst (N := 4) rfl ?_); refine bx 4 #[.int .i64 0, .int .i64 0] 28 ?_; intro gb180 hg w6 hbox hb; have BK180 := Aside0.mk (hbox); have GW180 := Aside0.mk (bz hg); have GE180 := GW180; have NB178_180 := Aside0.mk (bn gb178 hg); have NB180_178 := Aside0.mk NB178_180.out.symm; have NB179_180 := Aside0.mk (bn gb179 hg); have NB180_179 := Aside0.mk NB179_180.out.symm; replace BK178 := Aside0.mk (bb gb178 hb); replace BK179 := Aside0.mk (bb gb179 hb); replace HB := Aside0.mk (bs hb); clear hb hbox hg; have hnb7 := NB179_178.out; have hnc7 := NB178_179.out; have hnb8 := NB179_180.out; have hnc8 := NB180_179.out; have hcz9_0 : w6.cell? ⟨gb179, 0, none⟩ = some (.int .i64 a1_0) := (blk_cell BK179.out 0).trans rfl; have hcz9_1 : w6.cell? ⟨gb179, 1, none⟩ = some (.int .i64 a1_1) := (blk_cell BK179.out 1).trans rfl; have hfz9_0 := blk_frozen BK179.out 0; have hfz9_1 := blk_frozen BK179.out 1; have hnb10 := NB180_178.out; have hnc10 := NB178_180.out; have hcz11_0 : w6.cell? ⟨gb180, 0, none⟩ = some (.int .i64 0) := (blk_cell BK180.out 0).trans rfl; have hcz11_1 : w6.cell? ⟨gb180, 1, none⟩ = some (.int .i64 0) := (blk_cell BK180.out 1).trans rfl; have hfz11_0 := blk_frozen BK180.out 0; have hfz11_1 := blk_frozen BK180.out 1))
  refine bodyPost_ret (results_ct rfl _ _ gb180 28 #[.int .i64 0, .int .i64 0] (0, 0) _ rfl (by (with_reducible repeat (first | refine blk_drewN ?_ _ | refine blk_drew ?_ | refine blk_alloc ?_ _)); refine blk_put (cs := #[.int .i64 0, .int .i64 0]) ?_ 1 _ rfl; (with_reducible repeat (first | refine blk_drewN ?_ _ | refine blk_drew ?_ | refine blk_alloc ?_ _)); refine blk_put (cs := #[.int .i64 0, .int .i64 0]) ?_ 0 _ rfl; (with_reducible repeat (first | refine blk_drewN ?_ _ | refine blk_drew ?_ | refine blk_alloc ?_ _)); exact BK180.out) Try.underlying28 rfl (by kernel_rfl)) rfl ?_
  exact ⟨by first | rfl | (simp [errW_none, errW_some] <;> rfl) | (simp [*, errW_none, errW_some] <;> rfl), bl⟩
 ·rw [if_neg c3] at H
  have c3b0 : (a1_0 == 0) = false := beq_eq_false_iff_ne.mpr c3
  have c3b1 : (a1_0 != 0) = true := bne_iff_ne.mpr c3
  replace H := Option.bind_eq_some_iff.mp H
  obtain ⟨⟨t181, t182, t183⟩, A120, H⟩ := H
  replace H : (some (t181, t182, t183)) = some (r1, r2, r3) := H
  have A12 := Aside0.mk A120
  clear A120
  simp only [Option.some.injEq, Prod.mk.injEq] at H
  obtain ⟨rfl, rfl, rfl⟩ := H
  go_enter Try.func122, Try.ntmps122
  go_wp2_with (first | ((with_reducible refine gate_dst (N := 2) rfl ?_); refine bx 2 #[.int .i64 a0_0, .int .i64 a0_1] 28 ?_; intro gb178 hg w13 hbox hb; have BK178 := Aside0.mk (hbox); have GW178 := Aside0.mk (bz hg); have GE178 := GW178; replace HB := Aside0.mk (bs hb); clear hb hbox hg) | ((with_reducible refine gate_dst (N := 3) rfl ?_); refine bx 3 #[.int .i64 a1_0, .int .i64 a1_1] 28 ?_; intro gb179 hg w14 hbox hb; have BK179 := Aside0.mk (hbox); have GW179 := Aside0.mk (bz hg); have GE179 := GW179; have NB178_179 := Aside0.mk (bn gb178 hg); have NB179_178 := Aside0.mk NB178_179.out.symm; replace BK178 := Aside0.mk (bb gb178 hb); replace HB := Aside0.mk (bs hb); clear hb hbox hg) | ((with_reducible refine gate_dst (N := 4) rfl ?_); refine bx 4 #[.int .i64 0, .int .i64 0] 28 ?_; intro gb180 hg w15 hbox hb; have BK180 := Aside0.mk (hbox); have GW180 := Aside0.mk (bz hg); have GE180 := GW180; have NB178_180 := Aside0.mk (bn gb178 hg); have NB180_178 := Aside0.mk NB178_180.out.symm; have NB179_180 := Aside0.mk (bn gb179 hg); have NB180_179 := Aside0.mk NB179_180.out.symm; replace BK178 := Aside0.mk (bb gb178 hb); replace BK179 := Aside0.mk (bb gb179 hb); replace HB := Aside0.mk (bs hb); clear hb hbox hg; have hnb16 := NB179_178.out; have hnc16 := NB178_179.out; have hnb17 := NB179_180.out; have hnc17 := NB180_179.out; have hcz18_0 : w15.cell? ⟨gb179, 0, none⟩ = some (.int .i64 a1_0) := (blk_cell BK179.out 0).trans rfl; have hcz18_1 : w15.cell? ⟨gb179, 1, none⟩ = some (.int .i64 a1_1) := (blk_cell BK179.out 1).trans rfl; have hfz18_0 := blk_frozen BK179.out 0; have hfz18_1 := blk_frozen BK179.out 1; have hnb19 := NB178_180.out; have hnc19 := NB180_178.out; have hcz20_0 : w15.cell? ⟨gb178, 0, none⟩ = some (.int .i64 a0_0) := (blk_cell BK178.out 0).trans rfl; have hcz20_1 : w15.cell? ⟨gb178, 1, none⟩ = some (.int .i64 a0_1) := (blk_cell BK178.out 1).trans rfl; have hfz20_0 := blk_frozen BK178.out 0; have hfz20_1 := blk_frozen BK178.out 1) | ((with_reducible refine gate_callee (f := 125) rfl ?_); refine gl 20 Try.func125 #[.int .i64 (wrap64 (a0_0 * a1_1)), .int .i64 (wrap64 (a0_1 * a1_0))] ?_; (with_reducible refine (spec_raMake.calls k (wrap64 (a0_0 * a1_1)) (wrap64 (a0_1 * a1_0)) t181 t182 t183 _ A12.out).mono ?_); rintro e w21 ⟨rfl, hb⟩; refine ⟨_, rfl, ?_⟩; replace BK178 := Aside0.mk (bb gb178 hb); replace BK179 := Aside0.mk (bb gb179 hb); replace BK180 := Aside0.mk (bb gb180 hb); replace HB := Aside0.mk (bs hb); (try clear hb); (try clear hb2); (try clear hk); (try clear hi); have hcz22_0 : w21.cell? ⟨gb180, 0, none⟩ = some (.int .i64 0) := (blk_cell BK180.out 0).trans rfl; have hcz22_1 : w21.cell? ⟨gb180, 1, none⟩ = some (.int .i64 0) := (blk_cell BK180.out 1).trans rfl; have hfz22_0 := blk_frozen BK180.out 0; have hfz22_1 := blk_frozen BK180.out 1))
  refine bodyPost_ret (results_ct rfl _ _ gb180 28 #[.int .i64 t181, .int .i64 t182] (0, 0) _ rfl (by (with_reducible repeat (first | refine blk_drewN ?_ _ | refine blk_drew ?_ | refine blk_alloc ?_ _)); refine blk_put (cs := #[.int .i64 t181, .int .i64 0]) ?_ 1 _ rfl; (with_reducible repeat (first | refine blk_drewN ?_ _ | refine blk_drew ?_ | refine blk_alloc ?_ _)); refine blk_put (cs := #[.int .i64 0, .int .i64 0]) ?_ 0 _ rfl; (with_reducible repeat (first | refine blk_drewN ?_ _ | refine blk_drew ?_ | refine blk_alloc ?_ _)); exact BK180.out) Try.underlying28 rfl (by kernel_rfl)) rfl ?_
  exact ⟨by first | rfl | (simp [errW_none, errW_some] <;> rfl) | (simp [*, errW_none, errW_some] <;> rfl), bl⟩

/-! ### spec_imSlope: function 84 -/
def spec_imSlope.f (k : Nat) (a0_0 : Int) (a0_1 : Int) (a0_2 : Int) (a0_3 : Int) (a1_0 : Int) (a1_1 : Int) (a1_2 : Int) (a1_3 : Int) : Option (Int × Int) := (spec_raSub.f k a1_2 a1_3 a0_2 a0_3).bind fun bt187 => ((spec_raSub.f k a1_0 a1_1 a0_0 a0_1).bind fun bt191 => ((spec_raDiv.f k bt187.1 bt187.2.1 bt191.1 bt191.2.1).bind fun bt195 => (some (bt195.1, bt195.2.1))))
set_option maxHeartbeats 8000000 in
set_option maxRecDepth 100000 in
theorem spec_imSlope.calls (k : Nat) (a0_0 : Int) (a0_1 : Int) (a0_2 : Int) (a0_3 : Int) (a1_0 : Int) (a1_1 : Int) (a1_2 : Int) (a1_3 : Int) (r1 : Int) (r2 : Int) (w : World) (h : spec_imSlope.f k a0_0 a0_1 a0_2 a0_3 a1_0 a1_1 a1_2 a1_3 = some (r1, r2)) :
  Calls Try.prog 84 #[.agg #[.int .i64 a0_0, .int .i64 a0_1, .int .i64 a0_2, .int .i64 a0_3], .agg #[.int .i64 a1_0, .int .i64 a1_1, .int .i64 a1_2, .int .i64 a1_3]] w fun e w' => e = .returned (.agg #[.int .i64 r1, .int .i64 r2]) ∧ Below w.heap.size w w' := by
 have hu68 := Try.underlying68
 have hu28 := Try.underlying28
 have HB := Aside0.mk (Below.refl w.heap.size w)
 have H : ((spec_raSub.f k a1_2 a1_3 a0_2 a0_3).bind fun bt187 => ((spec_raSub.f k a1_0 a1_1 a0_0 a0_1).bind fun bt191 => ((spec_raDiv.f k bt187.1 bt187.2.1 bt191.1 bt191.2.1).bind fun bt195 => (some (bt195.1, bt195.2.1))))) = some (r1, r2) := h
 clear h
 replace H := Option.bind_eq_some_iff.mp H
 obtain ⟨⟨t187, t188, t189⟩, A30, H⟩ := H
 replace H : ((spec_raSub.f k a1_0 a1_1 a0_0 a0_1).bind fun bt191 => ((spec_raDiv.f k t187 t188 bt191.1 bt191.2.1).bind fun bt195 => (some (bt195.1, bt195.2.1)))) = some (r1, r2) := H
 have A3 := Aside0.mk A30
 clear A30
 replace H := Option.bind_eq_some_iff.mp H
 obtain ⟨⟨t191, t192, t193⟩, A40, H⟩ := H
 replace H : ((spec_raDiv.f k t187 t188 t191 t192).bind fun bt195 => (some (bt195.1, bt195.2.1))) = some (r1, r2) := H
 have A4 := Aside0.mk A40
 clear A40
 replace H := Option.bind_eq_some_iff.mp H
 obtain ⟨⟨t195, t196, t197⟩, A50, H⟩ := H
 replace H : (some (t195, t196)) = some (r1, r2) := H
 have A5 := Aside0.mk A50
 clear A50
 simp only [Option.some.injEq, Prod.mk.injEq] at H
 obtain ⟨rfl, rfl⟩ := H
 go_enter Try.func84, Try.ntmps84
 go_wp2_with (first | ((with_reducible refine gate_dst (N := 2) rfl ?_); refine bx 2 #[.int .i64 a0_0, .int .i64 a0_1, .int .i64 a0_2, .int .i64 a0_3] 68 ?_; intro gb184 hg w6 hbox hb; have BK184 := Aside0.mk (hbox); have GW184 := Aside0.mk (bz hg); have GE184 := GW184; replace HB := Aside0.mk (bs hb); clear hb hbox hg) | ((with_reducible refine gate_dst (N := 3) rfl ?_); refine bx 3 #[.int .i64 a1_0, .int .i64 a1_1, .int .i64 a1_2, .int .i64 a1_3] 68 ?_; intro gb185 hg w7 hbox hb; have BK185 := Aside0.mk (hbox); have GW185 := Aside0.mk (bz hg); have GE185 := GW185; have NB184_185 := Aside0.mk (bn gb184 hg); have NB185_184 := Aside0.mk NB184_185.out.symm; replace BK184 := Aside0.mk (bb gb184 hb); replace HB := Aside0.mk (bs hb); clear hb hbox hg) | ((with_reducible refine gate_dst (N := 4) rfl ?_); refine bx 4 #[.int .i64 0, .int .i64 0] 28 ?_; intro gb186 hg w8 hbox hb; have BK186 := Aside0.mk (hbox); have GW186 := Aside0.mk (bz hg); have GE186 := GW186; have NB184_186 := Aside0.mk (bn gb184 hg); have NB186_184 := Aside0.mk NB184_186.out.symm; have NB185_186 := Aside0.mk (bn gb185 hg); have NB186_185 := Aside0.mk NB185_186.out.symm; replace BK184 := Aside0.mk (bb gb184 hb); replace BK185 := Aside0.mk (bb gb185 hb); replace HB := Aside0.mk (bs hb); clear hb hbox hg; have hnb9 := NB185_184.out; have hnc9 := NB184_185.out; have hnb10 := NB185_186.out; have hnc10 := NB186_185.out; have hcz11_0 : w8.cell? ⟨gb185, 0, none⟩ = some (.int .i64 a1_0) := (blk_cell BK185.out 0).trans rfl; have hcz11_1 : w8.cell? ⟨gb185, 1, none⟩ = some (.int .i64 a1_1) := (blk_cell BK185.out 1).trans rfl; have hcz11_2 : w8.cell? ⟨gb185, 2, none⟩ = some (.int .i64 a1_2) := (blk_cell BK185.out 2).trans rfl; have hcz11_3 : w8.cell? ⟨gb185, 3, none⟩ = some (.int .i64 a1_3) := (blk_cell BK185.out 3).trans rfl; have hfz11_0 := blk_frozen BK185.out 0; have hfz11_1 := blk_frozen BK185.out 1; have hfz11_2 := blk_frozen BK185.out 2; have hfz11_3 := blk_frozen BK185.out 3; have hnb12 := NB184_186.out; have hnc12 := NB186_184.out; have hcz13_0 : w8.cell? ⟨gb184, 0, none⟩ = some (.int .i64 a0_0) := (blk_cell BK184.out 0).trans rfl; have hcz13_1 : w8.cell? ⟨gb184, 1, none⟩ = some (.int .i64 a0_1) := (blk_cell BK184.out 1).trans rfl; have hcz13_2 : w8.cell? ⟨gb184, 2, none⟩ = some (.int .i64 a0_2) := (blk_cell BK184.out 2).trans rfl; have hcz13_3 : w8.cell? ⟨gb184, 3, none⟩ = some (.int .i64 a0_3) := (blk_cell BK184.out 3).trans rfl; have hfz13_0 := blk_frozen BK184.out 0; have hfz13_1 := blk_frozen BK184.out 1; have hfz13_2 := blk_frozen BK184.out 2; have hfz13_3 := blk_frozen BK184.out 3) | ((with_reducible refine gate_callee (f := 101) rfl ?_); refine gl 16 Try.func101 #[.agg #[.int .i64 a1_2, .int .i64 a1_3], .agg #[.int .i64 a0_2, .int .i64 a0_3]] ?_; (with_reducible refine (spec_raSub.calls k a1_2 a1_3 a0_2 a0_3 t187 t188 t189 _ A3.out).mono ?_); rintro e w14 ⟨rfl, hb⟩; refine ⟨_, rfl, ?_⟩; replace BK184 := Aside0.mk (bb gb184 hb); replace BK185 := Aside0.mk (bb gb185 hb); replace BK186 := Aside0.mk (bb gb186 hb); replace HB := Aside0.mk (bs hb); (try clear hb); (try clear hb2); (try clear hk); (try clear hi)) | ((with_reducible refine gate_dst (N := 5) rfl ?_); refine bx 5 #[.int .i64 0, .int .i64 0] 28 ?_; intro gb190 hg w15 hbox hb; have BK190 := Aside0.mk (hbox); have GW190 := Aside0.mk (bz hg); have GE190 := GW190; have NB184_190 := Aside0.mk (bn gb184 hg); have NB190_184 := Aside0.mk NB184_190.out.symm; have NB185_190 := Aside0.mk (bn gb185 hg); have NB190_185 := Aside0.mk NB185_190.out.symm; have NB186_190 := Aside0.mk (bn gb186 hg); have NB190_186 := Aside0.mk NB186_190.out.symm; replace BK184 := Aside0.mk (bb gb184 hb); replace BK185 := Aside0.mk (bb gb185 hb); replace BK186 := Aside0.mk (bb gb186 hb); replace HB := Aside0.mk (bs hb); clear hb hbox hg; have hnb16 := NB190_184.out; have hnc16 := NB184_190.out; have hnb17 := NB190_185.out; have hnc17 := NB185_190.out; have hnb18 := NB190_186.out; have hnc18 := NB186_190.out; have hcz19_0 : w15.cell? ⟨gb190, 0, none⟩ = some (.int .i64 0) := (blk_cell BK190.out 0).trans rfl; have hcz19_1 : w15.cell? ⟨gb190, 1, none⟩ = some (.int .i64 0) := (blk_cell BK190.out 1).trans rfl; have hfz19_0 := blk_frozen BK190.out 0; have hfz19_1 := blk_frozen BK190.out 1; have hcz20_0 : w15.cell? ⟨gb185, 0, none⟩ = some (.int .i64 a1_0) := (blk_cell BK185.out 0).trans rfl; have hcz20_1 : w15.cell? ⟨gb185, 1, none⟩ = some (.int .i64 a1_1) := (blk_cell BK185.out 1).trans rfl; have hcz20_2 : w15.cell? ⟨gb185, 2, none⟩ = some (.int .i64 a1_2) := (blk_cell BK185.out 2).trans rfl; have hcz20_3 : w15.cell? ⟨gb185, 3, none⟩ = some (.int .i64 a1_3) := (blk_cell BK185.out 3).trans rfl; have hfz20_0 := blk_frozen BK185.out 0; have hfz20_1 := blk_frozen BK185.out 1; have hfz20_2 := blk_frozen BK185.out 2; have hfz20_3 := blk_frozen BK185.out 3; have hcz21_0 : w15.cell? ⟨gb184, 0, none⟩ = some (.int .i64 a0_0) := (blk_cell BK184.out 0).trans rfl; have hcz21_1 : w15.cell? ⟨gb184, 1, none⟩ = some (.int .i64 a0_1) := (blk_cell BK184.out 1).trans rfl; have hcz21_2 : w15.cell? ⟨gb184, 2, none⟩ = some (.int .i64 a0_2) := (blk_cell BK184.out 2).trans rfl; have hcz21_3 : w15.cell? ⟨gb184, 3, none⟩ = some (.int .i64 a0_3) := (blk_cell BK184.out 3).trans rfl; have hfz21_0 := blk_frozen BK184.out 0; have hfz21_1 := blk_frozen BK184.out 1; have hfz21_2 := blk_frozen BK184.out 2; have hfz21_3 := blk_frozen BK184.out 3) | ((with_reducible refine gate_callee (f := 101) rfl ?_); refine gl 24 Try.func101 #[.agg #[.int .i64 a1_0, .int .i64 a1_1], .agg #[.int .i64 a0_0, .int .i64 a0_1]] ?_; (with_reducible refine (spec_raSub.calls k a1_0 a1_1 a0_0 a0_1 t191 t192 t193 _ A4.out).mono ?_); rintro e w22 ⟨rfl, hb⟩; refine ⟨_, rfl, ?_⟩; replace BK184 := Aside0.mk (blk_below (g := gb184) (o := .cells #[.int .i64 a0_0, .int .i64 a0_1, .int .i64 a0_2, .int .i64 a0_3] 68 (0, 0)) (by (with_reducible repeat (first | refine blk_drewN ?_ _ | refine blk_drew ?_ | refine blk_alloc ?_ _)); refine blk_far ?_ NB184_190.out _; (with_reducible repeat (first | refine blk_drewN ?_ _ | refine blk_drew ?_ | refine blk_alloc ?_ _)); refine blk_far ?_ NB184_190.out _; (with_reducible repeat (first | refine blk_drewN ?_ _ | refine blk_drew ?_ | refine blk_alloc ?_ _)); exact BK184.out) hb); replace BK185 := Aside0.mk (blk_below (g := gb185) (o := .cells #[.int .i64 a1_0, .int .i64 a1_1, .int .i64 a1_2, .int .i64 a1_3] 68 (0, 0)) (by (with_reducible repeat (first | refine blk_drewN ?_ _ | refine blk_drew ?_ | refine blk_alloc ?_ _)); refine blk_far ?_ NB185_190.out _; (with_reducible repeat (first | refine blk_drewN ?_ _ | refine blk_drew ?_ | refine blk_alloc ?_ _)); refine blk_far ?_ NB185_190.out _; (with_reducible repeat (first | refine blk_drewN ?_ _ | refine blk_drew ?_ | refine blk_alloc ?_ _)); exact BK185.out) hb); replace BK186 := Aside0.mk (blk_below (g := gb186) (o := .cells #[.int .i64 0, .int .i64 0] 28 (0, 0)) (by (with_reducible repeat (first | refine blk_drewN ?_ _ | refine blk_drew ?_ | refine blk_alloc ?_ _)); refine blk_far ?_ NB186_190.out _; (with_reducible repeat (first | refine blk_drewN ?_ _ | refine blk_drew ?_ | refine blk_alloc ?_ _)); refine blk_far ?_ NB186_190.out _; (with_reducible repeat (first | refine blk_drewN ?_ _ | refine blk_drew ?_ | refine blk_alloc ?_ _)); exact BK186.out) hb); replace BK190 := Aside0.mk (blk_below (g := gb190) (o := .cells #[.int .i64 t187, .int .i64 t188] 28 (0, 0)) (by (with_reducible repeat (first | refine blk_drewN ?_ _ | refine blk_drew ?_ | refine blk_alloc ?_ _)); refine blk_put (cs := #[.int .i64 t187, .int .i64 0]) ?_ 1 _ rfl; (with_reducible repeat (first | refine blk_drewN ?_ _ | refine blk_drew ?_ | refine blk_alloc ?_ _)); refine blk_put (cs := #[.int .i64 0, .int .i64 0]) ?_ 0 _ rfl; (with_reducible repeat (first | refine blk_drewN ?_ _ | refine blk_drew ?_ | refine blk_alloc ?_ _)); exact BK190.out) hb); replace HB := Aside0.mk (bs hb); (try clear hb); (try clear hb2); (try clear hk); (try clear hi)) | ((with_reducible refine gate_dst (N := 7) rfl ?_); refine bx 7 #[.int .i64 0, .int .i64 0] 28 ?_; intro gb194 hg w23 hbox hb; have BK194 := Aside0.mk (hbox); have GW194 := Aside0.mk (bz hg); have GE194 := GW194; have NB184_194 := Aside0.mk (bn gb184 hg); have NB194_184 := Aside0.mk NB184_194.out.symm; have NB185_194 := Aside0.mk (bn gb185 hg); have NB194_185 := Aside0.mk NB185_194.out.symm; have NB186_194 := Aside0.mk (bn gb186 hg); have NB194_186 := Aside0.mk NB186_194.out.symm; have NB190_194 := Aside0.mk (bn gb190 hg); have NB194_190 := Aside0.mk NB190_194.out.symm; replace BK184 := Aside0.mk (bb gb184 hb); replace BK185 := Aside0.mk (bb gb185 hb); replace BK186 := Aside0.mk (bb gb186 hb); replace BK190 := Aside0.mk (bb gb190 hb); replace HB := Aside0.mk (bs hb); clear hb hbox hg; have hnb24 := NB194_184.out; have hnc24 := NB184_194.out; have hnb25 := NB194_185.out; have hnc25 := NB185_194.out; have hnb26 := NB194_186.out; have hnc26 := NB186_194.out; have hnb27 := NB194_190.out; have hnc27 := NB190_194.out; have hcz28_0 : w23.cell? ⟨gb194, 0, none⟩ = some (.int .i64 0) := (blk_cell BK194.out 0).trans rfl; have hcz28_1 : w23.cell? ⟨gb194, 1, none⟩ = some (.int .i64 0) := (blk_cell BK194.out 1).trans rfl; have hfz28_0 := blk_frozen BK194.out 0; have hfz28_1 := blk_frozen BK194.out 1; have hcz29_0 : w23.cell? ⟨gb190, 0, none⟩ = some (.int .i64 t187) := (blk_cell BK190.out 0).trans rfl; have hcz29_1 : w23.cell? ⟨gb190, 1, none⟩ = some (.int .i64 t188) := (blk_cell BK190.out 1).trans rfl; have hfz29_0 := blk_frozen BK190.out 0; have hfz29_1 := blk_frozen BK190.out 1) | ((with_reducible refine gate_callee (f := 122) rfl ?_); refine gl 30 Try.func122 #[.agg #[.int .i64 t187, .int .i64 t188], .agg #[.int .i64 t191, .int .i64 t192]] ?_; (with_reducible refine (spec_raDiv.calls k t187 t188 t191 t192 t195 t196 t197 _ A5.out).mono ?_); rintro e w30 ⟨rfl, hb⟩; refine ⟨_, rfl, ?_⟩; replace BK184 := Aside0.mk (blk_below (g := gb184) (o := .cells #[.int .i64 a0_0, .int .i64 a0_1, .int .i64 a0_2, .int .i64 a0_3] 68 (0, 0)) (by (with_reducible repeat (first | refine blk_drewN ?_ _ | refine blk_drew ?_ | refine blk_alloc ?_ _)); refine blk_far ?_ NB184_194.out _; (with_reducible repeat (first | refine blk_drewN ?_ _ | refine blk_drew ?_ | refine blk_alloc ?_ _)); refine blk_far ?_ NB184_194.out _; (with_reducible repeat (first | refine blk_drewN ?_ _ | refine blk_drew ?_ | refine blk_alloc ?_ _)); exact BK184.out) hb); replace BK185 := Aside0.mk (blk_below (g := gb185) (o := .cells #[.int .i64 a1_0, .int .i64 a1_1, .int .i64 a1_2, .int .i64 a1_3] 68 (0, 0)) (by (with_reducible repeat (first | refine blk_drewN ?_ _ | refine blk_drew ?_ | refine blk_alloc ?_ _)); refine blk_far ?_ NB185_194.out _; (with_reducible repeat (first | refine blk_drewN ?_ _ | refine blk_drew ?_ | refine blk_alloc ?_ _)); refine blk_far ?_ NB185_194.out _; (with_reducible repeat (first | refine blk_drewN ?_ _ | refine blk_drew ?_ | refine blk_alloc ?_ _)); exact BK185.out) hb); replace BK186 := Aside0.mk (blk_below (g := gb186) (o := .cells #[.int .i64 0, .int .i64 0] 28 (0, 0)) (by (with_reducible repeat (first | refine blk_drewN ?_ _ | refine blk_drew ?_ | refine blk_alloc ?_ _)); refine blk_far ?_ NB186_194.out _; (with_reducible repeat (first | refine blk_drewN ?_ _ | refine blk_drew ?_ | refine blk_alloc ?_ _)); refine blk_far ?_ NB186_194.out _; (with_reducible repeat (first | refine blk_drewN ?_ _ | refine blk_drew ?_ | refine blk_alloc ?_ _)); exact BK186.out) hb); replace BK190 := Aside0.mk (blk_below (g := gb190) (o := .cells #[.int .i64 t187, .int .i64 t188] 28 (0, 0)) (by (with_reducible repeat (first | refine blk_drewN ?_ _ | refine blk_drew ?_ | refine blk_alloc ?_ _)); refine blk_far ?_ NB190_194.out _; (with_reducible repeat (first | refine blk_drewN ?_ _ | refine blk_drew ?_ | refine blk_alloc ?_ _)); refine blk_far ?_ NB190_194.out _; (with_reducible repeat (first | refine blk_drewN ?_ _ | refine blk_drew ?_ | refine blk_alloc ?_ _)); exact BK190.out) hb); replace BK194 := Aside0.mk (blk_below (g := gb194) (o := .cells #[.int .i64 t191, .int .i64 t192] 28 (0, 0)) (by (with_reducible repeat (first | refine blk_drewN ?_ _ | refine blk_drew ?_ | refine blk_alloc ?_ _)); refine blk_put (cs := #[.int .i64 t191, .int .i64 0]) ?_ 1 _ rfl; (with_reducible repeat (first | refine blk_drewN ?_ _ | refine blk_drew ?_ | refine blk_alloc ?_ _)); refine blk_put (cs := #[.int .i64 0, .int .i64 0]) ?_ 0 _ rfl; (with_reducible repeat (first | refine blk_drewN ?_ _ | refine blk_drew ?_ | refine blk_alloc ?_ _)); exact BK194.out) hb); replace HB := Aside0.mk (bs hb); (try clear hb); (try clear hb2); (try clear hk); (try clear hi)) | ((with_reducible refine gate_dst (N := 9) rfl ?_); refine bx 9 #[.int .i64 0, .int .i64 0] 28 ?_; intro gb198 hg w31 hbox hb; have BK198 := Aside0.mk (hbox); have GW198 := Aside0.mk (bz hg); have GE198 := GW198; have NB184_198 := Aside0.mk (bn gb184 hg); have NB198_184 := Aside0.mk NB184_198.out.symm; have NB185_198 := Aside0.mk (bn gb185 hg); have NB198_185 := Aside0.mk NB185_198.out.symm; have NB186_198 := Aside0.mk (bn gb186 hg); have NB198_186 := Aside0.mk NB186_198.out.symm; have NB190_198 := Aside0.mk (bn gb190 hg); have NB198_190 := Aside0.mk NB190_198.out.symm; have NB194_198 := Aside0.mk (bn gb194 hg); have NB198_194 := Aside0.mk NB194_198.out.symm; replace BK184 := Aside0.mk (bb gb184 hb); replace BK185 := Aside0.mk (bb gb185 hb); replace BK186 := Aside0.mk (bb gb186 hb); replace BK190 := Aside0.mk (bb gb190 hb); replace BK194 := Aside0.mk (bb gb194 hb); replace HB := Aside0.mk (bs hb); clear hb hbox hg; have hnb32 := NB198_184.out; have hnc32 := NB184_198.out; have hnb33 := NB198_185.out; have hnc33 := NB185_198.out; have hnb34 := NB198_186.out; have hnc34 := NB186_198.out; have hnb35 := NB198_190.out; have hnc35 := NB190_198.out; have hnb36 := NB198_194.out; have hnc36 := NB194_198.out; have hcz37_0 : w31.cell? ⟨gb198, 0, none⟩ = some (.int .i64 0) := (blk_cell BK198.out 0).trans rfl; have hcz37_1 : w31.cell? ⟨gb198, 1, none⟩ = some (.int .i64 0) := (blk_cell BK198.out 1).trans rfl; have hfz37_0 := blk_frozen BK198.out 0; have hfz37_1 := blk_frozen BK198.out 1; have hcz38_0 : w31.cell? ⟨gb186, 0, none⟩ = some (.int .i64 0) := (blk_cell BK186.out 0).trans rfl; have hcz38_1 : w31.cell? ⟨gb186, 1, none⟩ = some (.int .i64 0) := (blk_cell BK186.out 1).trans rfl; have hfz38_0 := blk_frozen BK186.out 0; have hfz38_1 := blk_frozen BK186.out 1))
 refine bodyPost_ret (results_cell_row rfl _ _ gb186 28 #[.int .i64 t195, .int .i64 t196] (0, 0) _ rfl (by (with_reducible repeat (first | refine blk_drewN ?_ _ | refine blk_drew ?_ | refine blk_alloc ?_ _)); refine blk_put (cs := #[.int .i64 t195, .int .i64 0]) ?_ 1 _ rfl; (with_reducible repeat (first | refine blk_drewN ?_ _ | refine blk_drew ?_ | refine blk_alloc ?_ _)); refine blk_put (cs := #[.int .i64 0, .int .i64 0]) ?_ 0 _ rfl; (with_reducible repeat (first | refine blk_drewN ?_ _ | refine blk_drew ?_ | refine blk_alloc ?_ _)); refine blk_far ?_ NB186_198.out _; (with_reducible repeat (first | refine blk_drewN ?_ _ | refine blk_drew ?_ | refine blk_alloc ?_ _)); refine blk_far ?_ NB186_198.out _; (with_reducible repeat (first | refine blk_drewN ?_ _ | refine blk_drew ?_ | refine blk_alloc ?_ _)); exact BK186.out) Try.underlying28 rfl (by kernel_rfl)) rfl ?_
 exact ⟨by first | rfl | (simp [errW_none, errW_some] <;> rfl) | (simp [*, errW_none, errW_some] <;> rfl), bl⟩

/-! ### spec_raMul: function 100 -/
def spec_raMul.f (k : Nat) (a0_0 : Int) (a0_1 : Int) (a1_0 : Int) (a1_1 : Int) : Option (Int × Int × Bool) := (spec_raMake.f k (wrap64 (a0_0 * a1_0)) (wrap64 (a0_1 * a1_1))).bind fun bt202 => (some (bt202.1, bt202.2.1, bt202.2.2))
set_option maxHeartbeats 8000000 in
set_option maxRecDepth 100000 in
theorem spec_raMul.calls (k : Nat) (a0_0 : Int) (a0_1 : Int) (a1_0 : Int) (a1_1 : Int) (r1 : Int) (r2 : Int) (r3 : Bool) (w : World) (h : spec_raMul.f k a0_0 a0_1 a1_0 a1_1 = some (r1, r2, r3)) :
  Calls Try.prog 100 #[.agg #[.int .i64 a0_0, .int .i64 a0_1], .agg #[.int .i64 a1_0, .int .i64 a1_1]] w fun e w' => e = .returned (.tuple #[.agg #[.int .i64 r1, .int .i64 r2], .bool r3]) ∧ Below w.heap.size w w' := by
 have hu28 := Try.underlying28
 have HB := Aside0.mk (Below.refl w.heap.size w)
 have H : ((spec_raMake.f k (wrap64 (a0_0 * a1_0)) (wrap64 (a0_1 * a1_1))).bind fun bt202 => (some (bt202.1, bt202.2.1, bt202.2.2))) = some (r1, r2, r3) := h
 clear h
 replace H := Option.bind_eq_some_iff.mp H
 obtain ⟨⟨t202, t203, t204⟩, A30, H⟩ := H
 replace H : (some (t202, t203, t204)) = some (r1, r2, r3) := H
 have A3 := Aside0.mk A30
 clear A30
 simp only [Option.some.injEq, Prod.mk.injEq] at H
 obtain ⟨rfl, rfl, rfl⟩ := H
 go_enter Try.func100, Try.ntmps100
 go_wp2_with (first | ((with_reducible refine gate_dst (N := 2) rfl ?_); refine bx 2 #[.int .i64 a0_0, .int .i64 a0_1] 28 ?_; intro gb199 hg w4 hbox hb; have BK199 := Aside0.mk (hbox); have GW199 := Aside0.mk (bz hg); have GE199 := GW199; replace HB := Aside0.mk (bs hb); clear hb hbox hg) | ((with_reducible refine gate_dst (N := 3) rfl ?_); refine bx 3 #[.int .i64 a1_0, .int .i64 a1_1] 28 ?_; intro gb200 hg w5 hbox hb; have BK200 := Aside0.mk (hbox); have GW200 := Aside0.mk (bz hg); have GE200 := GW200; have NB199_200 := Aside0.mk (bn gb199 hg); have NB200_199 := Aside0.mk NB199_200.out.symm; replace BK199 := Aside0.mk (bb gb199 hb); replace HB := Aside0.mk (bs hb); clear hb hbox hg) | ((with_reducible refine gate_dst (N := 4) rfl ?_); refine bx 4 #[.int .i64 0, .int .i64 0] 28 ?_; intro gb201 hg w6 hbox hb; have BK201 := Aside0.mk (hbox); have GW201 := Aside0.mk (bz hg); have GE201 := GW201; have NB199_201 := Aside0.mk (bn gb199 hg); have NB201_199 := Aside0.mk NB199_201.out.symm; have NB200_201 := Aside0.mk (bn gb200 hg); have NB201_200 := Aside0.mk NB200_201.out.symm; replace BK199 := Aside0.mk (bb gb199 hb); replace BK200 := Aside0.mk (bb gb200 hb); replace HB := Aside0.mk (bs hb); clear hb hbox hg; have hnb7 := NB199_200.out; have hnc7 := NB200_199.out; have hnb8 := NB199_201.out; have hnc8 := NB201_199.out; have hcz9_0 : w6.cell? ⟨gb199, 0, none⟩ = some (.int .i64 a0_0) := (blk_cell BK199.out 0).trans rfl; have hcz9_1 : w6.cell? ⟨gb199, 1, none⟩ = some (.int .i64 a0_1) := (blk_cell BK199.out 1).trans rfl; have hfz9_0 := blk_frozen BK199.out 0; have hfz9_1 := blk_frozen BK199.out 1; have hnb10 := NB200_201.out; have hnc10 := NB201_200.out; have hcz11_0 : w6.cell? ⟨gb200, 0, none⟩ = some (.int .i64 a1_0) := (blk_cell BK200.out 0).trans rfl; have hcz11_1 : w6.cell? ⟨gb200, 1, none⟩ = some (.int .i64 a1_1) := (blk_cell BK200.out 1).trans rfl; have hfz11_0 := blk_frozen BK200.out 0; have hfz11_1 := blk_frozen BK200.out 1) | ((with_reducible refine gate_callee (f := 125) rfl ?_); refine gl 16 Try.func125 #[.int .i64 (wrap64 (a0_0 * a1_0)), .int .i64 (wrap64 (a0_1 * a1_1))] ?_; (with_reducible refine (spec_raMake.calls k (wrap64 (a0_0 * a1_0)) (wrap64 (a0_1 * a1_1)) t202 t203 t204 _ A3.out).mono ?_); rintro e w12 ⟨rfl, hb⟩; refine ⟨_, rfl, ?_⟩; replace BK199 := Aside0.mk (bb gb199 hb); replace BK200 := Aside0.mk (bb gb200 hb); replace BK201 := Aside0.mk (bb gb201 hb); replace HB := Aside0.mk (bs hb); (try clear hb); (try clear hb2); (try clear hk); (try clear hi); have hcz13_0 : w12.cell? ⟨gb201, 0, none⟩ = some (.int .i64 0) := (blk_cell BK201.out 0).trans rfl; have hcz13_1 : w12.cell? ⟨gb201, 1, none⟩ = some (.int .i64 0) := (blk_cell BK201.out 1).trans rfl; have hfz13_0 := blk_frozen BK201.out 0; have hfz13_1 := blk_frozen BK201.out 1))
 refine bodyPost_ret (results_ct rfl _ _ gb201 28 #[.int .i64 t202, .int .i64 t203] (0, 0) _ rfl (by (with_reducible repeat (first | refine blk_drewN ?_ _ | refine blk_drew ?_ | refine blk_alloc ?_ _)); refine blk_put (cs := #[.int .i64 t202, .int .i64 0]) ?_ 1 _ rfl; (with_reducible repeat (first | refine blk_drewN ?_ _ | refine blk_drew ?_ | refine blk_alloc ?_ _)); refine blk_put (cs := #[.int .i64 0, .int .i64 0]) ?_ 0 _ rfl; (with_reducible repeat (first | refine blk_drewN ?_ _ | refine blk_drew ?_ | refine blk_alloc ?_ _)); exact BK201.out) Try.underlying28 rfl (by kernel_rfl)) rfl ?_
 exact ⟨by first | rfl | (simp [errW_none, errW_some] <;> rfl) | (simp [*, errW_none, errW_some] <;> rfl), bl⟩

/-! ### spec_raAdd: function 102 -/
def spec_raAdd.f (k : Nat) (a0_0 : Int) (a0_1 : Int) (a1_0 : Int) (a1_1 : Int) : Option (Int × Int × Bool) := (spec_raMake.f k (wrap64 ((wrap64 (a0_0 * a1_1)) + (wrap64 (a1_0 * a0_1)))) (wrap64 (a0_1 * a1_1))).bind fun bt208 => (some (bt208.1, bt208.2.1, bt208.2.2))
set_option maxHeartbeats 8000000 in
set_option maxRecDepth 100000 in
theorem spec_raAdd.calls (k : Nat) (a0_0 : Int) (a0_1 : Int) (a1_0 : Int) (a1_1 : Int) (r1 : Int) (r2 : Int) (r3 : Bool) (w : World) (h : spec_raAdd.f k a0_0 a0_1 a1_0 a1_1 = some (r1, r2, r3)) :
  Calls Try.prog 102 #[.agg #[.int .i64 a0_0, .int .i64 a0_1], .agg #[.int .i64 a1_0, .int .i64 a1_1]] w fun e w' => e = .returned (.tuple #[.agg #[.int .i64 r1, .int .i64 r2], .bool r3]) ∧ Below w.heap.size w w' := by
 have hu28 := Try.underlying28
 have HB := Aside0.mk (Below.refl w.heap.size w)
 have H : ((spec_raMake.f k (wrap64 ((wrap64 (a0_0 * a1_1)) + (wrap64 (a1_0 * a0_1)))) (wrap64 (a0_1 * a1_1))).bind fun bt208 => (some (bt208.1, bt208.2.1, bt208.2.2))) = some (r1, r2, r3) := h
 clear h
 replace H := Option.bind_eq_some_iff.mp H
 obtain ⟨⟨t208, t209, t210⟩, A30, H⟩ := H
 replace H : (some (t208, t209, t210)) = some (r1, r2, r3) := H
 have A3 := Aside0.mk A30
 clear A30
 simp only [Option.some.injEq, Prod.mk.injEq] at H
 obtain ⟨rfl, rfl, rfl⟩ := H
 go_enter Try.func102, Try.ntmps102
 go_wp2_with (first | ((with_reducible refine gate_dst (N := 2) rfl ?_); refine bx 2 #[.int .i64 a0_0, .int .i64 a0_1] 28 ?_; intro gb205 hg w4 hbox hb; have BK205 := Aside0.mk (hbox); have GW205 := Aside0.mk (bz hg); have GE205 := GW205; replace HB := Aside0.mk (bs hb); clear hb hbox hg) | ((with_reducible refine gate_dst (N := 3) rfl ?_); refine bx 3 #[.int .i64 a1_0, .int .i64 a1_1] 28 ?_; intro gb206 hg w5 hbox hb; have BK206 := Aside0.mk (hbox); have GW206 := Aside0.mk (bz hg); have GE206 := GW206; have NB205_206 := Aside0.mk (bn gb205 hg); have NB206_205 := Aside0.mk NB205_206.out.symm; replace BK205 := Aside0.mk (bb gb205 hb); replace HB := Aside0.mk (bs hb); clear hb hbox hg) | ((with_reducible refine gate_dst (N := 4) rfl ?_); refine bx 4 #[.int .i64 0, .int .i64 0] 28 ?_; intro gb207 hg w6 hbox hb; have BK207 := Aside0.mk (hbox); have GW207 := Aside0.mk (bz hg); have GE207 := GW207; have NB205_207 := Aside0.mk (bn gb205 hg); have NB207_205 := Aside0.mk NB205_207.out.symm; have NB206_207 := Aside0.mk (bn gb206 hg); have NB207_206 := Aside0.mk NB206_207.out.symm; replace BK205 := Aside0.mk (bb gb205 hb); replace BK206 := Aside0.mk (bb gb206 hb); replace HB := Aside0.mk (bs hb); clear hb hbox hg; have hnb7 := NB205_206.out; have hnc7 := NB206_205.out; have hnb8 := NB205_207.out; have hnc8 := NB207_205.out; have hcz9_0 : w6.cell? ⟨gb205, 0, none⟩ = some (.int .i64 a0_0) := (blk_cell BK205.out 0).trans rfl; have hcz9_1 : w6.cell? ⟨gb205, 1, none⟩ = some (.int .i64 a0_1) := (blk_cell BK205.out 1).trans rfl; have hfz9_0 := blk_frozen BK205.out 0; have hfz9_1 := blk_frozen BK205.out 1; have hnb10 := NB206_207.out; have hnc10 := NB207_206.out; have hcz11_0 : w6.cell? ⟨gb206, 0, none⟩ = some (.int .i64 a1_0) := (blk_cell BK206.out 0).trans rfl; have hcz11_1 : w6.cell? ⟨gb206, 1, none⟩ = some (.int .i64 a1_1) := (blk_cell BK206.out 1).trans rfl; have hfz11_0 := blk_frozen BK206.out 0; have hfz11_1 := blk_frozen BK206.out 1) | ((with_reducible refine gate_callee (f := 125) rfl ?_); refine gl 22 Try.func125 #[.int .i64 (wrap64 ((wrap64 (a0_0 * a1_1)) + (wrap64 (a1_0 * a0_1)))), .int .i64 (wrap64 (a0_1 * a1_1))] ?_; (with_reducible refine (spec_raMake.calls k (wrap64 ((wrap64 (a0_0 * a1_1)) + (wrap64 (a1_0 * a0_1)))) (wrap64 (a0_1 * a1_1)) t208 t209 t210 _ A3.out).mono ?_); rintro e w12 ⟨rfl, hb⟩; refine ⟨_, rfl, ?_⟩; replace BK205 := Aside0.mk (bb gb205 hb); replace BK206 := Aside0.mk (bb gb206 hb); replace BK207 := Aside0.mk (bb gb207 hb); replace HB := Aside0.mk (bs hb); (try clear hb); (try clear hb2); (try clear hk); (try clear hi); have hcz13_0 : w12.cell? ⟨gb207, 0, none⟩ = some (.int .i64 0) := (blk_cell BK207.out 0).trans rfl; have hcz13_1 : w12.cell? ⟨gb207, 1, none⟩ = some (.int .i64 0) := (blk_cell BK207.out 1).trans rfl; have hfz13_0 := blk_frozen BK207.out 0; have hfz13_1 := blk_frozen BK207.out 1))
 refine bodyPost_ret (results_ct rfl _ _ gb207 28 #[.int .i64 t208, .int .i64 t209] (0, 0) _ rfl (by (with_reducible repeat (first | refine blk_drewN ?_ _ | refine blk_drew ?_ | refine blk_alloc ?_ _)); refine blk_put (cs := #[.int .i64 t208, .int .i64 0]) ?_ 1 _ rfl; (with_reducible repeat (first | refine blk_drewN ?_ _ | refine blk_drew ?_ | refine blk_alloc ?_ _)); refine blk_put (cs := #[.int .i64 0, .int .i64 0]) ?_ 0 _ rfl; (with_reducible repeat (first | refine blk_drewN ?_ _ | refine blk_drew ?_ | refine blk_alloc ?_ _)); exact BK207.out) Try.underlying28 rfl (by kernel_rfl)) rfl ?_
 exact ⟨by first | rfl | (simp [errW_none, errW_some] <;> rfl) | (simp [*, errW_none, errW_some] <;> rfl), bl⟩

end Go.Proofs.Ytmecnnnagallnaa.PFnExactPiecesOf
