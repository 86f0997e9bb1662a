-- Written by this session's program wip/pp (the kit's print tool with additions) 35421559b90ae4d0a3588c463048766b98c2df88dd9212a6774a882060cdf62d
import Derived.Test.YtmecnnnagallnaaPFnExactLeastSlopex0
import Derived.Test.YtmecnnnagallnaaPFnExactLeastSlopex2
namespace Go.Proofs.Ytmecnnnagallnaa.PFnExactLeastSlope
open Go.RowKit Go.Proofs.YtmecnnnagallnaaW.PrintWords Go.Proofs.YtmecnnnagallnaaW.PrintLast Go.Proofs.YtmecnnnagallnaaW.PrintMore
attribute [local go_sem] max2_int min2_int max_two min_two max_three min_three max_four min_four   -- for this text's walks alone
set_option linter.unusedVariables false
set_option linter.unusedSimpArgs false

/-! ### spec_ivGood: function 43 -/
def spec_ivGood.f (k : Nat) (a0_0 : Int) (a0_1 : Int) (a0_2 : Int) (a0_3 : Int) : Option (Bool) := (spec_raUnit.f k a0_0 a0_1).bind fun t132 => (if t132 = true then ((spec_raUnit.f k a0_2 a0_3).bind fun t133 => (if t133 = true then ((spec_raCmp.f a0_0 a0_1 a0_2 a0_3).bind fun t134 => (some (decide (t134 < 0)))) else (some false))) else (some false))
set_option maxHeartbeats 8000000 in
set_option maxRecDepth 100000 in
theorem spec_ivGood.calls (k : Nat) (a0_0 : Int) (a0_1 : Int) (a0_2 : Int) (a0_3 : Int) (r : Bool) (w : World) (h : spec_ivGood.f k a0_0 a0_1 a0_2 a0_3 = some r) :
  Calls Try.prog 43 #[.agg #[.int .i64 a0_0, .int .i64 a0_1, .int .i64 a0_2, .int .i64 a0_3]] w fun e w' => e = .returned (.bool r) ∧ Below w.heap.size w w' := by
 have hu34 := Try.underlying34
 have hu28 := Try.underlying28
 have HB := Aside0.mk (Below.refl w.heap.size w)
 have H : ((spec_raUnit.f k a0_0 a0_1).bind fun t132 => (if t132 = true then ((spec_raUnit.f k a0_2 a0_3).bind fun t133 => (if t133 = true then ((spec_raCmp.f a0_0 a0_1 a0_2 a0_3).bind fun t134 => (some (decide (t134 < 0)))) else (some false))) else (some false))) = some r := h
 clear h
 replace H := Option.bind_eq_some_iff.mp H
 obtain ⟨t132, A20, H⟩ := H
 replace H : (if t132 = true then ((spec_raUnit.f k a0_2 a0_3).bind fun t133 => (if t133 = true then ((spec_raCmp.f a0_0 a0_1 a0_2 a0_3).bind fun t134 => (some (decide (t134 < 0)))) else (some false))) else (some false)) = some r := H
 have A2 := Aside0.mk A20
 clear A20
 by_cases c3 : t132 = true
 ·subst c3
  have H1 : ((spec_raUnit.f k a0_2 a0_3).bind fun t133 => (if t133 = true then ((spec_raCmp.f a0_0 a0_1 a0_2 a0_3).bind fun t134 => (some (decide (t134 < 0)))) else (some false))) = some r := by rw [if_pos rfl] at H; exact H
  clear H
  have H := H1
  clear H1
  replace H := Option.bind_eq_some_iff.mp H
  obtain ⟨t133, A40, H⟩ := H
  replace H : (if t133 = true then ((spec_raCmp.f a0_0 a0_1 a0_2 a0_3).bind fun t134 => (some (decide (t134 < 0)))) else (some false)) = some r := H
  have A4 := Aside0.mk A40
  clear A40
  by_cases c5 : t133 = true
  ·subst c5
   have H1 : ((spec_raCmp.f a0_0 a0_1 a0_2 a0_3).bind fun t134 => (some (decide (t134 < 0)))) = some r := by rw [if_pos rfl] at H; exact H
   clear H
   have H := H1
   clear H1
   replace H := Option.bind_eq_some_iff.mp H
   obtain ⟨t134, A60, H⟩ := H
   replace H : (some (decide (t134 < 0))) = some r := H
   have A6 := Aside0.mk A60
   clear A60
   obtain rfl := Option.some.inj H
   go_enter Try.func43, Try.ntmps43
   go_wp2_with (first | ((with_reducible refine gate_dst (N := 1) rfl ?_); refine bx 1 #[.int .i64 a0_0, .int .i64 a0_1, .int .i64 a0_2, .int .i64 a0_3] 34 ?_; intro gb131 hg w7 hbox hb; have BK131 := Aside0.mk (hbox); have GW131 := Aside0.mk (bz hg); have GE131 := GW131; replace HB := Aside0.mk (bs hb); clear hb hbox hg; have hcz8_0 : w7.cell? ⟨gb131, 0, none⟩ = some (.int .i64 a0_0) := (blk_cell BK131.out 0).trans rfl; have hcz8_1 : w7.cell? ⟨gb131, 1, none⟩ = some (.int .i64 a0_1) := (blk_cell BK131.out 1).trans rfl; have hcz8_2 : w7.cell? ⟨gb131, 2, none⟩ = some (.int .i64 a0_2) := (blk_cell BK131.out 2).trans rfl; have hcz8_3 : w7.cell? ⟨gb131, 3, none⟩ = some (.int .i64 a0_3) := (blk_cell BK131.out 3).trans rfl; have hfz8_0 := blk_frozen BK131.out 0; have hfz8_1 := blk_frozen BK131.out 1; have hfz8_2 := blk_frozen BK131.out 2; have hfz8_3 := blk_frozen BK131.out 3) | ((with_reducible refine gate_callee (f := 67) rfl ?_); refine gl 5 Try.func67 #[.agg #[.int .i64 a0_0, .int .i64 a0_1]] ?_; (with_reducible refine (spec_raUnit.calls k a0_0 a0_1 true _ A2.out).mono ?_); rintro e w9 ⟨rfl, hb⟩; refine ⟨_, rfl, ?_⟩; replace BK131 := Aside0.mk (bb gb131 hb); replace HB := Aside0.mk (bs hb); (try clear hb); (try clear hb2); (try clear hk); (try clear hi); have hcz10_0 : w9.cell? ⟨gb131, 0, none⟩ = some (.int .i64 a0_0) := (blk_cell BK131.out 0).trans rfl; have hcz10_1 : w9.cell? ⟨gb131, 1, none⟩ = some (.int .i64 a0_1) := (blk_cell BK131.out 1).trans rfl; have hcz10_2 : w9.cell? ⟨gb131, 2, none⟩ = some (.int .i64 a0_2) := (blk_cell BK131.out 2).trans rfl; have hcz10_3 : w9.cell? ⟨gb131, 3, none⟩ = some (.int .i64 a0_3) := (blk_cell BK131.out 3).trans rfl; have hfz10_0 := blk_frozen BK131.out 0; have hfz10_1 := blk_frozen BK131.out 1; have hfz10_2 := blk_frozen BK131.out 2; have hfz10_3 := blk_frozen BK131.out 3) | (go_at_call 67; (with_reducible refine (spec_raUnit.calls k a0_2 a0_3 true _ A4.out).mono ?_); rintro e w11 ⟨rfl, hb⟩; replace BK131 := Aside0.mk (bb gb131 hb); replace HB := Aside0.mk (bs hb); (try clear hb); (try clear hb2); (try clear hk); (try clear hi); have hcz12_0 : w11.cell? ⟨gb131, 0, none⟩ = some (.int .i64 a0_0) := (blk_cell BK131.out 0).trans rfl; have hcz12_1 : w11.cell? ⟨gb131, 1, none⟩ = some (.int .i64 a0_1) := (blk_cell BK131.out 1).trans rfl; have hcz12_2 : w11.cell? ⟨gb131, 2, none⟩ = some (.int .i64 a0_2) := (blk_cell BK131.out 2).trans rfl; have hcz12_3 : w11.cell? ⟨gb131, 3, none⟩ = some (.int .i64 a0_3) := (blk_cell BK131.out 3).trans rfl; have hfz12_0 := blk_frozen BK131.out 0; have hfz12_1 := blk_frozen BK131.out 1; have hfz12_2 := blk_frozen BK131.out 2; have hfz12_3 := blk_frozen BK131.out 3) | (go_at_call 45; (with_reducible refine (spec_raCmp.calls a0_0 a0_1 a0_2 a0_3 t134 _ A6.out).mono ?_); rintro e w13 ⟨rfl, hb⟩; replace BK131 := Aside0.mk (bb gb131 hb); replace HB := Aside0.mk (bs hb); (try clear hb); (try clear hb2); (try clear hk); (try clear hi)))
   go_ret
   exact ⟨by first | rfl | (simp [errW_none, errW_some] <;> rfl) | (simp [*, errW_none, errW_some] <;> rfl), bl⟩
  ·replace c5 := Bool.eq_false_iff.mpr c5
   subst c5
   have H1 : (some false) = some r := by rw [if_neg (show ¬ (false = true) by decide)] at H; exact H
   clear H
   have H := H1
   clear H1
   obtain rfl := Option.some.inj H
   go_enter Try.func43, Try.ntmps43
   go_wp2_with (first | ((with_reducible refine gate_dst (N := 1) rfl ?_); refine bx 1 #[.int .i64 a0_0, .int .i64 a0_1, .int .i64 a0_2, .int .i64 a0_3] 34 ?_; intro gb131 hg w14 hbox hb; have BK131 := Aside0.mk (hbox); have GW131 := Aside0.mk (bz hg); have GE131 := GW131; replace HB := Aside0.mk (bs hb); clear hb hbox hg; have hcz15_0 : w14.cell? ⟨gb131, 0, none⟩ = some (.int .i64 a0_0) := (blk_cell BK131.out 0).trans rfl; have hcz15_1 : w14.cell? ⟨gb131, 1, none⟩ = some (.int .i64 a0_1) := (blk_cell BK131.out 1).trans rfl; have hcz15_2 : w14.cell? ⟨gb131, 2, none⟩ = some (.int .i64 a0_2) := (blk_cell BK131.out 2).trans rfl; have hcz15_3 : w14.cell? ⟨gb131, 3, none⟩ = some (.int .i64 a0_3) := (blk_cell BK131.out 3).trans rfl; have hfz15_0 := blk_frozen BK131.out 0; have hfz15_1 := blk_frozen BK131.out 1; have hfz15_2 := blk_frozen BK131.out 2; have hfz15_3 := blk_frozen BK131.out 3) | ((with_reducible refine gate_callee (f := 67) rfl ?_); refine gl 5 Try.func67 #[.agg #[.int .i64 a0_0, .int .i64 a0_1]] ?_; (with_reducible refine (spec_raUnit.calls k a0_0 a0_1 true _ A2.out).mono ?_); rintro e w16 ⟨rfl, hb⟩; refine ⟨_, rfl, ?_⟩; replace BK131 := Aside0.mk (bb gb131 hb); replace HB := Aside0.mk (bs hb); (try clear hb); (try clear hb2); (try clear hk); (try clear hi); have hcz17_0 : w16.cell? ⟨gb131, 0, none⟩ = some (.int .i64 a0_0) := (blk_cell BK131.out 0).trans rfl; have hcz17_1 : w16.cell? ⟨gb131, 1, none⟩ = some (.int .i64 a0_1) := (blk_cell BK131.out 1).trans rfl; have hcz17_2 : w16.cell? ⟨gb131, 2, none⟩ = some (.int .i64 a0_2) := (blk_cell BK131.out 2).trans rfl; have hcz17_3 : w16.cell? ⟨gb131, 3, none⟩ = some (.int .i64 a0_3) := (blk_cell BK131.out 3).trans rfl; have hfz17_0 := blk_frozen BK131.out 0; have hfz17_1 := blk_frozen BK131.out 1; have hfz17_2 := blk_frozen BK131.out 2; have hfz17_3 := blk_frozen BK131.out 3) | (go_at_call 67; (with_reducible refine (spec_raUnit.calls k a0_2 a0_3 false _ A4.out).mono ?_); rintro e w18 ⟨rfl, hb⟩; replace BK131 := Aside0.mk (bb gb131 hb); replace HB := Aside0.mk (bs hb); (try clear hb); (try clear hb2); (try clear hk); (try clear hi)))
   go_ret
   exact ⟨by first | rfl | (simp [errW_none, errW_some] <;> rfl) | (simp [*, errW_none, errW_some] <;> rfl), bl⟩
 ·replace c3 := Bool.eq_false_iff.mpr c3
  subst c3
  have H1 : (some false) = some r := by rw [if_neg (show ¬ (false = true) by decide)] at H; exact H
  clear H
  have H := H1
  clear H1
  obtain rfl := Option.some.inj H
  go_enter Try.func43, Try.ntmps43
  go_wp2_with (first | ((with_reducible refine gate_dst (N := 1) rfl ?_); refine bx 1 #[.int .i64 a0_0, .int .i64 a0_1, .int .i64 a0_2, .int .i64 a0_3] 34 ?_; intro gb131 hg w19 hbox hb; have BK131 := Aside0.mk (hbox); have GW131 := Aside0.mk (bz hg); have GE131 := GW131; replace HB := Aside0.mk (bs hb); clear hb hbox hg; have hcz20_0 : w19.cell? ⟨gb131, 0, none⟩ = some (.int .i64 a0_0) := (blk_cell BK131.out 0).trans rfl; have hcz20_1 : w19.cell? ⟨gb131, 1, none⟩ = some (.int .i64 a0_1) := (blk_cell BK131.out 1).trans rfl; have hcz20_2 : w19.cell? ⟨gb131, 2, none⟩ = some (.int .i64 a0_2) := (blk_cell BK131.out 2).trans rfl; have hcz20_3 : w19.cell? ⟨gb131, 3, none⟩ = some (.int .i64 a0_3) := (blk_cell BK131.out 3).trans rfl; have hfz20_0 := blk_frozen BK131.out 0; have hfz20_1 := blk_frozen BK131.out 1; have hfz20_2 := blk_frozen BK131.out 2; have hfz20_3 := blk_frozen BK131.out 3) | ((with_reducible refine gate_callee (f := 67) rfl ?_); refine gl 5 Try.func67 #[.agg #[.int .i64 a0_0, .int .i64 a0_1]] ?_; (with_reducible refine (spec_raUnit.calls k a0_0 a0_1 false _ A2.out).mono ?_); rintro e w21 ⟨rfl, hb⟩; refine ⟨_, rfl, ?_⟩; replace BK131 := Aside0.mk (bb gb131 hb); replace HB := Aside0.mk (bs hb); (try clear hb); (try clear hb2); (try clear hk); (try clear hi)))
  go_ret
  exact ⟨by first | rfl | (simp [errW_none, errW_some] <;> rfl) | (simp [*, errW_none, errW_some] <;> rfl), bl⟩

/-! ### spec_raMake: function 125 -/
def spec_raMake.f (k : Nat) (a0 : Int) (a1 : Int) : Option (Int × Int × Bool) := if a1 = 0 then (some (0, 0, false)) else ((spec_l1Abs.f a0).bind fun t136 => ((spec_l1Abs.f a1).bind fun t137 => ((spec_raCommon.f k t136 t137).bind fun t138 => (if a1 < 0 then (if (wrap64 (-t138)) = 0 then (none) else ((spec_raGood.f k (wrap64 (Int.tdiv a0 (wrap64 (-t138)))) (wrap64 (Int.tdiv a1 (wrap64 (-t138))))).bind fun t140 => (if t140 = true then (some (wrap64 (Int.tdiv a0 (wrap64 (-t138))), wrap64 (Int.tdiv a1 (wrap64 (-t138))), true)) else (some (0, 0, false))))) else (if t138 = 0 then (none) else ((spec_raGood.f k (wrap64 (Int.tdiv a0 t138)) (wrap64 (Int.tdiv a1 t138))).bind fun t142 => (if t142 = true then (some (wrap64 (Int.tdiv a0 t138), wrap64 (Int.tdiv a1 t138), true)) else (some (0, 0, false)))))))))
def spec_raMake.T6 : Bool × List (List Nat × List Nat) := (true, [([], []), ([], []), ([0, 1], [0, 1]), ([], []), ([], []), ([3, 4], [3, 4]), ([2, 5], [2, 5]), ([], []), ([7, 6, 0, 1, 2, 3, 4, 5, 6, 7], [6, 7])])
def spec_raMake.B6 : List Nat := [0, 0, 3, 0, 0, 24, 63, 0, 255]
theorem spec_raMake.tab6 : rtab .any (opsOf Try.f125 6) = spec_raMake.T6 := by kernel_rfl
theorem spec_raMake.bits6 : waitsOk spec_raMake.T6.2 spec_raMake.B6 = true := by kernel_rfl
set_option maxHeartbeats 8000000 in
set_option maxRecDepth 100000 in
theorem spec_raMake.calls (k : Nat) (a0 : Int) (a1 : Int) (r1 : Int) (r2 : Int) (r3 : Bool) (w : World) (h : spec_raMake.f k a0 a1 = some (r1, r2, r3)) :
  Calls Try.prog 125 #[.int .i64 a0, .int .i64 a1] w fun e w' => e = .returned (.tuple #[.agg #[.int .i64 r1, .int .i64 r2], .bool r3]) ∧ Below w.heap.size w w' := by
 have hu28 := Try.underlying28
 have HB := Aside0.mk (Below.refl w.heap.size w)
 have H : (if a1 = 0 then (some (0, 0, false)) else ((spec_l1Abs.f a0).bind fun t136 => ((spec_l1Abs.f a1).bind fun t137 => ((spec_raCommon.f k t136 t137).bind fun t138 => (if a1 < 0 then (if (wrap64 (-t138)) = 0 then (none) else ((spec_raGood.f k (wrap64 (Int.tdiv a0 (wrap64 (-t138)))) (wrap64 (Int.tdiv a1 (wrap64 (-t138))))).bind fun t140 => (if t140 = true then (some (wrap64 (Int.tdiv a0 (wrap64 (-t138))), wrap64 (Int.tdiv a1 (wrap64 (-t138))), true)) else (some (0, 0, false))))) else (if t138 = 0 then (none) else ((spec_raGood.f k (wrap64 (Int.tdiv a0 t138)) (wrap64 (Int.tdiv a1 t138))).bind fun t142 => (if t142 = true then (some (wrap64 (Int.tdiv a0 t138), wrap64 (Int.tdiv a1 t138), true)) else (some (0, 0, false)))))))))) = some (r1, r2, r3) := h
 clear h
 by_cases c3 : a1 = 0
 ·rw [if_pos c3] at H
  have c3b0 : (a1 == 0) = true := beq_iff_eq.mpr c3
  have c3b1 : (a1 != 0) = false := bne_eq_false_iff_eq.mpr c3
  clear c3
  simp only [Option.some.injEq, Prod.mk.injEq] at H
  obtain ⟨rfl, rfl, rfl⟩ := H
  go_enter Try.func125, Try.ntmps125
  go_wp2_with (first | ((with_reducible refine gate_dst (N := 4) rfl ?_); refine bx 4 #[.int .i64 0, .int .i64 0] 28 ?_; intro gb135 hg w4 hbox hb; have BK135 := Aside0.mk (hbox); have GW135 := Aside0.mk (bz hg); have GE135 := GW135; replace HB := Aside0.mk (bs hb); clear hb hbox hg; have hcz5_0 : w4.cell? ⟨gb135, 0, none⟩ = some (.int .i64 0) := (blk_cell BK135.out 0).trans rfl; have hcz5_1 : w4.cell? ⟨gb135, 1, none⟩ = some (.int .i64 0) := (blk_cell BK135.out 1).trans rfl; have hfz5_0 := blk_frozen BK135.out 0; have hfz5_1 := blk_frozen BK135.out 1))
  refine bodyPost_ret (results_ct rfl _ _ gb135 28 #[.int .i64 0, .int .i64 0] (0, 0) _ rfl (by (with_reducible repeat (first | refine blk_drewN ?_ _ | refine blk_drew ?_ | refine blk_alloc ?_ _)); refine blk_put (cs := #[.int .i64 0, .int .i64 0]) ?_ 1 _ rfl; (with_reducible repeat (first | refine blk_drewN ?_ _ | refine blk_drew ?_ | refine blk_alloc ?_ _)); refine blk_put (cs := #[.int .i64 0, .int .i64 0]) ?_ 0 _ rfl; (with_reducible repeat (first | refine blk_drewN ?_ _ | refine blk_drew ?_ | refine blk_alloc ?_ _)); exact BK135.out) Try.underlying28 rfl (by kernel_rfl)) rfl ?_
  exact ⟨by first | rfl | (simp [errW_none, errW_some] <;> rfl) | (simp [*, errW_none, errW_some] <;> rfl), bl⟩
 ·rw [if_neg c3] at H
  have c3b0 : (a1 == 0) = false := beq_eq_false_iff_ne.mpr c3
  have c3b1 : (a1 != 0) = true := bne_iff_ne.mpr c3
  replace H := Option.bind_eq_some_iff.mp H
  obtain ⟨t136, A60, H⟩ := H
  replace H : ((spec_l1Abs.f a1).bind fun t137 => ((spec_raCommon.f k t136 t137).bind fun t138 => (if a1 < 0 then (if (wrap64 (-t138)) = 0 then (none) else ((spec_raGood.f k (wrap64 (Int.tdiv a0 (wrap64 (-t138)))) (wrap64 (Int.tdiv a1 (wrap64 (-t138))))).bind fun t140 => (if t140 = true then (some (wrap64 (Int.tdiv a0 (wrap64 (-t138))), wrap64 (Int.tdiv a1 (wrap64 (-t138))), true)) else (some (0, 0, false))))) else (if t138 = 0 then (none) else ((spec_raGood.f k (wrap64 (Int.tdiv a0 t138)) (wrap64 (Int.tdiv a1 t138))).bind fun t142 => (if t142 = true then (some (wrap64 (Int.tdiv a0 t138), wrap64 (Int.tdiv a1 t138), true)) else (some (0, 0, false)))))))) = some (r1, r2, r3) := H
  have A6 := Aside0.mk A60
  clear A60
  replace H := Option.bind_eq_some_iff.mp H
  obtain ⟨t137, A70, H⟩ := H
  replace H : ((spec_raCommon.f k t136 t137).bind fun t138 => (if a1 < 0 then (if (wrap64 (-t138)) = 0 then (none) else ((spec_raGood.f k (wrap64 (Int.tdiv a0 (wrap64 (-t138)))) (wrap64 (Int.tdiv a1 (wrap64 (-t138))))).bind fun t140 => (if t140 = true then (some (wrap64 (Int.tdiv a0 (wrap64 (-t138))), wrap64 (Int.tdiv a1 (wrap64 (-t138))), true)) else (some (0, 0, false))))) else (if t138 = 0 then (none) else ((spec_raGood.f k (wrap64 (Int.tdiv a0 t138)) (wrap64 (Int.tdiv a1 t138))).bind fun t142 => (if t142 = true then (some (wrap64 (Int.tdiv a0 t138), wrap64 (Int.tdiv a1 t138), true)) else (some (0, 0, false))))))) = some (r1, r2, r3) := H
  have A7 := Aside0.mk A70
  clear A70
  replace H := Option.bind_eq_some_iff.mp H
  obtain ⟨t138, A80, H⟩ := H
  replace H : (if a1 < 0 then (if (wrap64 (-t138)) = 0 then (none) else ((spec_raGood.f k (wrap64 (Int.tdiv a0 (wrap64 (-t138)))) (wrap64 (Int.tdiv a1 (wrap64 (-t138))))).bind fun t140 => (if t140 = true then (some (wrap64 (Int.tdiv a0 (wrap64 (-t138))), wrap64 (Int.tdiv a1 (wrap64 (-t138))), true)) else (some (0, 0, false))))) else (if t138 = 0 then (none) else ((spec_raGood.f k (wrap64 (Int.tdiv a0 t138)) (wrap64 (Int.tdiv a1 t138))).bind fun t142 => (if t142 = true then (some (wrap64 (Int.tdiv a0 t138), wrap64 (Int.tdiv a1 t138), true)) else (some (0, 0, false)))))) = some (r1, r2, r3) := H
  have A8 := Aside0.mk A80
  clear A80
  by_cases c9 : a1 < 0
  ·rw [if_pos c9] at H
   have c9b0 : decide (a1 < 0) = true := decide_eq_true c9
   clear c9
   by_cases c10 : (wrap64 (-t138)) = 0
   ·rw [if_pos c10] at H
    exact absurd H (by simp)
   ·rw [if_neg c10] at H
    have c10b0 : ((wrap64 (-t138)) == 0) = false := beq_eq_false_iff_ne.mpr c10
    have c10b1 : ((wrap64 (-t138)) != 0) = true := bne_iff_ne.mpr c10
    replace H := Option.bind_eq_some_iff.mp H
    obtain ⟨t140, A110, H⟩ := H
    replace H : (if t140 = true then (some (wrap64 (Int.tdiv a0 (wrap64 (-t138))), wrap64 (Int.tdiv a1 (wrap64 (-t138))), true)) else (some (0, 0, false))) = some (r1, r2, r3) := H
    have A11 := Aside0.mk A110
    clear A110
    by_cases c12 : t140 = true
    ·subst c12
     have H1 : (some (wrap64 (Int.tdiv a0 (wrap64 (-t138))), wrap64 (Int.tdiv a1 (wrap64 (-t138))), true)) = some (r1, r2, r3) := by rw [if_pos rfl] at H; exact H
     clear H
     have H := H1
     clear H1
     simp only [Option.some.injEq, Prod.mk.injEq] at H
     obtain ⟨rfl, rfl, rfl⟩ := H
     go_enter Try.func125, Try.ntmps125
     try go_wp2_with (first | ((with_reducible refine gate_dst (N := 4) rfl ?_); refine bx 4 #[.int .i64 0, .int .i64 0] 28 ?_; intro gb135 hg w13 hbox hb; have BK135 := Aside0.mk (hbox); have GW135 := Aside0.mk (bz hg); have GE135 := GW135; replace HB := Aside0.mk (bs hb); clear hb hbox hg) | ((with_reducible refine gate_callee (f := 46) rfl ?_); refine gl 12 Try.func46 #[.int .i64 a0] ?_; (with_reducible refine (spec_l1Abs.calls a0 t136 _ A6.out).mono ?_); rintro e w' ⟨rfl, ⟨nd, rfl⟩⟩; refine ⟨_, rfl, ?_⟩; (try (rw [drewN_self w13]; generalize hq_ : World.drewN w13 _ = w13; have n0_ : Aside0 (w13.heap[gb135]? = some (.cells #[.int .i64 0, .int .i64 0] 28 (0, 0))) := ⟨by rw [← hq_]; exact (bo gb135)⟩; have n1_ : Aside0 (Below w.heap.size w w13) := ⟨by rw [← hq_]; exact bl⟩; clear BK135 HB hq_; have BK135 := n0_; have HB := n1_; clear n0_ n1_))) | ((with_reducible refine gate_callee (f := 46) rfl ?_); refine gl 14 Try.func46 #[.int .i64 a1] ?_; (with_reducible refine (spec_l1Abs.calls a1 t137 _ A7.out).mono ?_); rintro e w' ⟨rfl, ⟨nd, rfl⟩⟩; refine ⟨_, rfl, ?_⟩; (try (rw [drewN_self w13]; generalize hq_ : World.drewN w13 _ = w13; have n0_ : Aside0 (w13.heap[gb135]? = some (.cells #[.int .i64 0, .int .i64 0] 28 (0, 0))) := ⟨by rw [← hq_]; exact (bo gb135)⟩; have n1_ : Aside0 (Below w.heap.size w w13) := ⟨by rw [← hq_]; exact bl⟩; clear BK135 HB hq_; have BK135 := n0_; have HB := n1_; clear n0_ n1_))) | ((with_reducible refine gate_callee (f := 134) rfl ?_); refine gl 15 Try.func134 #[.int .i64 t136, .int .i64 t137] ?_; (with_reducible refine (spec_raCommon.calls k t136 t137 t138 _ A8.out).mono ?_); rintro e w' ⟨rfl, ⟨nd, rfl⟩⟩; refine ⟨_, rfl, ?_⟩; (try (rw [drewN_self w13]; generalize hq_ : World.drewN w13 _ = w13; have n0_ : Aside0 (w13.heap[gb135]? = some (.cells #[.int .i64 0, .int .i64 0] 28 (0, 0))) := ⟨by rw [← hq_]; exact (bo gb135)⟩; have n1_ : Aside0 (Below w.heap.size w w13) := ⟨by rw [← hq_]; exact bl⟩; clear BK135 HB hq_; have BK135 := n0_; have HB := n1_; clear n0_ n1_))))
     replace BK135 := Aside0.mk (blk_drew BK135.out)
     replace HB := Aside0.mk (below_drew1 HB.out)
     refine start_ (n := 9) (S := fun w' => True) (ds := []) (tb 0 9) (by kernel_rfl) rfl rfl trivial (fun hHeld => ?_); refine with_tabW spec_raMake.tab6 spec_raMake.bits6 (fun HT_ HW_ => ?_)
     generalize w13.drew = w14 at BK135 HB hHeld ⊢
     refine pu 0 20 (tb 1 8) ?_
     refine pu 1 21 (tb 2 7) ?_
     refine pu 2 22 (tb 3 6) ?_
     refine pu 3 23 (tb 4 5) ?_
     refine pu 4 24 (tb 5 4) ?_
     refine pu 5 25 (tb 6 3) ?_
     refine pu 6 26 (tb 7 2) ?_
     refine on 7 7 (tb 8 1) (fun K hK => ?_)
     refine box_step ?hg (N := 7) ?hd (cs := #[.int .i64 0, .int .i64 0]) (t := 28) ?hr ?_; (case hd => rfl); (case hg => rfl); (case hr => first | (go_simp; done) | (go_simp; rfl))
     intro gb139 hg w15 hbox hb
     have BK139 := Aside0.mk (hbox)
     have GW139 := Aside0.mk (bz hg)
     have GE139 := GW139
     have NB135_139 := Aside0.mk (bn gb135 hg)
     have NB139_135 := Aside0.mk NB135_139.out.symm
     replace BK135 := Aside0.mk (bb gb135 hb)
     replace HB := Aside0.mk (bs hb)
     clear hb hbox hg
     refine hK.out _ _ trivial (fun hHeld => ?_)
     clear hK K
     refine nm 7 ?_
     refine one_ (i := 8) (N := none) (tb 9 0) rfl rfl (one_of HT_.out (by kernel_rfl)) (by decide) (fun K hK => ?_)
     have hs16 : w15.cell? ⟨gb139, 0, none⟩ = some (.int .i64 0) := (blk_cell BK139.out 0).trans rfl
     have hfs16 := blk_frozen BK139.out 0
     have hns16_0 := NB135_139.out
     have hms16_0 := NB139_135.out
     have hs17 : w15.cell? ⟨gb139, 1, none⟩ = some (.int .i64 0) := (blk_cell BK139.out 1).trans rfl
     have hfs17 := blk_frozen BK139.out 1
     have hns17_0 := NB135_139.out
     have hms17_0 := NB139_135.out
     refine skip_ (w1 := ?_) (by rfl) rfl ?_ ?_
     rotate_left
     ·go_simp
      rfl
     refine hK.out _ _ trivial (fun hHeld => ?_)
     clear hK K
     refine done_ (done_of HT_.out (by kernel_rfl)) ?_
     have hnb18 := NB139_135.out
     have hnc18 := NB135_139.out
     have hcz19_0 : w15.cell? ⟨gb139, 0, none⟩ = some (.int .i64 0) := (blk_cell BK139.out 0).trans rfl
     have hcz19_1 : w15.cell? ⟨gb139, 1, none⟩ = some (.int .i64 0) := (blk_cell BK139.out 1).trans rfl
     have hfz19_0 := blk_frozen BK139.out 0
     have hfz19_1 := blk_frozen BK139.out 1
     try go_wp2_with (first | ((with_reducible refine gate_callee (f := 114) rfl ?_); refine gl 28 Try.func114 #[.agg #[.int .i64 (wrap64 (Int.tdiv a0 (wrap64 (-t138)))), .int .i64 (wrap64 (Int.tdiv a1 (wrap64 (-t138))))]] ?_; (with_reducible refine (spec_raGood.calls k (wrap64 (Int.tdiv a0 (wrap64 (-t138)))) (wrap64 (Int.tdiv a1 (wrap64 (-t138)))) true _ A11.out).mono ?_); rintro e w20 ⟨rfl, hb⟩; refine ⟨_, rfl, ?_⟩; replace BK135 := Aside0.mk (blk_below (g := gb135) (o := .cells #[.int .i64 0, .int .i64 0] 28 (0, 0)) (by (with_reducible repeat (first | refine blk_drewN ?_ _ | refine blk_drew ?_ | refine blk_alloc ?_ _)); refine blk_far ?_ NB135_139.out _; (with_reducible repeat (first | refine blk_drewN ?_ _ | refine blk_drew ?_ | refine blk_alloc ?_ _)); refine blk_far ?_ NB135_139.out _; (with_reducible repeat (first | refine blk_drewN ?_ _ | refine blk_drew ?_ | refine blk_alloc ?_ _)); exact BK135.out) hb); replace BK139 := Aside0.mk (blk_below (g := gb139) (o := .cells #[.int .i64 (wrap64 (Int.tdiv a0 (wrap64 (-t138)))), .int .i64 (wrap64 (Int.tdiv a1 (wrap64 (-t138))))] 28 (0, 0)) (by (with_reducible repeat (first | refine blk_drewN ?_ _ | refine blk_drew ?_ | refine blk_alloc ?_ _)); refine blk_put (cs := #[.int .i64 (wrap64 (Int.tdiv a0 (wrap64 (-t138)))), .int .i64 0]) ?_ 1 _ rfl; (with_reducible repeat (first | refine blk_drewN ?_ _ | refine blk_drew ?_ | refine blk_alloc ?_ _)); refine blk_put (cs := #[.int .i64 0, .int .i64 0]) ?_ 0 _ rfl; (with_reducible repeat (first | refine blk_drewN ?_ _ | refine blk_drew ?_ | refine blk_alloc ?_ _)); exact BK139.out) hb); replace HB := Aside0.mk (bs hb); (try clear hb); (try clear hb2); (try clear hk); (try clear hi); have hcz21_0 : w20.cell? ⟨gb139, 0, none⟩ = some (.int .i64 (wrap64 (Int.tdiv a0 (wrap64 (-t138))))) := (blk_cell BK139.out 0).trans rfl; have hcz21_1 : w20.cell? ⟨gb139, 1, none⟩ = some (.int .i64 (wrap64 (Int.tdiv a1 (wrap64 (-t138))))) := (blk_cell BK139.out 1).trans rfl; have hfz21_0 := blk_frozen BK139.out 0; have hfz21_1 := blk_frozen BK139.out 1; have hcz22_0 : w20.cell? ⟨gb135, 0, none⟩ = some (.int .i64 0) := (blk_cell BK135.out 0).trans rfl; have hcz22_1 : w20.cell? ⟨gb135, 1, none⟩ = some (.int .i64 0) := (blk_cell BK135.out 1).trans rfl; have hfz22_0 := blk_frozen BK135.out 0; have hfz22_1 := blk_frozen BK135.out 1))
     refine bodyPost_ret (results_ct rfl _ _ gb135 28 #[.int .i64 (wrap64 (Int.tdiv a0 (wrap64 (-t138)))), .int .i64 (wrap64 (Int.tdiv a1 (wrap64 (-t138))))] (0, 0) _ rfl (by (with_reducible repeat (first | refine blk_drewN ?_ _ | refine blk_drew ?_ | refine blk_alloc ?_ _)); refine blk_put (cs := #[.int .i64 (wrap64 (Int.tdiv a0 (wrap64 (-t138)))), .int .i64 0]) ?_ 1 _ rfl; (with_reducible repeat (first | refine blk_drewN ?_ _ | refine blk_drew ?_ | refine blk_alloc ?_ _)); refine blk_put (cs := #[.int .i64 0, .int .i64 0]) ?_ 0 _ rfl; (with_reducible repeat (first | refine blk_drewN ?_ _ | refine blk_drew ?_ | refine blk_alloc ?_ _)); exact BK135.out) Try.underlying28 rfl (by kernel_rfl)) rfl ?_
     exact ⟨by first | rfl | (simp [errW_none, errW_some] <;> rfl) | (simp [*, errW_none, errW_some] <;> rfl), bl⟩
    ·replace c12 := Bool.eq_false_iff.mpr c12
     subst c12
     have H1 : (some (0, 0, false)) = some (r1, r2, r3) := by rw [if_neg (show ¬ (false = true) by decide)] at H; exact H
     clear H
     have H := H1
     clear H1
     simp only [Option.some.injEq, Prod.mk.injEq] at H
     obtain ⟨rfl, rfl, rfl⟩ := H
     go_enter Try.func125, Try.ntmps125
     try go_wp2_with (first | ((with_reducible refine gate_dst (N := 4) rfl ?_); refine bx 4 #[.int .i64 0, .int .i64 0] 28 ?_; intro gb135 hg w23 hbox hb; have BK135 := Aside0.mk (hbox); have GW135 := Aside0.mk (bz hg); have GE135 := GW135; replace HB := Aside0.mk (bs hb); clear hb hbox hg) | ((with_reducible refine gate_callee (f := 46) rfl ?_); refine gl 12 Try.func46 #[.int .i64 a0] ?_; (with_reducible refine (spec_l1Abs.calls a0 t136 _ A6.out).mono ?_); rintro e w' ⟨rfl, ⟨nd, rfl⟩⟩; refine ⟨_, rfl, ?_⟩; (try (rw [drewN_self w23]; generalize hq_ : World.drewN w23 _ = w23; have n0_ : Aside0 (w23.heap[gb135]? = some (.cells #[.int .i64 0, .int .i64 0] 28 (0, 0))) := ⟨by rw [← hq_]; exact (bo gb135)⟩; have n1_ : Aside0 (Below w.heap.size w w23) := ⟨by rw [← hq_]; exact bl⟩; clear BK135 HB hq_; have BK135 := n0_; have HB := n1_; clear n0_ n1_))) | ((with_reducible refine gate_callee (f := 46) rfl ?_); refine gl 14 Try.func46 #[.int .i64 a1] ?_; (with_reducible refine (spec_l1Abs.calls a1 t137 _ A7.out).mono ?_); rintro e w' ⟨rfl, ⟨nd, rfl⟩⟩; refine ⟨_, rfl, ?_⟩; (try (rw [drewN_self w23]; generalize hq_ : World.drewN w23 _ = w23; have n0_ : Aside0 (w23.heap[gb135]? = some (.cells #[.int .i64 0, .int .i64 0] 28 (0, 0))) := ⟨by rw [← hq_]; exact (bo gb135)⟩; have n1_ : Aside0 (Below w.heap.size w w23) := ⟨by rw [← hq_]; exact bl⟩; clear BK135 HB hq_; have BK135 := n0_; have HB := n1_; clear n0_ n1_))) | ((with_reducible refine gate_callee (f := 134) rfl ?_); refine gl 15 Try.func134 #[.int .i64 t136, .int .i64 t137] ?_; (with_reducible refine (spec_raCommon.calls k t136 t137 t138 _ A8.out).mono ?_); rintro e w' ⟨rfl, ⟨nd, rfl⟩⟩; refine ⟨_, rfl, ?_⟩; (try (rw [drewN_self w23]; generalize hq_ : World.drewN w23 _ = w23; have n0_ : Aside0 (w23.heap[gb135]? = some (.cells #[.int .i64 0, .int .i64 0] 28 (0, 0))) := ⟨by rw [← hq_]; exact (bo gb135)⟩; have n1_ : Aside0 (Below w.heap.size w w23) := ⟨by rw [← hq_]; exact bl⟩; clear BK135 HB hq_; have BK135 := n0_; have HB := n1_; clear n0_ n1_))))
     replace BK135 := Aside0.mk (blk_drew BK135.out)
     replace HB := Aside0.mk (below_drew1 HB.out)
     refine start_ (n := 9) (S := fun w' => True) (ds := []) (tb 0 9) (by kernel_rfl) rfl rfl trivial (fun hHeld => ?_); refine with_tabW spec_raMake.tab6 spec_raMake.bits6 (fun HT_ HW_ => ?_)
     generalize w23.drew = w24 at BK135 HB hHeld ⊢
     refine pu 0 20 (tb 1 8) ?_
     refine pu 1 21 (tb 2 7) ?_
     refine pu 2 22 (tb 3 6) ?_
     refine pu 3 23 (tb 4 5) ?_
     refine pu 4 24 (tb 5 4) ?_
     refine pu 5 25 (tb 6 3) ?_
     refine pu 6 26 (tb 7 2) ?_
     refine on 7 7 (tb 8 1) (fun K hK => ?_)
     refine box_step ?hg (N := 7) ?hd (cs := #[.int .i64 0, .int .i64 0]) (t := 28) ?hr ?_; (case hd => rfl); (case hg => rfl); (case hr => first | (go_simp; done) | (go_simp; rfl))
     intro gb139 hg w25 hbox hb
     have BK139 := Aside0.mk (hbox)
     have GW139 := Aside0.mk (bz hg)
     have GE139 := GW139
     have NB135_139 := Aside0.mk (bn gb135 hg)
     have NB139_135 := Aside0.mk NB135_139.out.symm
     replace BK135 := Aside0.mk (bb gb135 hb)
     replace HB := Aside0.mk (bs hb)
     clear hb hbox hg
     refine hK.out _ _ trivial (fun hHeld => ?_)
     clear hK K
     refine nm 7 ?_
     refine one_ (i := 8) (N := none) (tb 9 0) rfl rfl (one_of HT_.out (by kernel_rfl)) (by decide) (fun K hK => ?_)
     have hs26 : w25.cell? ⟨gb139, 0, none⟩ = some (.int .i64 0) := (blk_cell BK139.out 0).trans rfl
     have hfs26 := blk_frozen BK139.out 0
     have hns26_0 := NB135_139.out
     have hms26_0 := NB139_135.out
     have hs27 : w25.cell? ⟨gb139, 1, none⟩ = some (.int .i64 0) := (blk_cell BK139.out 1).trans rfl
     have hfs27 := blk_frozen BK139.out 1
     have hns27_0 := NB135_139.out
     have hms27_0 := NB139_135.out
     refine skip_ (w1 := ?_) (by rfl) rfl ?_ ?_
     rotate_left
     ·go_simp
      rfl
     refine hK.out _ _ trivial (fun hHeld => ?_)
     clear hK K
     refine done_ (done_of HT_.out (by kernel_rfl)) ?_
     have hnb28 := NB139_135.out
     have hnc28 := NB135_139.out
     have hcz29_0 : w25.cell? ⟨gb139, 0, none⟩ = some (.int .i64 0) := (blk_cell BK139.out 0).trans rfl
     have hcz29_1 : w25.cell? ⟨gb139, 1, none⟩ = some (.int .i64 0) := (blk_cell BK139.out 1).trans rfl
     have hfz29_0 := blk_frozen BK139.out 0
     have hfz29_1 := blk_frozen BK139.out 1
     try go_wp2_with (first | ((with_reducible refine gate_callee (f := 114) rfl ?_); refine gl 28 Try.func114 #[.agg #[.int .i64 (wrap64 (Int.tdiv a0 (wrap64 (-t138)))), .int .i64 (wrap64 (Int.tdiv a1 (wrap64 (-t138))))]] ?_; (with_reducible refine (spec_raGood.calls k (wrap64 (Int.tdiv a0 (wrap64 (-t138)))) (wrap64 (Int.tdiv a1 (wrap64 (-t138)))) false _ A11.out).mono ?_); rintro e w30 ⟨rfl, hb⟩; refine ⟨_, rfl, ?_⟩; replace BK135 := Aside0.mk (blk_below (g := gb135) (o := .cells #[.int .i64 0, .int .i64 0] 28 (0, 0)) (by (with_reducible repeat (first | refine blk_drewN ?_ _ | refine blk_drew ?_ | refine blk_alloc ?_ _)); refine blk_far ?_ NB135_139.out _; (with_reducible repeat (first | refine blk_drewN ?_ _ | refine blk_drew ?_ | refine blk_alloc ?_ _)); refine blk_far ?_ NB135_139.out _; (with_reducible repeat (first | refine blk_drewN ?_ _ | refine blk_drew ?_ | refine blk_alloc ?_ _)); exact BK135.out) hb); replace BK139 := Aside0.mk (blk_below (g := gb139) (o := .cells #[.int .i64 (wrap64 (Int.tdiv a0 (wrap64 (-t138)))), .int .i64 (wrap64 (Int.tdiv a1 (wrap64 (-t138))))] 28 (0, 0)) (by (with_reducible repeat (first | refine blk_drewN ?_ _ | refine blk_drew ?_ | refine blk_alloc ?_ _)); refine blk_put (cs := #[.int .i64 (wrap64 (Int.tdiv a0 (wrap64 (-t138)))), .int .i64 0]) ?_ 1 _ rfl; (with_reducible repeat (first | refine blk_drewN ?_ _ | refine blk_drew ?_ | refine blk_alloc ?_ _)); refine blk_put (cs := #[.int .i64 0, .int .i64 0]) ?_ 0 _ rfl; (with_reducible repeat (first | refine blk_drewN ?_ _ | refine blk_drew ?_ | refine blk_alloc ?_ _)); exact BK139.out) hb); replace HB := Aside0.mk (bs hb); (try clear hb); (try clear hb2); (try clear hk); (try clear hi); have hcz31_0 : w30.cell? ⟨gb135, 0, none⟩ = some (.int .i64 0) := (blk_cell BK135.out 0).trans rfl; have hcz31_1 : w30.cell? ⟨gb135, 1, none⟩ = some (.int .i64 0) := (blk_cell BK135.out 1).trans rfl; have hfz31_0 := blk_frozen BK135.out 0; have hfz31_1 := blk_frozen BK135.out 1))
     refine bodyPost_ret (results_ct rfl _ _ gb135 28 #[.int .i64 0, .int .i64 0] (0, 0) _ rfl (by (with_reducible repeat (first | refine blk_drewN ?_ _ | refine blk_drew ?_ | refine blk_alloc ?_ _)); refine blk_put (cs := #[.int .i64 0, .int .i64 0]) ?_ 1 _ rfl; (with_reducible repeat (first | refine blk_drewN ?_ _ | refine blk_drew ?_ | refine blk_alloc ?_ _)); refine blk_put (cs := #[.int .i64 0, .int .i64 0]) ?_ 0 _ rfl; (with_reducible repeat (first | refine blk_drewN ?_ _ | refine blk_drew ?_ | refine blk_alloc ?_ _)); exact BK135.out) Try.underlying28 rfl (by kernel_rfl)) rfl ?_
     exact ⟨by first | rfl | (simp [errW_none, errW_some] <;> rfl) | (simp [*, errW_none, errW_some] <;> rfl), bl⟩
  ·rw [if_neg c9] at H
   have c9b0 : decide (a1 < 0) = false := decide_eq_false c9
   clear c9
   by_cases c32 : t138 = 0
   ·rw [if_pos c32] at H
    exact absurd H (by simp)
   ·rw [if_neg c32] at H
    have c32b0 : (t138 == 0) = false := beq_eq_false_iff_ne.mpr c32
    have c32b1 : (t138 != 0) = true := bne_iff_ne.mpr c32
    replace H := Option.bind_eq_some_iff.mp H
    obtain ⟨t142, A330, H⟩ := H
    replace H : (if t142 = true then (some (wrap64 (Int.tdiv a0 t138), wrap64 (Int.tdiv a1 t138), true)) else (some (0, 0, false))) = some (r1, r2, r3) := H
    have A33 := Aside0.mk A330
    clear A330
    by_cases c34 : t142 = true
    ·subst c34
     have H1 : (some (wrap64 (Int.tdiv a0 t138), wrap64 (Int.tdiv a1 t138), true)) = some (r1, r2, r3) := by rw [if_pos rfl] at H; exact H
     clear H
     have H := H1
     clear H1
     simp only [Option.some.injEq, Prod.mk.injEq] at H
     obtain ⟨rfl, rfl, rfl⟩ := H
     go_enter Try.func125, Try.ntmps125
     try go_wp2_with (first | ((with_reducible refine gate_dst (N := 4) rfl ?_); refine bx 4 #[.int .i64 0, .int .i64 0] 28 ?_; intro gb135 hg w35 hbox hb; have BK135 := Aside0.mk (hbox); have GW135 := Aside0.mk (bz hg); have GE135 := GW135; replace HB := Aside0.mk (bs hb); clear hb hbox hg) | ((with_reducible refine gate_callee (f := 46) rfl ?_); refine gl 12 Try.func46 #[.int .i64 a0] ?_; (with_reducible refine (spec_l1Abs.calls a0 t136 _ A6.out).mono ?_); rintro e w' ⟨rfl, ⟨nd, rfl⟩⟩; refine ⟨_, rfl, ?_⟩; (try (rw [drewN_self w35]; generalize hq_ : World.drewN w35 _ = w35; have n0_ : Aside0 (w35.heap[gb135]? = some (.cells #[.int .i64 0, .int .i64 0] 28 (0, 0))) := ⟨by rw [← hq_]; exact (bo gb135)⟩; have n1_ : Aside0 (Below w.heap.size w w35) := ⟨by rw [← hq_]; exact bl⟩; clear BK135 HB hq_; have BK135 := n0_; have HB := n1_; clear n0_ n1_))) | ((with_reducible refine gate_callee (f := 46) rfl ?_); refine gl 14 Try.func46 #[.int .i64 a1] ?_; (with_reducible refine (spec_l1Abs.calls a1 t137 _ A7.out).mono ?_); rintro e w' ⟨rfl, ⟨nd, rfl⟩⟩; refine ⟨_, rfl, ?_⟩; (try (rw [drewN_self w35]; generalize hq_ : World.drewN w35 _ = w35; have n0_ : Aside0 (w35.heap[gb135]? = some (.cells #[.int .i64 0, .int .i64 0] 28 (0, 0))) := ⟨by rw [← hq_]; exact (bo gb135)⟩; have n1_ : Aside0 (Below w.heap.size w w35) := ⟨by rw [← hq_]; exact bl⟩; clear BK135 HB hq_; have BK135 := n0_; have HB := n1_; clear n0_ n1_))) | ((with_reducible refine gate_callee (f := 134) rfl ?_); refine gl 15 Try.func134 #[.int .i64 t136, .int .i64 t137] ?_; (with_reducible refine (spec_raCommon.calls k t136 t137 t138 _ A8.out).mono ?_); rintro e w' ⟨rfl, ⟨nd, rfl⟩⟩; refine ⟨_, rfl, ?_⟩; (try (rw [drewN_self w35]; generalize hq_ : World.drewN w35 _ = w35; have n0_ : Aside0 (w35.heap[gb135]? = some (.cells #[.int .i64 0, .int .i64 0] 28 (0, 0))) := ⟨by rw [← hq_]; exact (bo gb135)⟩; have n1_ : Aside0 (Below w.heap.size w w35) := ⟨by rw [← hq_]; exact bl⟩; clear BK135 HB hq_; have BK135 := n0_; have HB := n1_; clear n0_ n1_))))
     replace BK135 := Aside0.mk (blk_drew BK135.out)
     replace HB := Aside0.mk (below_drew1 HB.out)
     refine start_ (n := 9) (S := fun w' => True) (ds := []) (tb 0 9) (by kernel_rfl) rfl rfl trivial (fun hHeld => ?_); refine with_tabW spec_raMake.tab6 spec_raMake.bits6 (fun HT_ HW_ => ?_)
     generalize w35.drew = w36 at BK135 HB hHeld ⊢
     refine pu 0 20 (tb 1 8) ?_
     refine pu 1 21 (tb 2 7) ?_
     refine pu 2 22 (tb 3 6) ?_
     refine pu 3 23 (tb 4 5) ?_
     refine pu 4 24 (tb 5 4) ?_
     refine pu 5 25 (tb 6 3) ?_
     refine pu 6 26 (tb 7 2) ?_
     refine on 7 7 (tb 8 1) (fun K hK => ?_)
     refine box_step ?hg (N := 7) ?hd (cs := #[.int .i64 0, .int .i64 0]) (t := 28) ?hr ?_; (case hd => rfl); (case hg => rfl); (case hr => first | (go_simp; done) | (go_simp; rfl))
     intro gb141 hg w37 hbox hb
     have BK141 := Aside0.mk (hbox)
     have GW141 := Aside0.mk (bz hg)
     have GE141 := GW141
     have NB135_141 := Aside0.mk (bn gb135 hg)
     have NB141_135 := Aside0.mk NB135_141.out.symm
     replace BK135 := Aside0.mk (bb gb135 hb)
     replace HB := Aside0.mk (bs hb)
     clear hb hbox hg
     refine hK.out _ _ trivial (fun hHeld => ?_)
     clear hK K
     refine nm 7 ?_
     refine one_ (i := 8) (N := none) (tb 9 0) rfl rfl (one_of HT_.out (by kernel_rfl)) (by decide) (fun K hK => ?_)
     have hs38 : w37.cell? ⟨gb141, 0, none⟩ = some (.int .i64 0) := (blk_cell BK141.out 0).trans rfl
     have hfs38 := blk_frozen BK141.out 0
     have hns38_0 := NB135_141.out
     have hms38_0 := NB141_135.out
     have hs39 : w37.cell? ⟨gb141, 1, none⟩ = some (.int .i64 0) := (blk_cell BK141.out 1).trans rfl
     have hfs39 := blk_frozen BK141.out 1
     have hns39_0 := NB135_141.out
     have hms39_0 := NB141_135.out
     refine skip_ (w1 := ?_) (by rfl) rfl ?_ ?_
     rotate_left
     ·go_simp
      rfl
     refine hK.out _ _ trivial (fun hHeld => ?_)
     clear hK K
     refine done_ (done_of HT_.out (by kernel_rfl)) ?_
     have hnb40 := NB141_135.out
     have hnc40 := NB135_141.out
     have hcz41_0 : w37.cell? ⟨gb141, 0, none⟩ = some (.int .i64 0) := (blk_cell BK141.out 0).trans rfl
     have hcz41_1 : w37.cell? ⟨gb141, 1, none⟩ = some (.int .i64 0) := (blk_cell BK141.out 1).trans rfl
     have hfz41_0 := blk_frozen BK141.out 0
     have hfz41_1 := blk_frozen BK141.out 1
     try go_wp2_with (first | ((with_reducible refine gate_callee (f := 114) rfl ?_); refine gl 28 Try.func114 #[.agg #[.int .i64 (wrap64 (Int.tdiv a0 t138)), .int .i64 (wrap64 (Int.tdiv a1 t138))]] ?_; (with_reducible refine (spec_raGood.calls k (wrap64 (Int.tdiv a0 t138)) (wrap64 (Int.tdiv a1 t138)) true _ A33.out).mono ?_); rintro e w42 ⟨rfl, hb⟩; refine ⟨_, rfl, ?_⟩; replace BK135 := Aside0.mk (blk_below (g := gb135) (o := .cells #[.int .i64 0, .int .i64 0] 28 (0, 0)) (by (with_reducible repeat (first | refine blk_drewN ?_ _ | refine blk_drew ?_ | refine blk_alloc ?_ _)); refine blk_far ?_ NB135_141.out _; (with_reducible repeat (first | refine blk_drewN ?_ _ | refine blk_drew ?_ | refine blk_alloc ?_ _)); refine blk_far ?_ NB135_141.out _; (with_reducible repeat (first | refine blk_drewN ?_ _ | refine blk_drew ?_ | refine blk_alloc ?_ _)); exact BK135.out) hb); replace BK141 := Aside0.mk (blk_below (g := gb141) (o := .cells #[.int .i64 (wrap64 (Int.tdiv a0 t138)), .int .i64 (wrap64 (Int.tdiv a1 t138))] 28 (0, 0)) (by (with_reducible repeat (first | refine blk_drewN ?_ _ | refine blk_drew ?_ | refine blk_alloc ?_ _)); refine blk_put (cs := #[.int .i64 (wrap64 (Int.tdiv a0 t138)), .int .i64 0]) ?_ 1 _ rfl; (with_reducible repeat (first | refine blk_drewN ?_ _ | refine blk_drew ?_ | refine blk_alloc ?_ _)); refine blk_put (cs := #[.int .i64 0, .int .i64 0]) ?_ 0 _ rfl; (with_reducible repeat (first | refine blk_drewN ?_ _ | refine blk_drew ?_ | refine blk_alloc ?_ _)); exact BK141.out) hb); replace HB := Aside0.mk (bs hb); (try clear hb); (try clear hb2); (try clear hk); (try clear hi); have hcz43_0 : w42.cell? ⟨gb141, 0, none⟩ = some (.int .i64 (wrap64 (Int.tdiv a0 t138))) := (blk_cell BK141.out 0).trans rfl; have hcz43_1 : w42.cell? ⟨gb141, 1, none⟩ = some (.int .i64 (wrap64 (Int.tdiv a1 t138))) := (blk_cell BK141.out 1).trans rfl; have hfz43_0 := blk_frozen BK141.out 0; have hfz43_1 := blk_frozen BK141.out 1; have hcz44_0 : w42.cell? ⟨gb135, 0, none⟩ = some (.int .i64 0) := (blk_cell BK135.out 0).trans rfl; have hcz44_1 : w42.cell? ⟨gb135, 1, none⟩ = some (.int .i64 0) := (blk_cell BK135.out 1).trans rfl; have hfz44_0 := blk_frozen BK135.out 0; have hfz44_1 := blk_frozen BK135.out 1))
     refine bodyPost_ret (results_ct rfl _ _ gb135 28 #[.int .i64 (wrap64 (Int.tdiv a0 t138)), .int .i64 (wrap64 (Int.tdiv a1 t138))] (0, 0) _ rfl (by (with_reducible repeat (first | refine blk_drewN ?_ _ | refine blk_drew ?_ | refine blk_alloc ?_ _)); refine blk_put (cs := #[.int .i64 (wrap64 (Int.tdiv a0 t138)), .int .i64 0]) ?_ 1 _ rfl; (with_reducible repeat (first | refine blk_drewN ?_ _ | refine blk_drew ?_ | refine blk_alloc ?_ _)); refine blk_put (cs := #[.int .i64 0, .int .i64 0]) ?_ 0 _ rfl; (with_reducible repeat (first | refine blk_drewN ?_ _ | refine blk_drew ?_ | refine blk_alloc ?_ _)); exact BK135.out) Try.underlying28 rfl (by kernel_rfl)) rfl ?_
     exact ⟨by first | rfl | (simp [errW_none, errW_some] <;> rfl) | (simp [*, errW_none, errW_some] <;> rfl), bl⟩
    ·replace c34 := Bool.eq_false_iff.mpr c34
     subst c34
     have H1 : (some (0, 0, false)) = some (r1, r2, r3) := by rw [if_neg (show ¬ (false = true) by decide)] at H; exact H
     clear H
     have H := H1
     clear H1
     simp only [Option.some.injEq, Prod.mk.injEq] at H
     obtain ⟨rfl, rfl, rfl⟩ := H
     go_enter Try.func125, Try.ntmps125
     try go_wp2_with (first | ((with_reducible refine gate_dst (N := 4) rfl ?_); refine bx 4 #[.int .i64 0, .int .i64 0] 28 ?_; intro gb135 hg w45 hbox hb; have BK135 := Aside0.mk (hbox); have GW135 := Aside0.mk (bz hg); have GE135 := GW135; replace HB := Aside0.mk (bs hb); clear hb hbox hg) | ((with_reducible refine gate_callee (f := 46) rfl ?_); refine gl 12 Try.func46 #[.int .i64 a0] ?_; (with_reducible refine (spec_l1Abs.calls a0 t136 _ A6.out).mono ?_); rintro e w' ⟨rfl, ⟨nd, rfl⟩⟩; refine ⟨_, rfl, ?_⟩; (try (rw [drewN_self w45]; generalize hq_ : World.drewN w45 _ = w45; have n0_ : Aside0 (w45.heap[gb135]? = some (.cells #[.int .i64 0, .int .i64 0] 28 (0, 0))) := ⟨by rw [← hq_]; exact (bo gb135)⟩; have n1_ : Aside0 (Below w.heap.size w w45) := ⟨by rw [← hq_]; exact bl⟩; clear BK135 HB hq_; have BK135 := n0_; have HB := n1_; clear n0_ n1_))) | ((with_reducible refine gate_callee (f := 46) rfl ?_); refine gl 14 Try.func46 #[.int .i64 a1] ?_; (with_reducible refine (spec_l1Abs.calls a1 t137 _ A7.out).mono ?_); rintro e w' ⟨rfl, ⟨nd, rfl⟩⟩; refine ⟨_, rfl, ?_⟩; (try (rw [drewN_self w45]; generalize hq_ : World.drewN w45 _ = w45; have n0_ : Aside0 (w45.heap[gb135]? = some (.cells #[.int .i64 0, .int .i64 0] 28 (0, 0))) := ⟨by rw [← hq_]; exact (bo gb135)⟩; have n1_ : Aside0 (Below w.heap.size w w45) := ⟨by rw [← hq_]; exact bl⟩; clear BK135 HB hq_; have BK135 := n0_; have HB := n1_; clear n0_ n1_))) | ((with_reducible refine gate_callee (f := 134) rfl ?_); refine gl 15 Try.func134 #[.int .i64 t136, .int .i64 t137] ?_; (with_reducible refine (spec_raCommon.calls k t136 t137 t138 _ A8.out).mono ?_); rintro e w' ⟨rfl, ⟨nd, rfl⟩⟩; refine ⟨_, rfl, ?_⟩; (try (rw [drewN_self w45]; generalize hq_ : World.drewN w45 _ = w45; have n0_ : Aside0 (w45.heap[gb135]? = some (.cells #[.int .i64 0, .int .i64 0] 28 (0, 0))) := ⟨by rw [← hq_]; exact (bo gb135)⟩; have n1_ : Aside0 (Below w.heap.size w w45) := ⟨by rw [← hq_]; exact bl⟩; clear BK135 HB hq_; have BK135 := n0_; have HB := n1_; clear n0_ n1_))))
     replace BK135 := Aside0.mk (blk_drew BK135.out)
     replace HB := Aside0.mk (below_drew1 HB.out)
     refine start_ (n := 9) (S := fun w' => True) (ds := []) (tb 0 9) (by kernel_rfl) rfl rfl trivial (fun hHeld => ?_); refine with_tabW spec_raMake.tab6 spec_raMake.bits6 (fun HT_ HW_ => ?_)
     generalize w45.drew = w46 at BK135 HB hHeld ⊢
     refine pu 0 20 (tb 1 8) ?_
     refine pu 1 21 (tb 2 7) ?_
     refine pu 2 22 (tb 3 6) ?_
     refine pu 3 23 (tb 4 5) ?_
     refine pu 4 24 (tb 5 4) ?_
     refine pu 5 25 (tb 6 3) ?_
     refine pu 6 26 (tb 7 2) ?_
     refine on 7 7 (tb 8 1) (fun K hK => ?_)
     refine box_step ?hg (N := 7) ?hd (cs := #[.int .i64 0, .int .i64 0]) (t := 28) ?hr ?_; (case hd => rfl); (case hg => rfl); (case hr => first | (go_simp; done) | (go_simp; rfl))
     intro gb141 hg w47 hbox hb
     have BK141 := Aside0.mk (hbox)
     have GW141 := Aside0.mk (bz hg)
     have GE141 := GW141
     have NB135_141 := Aside0.mk (bn gb135 hg)
     have NB141_135 := Aside0.mk NB135_141.out.symm
     replace BK135 := Aside0.mk (bb gb135 hb)
     replace HB := Aside0.mk (bs hb)
     clear hb hbox hg
     refine hK.out _ _ trivial (fun hHeld => ?_)
     clear hK K
     refine nm 7 ?_
     refine one_ (i := 8) (N := none) (tb 9 0) rfl rfl (one_of HT_.out (by kernel_rfl)) (by decide) (fun K hK => ?_)
     have hs48 : w47.cell? ⟨gb141, 0, none⟩ = some (.int .i64 0) := (blk_cell BK141.out 0).trans rfl
     have hfs48 := blk_frozen BK141.out 0
     have hns48_0 := NB135_141.out
     have hms48_0 := NB141_135.out
     have hs49 : w47.cell? ⟨gb141, 1, none⟩ = some (.int .i64 0) := (blk_cell BK141.out 1).trans rfl
     have hfs49 := blk_frozen BK141.out 1
     have hns49_0 := NB135_141.out
     have hms49_0 := NB141_135.out
     refine skip_ (w1 := ?_) (by rfl) rfl ?_ ?_
     rotate_left
     ·go_simp
      rfl
     refine hK.out _ _ trivial (fun hHeld => ?_)
     clear hK K
     refine done_ (done_of HT_.out (by kernel_rfl)) ?_
     have hnb50 := NB141_135.out
     have hnc50 := NB135_141.out
     have hcz51_0 : w47.cell? ⟨gb141, 0, none⟩ = some (.int .i64 0) := (blk_cell BK141.out 0).trans rfl
     have hcz51_1 : w47.cell? ⟨gb141, 1, none⟩ = some (.int .i64 0) := (blk_cell BK141.out 1).trans rfl
     have hfz51_0 := blk_frozen BK141.out 0
     have hfz51_1 := blk_frozen BK141.out 1
     try go_wp2_with (first | ((with_reducible refine gate_callee (f := 114) rfl ?_); refine gl 28 Try.func114 #[.agg #[.int .i64 (wrap64 (Int.tdiv a0 t138)), .int .i64 (wrap64 (Int.tdiv a1 t138))]] ?_; (with_reducible refine (spec_raGood.calls k (wrap64 (Int.tdiv a0 t138)) (wrap64 (Int.tdiv a1 t138)) false _ A33.out).mono ?_); rintro e w52 ⟨rfl, hb⟩; refine ⟨_, rfl, ?_⟩; replace BK135 := Aside0.mk (blk_below (g := gb135) (o := .cells #[.int .i64 0, .int .i64 0] 28 (0, 0)) (by (with_reducible repeat (first | refine blk_drewN ?_ _ | refine blk_drew ?_ | refine blk_alloc ?_ _)); refine blk_far ?_ NB135_141.out _; (with_reducible repeat (first | refine blk_drewN ?_ _ | refine blk_drew ?_ | refine blk_alloc ?_ _)); refine blk_far ?_ NB135_141.out _; (with_reducible repeat (first | refine blk_drewN ?_ _ | refine blk_drew ?_ | refine blk_alloc ?_ _)); exact BK135.out) hb); replace BK141 := Aside0.mk (blk_below (g := gb141) (o := .cells #[.int .i64 (wrap64 (Int.tdiv a0 t138)), .int .i64 (wrap64 (Int.tdiv a1 t138))] 28 (0, 0)) (by (with_reducible repeat (first | refine blk_drewN ?_ _ | refine blk_drew ?_ | refine blk_alloc ?_ _)); refine blk_put (cs := #[.int .i64 (wrap64 (Int.tdiv a0 t138)), .int .i64 0]) ?_ 1 _ rfl; (with_reducible repeat (first | refine blk_drewN ?_ _ | refine blk_drew ?_ | refine blk_alloc ?_ _)); refine blk_put (cs := #[.int .i64 0, .int .i64 0]) ?_ 0 _ rfl; (with_reducible repeat (first | refine blk_drewN ?_ _ | refine blk_drew ?_ | refine blk_alloc ?_ _)); exact BK141.out) hb); replace HB := Aside0.mk (bs hb); (try clear hb); (try clear hb2); (try clear hk); (try clear hi); have hcz53_0 : w52.cell? ⟨gb135, 0, none⟩ = some (.int .i64 0) := (blk_cell BK135.out 0).trans rfl; have hcz53_1 : w52.cell? ⟨gb135, 1, none⟩ = some (.int .i64 0) := (blk_cell BK135.out 1).trans rfl; have hfz53_0 := blk_frozen BK135.out 0; have hfz53_1 := blk_frozen BK135.out 1))
     refine bodyPost_ret (results_ct rfl _ _ gb135 28 #[.int .i64 0, .int .i64 0] (0, 0) _ rfl (by (with_reducible repeat (first | refine blk_drewN ?_ _ | refine blk_drew ?_ | refine blk_alloc ?_ _)); refine blk_put (cs := #[.int .i64 0, .int .i64 0]) ?_ 1 _ rfl; (with_reducible repeat (first | refine blk_drewN ?_ _ | refine blk_drew ?_ | refine blk_alloc ?_ _)); refine blk_put (cs := #[.int .i64 0, .int .i64 0]) ?_ 0 _ rfl; (with_reducible repeat (first | refine blk_drewN ?_ _ | refine blk_drew ?_ | refine blk_alloc ?_ _)); exact BK135.out) Try.underlying28 rfl (by kernel_rfl)) rfl ?_
     exact ⟨by first | rfl | (simp [errW_none, errW_some] <;> rfl) | (simp [*, errW_none, errW_some] <;> rfl), bl⟩

/-! ### spec_raSub: function 101 -/
def spec_raSub.f (k : Nat) (a0_0 : Int) (a0_1 : Int) (a1_0 : Int) (a1_1 : Int) : Option (Int × Int × Bool) := (spec_raMake.f k (wrap64 ((wrap64 (a0_0 * a1_1)) - (wrap64 (a1_0 * a0_1)))) (wrap64 (a0_1 * a1_1))).bind fun bt146 => (some (bt146.1, bt146.2.1, bt146.2.2))
set_option maxHeartbeats 8000000 in
set_option maxRecDepth 100000 in
theorem spec_raSub.calls (k : Nat) (a0_0 : Int) (a0_1 : Int) (a1_0 : Int) (a1_1 : Int) (r1 : Int) (r2 : Int) (r3 : Bool) (w : World) (h : spec_raSub.f k a0_0 a0_1 a1_0 a1_1 = some (r1, r2, r3)) :
  Calls Try.prog 101 #[.agg #[.int .i64 a0_0, .int .i64 a0_1], .agg #[.int .i64 a1_0, .int .i64 a1_1]] w fun e w' => e = .returned (.tuple #[.agg #[.int .i64 r1, .int .i64 r2], .bool r3]) ∧ Below w.heap.size w w' := by
 have hu28 := Try.underlying28
 have HB := Aside0.mk (Below.refl w.heap.size w)
 have H : ((spec_raMake.f k (wrap64 ((wrap64 (a0_0 * a1_1)) - (wrap64 (a1_0 * a0_1)))) (wrap64 (a0_1 * a1_1))).bind fun bt146 => (some (bt146.1, bt146.2.1, bt146.2.2))) = some (r1, r2, r3) := h
 clear h
 replace H := Option.bind_eq_some_iff.mp H
 obtain ⟨⟨t146, t147, t148⟩, A30, H⟩ := H
 replace H : (some (t146, t147, t148)) = some (r1, r2, r3) := H
 have A3 := Aside0.mk A30
 clear A30
 simp only [Option.some.injEq, Prod.mk.injEq] at H
 obtain ⟨rfl, rfl, rfl⟩ := H
 go_enter Try.func101, Try.ntmps101
 go_wp2_with (first | ((with_reducible refine gate_dst (N := 2) rfl ?_); refine bx 2 #[.int .i64 a0_0, .int .i64 a0_1] 28 ?_; intro gb143 hg w4 hbox hb; have BK143 := Aside0.mk (hbox); have GW143 := Aside0.mk (bz hg); have GE143 := GW143; replace HB := Aside0.mk (bs hb); clear hb hbox hg) | ((with_reducible refine gate_dst (N := 3) rfl ?_); refine bx 3 #[.int .i64 a1_0, .int .i64 a1_1] 28 ?_; intro gb144 hg w5 hbox hb; have BK144 := Aside0.mk (hbox); have GW144 := Aside0.mk (bz hg); have GE144 := GW144; have NB143_144 := Aside0.mk (bn gb143 hg); have NB144_143 := Aside0.mk NB143_144.out.symm; replace BK143 := Aside0.mk (bb gb143 hb); replace HB := Aside0.mk (bs hb); clear hb hbox hg) | ((with_reducible refine gate_dst (N := 4) rfl ?_); refine bx 4 #[.int .i64 0, .int .i64 0] 28 ?_; intro gb145 hg w6 hbox hb; have BK145 := Aside0.mk (hbox); have GW145 := Aside0.mk (bz hg); have GE145 := GW145; have NB143_145 := Aside0.mk (bn gb143 hg); have NB145_143 := Aside0.mk NB143_145.out.symm; have NB144_145 := Aside0.mk (bn gb144 hg); have NB145_144 := Aside0.mk NB144_145.out.symm; replace BK143 := Aside0.mk (bb gb143 hb); replace BK144 := Aside0.mk (bb gb144 hb); replace HB := Aside0.mk (bs hb); clear hb hbox hg; have hnb7 := NB143_144.out; have hnc7 := NB144_143.out; have hnb8 := NB143_145.out; have hnc8 := NB145_143.out; have hcz9_0 : w6.cell? ⟨gb143, 0, none⟩ = some (.int .i64 a0_0) := (blk_cell BK143.out 0).trans rfl; have hcz9_1 : w6.cell? ⟨gb143, 1, none⟩ = some (.int .i64 a0_1) := (blk_cell BK143.out 1).trans rfl; have hfz9_0 := blk_frozen BK143.out 0; have hfz9_1 := blk_frozen BK143.out 1; have hnb10 := NB144_145.out; have hnc10 := NB145_144.out; have hcz11_0 : w6.cell? ⟨gb144, 0, none⟩ = some (.int .i64 a1_0) := (blk_cell BK144.out 0).trans rfl; have hcz11_1 : w6.cell? ⟨gb144, 1, none⟩ = some (.int .i64 a1_1) := (blk_cell BK144.out 1).trans rfl; have hfz11_0 := blk_frozen BK144.out 0; have hfz11_1 := blk_frozen BK144.out 1) | ((with_reducible refine gate_callee (f := 125) rfl ?_); refine gl 22 Try.func125 #[.int .i64 (wrap64 ((wrap64 (a0_0 * a1_1)) - (wrap64 (a1_0 * a0_1)))), .int .i64 (wrap64 (a0_1 * a1_1))] ?_; (with_reducible refine (spec_raMake.calls k (wrap64 ((wrap64 (a0_0 * a1_1)) - (wrap64 (a1_0 * a0_1)))) (wrap64 (a0_1 * a1_1)) t146 t147 t148 _ A3.out).mono ?_); rintro e w12 ⟨rfl, hb⟩; refine ⟨_, rfl, ?_⟩; replace BK143 := Aside0.mk (bb gb143 hb); replace BK144 := Aside0.mk (bb gb144 hb); replace BK145 := Aside0.mk (bb gb145 hb); replace HB := Aside0.mk (bs hb); (try clear hb); (try clear hb2); (try clear hk); (try clear hi); have hcz13_0 : w12.cell? ⟨gb145, 0, none⟩ = some (.int .i64 0) := (blk_cell BK145.out 0).trans rfl; have hcz13_1 : w12.cell? ⟨gb145, 1, none⟩ = some (.int .i64 0) := (blk_cell BK145.out 1).trans rfl; have hfz13_0 := blk_frozen BK145.out 0; have hfz13_1 := blk_frozen BK145.out 1))
 refine bodyPost_ret (results_ct rfl _ _ gb145 28 #[.int .i64 t146, .int .i64 t147] (0, 0) _ rfl (by (with_reducible repeat (first | refine blk_drewN ?_ _ | refine blk_drew ?_ | refine blk_alloc ?_ _)); refine blk_put (cs := #[.int .i64 t146, .int .i64 0]) ?_ 1 _ rfl; (with_reducible repeat (first | refine blk_drewN ?_ _ | refine blk_drew ?_ | refine blk_alloc ?_ _)); refine blk_put (cs := #[.int .i64 0, .int .i64 0]) ?_ 0 _ rfl; (with_reducible repeat (first | refine blk_drewN ?_ _ | refine blk_drew ?_ | refine blk_alloc ?_ _)); exact BK145.out) Try.underlying28 rfl (by kernel_rfl)) rfl ?_
 exact ⟨by first | rfl | (simp [errW_none, errW_some] <;> rfl) | (simp [*, errW_none, errW_some] <;> rfl), bl⟩

/-! ### spec_raDiv: function 122 -/
def spec_raDiv.f (k : Nat) (a0_0 : Int) (a0_1 : Int) (a1_0 : Int) (a1_1 : Int) : Option (Int × Int × Bool) := if a1_0 = 0 then (some (0, 0, false)) else ((spec_raMake.f k (wrap64 (a0_0 * a1_1)) (wrap64 (a0_1 * a1_0))).bind fun bt152 => (some (bt152.1, bt152.2.1, bt152.2.2)))
set_option maxHeartbeats 8000000 in
set_option maxRecDepth 100000 in
theorem spec_raDiv.calls (k : Nat) (a0_0 : Int) (a0_1 : Int) (a1_0 : Int) (a1_1 : Int) (r1 : Int) (r2 : Int) (r3 : Bool) (w : World) (h : spec_raDiv.f k a0_0 a0_1 a1_0 a1_1 = some (r1, r2, r3)) :
  Calls Try.prog 122 #[.agg #[.int .i64 a0_0, .int .i64 a0_1], .agg #[.int .i64 a1_0, .int .i64 a1_1]] w fun e w' => e = .returned (.tuple #[.agg #[.int .i64 r1, .int .i64 r2], .bool r3]) ∧ Below w.heap.size w w' := by
 have hu28 := Try.underlying28
 have HB := Aside0.mk (Below.refl w.heap.size w)
 have H : (if a1_0 = 0 then (some (0, 0, false)) else ((spec_raMake.f k (wrap64 (a0_0 * a1_1)) (wrap64 (a0_1 * a1_0))).bind fun bt152 => (some (bt152.1, bt152.2.1, bt152.2.2)))) = some (r1, r2, r3) := h
 clear h
 by_cases c3 : a1_0 = 0
 ·rw [if_pos c3] at H
  have c3b0 : (a1_0 == 0) = true := beq_iff_eq.mpr c3
  have c3b1 : (a1_0 != 0) = false := bne_eq_false_iff_eq.mpr c3
  clear c3
  simp only [Option.some.injEq, Prod.mk.injEq] at H
  obtain ⟨rfl, rfl, rfl⟩ := H
  go_enter Try.func122, Try.ntmps122
  go_wp2_with (first | ((with_reducible refine gate_dst (N := 2) rfl ?_); refine bx 2 #[.int .i64 a0_0, .int .i64 a0_1] 28 ?_; intro gb149 hg w4 hbox hb; have BK149 := Aside0.mk (hbox); have GW149 := Aside0.mk (bz hg); have GE149 := GW149; replace HB := Aside0.mk (bs hb); clear hb hbox hg) | ((with_reducible refine gate_dst (N := 3) rfl ?_); refine bx 3 #[.int .i64 a1_0, .int .i64 a1_1] 28 ?_; intro gb150 hg w5 hbox hb; have BK150 := Aside0.mk (hbox); have GW150 := Aside0.mk (bz hg); have GE150 := GW150; have NB149_150 := Aside0.mk (bn gb149 hg); have NB150_149 := Aside0.mk NB149_150.out.symm; replace BK149 := Aside0.mk (bb gb149 hb); replace HB := Aside0.mk (bs hb); clear hb hbox hg) | ((with_reducible refine gate_dst (N := 4) rfl ?_); refine bx 4 #[.int .i64 0, .int .i64 0] 28 ?_; intro gb151 hg w6 hbox hb; have BK151 := Aside0.mk (hbox); have GW151 := Aside0.mk (bz hg); have GE151 := GW151; have NB149_151 := Aside0.mk (bn gb149 hg); have NB151_149 := Aside0.mk NB149_151.out.symm; have NB150_151 := Aside0.mk (bn gb150 hg); have NB151_150 := Aside0.mk NB150_151.out.symm; replace BK149 := Aside0.mk (bb gb149 hb); replace BK150 := Aside0.mk (bb gb150 hb); replace HB := Aside0.mk (bs hb); clear hb hbox hg; have hnb7 := NB150_149.out; have hnc7 := NB149_150.out; have hnb8 := NB150_151.out; have hnc8 := NB151_150.out; have hcz9_0 : w6.cell? ⟨gb150, 0, none⟩ = some (.int .i64 a1_0) := (blk_cell BK150.out 0).trans rfl; have hcz9_1 : w6.cell? ⟨gb150, 1, none⟩ = some (.int .i64 a1_1) := (blk_cell BK150.out 1).trans rfl; have hfz9_0 := blk_frozen BK150.out 0; have hfz9_1 := blk_frozen BK150.out 1; have hnb10 := NB151_149.out; have hnc10 := NB149_151.out; have hcz11_0 : w6.cell? ⟨gb151, 0, none⟩ = some (.int .i64 0) := (blk_cell BK151.out 0).trans rfl; have hcz11_1 : w6.cell? ⟨gb151, 1, none⟩ = some (.int .i64 0) := (blk_cell BK151.out 1).trans rfl; have hfz11_0 := blk_frozen BK151.out 0; have hfz11_1 := blk_frozen BK151.out 1))
  refine bodyPost_ret (results_ct rfl _ _ gb151 28 #[.int .i64 0, .int .i64 0] (0, 0) _ rfl (by (with_reducible repeat (first | refine blk_drewN ?_ _ | refine blk_drew ?_ | refine blk_alloc ?_ _)); refine blk_put (cs := #[.int .i64 0, .int .i64 0]) ?_ 1 _ rfl; (with_reducible repeat (first | refine blk_drewN ?_ _ | refine blk_drew ?_ | refine blk_alloc ?_ _)); refine blk_put (cs := #[.int .i64 0, .int .i64 0]) ?_ 0 _ rfl; (with_reducible repeat (first | refine blk_drewN ?_ _ | refine blk_drew ?_ | refine blk_alloc ?_ _)); exact BK151.out) Try.underlying28 rfl (by kernel_rfl)) rfl ?_
  exact ⟨by first | rfl | (simp [errW_none, errW_some] <;> rfl) | (simp [*, errW_none, errW_some] <;> rfl), bl⟩
 ·rw [if_neg c3] at H
  have c3b0 : (a1_0 == 0) = false := beq_eq_false_iff_ne.mpr c3
  have c3b1 : (a1_0 != 0) = true := bne_iff_ne.mpr c3
  replace H := Option.bind_eq_some_iff.mp H
  obtain ⟨⟨t152, t153, t154⟩, A120, H⟩ := H
  replace H : (some (t152, t153, t154)) = some (r1, r2, r3) := H
  have A12 := Aside0.mk A120
  clear A120
  simp only [Option.some.injEq, Prod.mk.injEq] at H
  obtain ⟨rfl, rfl, rfl⟩ := H
  go_enter Try.func122, Try.ntmps122
  go_wp2_with (first | ((with_reducible refine gate_dst (N := 2) rfl ?_); refine bx 2 #[.int .i64 a0_0, .int .i64 a0_1] 28 ?_; intro gb149 hg w13 hbox hb; have BK149 := Aside0.mk (hbox); have GW149 := Aside0.mk (bz hg); have GE149 := GW149; replace HB := Aside0.mk (bs hb); clear hb hbox hg) | ((with_reducible refine gate_dst (N := 3) rfl ?_); refine bx 3 #[.int .i64 a1_0, .int .i64 a1_1] 28 ?_; intro gb150 hg w14 hbox hb; have BK150 := Aside0.mk (hbox); have GW150 := Aside0.mk (bz hg); have GE150 := GW150; have NB149_150 := Aside0.mk (bn gb149 hg); have NB150_149 := Aside0.mk NB149_150.out.symm; replace BK149 := Aside0.mk (bb gb149 hb); replace HB := Aside0.mk (bs hb); clear hb hbox hg) | ((with_reducible refine gate_dst (N := 4) rfl ?_); refine bx 4 #[.int .i64 0, .int .i64 0] 28 ?_; intro gb151 hg w15 hbox hb; have BK151 := Aside0.mk (hbox); have GW151 := Aside0.mk (bz hg); have GE151 := GW151; have NB149_151 := Aside0.mk (bn gb149 hg); have NB151_149 := Aside0.mk NB149_151.out.symm; have NB150_151 := Aside0.mk (bn gb150 hg); have NB151_150 := Aside0.mk NB150_151.out.symm; replace BK149 := Aside0.mk (bb gb149 hb); replace BK150 := Aside0.mk (bb gb150 hb); replace HB := Aside0.mk (bs hb); clear hb hbox hg; have hnb16 := NB150_149.out; have hnc16 := NB149_150.out; have hnb17 := NB150_151.out; have hnc17 := NB151_150.out; have hcz18_0 : w15.cell? ⟨gb150, 0, none⟩ = some (.int .i64 a1_0) := (blk_cell BK150.out 0).trans rfl; have hcz18_1 : w15.cell? ⟨gb150, 1, none⟩ = some (.int .i64 a1_1) := (blk_cell BK150.out 1).trans rfl; have hfz18_0 := blk_frozen BK150.out 0; have hfz18_1 := blk_frozen BK150.out 1; have hnb19 := NB149_151.out; have hnc19 := NB151_149.out; have hcz20_0 : w15.cell? ⟨gb149, 0, none⟩ = some (.int .i64 a0_0) := (blk_cell BK149.out 0).trans rfl; have hcz20_1 : w15.cell? ⟨gb149, 1, none⟩ = some (.int .i64 a0_1) := (blk_cell BK149.out 1).trans rfl; have hfz20_0 := blk_frozen BK149.out 0; have hfz20_1 := blk_frozen BK149.out 1) | ((with_reducible refine gate_callee (f := 125) rfl ?_); refine gl 20 Try.func125 #[.int .i64 (wrap64 (a0_0 * a1_1)), .int .i64 (wrap64 (a0_1 * a1_0))] ?_; (with_reducible refine (spec_raMake.calls k (wrap64 (a0_0 * a1_1)) (wrap64 (a0_1 * a1_0)) t152 t153 t154 _ A12.out).mono ?_); rintro e w21 ⟨rfl, hb⟩; refine ⟨_, rfl, ?_⟩; replace BK149 := Aside0.mk (bb gb149 hb); replace BK150 := Aside0.mk (bb gb150 hb); replace BK151 := Aside0.mk (bb gb151 hb); replace HB := Aside0.mk (bs hb); (try clear hb); (try clear hb2); (try clear hk); (try clear hi); have hcz22_0 : w21.cell? ⟨gb151, 0, none⟩ = some (.int .i64 0) := (blk_cell BK151.out 0).trans rfl; have hcz22_1 : w21.cell? ⟨gb151, 1, none⟩ = some (.int .i64 0) := (blk_cell BK151.out 1).trans rfl; have hfz22_0 := blk_frozen BK151.out 0; have hfz22_1 := blk_frozen BK151.out 1))
  refine bodyPost_ret (results_ct rfl _ _ gb151 28 #[.int .i64 t152, .int .i64 t153] (0, 0) _ rfl (by (with_reducible repeat (first | refine blk_drewN ?_ _ | refine blk_drew ?_ | refine blk_alloc ?_ _)); refine blk_put (cs := #[.int .i64 t152, .int .i64 0]) ?_ 1 _ rfl; (with_reducible repeat (first | refine blk_drewN ?_ _ | refine blk_drew ?_ | refine blk_alloc ?_ _)); refine blk_put (cs := #[.int .i64 0, .int .i64 0]) ?_ 0 _ rfl; (with_reducible repeat (first | refine blk_drewN ?_ _ | refine blk_drew ?_ | refine blk_alloc ?_ _)); exact BK151.out) Try.underlying28 rfl (by kernel_rfl)) rfl ?_
  exact ⟨by first | rfl | (simp [errW_none, errW_some] <;> rfl) | (simp [*, errW_none, errW_some] <;> rfl), bl⟩

/-! ### spec_imSlope: function 84 -/
def spec_imSlope.f (k : Nat) (a0_0 : Int) (a0_1 : Int) (a0_2 : Int) (a0_3 : Int) (a1_0 : Int) (a1_1 : Int) (a1_2 : Int) (a1_3 : Int) : Option (Int × Int) := (spec_raSub.f k a1_2 a1_3 a0_2 a0_3).bind fun bt158 => ((spec_raSub.f k a1_0 a1_1 a0_0 a0_1).bind fun bt162 => ((spec_raDiv.f k bt158.1 bt158.2.1 bt162.1 bt162.2.1).bind fun bt166 => (some (bt166.1, bt166.2.1))))
set_option maxHeartbeats 8000000 in
set_option maxRecDepth 100000 in
theorem spec_imSlope.calls (k : Nat) (a0_0 : Int) (a0_1 : Int) (a0_2 : Int) (a0_3 : Int) (a1_0 : Int) (a1_1 : Int) (a1_2 : Int) (a1_3 : Int) (r1 : Int) (r2 : Int) (w : World) (h : spec_imSlope.f k a0_0 a0_1 a0_2 a0_3 a1_0 a1_1 a1_2 a1_3 = some (r1, r2)) :
  Calls Try.prog 84 #[.agg #[.int .i64 a0_0, .int .i64 a0_1, .int .i64 a0_2, .int .i64 a0_3], .agg #[.int .i64 a1_0, .int .i64 a1_1, .int .i64 a1_2, .int .i64 a1_3]] w fun e w' => e = .returned (.agg #[.int .i64 r1, .int .i64 r2]) ∧ Below w.heap.size w w' := by
 have hu68 := Try.underlying68
 have hu28 := Try.underlying28
 have HB := Aside0.mk (Below.refl w.heap.size w)
 have H : ((spec_raSub.f k a1_2 a1_3 a0_2 a0_3).bind fun bt158 => ((spec_raSub.f k a1_0 a1_1 a0_0 a0_1).bind fun bt162 => ((spec_raDiv.f k bt158.1 bt158.2.1 bt162.1 bt162.2.1).bind fun bt166 => (some (bt166.1, bt166.2.1))))) = some (r1, r2) := h
 clear h
 replace H := Option.bind_eq_some_iff.mp H
 obtain ⟨⟨t158, t159, t160⟩, A30, H⟩ := H
 replace H : ((spec_raSub.f k a1_0 a1_1 a0_0 a0_1).bind fun bt162 => ((spec_raDiv.f k t158 t159 bt162.1 bt162.2.1).bind fun bt166 => (some (bt166.1, bt166.2.1)))) = some (r1, r2) := H
 have A3 := Aside0.mk A30
 clear A30
 replace H := Option.bind_eq_some_iff.mp H
 obtain ⟨⟨t162, t163, t164⟩, A40, H⟩ := H
 replace H : ((spec_raDiv.f k t158 t159 t162 t163).bind fun bt166 => (some (bt166.1, bt166.2.1))) = some (r1, r2) := H
 have A4 := Aside0.mk A40
 clear A40
 replace H := Option.bind_eq_some_iff.mp H
 obtain ⟨⟨t166, t167, t168⟩, A50, H⟩ := H
 replace H : (some (t166, t167)) = some (r1, r2) := H
 have A5 := Aside0.mk A50
 clear A50
 simp only [Option.some.injEq, Prod.mk.injEq] at H
 obtain ⟨rfl, rfl⟩ := H
 go_enter Try.func84, Try.ntmps84
 go_wp2_with (first | ((with_reducible refine gate_dst (N := 2) rfl ?_); refine bx 2 #[.int .i64 a0_0, .int .i64 a0_1, .int .i64 a0_2, .int .i64 a0_3] 68 ?_; intro gb155 hg w6 hbox hb; have BK155 := Aside0.mk (hbox); have GW155 := Aside0.mk (bz hg); have GE155 := GW155; replace HB := Aside0.mk (bs hb); clear hb hbox hg) | ((with_reducible refine gate_dst (N := 3) rfl ?_); refine bx 3 #[.int .i64 a1_0, .int .i64 a1_1, .int .i64 a1_2, .int .i64 a1_3] 68 ?_; intro gb156 hg w7 hbox hb; have BK156 := Aside0.mk (hbox); have GW156 := Aside0.mk (bz hg); have GE156 := GW156; have NB155_156 := Aside0.mk (bn gb155 hg); have NB156_155 := Aside0.mk NB155_156.out.symm; replace BK155 := Aside0.mk (bb gb155 hb); replace HB := Aside0.mk (bs hb); clear hb hbox hg) | ((with_reducible refine gate_dst (N := 4) rfl ?_); refine bx 4 #[.int .i64 0, .int .i64 0] 28 ?_; intro gb157 hg w8 hbox hb; have BK157 := Aside0.mk (hbox); have GW157 := Aside0.mk (bz hg); have GE157 := GW157; have NB155_157 := Aside0.mk (bn gb155 hg); have NB157_155 := Aside0.mk NB155_157.out.symm; have NB156_157 := Aside0.mk (bn gb156 hg); have NB157_156 := Aside0.mk NB156_157.out.symm; replace BK155 := Aside0.mk (bb gb155 hb); replace BK156 := Aside0.mk (bb gb156 hb); replace HB := Aside0.mk (bs hb); clear hb hbox hg; have hnb9 := NB156_155.out; have hnc9 := NB155_156.out; have hnb10 := NB156_157.out; have hnc10 := NB157_156.out; have hcz11_0 : w8.cell? ⟨gb156, 0, none⟩ = some (.int .i64 a1_0) := (blk_cell BK156.out 0).trans rfl; have hcz11_1 : w8.cell? ⟨gb156, 1, none⟩ = some (.int .i64 a1_1) := (blk_cell BK156.out 1).trans rfl; have hcz11_2 : w8.cell? ⟨gb156, 2, none⟩ = some (.int .i64 a1_2) := (blk_cell BK156.out 2).trans rfl; have hcz11_3 : w8.cell? ⟨gb156, 3, none⟩ = some (.int .i64 a1_3) := (blk_cell BK156.out 3).trans rfl; have hfz11_0 := blk_frozen BK156.out 0; have hfz11_1 := blk_frozen BK156.out 1; have hfz11_2 := blk_frozen BK156.out 2; have hfz11_3 := blk_frozen BK156.out 3; have hnb12 := NB155_157.out; have hnc12 := NB157_155.out; have hcz13_0 : w8.cell? ⟨gb155, 0, none⟩ = some (.int .i64 a0_0) := (blk_cell BK155.out 0).trans rfl; have hcz13_1 : w8.cell? ⟨gb155, 1, none⟩ = some (.int .i64 a0_1) := (blk_cell BK155.out 1).trans rfl; have hcz13_2 : w8.cell? ⟨gb155, 2, none⟩ = some (.int .i64 a0_2) := (blk_cell BK155.out 2).trans rfl; have hcz13_3 : w8.cell? ⟨gb155, 3, none⟩ = some (.int .i64 a0_3) := (blk_cell BK155.out 3).trans rfl; have hfz13_0 := blk_frozen BK155.out 0; have hfz13_1 := blk_frozen BK155.out 1; have hfz13_2 := blk_frozen BK155.out 2; have hfz13_3 := blk_frozen BK155.out 3) | ((with_reducible refine gate_callee (f := 101) rfl ?_); refine gl 16 Try.func101 #[.agg #[.int .i64 a1_2, .int .i64 a1_3], .agg #[.int .i64 a0_2, .int .i64 a0_3]] ?_; (with_reducible refine (spec_raSub.calls k a1_2 a1_3 a0_2 a0_3 t158 t159 t160 _ A3.out).mono ?_); rintro e w14 ⟨rfl, hb⟩; refine ⟨_, rfl, ?_⟩; replace BK155 := Aside0.mk (bb gb155 hb); replace BK156 := Aside0.mk (bb gb156 hb); replace BK157 := Aside0.mk (bb gb157 hb); replace HB := Aside0.mk (bs hb); (try clear hb); (try clear hb2); (try clear hk); (try clear hi)) | ((with_reducible refine gate_dst (N := 5) rfl ?_); refine bx 5 #[.int .i64 0, .int .i64 0] 28 ?_; intro gb161 hg w15 hbox hb; have BK161 := Aside0.mk (hbox); have GW161 := Aside0.mk (bz hg); have GE161 := GW161; have NB155_161 := Aside0.mk (bn gb155 hg); have NB161_155 := Aside0.mk NB155_161.out.symm; have NB156_161 := Aside0.mk (bn gb156 hg); have NB161_156 := Aside0.mk NB156_161.out.symm; have NB157_161 := Aside0.mk (bn gb157 hg); have NB161_157 := Aside0.mk NB157_161.out.symm; replace BK155 := Aside0.mk (bb gb155 hb); replace BK156 := Aside0.mk (bb gb156 hb); replace BK157 := Aside0.mk (bb gb157 hb); replace HB := Aside0.mk (bs hb); clear hb hbox hg; have hnb16 := NB161_155.out; have hnc16 := NB155_161.out; have hnb17 := NB161_156.out; have hnc17 := NB156_161.out; have hnb18 := NB161_157.out; have hnc18 := NB157_161.out; have hcz19_0 : w15.cell? ⟨gb161, 0, none⟩ = some (.int .i64 0) := (blk_cell BK161.out 0).trans rfl; have hcz19_1 : w15.cell? ⟨gb161, 1, none⟩ = some (.int .i64 0) := (blk_cell BK161.out 1).trans rfl; have hfz19_0 := blk_frozen BK161.out 0; have hfz19_1 := blk_frozen BK161.out 1; have hcz20_0 : w15.cell? ⟨gb156, 0, none⟩ = some (.int .i64 a1_0) := (blk_cell BK156.out 0).trans rfl; have hcz20_1 : w15.cell? ⟨gb156, 1, none⟩ = some (.int .i64 a1_1) := (blk_cell BK156.out 1).trans rfl; have hcz20_2 : w15.cell? ⟨gb156, 2, none⟩ = some (.int .i64 a1_2) := (blk_cell BK156.out 2).trans rfl; have hcz20_3 : w15.cell? ⟨gb156, 3, none⟩ = some (.int .i64 a1_3) := (blk_cell BK156.out 3).trans rfl; have hfz20_0 := blk_frozen BK156.out 0; have hfz20_1 := blk_frozen BK156.out 1; have hfz20_2 := blk_frozen BK156.out 2; have hfz20_3 := blk_frozen BK156.out 3; have hcz21_0 : w15.cell? ⟨gb155, 0, none⟩ = some (.int .i64 a0_0) := (blk_cell BK155.out 0).trans rfl; have hcz21_1 : w15.cell? ⟨gb155, 1, none⟩ = some (.int .i64 a0_1) := (blk_cell BK155.out 1).trans rfl; have hcz21_2 : w15.cell? ⟨gb155, 2, none⟩ = some (.int .i64 a0_2) := (blk_cell BK155.out 2).trans rfl; have hcz21_3 : w15.cell? ⟨gb155, 3, none⟩ = some (.int .i64 a0_3) := (blk_cell BK155.out 3).trans rfl; have hfz21_0 := blk_frozen BK155.out 0; have hfz21_1 := blk_frozen BK155.out 1; have hfz21_2 := blk_frozen BK155.out 2; have hfz21_3 := blk_frozen BK155.out 3) | ((with_reducible refine gate_callee (f := 101) rfl ?_); refine gl 24 Try.func101 #[.agg #[.int .i64 a1_0, .int .i64 a1_1], .agg #[.int .i64 a0_0, .int .i64 a0_1]] ?_; (with_reducible refine (spec_raSub.calls k a1_0 a1_1 a0_0 a0_1 t162 t163 t164 _ A4.out).mono ?_); rintro e w22 ⟨rfl, hb⟩; refine ⟨_, rfl, ?_⟩; replace BK155 := Aside0.mk (blk_below (g := gb155) (o := .cells #[.int .i64 a0_0, .int .i64 a0_1, .int .i64 a0_2, .int .i64 a0_3] 68 (0, 0)) (by (with_reducible repeat (first | refine blk_drewN ?_ _ | refine blk_drew ?_ | refine blk_alloc ?_ _)); refine blk_far ?_ NB155_161.out _; (with_reducible repeat (first | refine blk_drewN ?_ _ | refine blk_drew ?_ | refine blk_alloc ?_ _)); refine blk_far ?_ NB155_161.out _; (with_reducible repeat (first | refine blk_drewN ?_ _ | refine blk_drew ?_ | refine blk_alloc ?_ _)); exact BK155.out) hb); replace BK156 := Aside0.mk (blk_below (g := gb156) (o := .cells #[.int .i64 a1_0, .int .i64 a1_1, .int .i64 a1_2, .int .i64 a1_3] 68 (0, 0)) (by (with_reducible repeat (first | refine blk_drewN ?_ _ | refine blk_drew ?_ | refine blk_alloc ?_ _)); refine blk_far ?_ NB156_161.out _; (with_reducible repeat (first | refine blk_drewN ?_ _ | refine blk_drew ?_ | refine blk_alloc ?_ _)); refine blk_far ?_ NB156_161.out _; (with_reducible repeat (first | refine blk_drewN ?_ _ | refine blk_drew ?_ | refine blk_alloc ?_ _)); exact BK156.out) hb); replace BK157 := Aside0.mk (blk_below (g := gb157) (o := .cells #[.int .i64 0, .int .i64 0] 28 (0, 0)) (by (with_reducible repeat (first | refine blk_drewN ?_ _ | refine blk_drew ?_ | refine blk_alloc ?_ _)); refine blk_far ?_ NB157_161.out _; (with_reducible repeat (first | refine blk_drewN ?_ _ | refine blk_drew ?_ | refine blk_alloc ?_ _)); refine blk_far ?_ NB157_161.out _; (with_reducible repeat (first | refine blk_drewN ?_ _ | refine blk_drew ?_ | refine blk_alloc ?_ _)); exact BK157.out) hb); replace BK161 := Aside0.mk (blk_below (g := gb161) (o := .cells #[.int .i64 t158, .int .i64 t159] 28 (0, 0)) (by (with_reducible repeat (first | refine blk_drewN ?_ _ | refine blk_drew ?_ | refine blk_alloc ?_ _)); refine blk_put (cs := #[.int .i64 t158, .int .i64 0]) ?_ 1 _ rfl; (with_reducible repeat (first | refine blk_drewN ?_ _ | refine blk_drew ?_ | refine blk_alloc ?_ _)); refine blk_put (cs := #[.int .i64 0, .int .i64 0]) ?_ 0 _ rfl; (with_reducible repeat (first | refine blk_drewN ?_ _ | refine blk_drew ?_ | refine blk_alloc ?_ _)); exact BK161.out) hb); replace HB := Aside0.mk (bs hb); (try clear hb); (try clear hb2); (try clear hk); (try clear hi)) | ((with_reducible refine gate_dst (N := 7) rfl ?_); refine bx 7 #[.int .i64 0, .int .i64 0] 28 ?_; intro gb165 hg w23 hbox hb; have BK165 := Aside0.mk (hbox); have GW165 := Aside0.mk (bz hg); have GE165 := GW165; have NB155_165 := Aside0.mk (bn gb155 hg); have NB165_155 := Aside0.mk NB155_165.out.symm; have NB156_165 := Aside0.mk (bn gb156 hg); have NB165_156 := Aside0.mk NB156_165.out.symm; have NB157_165 := Aside0.mk (bn gb157 hg); have NB165_157 := Aside0.mk NB157_165.out.symm; have NB161_165 := Aside0.mk (bn gb161 hg); have NB165_161 := Aside0.mk NB161_165.out.symm; replace BK155 := Aside0.mk (bb gb155 hb); replace BK156 := Aside0.mk (bb gb156 hb); replace BK157 := Aside0.mk (bb gb157 hb); replace BK161 := Aside0.mk (bb gb161 hb); replace HB := Aside0.mk (bs hb); clear hb hbox hg; have hnb24 := NB165_155.out; have hnc24 := NB155_165.out; have hnb25 := NB165_156.out; have hnc25 := NB156_165.out; have hnb26 := NB165_157.out; have hnc26 := NB157_165.out; have hnb27 := NB165_161.out; have hnc27 := NB161_165.out; have hcz28_0 : w23.cell? ⟨gb165, 0, none⟩ = some (.int .i64 0) := (blk_cell BK165.out 0).trans rfl; have hcz28_1 : w23.cell? ⟨gb165, 1, none⟩ = some (.int .i64 0) := (blk_cell BK165.out 1).trans rfl; have hfz28_0 := blk_frozen BK165.out 0; have hfz28_1 := blk_frozen BK165.out 1; have hcz29_0 : w23.cell? ⟨gb161, 0, none⟩ = some (.int .i64 t158) := (blk_cell BK161.out 0).trans rfl; have hcz29_1 : w23.cell? ⟨gb161, 1, none⟩ = some (.int .i64 t159) := (blk_cell BK161.out 1).trans rfl; have hfz29_0 := blk_frozen BK161.out 0; have hfz29_1 := blk_frozen BK161.out 1) | ((with_reducible refine gate_callee (f := 122) rfl ?_); refine gl 30 Try.func122 #[.agg #[.int .i64 t158, .int .i64 t159], .agg #[.int .i64 t162, .int .i64 t163]] ?_; (with_reducible refine (spec_raDiv.calls k t158 t159 t162 t163 t166 t167 t168 _ A5.out).mono ?_); rintro e w30 ⟨rfl, hb⟩; refine ⟨_, rfl, ?_⟩; replace BK155 := Aside0.mk (blk_below (g := gb155) (o := .cells #[.int .i64 a0_0, .int .i64 a0_1, .int .i64 a0_2, .int .i64 a0_3] 68 (0, 0)) (by (with_reducible repeat (first | refine blk_drewN ?_ _ | refine blk_drew ?_ | refine blk_alloc ?_ _)); refine blk_far ?_ NB155_165.out _; (with_reducible repeat (first | refine blk_drewN ?_ _ | refine blk_drew ?_ | refine blk_alloc ?_ _)); refine blk_far ?_ NB155_165.out _; (with_reducible repeat (first | refine blk_drewN ?_ _ | refine blk_drew ?_ | refine blk_alloc ?_ _)); exact BK155.out) hb); replace BK156 := Aside0.mk (blk_below (g := gb156) (o := .cells #[.int .i64 a1_0, .int .i64 a1_1, .int .i64 a1_2, .int .i64 a1_3] 68 (0, 0)) (by (with_reducible repeat (first | refine blk_drewN ?_ _ | refine blk_drew ?_ | refine blk_alloc ?_ _)); refine blk_far ?_ NB156_165.out _; (with_reducible repeat (first | refine blk_drewN ?_ _ | refine blk_drew ?_ | refine blk_alloc ?_ _)); refine blk_far ?_ NB156_165.out _; (with_reducible repeat (first | refine blk_drewN ?_ _ | refine blk_drew ?_ | refine blk_alloc ?_ _)); exact BK156.out) hb); replace BK157 := Aside0.mk (blk_below (g := gb157) (o := .cells #[.int .i64 0, .int .i64 0] 28 (0, 0)) (by (with_reducible repeat (first | refine blk_drewN ?_ _ | refine blk_drew ?_ | refine blk_alloc ?_ _)); refine blk_far ?_ NB157_165.out _; (with_reducible repeat (first | refine blk_drewN ?_ _ | refine blk_drew ?_ | refine blk_alloc ?_ _)); refine blk_far ?_ NB157_165.out _; (with_reducible repeat (first | refine blk_drewN ?_ _ | refine blk_drew ?_ | refine blk_alloc ?_ _)); exact BK157.out) hb); replace BK161 := Aside0.mk (blk_below (g := gb161) (o := .cells #[.int .i64 t158, .int .i64 t159] 28 (0, 0)) (by (with_reducible repeat (first | refine blk_drewN ?_ _ | refine blk_drew ?_ | refine blk_alloc ?_ _)); refine blk_far ?_ NB161_165.out _; (with_reducible repeat (first | refine blk_drewN ?_ _ | refine blk_drew ?_ | refine blk_alloc ?_ _)); refine blk_far ?_ NB161_165.out _; (with_reducible repeat (first | refine blk_drewN ?_ _ | refine blk_drew ?_ | refine blk_alloc ?_ _)); exact BK161.out) hb); replace BK165 := Aside0.mk (blk_below (g := gb165) (o := .cells #[.int .i64 t162, .int .i64 t163] 28 (0, 0)) (by (with_reducible repeat (first | refine blk_drewN ?_ _ | refine blk_drew ?_ | refine blk_alloc ?_ _)); refine blk_put (cs := #[.int .i64 t162, .int .i64 0]) ?_ 1 _ rfl; (with_reducible repeat (first | refine blk_drewN ?_ _ | refine blk_drew ?_ | refine blk_alloc ?_ _)); refine blk_put (cs := #[.int .i64 0, .int .i64 0]) ?_ 0 _ rfl; (with_reducible repeat (first | refine blk_drewN ?_ _ | refine blk_drew ?_ | refine blk_alloc ?_ _)); exact BK165.out) hb); replace HB := Aside0.mk (bs hb); (try clear hb); (try clear hb2); (try clear hk); (try clear hi)) | ((with_reducible refine gate_dst (N := 9) rfl ?_); refine bx 9 #[.int .i64 0, .int .i64 0] 28 ?_; intro gb169 hg w31 hbox hb; have BK169 := Aside0.mk (hbox); have GW169 := Aside0.mk (bz hg); have GE169 := GW169; have NB155_169 := Aside0.mk (bn gb155 hg); have NB169_155 := Aside0.mk NB155_169.out.symm; have NB156_169 := Aside0.mk (bn gb156 hg); have NB169_156 := Aside0.mk NB156_169.out.symm; have NB157_169 := Aside0.mk (bn gb157 hg); have NB169_157 := Aside0.mk NB157_169.out.symm; have NB161_169 := Aside0.mk (bn gb161 hg); have NB169_161 := Aside0.mk NB161_169.out.symm; have NB165_169 := Aside0.mk (bn gb165 hg); have NB169_165 := Aside0.mk NB165_169.out.symm; replace BK155 := Aside0.mk (bb gb155 hb); replace BK156 := Aside0.mk (bb gb156 hb); replace BK157 := Aside0.mk (bb gb157 hb); replace BK161 := Aside0.mk (bb gb161 hb); replace BK165 := Aside0.mk (bb gb165 hb); replace HB := Aside0.mk (bs hb); clear hb hbox hg; have hnb32 := NB169_155.out; have hnc32 := NB155_169.out; have hnb33 := NB169_156.out; have hnc33 := NB156_169.out; have hnb34 := NB169_157.out; have hnc34 := NB157_169.out; have hnb35 := NB169_161.out; have hnc35 := NB161_169.out; have hnb36 := NB169_165.out; have hnc36 := NB165_169.out; have hcz37_0 : w31.cell? ⟨gb169, 0, none⟩ = some (.int .i64 0) := (blk_cell BK169.out 0).trans rfl; have hcz37_1 : w31.cell? ⟨gb169, 1, none⟩ = some (.int .i64 0) := (blk_cell BK169.out 1).trans rfl; have hfz37_0 := blk_frozen BK169.out 0; have hfz37_1 := blk_frozen BK169.out 1; have hcz38_0 : w31.cell? ⟨gb157, 0, none⟩ = some (.int .i64 0) := (blk_cell BK157.out 0).trans rfl; have hcz38_1 : w31.cell? ⟨gb157, 1, none⟩ = some (.int .i64 0) := (blk_cell BK157.out 1).trans rfl; have hfz38_0 := blk_frozen BK157.out 0; have hfz38_1 := blk_frozen BK157.out 1))
 refine bodyPost_ret (results_cell_row rfl _ _ gb157 28 #[.int .i64 t166, .int .i64 t167] (0, 0) _ rfl (by (with_reducible repeat (first | refine blk_drewN ?_ _ | refine blk_drew ?_ | refine blk_alloc ?_ _)); refine blk_put (cs := #[.int .i64 t166, .int .i64 0]) ?_ 1 _ rfl; (with_reducible repeat (first | refine blk_drewN ?_ _ | refine blk_drew ?_ | refine blk_alloc ?_ _)); refine blk_put (cs := #[.int .i64 0, .int .i64 0]) ?_ 0 _ rfl; (with_reducible repeat (first | refine blk_drewN ?_ _ | refine blk_drew ?_ | refine blk_alloc ?_ _)); refine blk_far ?_ NB157_169.out _; (with_reducible repeat (first | refine blk_drewN ?_ _ | refine blk_drew ?_ | refine blk_alloc ?_ _)); refine blk_far ?_ NB157_169.out _; (with_reducible repeat (first | refine blk_drewN ?_ _ | refine blk_drew ?_ | refine blk_alloc ?_ _)); exact BK157.out) Try.underlying28 rfl (by kernel_rfl)) rfl ?_
 exact ⟨by first | rfl | (simp [errW_none, errW_some] <;> rfl) | (simp [*, errW_none, errW_some] <;> rfl), bl⟩

end Go.Proofs.Ytmecnnnagallnaa.PFnExactLeastSlope
