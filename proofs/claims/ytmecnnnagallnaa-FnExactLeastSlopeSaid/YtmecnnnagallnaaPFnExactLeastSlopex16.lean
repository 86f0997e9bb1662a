-- Written by this session's program wip/pp (the kit's print tool with additions) 35421559b90ae4d0a3588c463048766b98c2df88dd9212a6774a882060cdf62d
import Derived.Test.YtmecnnnagallnaaPFnExactLeastSlopex0
namespace Go.Proofs.Ytmecnnnagallnaa.PFnExactLeastSlope
open Go.RowKit Go.Proofs.YtmecnnnagallnaaW.PrintWords Go.Proofs.YtmecnnnagallnaaW.PrintLast Go.Proofs.YtmecnnnagallnaaW.PrintMore
attribute [local go_sem] max2_int min2_int max_two min_two max_three min_three max_four min_four   -- for this text's walks alone
set_option linter.unusedVariables false
set_option linter.unusedSimpArgs false

/-! ### laws_eqRat: function 17 -/
def laws_eqRat.f (a0_0 : Int) (a0_1 : Int) (a1_0 : Int) (a1_1 : Int) : Option (Bool) := if a0_0 = a1_0 then (if a0_1 = a1_1 then (some true) else (some false)) else (some false)
set_option maxHeartbeats 8000000 in
set_option maxRecDepth 100000 in
theorem laws_eqRat.calls (a0_0 : Int) (a0_1 : Int) (a1_0 : Int) (a1_1 : Int) (r : Bool) (w : World) (h : laws_eqRat.f a0_0 a0_1 a1_0 a1_1 = some r) :
  Calls Try.prog 17 #[.agg #[.int .i64 a0_0, .int .i64 a0_1], .agg #[.int .i64 a1_0, .int .i64 a1_1]] w fun e w' => e = .returned (.bool r) ∧ Below w.heap.size w w' := by
 have hu28 := Try.underlying28
 have HB := Aside0.mk (Below.refl w.heap.size w)
 have H : (if a0_0 = a1_0 then (if a0_1 = a1_1 then (some true) else (some false)) else (some false)) = some r := h
 clear h
 by_cases c3 : a0_0 = a1_0
 ·rw [if_pos c3] at H
  have c3b0 : (a0_0 == a1_0) = true := beq_iff_eq.mpr c3
  have c3b1 : (a0_0 != a1_0) = false := bne_eq_false_iff_eq.mpr c3
  clear c3
  by_cases c4 : a0_1 = a1_1
  ·rw [if_pos c4] at H
   have c4b0 : (a0_1 == a1_1) = true := beq_iff_eq.mpr c4
   have c4b1 : (a0_1 != a1_1) = false := bne_eq_false_iff_eq.mpr c4
   clear c4
   obtain rfl := Option.some.inj H
   go_enter Try.func17, Try.ntmps17
   go_wp2_with (first | ((with_reducible refine gate_dst (N := 2) rfl ?_); refine bx 2 #[.int .i64 a0_0, .int .i64 a0_1] 28 ?_; intro gb402 hg w5 hbox hb; have BK402 := Aside0.mk (hbox); have GW402 := Aside0.mk (bz hg); have GE402 := GW402; replace HB := Aside0.mk (bs hb); clear hb hbox hg) | ((with_reducible refine gate_dst (N := 3) rfl ?_); refine bx 3 #[.int .i64 a1_0, .int .i64 a1_1] 28 ?_; intro gb403 hg w6 hbox hb; have BK403 := Aside0.mk (hbox); have GW403 := Aside0.mk (bz hg); have GE403 := GW403; have NB402_403 := Aside0.mk (bn gb402 hg); have NB403_402 := Aside0.mk NB402_403.out.symm; replace BK402 := Aside0.mk (bb gb402 hb); replace HB := Aside0.mk (bs hb); clear hb hbox hg; have hnb7 := NB402_403.out; have hnc7 := NB403_402.out; have hcz8_0 : w6.cell? ⟨gb402, 0, none⟩ = some (.int .i64 a0_0) := (blk_cell BK402.out 0).trans rfl; have hcz8_1 : w6.cell? ⟨gb402, 1, none⟩ = some (.int .i64 a0_1) := (blk_cell BK402.out 1).trans rfl; have hfz8_0 := blk_frozen BK402.out 0; have hfz8_1 := blk_frozen BK402.out 1; have hcz9_0 : w6.cell? ⟨gb403, 0, none⟩ = some (.int .i64 a1_0) := (blk_cell BK403.out 0).trans rfl; have hcz9_1 : w6.cell? ⟨gb403, 1, none⟩ = some (.int .i64 a1_1) := (blk_cell BK403.out 1).trans rfl; have hfz9_0 := blk_frozen BK403.out 0; have hfz9_1 := blk_frozen BK403.out 1))
   go_ret
   exact ⟨by first | rfl | (simp [errW_none, errW_some] <;> rfl) | (simp [*, errW_none, errW_some] <;> rfl), bl⟩
  ·rw [if_neg c4] at H
   have c4b0 : (a0_1 == a1_1) = false := beq_eq_false_iff_ne.mpr c4
   have c4b1 : (a0_1 != a1_1) = true := bne_iff_ne.mpr c4
   obtain rfl := Option.some.inj H
   go_enter Try.func17, Try.ntmps17
   go_wp2_with (first | ((with_reducible refine gate_dst (N := 2) rfl ?_); refine bx 2 #[.int .i64 a0_0, .int .i64 a0_1] 28 ?_; intro gb402 hg w10 hbox hb; have BK402 := Aside0.mk (hbox); have GW402 := Aside0.mk (bz hg); have GE402 := GW402; replace HB := Aside0.mk (bs hb); clear hb hbox hg) | ((with_reducible refine gate_dst (N := 3) rfl ?_); refine bx 3 #[.int .i64 a1_0, .int .i64 a1_1] 28 ?_; intro gb403 hg w11 hbox hb; have BK403 := Aside0.mk (hbox); have GW403 := Aside0.mk (bz hg); have GE403 := GW403; have NB402_403 := Aside0.mk (bn gb402 hg); have NB403_402 := Aside0.mk NB402_403.out.symm; replace BK402 := Aside0.mk (bb gb402 hb); replace HB := Aside0.mk (bs hb); clear hb hbox hg; have hnb12 := NB402_403.out; have hnc12 := NB403_402.out; have hcz13_0 : w11.cell? ⟨gb402, 0, none⟩ = some (.int .i64 a0_0) := (blk_cell BK402.out 0).trans rfl; have hcz13_1 : w11.cell? ⟨gb402, 1, none⟩ = some (.int .i64 a0_1) := (blk_cell BK402.out 1).trans rfl; have hfz13_0 := blk_frozen BK402.out 0; have hfz13_1 := blk_frozen BK402.out 1; have hcz14_0 : w11.cell? ⟨gb403, 0, none⟩ = some (.int .i64 a1_0) := (blk_cell BK403.out 0).trans rfl; have hcz14_1 : w11.cell? ⟨gb403, 1, none⟩ = some (.int .i64 a1_1) := (blk_cell BK403.out 1).trans rfl; have hfz14_0 := blk_frozen BK403.out 0; have hfz14_1 := blk_frozen BK403.out 1))
   go_ret
   exact ⟨by first | rfl | (simp [errW_none, errW_some] <;> rfl) | (simp [*, errW_none, errW_some] <;> rfl), bl⟩
 ·rw [if_neg c3] at H
  have c3b0 : (a0_0 == a1_0) = false := beq_eq_false_iff_ne.mpr c3
  have c3b1 : (a0_0 != a1_0) = true := bne_iff_ne.mpr c3
  obtain rfl := Option.some.inj H
  go_enter Try.func17, Try.ntmps17
  go_wp2_with (first | ((with_reducible refine gate_dst (N := 2) rfl ?_); refine bx 2 #[.int .i64 a0_0, .int .i64 a0_1] 28 ?_; intro gb402 hg w15 hbox hb; have BK402 := Aside0.mk (hbox); have GW402 := Aside0.mk (bz hg); have GE402 := GW402; replace HB := Aside0.mk (bs hb); clear hb hbox hg) | ((with_reducible refine gate_dst (N := 3) rfl ?_); refine bx 3 #[.int .i64 a1_0, .int .i64 a1_1] 28 ?_; intro gb403 hg w16 hbox hb; have BK403 := Aside0.mk (hbox); have GW403 := Aside0.mk (bz hg); have GE403 := GW403; have NB402_403 := Aside0.mk (bn gb402 hg); have NB403_402 := Aside0.mk NB402_403.out.symm; replace BK402 := Aside0.mk (bb gb402 hb); replace HB := Aside0.mk (bs hb); clear hb hbox hg; have hnb17 := NB402_403.out; have hnc17 := NB403_402.out; have hcz18_0 : w16.cell? ⟨gb402, 0, none⟩ = some (.int .i64 a0_0) := (blk_cell BK402.out 0).trans rfl; have hcz18_1 : w16.cell? ⟨gb402, 1, none⟩ = some (.int .i64 a0_1) := (blk_cell BK402.out 1).trans rfl; have hfz18_0 := blk_frozen BK402.out 0; have hfz18_1 := blk_frozen BK402.out 1; have hcz19_0 : w16.cell? ⟨gb403, 0, none⟩ = some (.int .i64 a1_0) := (blk_cell BK403.out 0).trans rfl; have hcz19_1 : w16.cell? ⟨gb403, 1, none⟩ = some (.int .i64 a1_1) := (blk_cell BK403.out 1).trans rfl; have hfz19_0 := blk_frozen BK403.out 0; have hfz19_1 := blk_frozen BK403.out 1))
  go_ret
  exact ⟨by first | rfl | (simp [errW_none, errW_some] <;> rfl) | (simp [*, errW_none, errW_some] <;> rfl), bl⟩

/-! ### laws_eqPoint: function 55 -/
def laws_eqPoint.f (a0_0 : Int) (a0_1 : Int) (a0_2 : Int) (a0_3 : Int) (a1_0 : Int) (a1_1 : Int) (a1_2 : Int) (a1_3 : Int) : Option (Bool) := (laws_eqRat.f a0_0 a0_1 a1_0 a1_1).bind fun t406 => (if t406 = true then ((laws_eqRat.f a0_2 a0_3 a1_2 a1_3).bind fun t407 => (if t407 = true then (some true) else (some false))) else (some false))
set_option maxHeartbeats 8000000 in
set_option maxRecDepth 100000 in
theorem laws_eqPoint.calls (a0_0 : Int) (a0_1 : Int) (a0_2 : Int) (a0_3 : Int) (a1_0 : Int) (a1_1 : Int) (a1_2 : Int) (a1_3 : Int) (r : Bool) (w : World) (h : laws_eqPoint.f a0_0 a0_1 a0_2 a0_3 a1_0 a1_1 a1_2 a1_3 = some r) :
  Calls Try.prog 55 #[.agg #[.int .i64 a0_0, .int .i64 a0_1, .int .i64 a0_2, .int .i64 a0_3], .agg #[.int .i64 a1_0, .int .i64 a1_1, .int .i64 a1_2, .int .i64 a1_3]] w fun e w' => e = .returned (.bool r) ∧ Below w.heap.size w w' := by
 have hu68 := Try.underlying68
 have hu28 := Try.underlying28
 have HB := Aside0.mk (Below.refl w.heap.size w)
 have H : ((laws_eqRat.f a0_0 a0_1 a1_0 a1_1).bind fun t406 => (if t406 = true then ((laws_eqRat.f a0_2 a0_3 a1_2 a1_3).bind fun t407 => (if t407 = true then (some true) else (some false))) else (some false))) = some r := h
 clear h
 replace H := Option.bind_eq_some_iff.mp H
 obtain ⟨t406, A30, H⟩ := H
 replace H : (if t406 = true then ((laws_eqRat.f a0_2 a0_3 a1_2 a1_3).bind fun t407 => (if t407 = true then (some true) else (some false))) else (some false)) = some r := H
 have A3 := Aside0.mk A30
 clear A30
 by_cases c4 : t406 = true
 ·subst c4
  have H1 : ((laws_eqRat.f a0_2 a0_3 a1_2 a1_3).bind fun t407 => (if t407 = true then (some true) else (some false))) = some r := by rw [if_pos rfl] at H; exact H
  clear H
  have H := H1
  clear H1
  replace H := Option.bind_eq_some_iff.mp H
  obtain ⟨t407, A50, H⟩ := H
  replace H : (if t407 = true then (some true) else (some false)) = some r := H
  have A5 := Aside0.mk A50
  clear A50
  by_cases c6 : t407 = true
  ·subst c6
   have H1 : (some true) = some r := by rw [if_pos rfl] at H; exact H
   clear H
   have H := H1
   clear H1
   obtain rfl := Option.some.inj H
   go_enter Try.func55, Try.ntmps55
   go_wp2_with (first | ((with_reducible refine gate_dst (N := 2) rfl ?_); refine bx 2 #[.int .i64 a0_0, .int .i64 a0_1, .int .i64 a0_2, .int .i64 a0_3] 68 ?_; intro gb404 hg w7 hbox hb; have BK404 := Aside0.mk (hbox); have GW404 := Aside0.mk (bz hg); have GE404 := GW404; replace HB := Aside0.mk (bs hb); clear hb hbox hg) | ((with_reducible refine gate_dst (N := 3) rfl ?_); refine bx 3 #[.int .i64 a1_0, .int .i64 a1_1, .int .i64 a1_2, .int .i64 a1_3] 68 ?_; intro gb405 hg w8 hbox hb; have BK405 := Aside0.mk (hbox); have GW405 := Aside0.mk (bz hg); have GE405 := GW405; have NB404_405 := Aside0.mk (bn gb404 hg); have NB405_404 := Aside0.mk NB404_405.out.symm; replace BK404 := Aside0.mk (bb gb404 hb); replace HB := Aside0.mk (bs hb); clear hb hbox hg; have hnb9 := NB404_405.out; have hnc9 := NB405_404.out; have hcz10_0 : w8.cell? ⟨gb404, 0, none⟩ = some (.int .i64 a0_0) := (blk_cell BK404.out 0).trans rfl; have hcz10_1 : w8.cell? ⟨gb404, 1, none⟩ = some (.int .i64 a0_1) := (blk_cell BK404.out 1).trans rfl; have hcz10_2 : w8.cell? ⟨gb404, 2, none⟩ = some (.int .i64 a0_2) := (blk_cell BK404.out 2).trans rfl; have hcz10_3 : w8.cell? ⟨gb404, 3, none⟩ = some (.int .i64 a0_3) := (blk_cell BK404.out 3).trans rfl; have hfz10_0 := blk_frozen BK404.out 0; have hfz10_1 := blk_frozen BK404.out 1; have hfz10_2 := blk_frozen BK404.out 2; have hfz10_3 := blk_frozen BK404.out 3; have hcz11_0 : w8.cell? ⟨gb405, 0, none⟩ = some (.int .i64 a1_0) := (blk_cell BK405.out 0).trans rfl; have hcz11_1 : w8.cell? ⟨gb405, 1, none⟩ = some (.int .i64 a1_1) := (blk_cell BK405.out 1).trans rfl; have hcz11_2 : w8.cell? ⟨gb405, 2, none⟩ = some (.int .i64 a1_2) := (blk_cell BK405.out 2).trans rfl; have hcz11_3 : w8.cell? ⟨gb405, 3, none⟩ = some (.int .i64 a1_3) := (blk_cell BK405.out 3).trans rfl; have hfz11_0 := blk_frozen BK405.out 0; have hfz11_1 := blk_frozen BK405.out 1; have hfz11_2 := blk_frozen BK405.out 2; have hfz11_3 := blk_frozen BK405.out 3) | ((with_reducible refine gate_callee (f := 17) rfl ?_); refine gl 9 Try.func17 #[.agg #[.int .i64 a0_0, .int .i64 a0_1], .agg #[.int .i64 a1_0, .int .i64 a1_1]] ?_; (with_reducible refine (laws_eqRat.calls a0_0 a0_1 a1_0 a1_1 true _ A3.out).mono ?_); rintro e w12 ⟨rfl, hb⟩; refine ⟨_, rfl, ?_⟩; replace BK404 := Aside0.mk (bb gb404 hb); replace BK405 := Aside0.mk (bb gb405 hb); replace HB := Aside0.mk (bs hb); (try clear hb); (try clear hb2); (try clear hk); (try clear hi); have hcz13_0 : w12.cell? ⟨gb404, 0, none⟩ = some (.int .i64 a0_0) := (blk_cell BK404.out 0).trans rfl; have hcz13_1 : w12.cell? ⟨gb404, 1, none⟩ = some (.int .i64 a0_1) := (blk_cell BK404.out 1).trans rfl; have hcz13_2 : w12.cell? ⟨gb404, 2, none⟩ = some (.int .i64 a0_2) := (blk_cell BK404.out 2).trans rfl; have hcz13_3 : w12.cell? ⟨gb404, 3, none⟩ = some (.int .i64 a0_3) := (blk_cell BK404.out 3).trans rfl; have hfz13_0 := blk_frozen BK404.out 0; have hfz13_1 := blk_frozen BK404.out 1; have hfz13_2 := blk_frozen BK404.out 2; have hfz13_3 := blk_frozen BK404.out 3; have hcz14_0 : w12.cell? ⟨gb405, 0, none⟩ = some (.int .i64 a1_0) := (blk_cell BK405.out 0).trans rfl; have hcz14_1 : w12.cell? ⟨gb405, 1, none⟩ = some (.int .i64 a1_1) := (blk_cell BK405.out 1).trans rfl; have hcz14_2 : w12.cell? ⟨gb405, 2, none⟩ = some (.int .i64 a1_2) := (blk_cell BK405.out 2).trans rfl; have hcz14_3 : w12.cell? ⟨gb405, 3, none⟩ = some (.int .i64 a1_3) := (blk_cell BK405.out 3).trans rfl; have hfz14_0 := blk_frozen BK405.out 0; have hfz14_1 := blk_frozen BK405.out 1; have hfz14_2 := blk_frozen BK405.out 2; have hfz14_3 := blk_frozen BK405.out 3) | ((with_reducible refine gate_callee (f := 17) rfl ?_); refine gl 15 Try.func17 #[.agg #[.int .i64 a0_2, .int .i64 a0_3], .agg #[.int .i64 a1_2, .int .i64 a1_3]] ?_; (with_reducible refine (laws_eqRat.calls a0_2 a0_3 a1_2 a1_3 true _ A5.out).mono ?_); rintro e w15 ⟨rfl, hb⟩; refine ⟨_, rfl, ?_⟩; replace BK404 := Aside0.mk (bb gb404 hb); replace BK405 := Aside0.mk (bb gb405 hb); replace HB := Aside0.mk (bs hb); (try clear hb); (try clear hb2); (try clear hk); (try clear hi)))
   go_ret
   exact ⟨by first | rfl | (simp [errW_none, errW_some] <;> rfl) | (simp [*, errW_none, errW_some] <;> rfl), bl⟩
  ·replace c6 := Bool.eq_false_iff.mpr c6
   subst c6
   have H1 : (some false) = some r := by rw [if_neg (show ¬ (false = true) by decide)] at H; exact H
   clear H
   have H := H1
   clear H1
   obtain rfl := Option.some.inj H
   go_enter Try.func55, Try.ntmps55
   go_wp2_with (first | ((with_reducible refine gate_dst (N := 2) rfl ?_); refine bx 2 #[.int .i64 a0_0, .int .i64 a0_1, .int .i64 a0_2, .int .i64 a0_3] 68 ?_; intro gb404 hg w16 hbox hb; have BK404 := Aside0.mk (hbox); have GW404 := Aside0.mk (bz hg); have GE404 := GW404; replace HB := Aside0.mk (bs hb); clear hb hbox hg) | ((with_reducible refine gate_dst (N := 3) rfl ?_); refine bx 3 #[.int .i64 a1_0, .int .i64 a1_1, .int .i64 a1_2, .int .i64 a1_3] 68 ?_; intro gb405 hg w17 hbox hb; have BK405 := Aside0.mk (hbox); have GW405 := Aside0.mk (bz hg); have GE405 := GW405; have NB404_405 := Aside0.mk (bn gb404 hg); have NB405_404 := Aside0.mk NB404_405.out.symm; replace BK404 := Aside0.mk (bb gb404 hb); replace HB := Aside0.mk (bs hb); clear hb hbox hg; have hnb18 := NB404_405.out; have hnc18 := NB405_404.out; have hcz19_0 : w17.cell? ⟨gb404, 0, none⟩ = some (.int .i64 a0_0) := (blk_cell BK404.out 0).trans rfl; have hcz19_1 : w17.cell? ⟨gb404, 1, none⟩ = some (.int .i64 a0_1) := (blk_cell BK404.out 1).trans rfl; have hcz19_2 : w17.cell? ⟨gb404, 2, none⟩ = some (.int .i64 a0_2) := (blk_cell BK404.out 2).trans rfl; have hcz19_3 : w17.cell? ⟨gb404, 3, none⟩ = some (.int .i64 a0_3) := (blk_cell BK404.out 3).trans rfl; have hfz19_0 := blk_frozen BK404.out 0; have hfz19_1 := blk_frozen BK404.out 1; have hfz19_2 := blk_frozen BK404.out 2; have hfz19_3 := blk_frozen BK404.out 3; have hcz20_0 : w17.cell? ⟨gb405, 0, none⟩ = some (.int .i64 a1_0) := (blk_cell BK405.out 0).trans rfl; have hcz20_1 : w17.cell? ⟨gb405, 1, none⟩ = some (.int .i64 a1_1) := (blk_cell BK405.out 1).trans rfl; have hcz20_2 : w17.cell? ⟨gb405, 2, none⟩ = some (.int .i64 a1_2) := (blk_cell BK405.out 2).trans rfl; have hcz20_3 : w17.cell? ⟨gb405, 3, none⟩ = some (.int .i64 a1_3) := (blk_cell BK405.out 3).trans rfl; have hfz20_0 := blk_frozen BK405.out 0; have hfz20_1 := blk_frozen BK405.out 1; have hfz20_2 := blk_frozen BK405.out 2; have hfz20_3 := blk_frozen BK405.out 3) | ((with_reducible refine gate_callee (f := 17) rfl ?_); refine gl 9 Try.func17 #[.agg #[.int .i64 a0_0, .int .i64 a0_1], .agg #[.int .i64 a1_0, .int .i64 a1_1]] ?_; (with_reducible refine (laws_eqRat.calls a0_0 a0_1 a1_0 a1_1 true _ A3.out).mono ?_); rintro e w21 ⟨rfl, hb⟩; refine ⟨_, rfl, ?_⟩; replace BK404 := Aside0.mk (bb gb404 hb); replace BK405 := Aside0.mk (bb gb405 hb); replace HB := Aside0.mk (bs hb); (try clear hb); (try clear hb2); (try clear hk); (try clear hi); have hcz22_0 : w21.cell? ⟨gb404, 0, none⟩ = some (.int .i64 a0_0) := (blk_cell BK404.out 0).trans rfl; have hcz22_1 : w21.cell? ⟨gb404, 1, none⟩ = some (.int .i64 a0_1) := (blk_cell BK404.out 1).trans rfl; have hcz22_2 : w21.cell? ⟨gb404, 2, none⟩ = some (.int .i64 a0_2) := (blk_cell BK404.out 2).trans rfl; have hcz22_3 : w21.cell? ⟨gb404, 3, none⟩ = some (.int .i64 a0_3) := (blk_cell BK404.out 3).trans rfl; have hfz22_0 := blk_frozen BK404.out 0; have hfz22_1 := blk_frozen BK404.out 1; have hfz22_2 := blk_frozen BK404.out 2; have hfz22_3 := blk_frozen BK404.out 3; have hcz23_0 : w21.cell? ⟨gb405, 0, none⟩ = some (.int .i64 a1_0) := (blk_cell BK405.out 0).trans rfl; have hcz23_1 : w21.cell? ⟨gb405, 1, none⟩ = some (.int .i64 a1_1) := (blk_cell BK405.out 1).trans rfl; have hcz23_2 : w21.cell? ⟨gb405, 2, none⟩ = some (.int .i64 a1_2) := (blk_cell BK405.out 2).trans rfl; have hcz23_3 : w21.cell? ⟨gb405, 3, none⟩ = some (.int .i64 a1_3) := (blk_cell BK405.out 3).trans rfl; have hfz23_0 := blk_frozen BK405.out 0; have hfz23_1 := blk_frozen BK405.out 1; have hfz23_2 := blk_frozen BK405.out 2; have hfz23_3 := blk_frozen BK405.out 3) | ((with_reducible refine gate_callee (f := 17) rfl ?_); refine gl 15 Try.func17 #[.agg #[.int .i64 a0_2, .int .i64 a0_3], .agg #[.int .i64 a1_2, .int .i64 a1_3]] ?_; (with_reducible refine (laws_eqRat.calls a0_2 a0_3 a1_2 a1_3 false _ A5.out).mono ?_); rintro e w24 ⟨rfl, hb⟩; refine ⟨_, rfl, ?_⟩; replace BK404 := Aside0.mk (bb gb404 hb); replace BK405 := Aside0.mk (bb gb405 hb); replace HB := Aside0.mk (bs hb); (try clear hb); (try clear hb2); (try clear hk); (try clear hi)))
   go_ret
   exact ⟨by first | rfl | (simp [errW_none, errW_some] <;> rfl) | (simp [*, errW_none, errW_some] <;> rfl), bl⟩
 ·replace c4 := Bool.eq_false_iff.mpr c4
  subst c4
  have H1 : (some false) = some r := by rw [if_neg (show ¬ (false = true) by decide)] at H; exact H
  clear H
  have H := H1
  clear H1
  obtain rfl := Option.some.inj H
  go_enter Try.func55, Try.ntmps55
  go_wp2_with (first | ((with_reducible refine gate_dst (N := 2) rfl ?_); refine bx 2 #[.int .i64 a0_0, .int .i64 a0_1, .int .i64 a0_2, .int .i64 a0_3] 68 ?_; intro gb404 hg w25 hbox hb; have BK404 := Aside0.mk (hbox); have GW404 := Aside0.mk (bz hg); have GE404 := GW404; replace HB := Aside0.mk (bs hb); clear hb hbox hg) | ((with_reducible refine gate_dst (N := 3) rfl ?_); refine bx 3 #[.int .i64 a1_0, .int .i64 a1_1, .int .i64 a1_2, .int .i64 a1_3] 68 ?_; intro gb405 hg w26 hbox hb; have BK405 := Aside0.mk (hbox); have GW405 := Aside0.mk (bz hg); have GE405 := GW405; have NB404_405 := Aside0.mk (bn gb404 hg); have NB405_404 := Aside0.mk NB404_405.out.symm; replace BK404 := Aside0.mk (bb gb404 hb); replace HB := Aside0.mk (bs hb); clear hb hbox hg; have hnb27 := NB404_405.out; have hnc27 := NB405_404.out; have hcz28_0 : w26.cell? ⟨gb404, 0, none⟩ = some (.int .i64 a0_0) := (blk_cell BK404.out 0).trans rfl; have hcz28_1 : w26.cell? ⟨gb404, 1, none⟩ = some (.int .i64 a0_1) := (blk_cell BK404.out 1).trans rfl; have hcz28_2 : w26.cell? ⟨gb404, 2, none⟩ = some (.int .i64 a0_2) := (blk_cell BK404.out 2).trans rfl; have hcz28_3 : w26.cell? ⟨gb404, 3, none⟩ = some (.int .i64 a0_3) := (blk_cell BK404.out 3).trans rfl; have hfz28_0 := blk_frozen BK404.out 0; have hfz28_1 := blk_frozen BK404.out 1; have hfz28_2 := blk_frozen BK404.out 2; have hfz28_3 := blk_frozen BK404.out 3; have hcz29_0 : w26.cell? ⟨gb405, 0, none⟩ = some (.int .i64 a1_0) := (blk_cell BK405.out 0).trans rfl; have hcz29_1 : w26.cell? ⟨gb405, 1, none⟩ = some (.int .i64 a1_1) := (blk_cell BK405.out 1).trans rfl; have hcz29_2 : w26.cell? ⟨gb405, 2, none⟩ = some (.int .i64 a1_2) := (blk_cell BK405.out 2).trans rfl; have hcz29_3 : w26.cell? ⟨gb405, 3, none⟩ = some (.int .i64 a1_3) := (blk_cell BK405.out 3).trans rfl; have hfz29_0 := blk_frozen BK405.out 0; have hfz29_1 := blk_frozen BK405.out 1; have hfz29_2 := blk_frozen BK405.out 2; have hfz29_3 := blk_frozen BK405.out 3) | ((with_reducible refine gate_callee (f := 17) rfl ?_); refine gl 9 Try.func17 #[.agg #[.int .i64 a0_0, .int .i64 a0_1], .agg #[.int .i64 a1_0, .int .i64 a1_1]] ?_; (with_reducible refine (laws_eqRat.calls a0_0 a0_1 a1_0 a1_1 false _ A3.out).mono ?_); rintro e w30 ⟨rfl, hb⟩; refine ⟨_, rfl, ?_⟩; replace BK404 := Aside0.mk (bb gb404 hb); replace BK405 := Aside0.mk (bb gb405 hb); replace HB := Aside0.mk (bs hb); (try clear hb); (try clear hb2); (try clear hk); (try clear hi)))
  go_ret
  exact ⟨by first | rfl | (simp [errW_none, errW_some] <;> rfl) | (simp [*, errW_none, errW_some] <;> rfl), bl⟩

/-! ### laws_eqPointS: function 18 -/
def laws_eqPointS.l0 : Nat → List (S68) → List (S68) → Int → Option (Bool)
 | 0, _, _, _ => none
 | k + 1, x0, x1, x5 => if x5 < (x0.length : Int) then (if 0 ≤ x5 then (if x5 < (x1.length : Int) then ((laws_eqPoint.f ((rd_T68 x0 x5).f0.f0) ((rd_T68 x0 x5).f0.f1) ((rd_T68 x0 x5).f1.f0) ((rd_T68 x0 x5).f1.f1) ((rd_T68 x1 x5).f0.f0) ((rd_T68 x1 x5).f0.f1) ((rd_T68 x1 x5).f1.f0) ((rd_T68 x1 x5).f1.f1)).bind fun t410 => (if t410 = true then (laws_eqPointS.l0 k x0 x1 (wrap64 (x5 + 1))) else (some false))) else (none)) else (none)) else (some true)
def laws_eqPointS.f (k : Nat) (l0 : List (S68)) (l1 : List (S68)) : Option (Bool) := if (l0.length : Int) = (l1.length : Int) then (laws_eqPointS.l0 k l0 l1 0) else (some false)
def laws_eqPointS.T6 : Bool × List (List Nat × List Nat) := (true, [([], []), ([], []), ([0, 1], [0, 1]), ([2], [2]), ([], []), ([], []), ([4, 5], [4, 5]), ([6], [6]), ([3, 7], [3, 7]), ([8], [8])])
def laws_eqPointS.B6 : List Nat := [0, 0, 3, 7, 0, 0, 48, 112, 255, 511]
theorem laws_eqPointS.tab6 : rtab .any (opsOf Try.f18 6) = laws_eqPointS.T6 := by kernel_rfl
theorem laws_eqPointS.bits6 : waitsOk laws_eqPointS.T6.2 laws_eqPointS.B6 = true := by kernel_rfl
set_option maxHeartbeats 8000000 in
set_option maxRecDepth 100000 in
theorem laws_eqPointS.calls (k : Nat) (A0 : Option Addr) (c0 : Nat) (l0 : List (S68)) (A1 : Option Addr) (c1 : Nat) (l1 : List (S68)) (r : Bool) (w : World) (hr0 : Kd.C k68 w A0 l0.length l0) (hc0 : l0.length ≤ c0) (hr1 : Kd.C k68 w A1 l1.length l1) (hc1 : l1.length ≤ c1) (h : laws_eqPointS.f k l0 l1 = some r) :
  Calls Try.prog 18 #[.slice A0 l0.length c0, .slice A1 l1.length c1] w fun e w' => e = .returned (.bool r) ∧ Below w.heap.size w w' := by
 have hu68 := Try.underlying68
 have HR0 := Aside0.mk hr0
 have HC0 := Aside0.mk hc0
 clear hr0 hc0
 have HR1 := Aside0.mk hr1
 have HC1 := Aside0.mk hc1
 clear hr1 hc1
 have HB := Aside0.mk (Below.refl w.heap.size w)
 have H : (if (l0.length : Int) = (l1.length : Int) then (laws_eqPointS.l0 k l0 l1 0) else (some false)) = some r := h
 clear h
 by_cases c3 : (l0.length : Int) = (l1.length : Int)
 ·rw [if_pos c3] at H
  have c3b0 : ((l0.length : Int) == (l1.length : Int)) = true := beq_iff_eq.mpr c3
  have c3b1 : ((l0.length : Int) != (l1.length : Int)) = false := bne_eq_false_iff_eq.mpr c3
  have c3b2 : (l0.length == l1.length) = true := by first | simpa using c3 | (simp at c3 ⊢; omega)
  clear c3
  have H' := Aside0.mk H
  clear H
  go_enter Try.func18, Try.ntmps18
  go_wp2
  go_loopg [5] k (fun kq v5 w' => ∃ (x5_1 : Int), v5 = .int .i64 x5_1 ∧ Aside0 (laws_eqPointS.l0 kq l0 l1 x5_1 = some r) ∧ Aside0 (kq ≤ k) ∧ Aside0 (Below w.heap.size w w'))
  case atStart => exact ⟨(0), (by first | rfl | (simp; done) | (simp [*]; done)), H', ⟨Nat.le_refl _⟩, ⟨bl⟩⟩
  case round =>
   clear H'
   try clear c1
   try clear p2
   try clear c3
   try clear c3b0
   try clear c3b1
   try clear c3b2
   obtain ⟨x5_1, rfl, HA, HK1, HB⟩ := hrel
   cases gk with
   | zero => exact absurd HA.out (by simp [laws_eqPointS.l0])
   | succ k1 =>
    have H := HA.out
    clear HA
    simp only [laws_eqPointS.l0] at H
    by_cases c4 : x5_1 < (l0.length : Int)
    ·rw [if_pos c4] at H
     have c4b0 : decide (x5_1 < (l0.length : Int)) = true := decide_eq_true c4
     clear c4
     by_cases c5 : 0 ≤ x5_1
     ·rw [if_pos c5] at H
      have c5b0 : decide (0 ≤ x5_1) = true := decide_eq_true c5
      clear c5
      by_cases c6 : x5_1 < (l1.length : Int)
      ·rw [if_pos c6] at H
       have c6b0 : decide (x5_1 < (l1.length : Int)) = true := decide_eq_true c6
       clear c6
       replace H := Option.bind_eq_some_iff.mp H
       obtain ⟨t410, A70, H⟩ := H
       replace H : (if t410 = true then (laws_eqPointS.l0 k1 l0 l1 (wrap64 (x5_1 + 1))) else (some false)) = some r := H
       have A7 := Aside0.mk A70
       clear A70
       by_cases c8 : t410 = true
       ·subst c8
        have H1 : (laws_eqPointS.l0 k1 l0 l1 (wrap64 (x5_1 + 1))) = some r := by rw [if_pos rfl] at H; exact H
        clear H
        have H := H1
        clear H1
        have H' := Aside0.mk H
        clear H
        try go_wp2
        replace HB := Aside0.mk (below_drew1 HB.out)
        have p408 : 0 ≤ (x5_1 : Int) := da
        have q408 : x5_1 < (l0.length : Int) := da
        obtain ⟨ad408, e408, hx408_0, hx408_1, hx408_2, hx408_3⟩ := at_T68 HR0.out x5_1 p408 q408
        have hw408_3 := hx408_3
        have hw408_2 := hx408_2
        have hw408_1 := hx408_1
        have hw408_0 := hx408_0
        cases e408
        replace hx408_0 := (hc HB hx408_0 :)
        replace hx408_1 := (hc HB hx408_1 :)
        replace hx408_2 := (hc HB hx408_2 :)
        replace hx408_3 := (hc HB hx408_3 :)
        replace p408 := eq_true p408
        replace q408 := eq_true q408
        have p409 : 0 ≤ (x5_1 : Int) := da
        have q409 : x5_1 < (l1.length : Int) := da
        obtain ⟨ad409, e409, hx409_0, hx409_1, hx409_2, hx409_3⟩ := at_T68 HR1.out x5_1 p409 q409
        have hw409_3 := hx409_3
        have hw409_2 := hx409_2
        have hw409_1 := hx409_1
        have hw409_0 := hx409_0
        cases e409
        replace hx409_0 := (hc HB hx409_0 :)
        replace hx409_1 := (hc HB hx409_1 :)
        replace hx409_2 := (hc HB hx409_2 :)
        replace hx409_3 := (hc HB hx409_3 :)
        replace p409 := eq_true p409
        replace q409 := eq_true q409
        refine start_ (n := 10) (S := fun w' => w'.cell? (ad408.add ((x5_1).toNat * 4)) = some (.int .i64 ((rd_T68 l0 x5_1).f0.f0)) ∧ w'.cell? ⟨(ad408.add ((x5_1).toNat * 4)).block, (ad408.add ((x5_1).toNat * 4)).off + 1, none⟩ = some (.int .i64 ((rd_T68 l0 x5_1).f0.f1)) ∧ w'.cell? ⟨(ad408.add ((x5_1).toNat * 4)).block, (ad408.add ((x5_1).toNat * 4)).off + 2, none⟩ = some (.int .i64 ((rd_T68 l0 x5_1).f1.f0)) ∧ w'.cell? ⟨(ad408.add ((x5_1).toNat * 4)).block, (ad408.add ((x5_1).toNat * 4)).off + 3, none⟩ = some (.int .i64 ((rd_T68 l0 x5_1).f1.f1)) ∧ w'.cell? (ad409.add ((x5_1).toNat * 4)) = some (.int .i64 ((rd_T68 l1 x5_1).f0.f0)) ∧ w'.cell? ⟨(ad409.add ((x5_1).toNat * 4)).block, (ad409.add ((x5_1).toNat * 4)).off + 1, none⟩ = some (.int .i64 ((rd_T68 l1 x5_1).f0.f1)) ∧ w'.cell? ⟨(ad409.add ((x5_1).toNat * 4)).block, (ad409.add ((x5_1).toNat * 4)).off + 2, none⟩ = some (.int .i64 ((rd_T68 l1 x5_1).f1.f0)) ∧ w'.cell? ⟨(ad409.add ((x5_1).toNat * 4)).block, (ad409.add ((x5_1).toNat * 4)).off + 3, none⟩ = some (.int .i64 ((rd_T68 l1 x5_1).f1.f1))) (ds := []) (tb 0 10) (by kernel_rfl) rfl rfl ⟨(hc HB hw408_0 :), (hc HB hw408_1 :), (hc HB hw408_2 :), (hc HB hw408_3 :), (hc HB hw409_0 :), (hc HB hw409_1 :), (hc HB hw409_2 :), (hc HB hw409_3 :)⟩ (fun hHeld => ?_); refine with_tabW laws_eqPointS.tab6 laws_eqPointS.bits6 (fun HT_ HW_ => ?_)
        generalize wr.drew = w9 at HB hx408_0 hx408_1 hx408_2 hx408_3 hx409_0 hx409_1 hx409_2 hx409_3 hHeld ⊢
        refine pu 0 17 (tb 1 9) ?_
        refine pu 1 18 (tb 2 8) ?_
        refine pu 2 19 (tb 3 7) ?_
        refine pu 4 21 #[true, true, true, false, true, false, false, false, false, false] ?_
        refine pu 5 22 #[true, true, true, false, true, true, false, false, false, false] ?_
        refine pu 6 23 #[true, true, true, false, true, true, true, false, false, false] ?_
        refine tk 3 20 (tb 7 3) (hy := by rintro w' ⟨s0, s1, s2, s3, s4, s5, s6, s7⟩; go_simp; with_reducible rfl) (h := ?_)
        refine tk 7 24 (tb 8 2) (hy := by rintro w' ⟨s0, s1, s2, s3, s4, s5, s6, s7⟩; go_simp; with_reducible rfl) (h := ?_)
        refine on 8 25 (tb 9 1) (fun K hK => ?_)
        refine gs Try.func55 #[.agg #[.int .i64 ((rd_T68 l0 x5_1).f0.f0), .int .i64 ((rd_T68 l0 x5_1).f0.f1), .int .i64 ((rd_T68 l0 x5_1).f1.f0), .int .i64 ((rd_T68 l0 x5_1).f1.f1)], .agg #[.int .i64 ((rd_T68 l1 x5_1).f0.f0), .int .i64 ((rd_T68 l1 x5_1).f0.f1), .int .i64 ((rd_T68 l1 x5_1).f1.f0), .int .i64 ((rd_T68 l1 x5_1).f1.f1)]] ?_
        with_reducible refine (laws_eqPoint.calls ((rd_T68 l0 x5_1).f0.f0) ((rd_T68 l0 x5_1).f0.f1) ((rd_T68 l0 x5_1).f1.f0) ((rd_T68 l0 x5_1).f1.f1) ((rd_T68 l1 x5_1).f0.f0) ((rd_T68 l1 x5_1).f0.f1) ((rd_T68 l1 x5_1).f1.f0) ((rd_T68 l1 x5_1).f1.f1) true _ A7.out).mono ?_
        rintro e w10 ⟨rfl, hb⟩
        refine ⟨_, rfl, ?_⟩
        replace HB := Aside0.mk (bs hb)
        (try clear hb)
        (try clear hb2)
        (try clear hk)
        (try clear hi)
        refine hK.out _ _ ⟨(hc HB hw408_0 :), (hc HB hw408_1 :), (hc HB hw408_2 :), (hc HB hw408_3 :), (hc HB hw409_0 :), (hc HB hw409_1 :), (hc HB hw409_2 :), (hc HB hw409_3 :)⟩ (fun hHeld => ?_)
        clear hK K
        refine nm 25 ?_
        refine pu 9 26 (tb 10 0) ?_
        refine done_ (done_of HT_.out (by kernel_rfl)) ?_
        try go_wp2
        go_roundg k1
        case measure => have := HK1.out; omega
        case rel => exact ⟨(wrap64 (x5_1 + 1)), (by first | rfl | (simp; done) | (simp [*]; done)), H', ⟨by have := HK1.out; omega⟩, ⟨bl⟩⟩
       ·replace c8 := Bool.eq_false_iff.mpr c8
        subst c8
        have H1 : (some false) = some r := by rw [if_neg (show ¬ (false = true) by decide)] at H; exact H
        clear H
        have H := H1
        clear H1
        obtain rfl := Option.some.inj H
        try go_wp2
        replace HB := Aside0.mk (below_drew1 HB.out)
        have p408 : 0 ≤ (x5_1 : Int) := da
        have q408 : x5_1 < (l0.length : Int) := da
        obtain ⟨ad408, e408, hx408_0, hx408_1, hx408_2, hx408_3⟩ := at_T68 HR0.out x5_1 p408 q408
        have hw408_3 := hx408_3
        have hw408_2 := hx408_2
        have hw408_1 := hx408_1
        have hw408_0 := hx408_0
        cases e408
        replace hx408_0 := (hc HB hx408_0 :)
        replace hx408_1 := (hc HB hx408_1 :)
        replace hx408_2 := (hc HB hx408_2 :)
        replace hx408_3 := (hc HB hx408_3 :)
        replace p408 := eq_true p408
        replace q408 := eq_true q408
        have p409 : 0 ≤ (x5_1 : Int) := da
        have q409 : x5_1 < (l1.length : Int) := da
        obtain ⟨ad409, e409, hx409_0, hx409_1, hx409_2, hx409_3⟩ := at_T68 HR1.out x5_1 p409 q409
        have hw409_3 := hx409_3
        have hw409_2 := hx409_2
        have hw409_1 := hx409_1
        have hw409_0 := hx409_0
        cases e409
        replace hx409_0 := (hc HB hx409_0 :)
        replace hx409_1 := (hc HB hx409_1 :)
        replace hx409_2 := (hc HB hx409_2 :)
        replace hx409_3 := (hc HB hx409_3 :)
        replace p409 := eq_true p409
        replace q409 := eq_true q409
        refine start_ (n := 10) (S := fun w' => w'.cell? (ad408.add ((x5_1).toNat * 4)) = some (.int .i64 ((rd_T68 l0 x5_1).f0.f0)) ∧ w'.cell? ⟨(ad408.add ((x5_1).toNat * 4)).block, (ad408.add ((x5_1).toNat * 4)).off + 1, none⟩ = some (.int .i64 ((rd_T68 l0 x5_1).f0.f1)) ∧ w'.cell? ⟨(ad408.add ((x5_1).toNat * 4)).block, (ad408.add ((x5_1).toNat * 4)).off + 2, none⟩ = some (.int .i64 ((rd_T68 l0 x5_1).f1.f0)) ∧ w'.cell? ⟨(ad408.add ((x5_1).toNat * 4)).block, (ad408.add ((x5_1).toNat * 4)).off + 3, none⟩ = some (.int .i64 ((rd_T68 l0 x5_1).f1.f1)) ∧ w'.cell? (ad409.add ((x5_1).toNat * 4)) = some (.int .i64 ((rd_T68 l1 x5_1).f0.f0)) ∧ w'.cell? ⟨(ad409.add ((x5_1).toNat * 4)).block, (ad409.add ((x5_1).toNat * 4)).off + 1, none⟩ = some (.int .i64 ((rd_T68 l1 x5_1).f0.f1)) ∧ w'.cell? ⟨(ad409.add ((x5_1).toNat * 4)).block, (ad409.add ((x5_1).toNat * 4)).off + 2, none⟩ = some (.int .i64 ((rd_T68 l1 x5_1).f1.f0)) ∧ w'.cell? ⟨(ad409.add ((x5_1).toNat * 4)).block, (ad409.add ((x5_1).toNat * 4)).off + 3, none⟩ = some (.int .i64 ((rd_T68 l1 x5_1).f1.f1))) (ds := []) (tb 0 10) (by kernel_rfl) rfl rfl ⟨(hc HB hw408_0 :), (hc HB hw408_1 :), (hc HB hw408_2 :), (hc HB hw408_3 :), (hc HB hw409_0 :), (hc HB hw409_1 :), (hc HB hw409_2 :), (hc HB hw409_3 :)⟩ (fun hHeld => ?_); refine with_tabW laws_eqPointS.tab6 laws_eqPointS.bits6 (fun HT_ HW_ => ?_)
        generalize wr.drew = w11 at HB hx408_0 hx408_1 hx408_2 hx408_3 hx409_0 hx409_1 hx409_2 hx409_3 hHeld ⊢
        refine pu 0 17 (tb 1 9) ?_
        refine pu 1 18 (tb 2 8) ?_
        refine pu 2 19 (tb 3 7) ?_
        refine pu 4 21 #[true, true, true, false, true, false, false, false, false, false] ?_
        refine pu 5 22 #[true, true, true, false, true, true, false, false, false, false] ?_
        refine pu 6 23 #[true, true, true, false, true, true, true, false, false, false] ?_
        refine tk 3 20 (tb 7 3) (hy := by rintro w' ⟨s0, s1, s2, s3, s4, s5, s6, s7⟩; go_simp; with_reducible rfl) (h := ?_)
        refine tk 7 24 (tb 8 2) (hy := by rintro w' ⟨s0, s1, s2, s3, s4, s5, s6, s7⟩; go_simp; with_reducible rfl) (h := ?_)
        refine on 8 25 (tb 9 1) (fun K hK => ?_)
        refine gs Try.func55 #[.agg #[.int .i64 ((rd_T68 l0 x5_1).f0.f0), .int .i64 ((rd_T68 l0 x5_1).f0.f1), .int .i64 ((rd_T68 l0 x5_1).f1.f0), .int .i64 ((rd_T68 l0 x5_1).f1.f1)], .agg #[.int .i64 ((rd_T68 l1 x5_1).f0.f0), .int .i64 ((rd_T68 l1 x5_1).f0.f1), .int .i64 ((rd_T68 l1 x5_1).f1.f0), .int .i64 ((rd_T68 l1 x5_1).f1.f1)]] ?_
        with_reducible refine (laws_eqPoint.calls ((rd_T68 l0 x5_1).f0.f0) ((rd_T68 l0 x5_1).f0.f1) ((rd_T68 l0 x5_1).f1.f0) ((rd_T68 l0 x5_1).f1.f1) ((rd_T68 l1 x5_1).f0.f0) ((rd_T68 l1 x5_1).f0.f1) ((rd_T68 l1 x5_1).f1.f0) ((rd_T68 l1 x5_1).f1.f1) false _ A7.out).mono ?_
        rintro e w12 ⟨rfl, hb⟩
        refine ⟨_, rfl, ?_⟩
        replace HB := Aside0.mk (bs hb)
        (try clear hb)
        (try clear hb2)
        (try clear hk)
        (try clear hi)
        refine hK.out _ _ ⟨(hc HB hw408_0 :), (hc HB hw408_1 :), (hc HB hw408_2 :), (hc HB hw408_3 :), (hc HB hw409_0 :), (hc HB hw409_1 :), (hc HB hw409_2 :), (hc HB hw409_3 :)⟩ (fun hHeld => ?_)
        clear hK K
        refine nm 25 ?_
        refine pu 9 26 (tb 10 0) ?_
        refine done_ (done_of HT_.out (by kernel_rfl)) ?_
        try go_wp2
        go_ret
        exact ⟨by first | rfl | (simp [errW_none, errW_some] <;> rfl) | (simp [*, errW_none, errW_some] <;> rfl), bl⟩
      ·rw [if_neg c6] at H
       exact absurd H (by simp)
     ·rw [if_neg c5] at H
      exact absurd H (by simp)
    ·rw [if_neg c4] at H
     have c4b0 : decide (x5_1 < (l0.length : Int)) = false := decide_eq_false c4
     clear c4
     obtain rfl := Option.some.inj H
     go_wp2
     go_ret
     exact ⟨by first | rfl | (simp [errW_none, errW_some] <;> rfl) | (simp [*, errW_none, errW_some] <;> rfl), bl⟩
 ·rw [if_neg c3] at H
  have c3b0 : ((l0.length : Int) == (l1.length : Int)) = false := beq_eq_false_iff_ne.mpr c3
  have c3b1 : ((l0.length : Int) != (l1.length : Int)) = true := bne_iff_ne.mpr c3
  have c3b2 : (l0.length == l1.length) = false := by first | simpa using c3 | (simp at c3 ⊢; omega)
  obtain rfl := Option.some.inj H
  go_enter Try.func18, Try.ntmps18
  go_wp2
  go_ret
  exact ⟨by first | rfl | (simp [errW_none, errW_some] <;> rfl) | (simp [*, errW_none, errW_some] <;> rfl), bl⟩

end Go.Proofs.Ytmecnnnagallnaa.PFnExactLeastSlope
