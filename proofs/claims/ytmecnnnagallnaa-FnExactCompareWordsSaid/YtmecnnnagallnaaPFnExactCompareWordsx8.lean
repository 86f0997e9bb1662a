-- Written by this session's program wip/pp (the kit's print tool with additions) 35421559b90ae4d0a3588c463048766b98c2df88dd9212a6774a882060cdf62d
import Derived.Test.YtmecnnnagallnaaPFnExactCompareWordsx0
import Derived.Test.YtmecnnnagallnaaPFnExactCompareWordsx7
namespace Go.Proofs.Ytmecnnnagallnaa.PFnExactCompareWords
open Go.RowKit Go.Proofs.YtmecnnnagallnaaW.PrintWords Go.Proofs.YtmecnnnagallnaaW.PrintLast Go.Proofs.YtmecnnnagallnaaW.PrintMore
attribute [local go_sem] max2_int min2_int max_two min_two max_three min_three max_four min_four   -- for this text's walks alone
set_option linter.unusedVariables false
set_option linter.unusedSimpArgs false

/-! ### impl_isMap_1: function 88 -/
def impl_isMap_1.f (k : Nat) (a0_0 : Int) (a0_1 : Int) (a0_2 : Int) (a0_3 : Int) : Option (Bool) := (impl_isCoord.f k a0_0 a0_1).bind fun t272 => (if t272 = true then ((impl_isCoord.f k a0_2 a0_3).bind fun t273 => (some (!t273))) else (some true))
set_option maxHeartbeats 8000000 in
set_option maxRecDepth 100000 in
theorem impl_isMap_1.calls (k : Nat) (a0_0 : Int) (a0_1 : Int) (a0_2 : Int) (a0_3 : Int) (r : Bool) (w : World) (h : impl_isMap_1.f k a0_0 a0_1 a0_2 a0_3 = some r) :
  Calls Try.prog 88 #[.agg #[.int .i64 a0_0, .int .i64 a0_1, .int .i64 a0_2, .int .i64 a0_3]] w fun e w' => e = .returned (.bool r) ∧ Below w.heap.size w w' := by
 have hu68 := Try.underlying68
 have hu28 := Try.underlying28
 have HB := Aside0.mk (Below.refl w.heap.size w)
 have H : ((impl_isCoord.f k a0_0 a0_1).bind fun t272 => (if t272 = true then ((impl_isCoord.f k a0_2 a0_3).bind fun t273 => (some (!t273))) else (some true))) = some r := h
 clear h
 replace H := Option.bind_eq_some_iff.mp H
 obtain ⟨t272, A20, H⟩ := H
 replace H : (if t272 = true then ((impl_isCoord.f k a0_2 a0_3).bind fun t273 => (some (!t273))) else (some true)) = some r := H
 have A2 := Aside0.mk A20
 clear A20
 by_cases c3 : t272 = true
 ·subst c3
  have H1 : ((impl_isCoord.f k a0_2 a0_3).bind fun t273 => (some (!t273))) = some r := by rw [if_pos rfl] at H; exact H
  clear H
  have H := H1
  clear H1
  replace H := Option.bind_eq_some_iff.mp H
  obtain ⟨t273, A40, H⟩ := H
  replace H : (some (!t273)) = some r := H
  have A4 := Aside0.mk A40
  clear A40
  obtain rfl := Option.some.inj H
  go_enter Try.func88, Try.ntmps88
  go_wp2_with (first | ((with_reducible refine gate_dst (N := 1) rfl ?_); refine bx 1 #[.int .i64 a0_0, .int .i64 a0_1, .int .i64 a0_2, .int .i64 a0_3] 68 ?_; intro gb271 hg w5 hbox hb; have BK271 := Aside0.mk (hbox); have GW271 := Aside0.mk (bz hg); have GE271 := GW271; replace HB := kh hb; clear hb hbox hg; obtain ⟨hcz6_0, hcz6_1, hcz6_2, hcz6_3, hfz6_0, hfz6_1, hfz6_2, hfz6_3⟩ := b4 BK271) | ((with_reducible refine gate_callee (f := 89) rfl ?_); refine gl 5 Try.func89 #[.agg #[.int .i64 a0_0, .int .i64 a0_1]] ?_; (with_reducible refine (impl_isCoord.calls k a0_0 a0_1 true _ A2.out).mono ?_); rintro e w7 ⟨rfl, hb⟩; refine ⟨_, rfl, ?_⟩; replace BK271 := kb BK271 hb; replace HB := kh hb; (try clear hb); (try clear hb2); (try clear hk); (try clear hi); obtain ⟨hcz8_0, hcz8_1, hcz8_2, hcz8_3, hfz8_0, hfz8_1, hfz8_2, hfz8_3⟩ := b4 BK271) | (go_at_call 89; (with_reducible refine (impl_isCoord.calls k a0_2 a0_3 t273 _ A4.out).mono ?_); rintro e w9 ⟨rfl, hb⟩; replace BK271 := kb BK271 hb; replace HB := kh hb; (try clear hb); (try clear hb2); (try clear hk); (try clear hi)))
  go_ret
  exact ⟨rt, bl⟩
 ·replace c3 := Bool.eq_false_iff.mpr c3
  subst c3
  have H1 : (some true) = some r := by rw [if_neg (show ¬ (false = true) by decide)] at H; exact H
  clear H
  have H := H1
  clear H1
  obtain rfl := Option.some.inj H
  go_enter Try.func88, Try.ntmps88
  go_wp2_with (first | ((with_reducible refine gate_dst (N := 1) rfl ?_); refine bx 1 #[.int .i64 a0_0, .int .i64 a0_1, .int .i64 a0_2, .int .i64 a0_3] 68 ?_; intro gb271 hg w10 hbox hb; have BK271 := Aside0.mk (hbox); have GW271 := Aside0.mk (bz hg); have GE271 := GW271; replace HB := kh hb; clear hb hbox hg; obtain ⟨hcz11_0, hcz11_1, hcz11_2, hcz11_3, hfz11_0, hfz11_1, hfz11_2, hfz11_3⟩ := b4 BK271) | ((with_reducible refine gate_callee (f := 89) rfl ?_); refine gl 5 Try.func89 #[.agg #[.int .i64 a0_0, .int .i64 a0_1]] ?_; (with_reducible refine (impl_isCoord.calls k a0_0 a0_1 false _ A2.out).mono ?_); rintro e w12 ⟨rfl, hb⟩; refine ⟨_, rfl, ?_⟩; replace BK271 := kb BK271 hb; replace HB := kh hb; (try clear hb); (try clear hb2); (try clear hk); (try clear hi)))
  go_ret
  exact ⟨rt, bl⟩

/-! ### impl_zero: function 90 -/
def impl_zero.f  : Option (Int × Int) := some (0, 1)
set_option maxHeartbeats 8000000 in
set_option maxRecDepth 100000 in
theorem impl_zero.calls  (r1 : Int) (r2 : Int) (w : World) (h : impl_zero.f  = some (r1, r2)) :
  Calls Try.prog 90 #[] w fun e w' => e = .returned (.agg #[.int .i64 r1, .int .i64 r2]) ∧ Below w.heap.size w w' := by
 have hu28 := Try.underlying28
 have HB := Aside0.mk (Below.refl w.heap.size w)
 have H : (some (0, 1)) = some (r1, r2) := h
 clear h
 simp only [Option.some.injEq, Prod.mk.injEq] at H
 obtain ⟨rfl, rfl⟩ := H
 go_enter Try.func90, Try.ntmps90
 go_wp2_with (first | ((with_reducible refine gate_dst (N := 0) rfl ?_); refine bx 0 #[.int .i64 0, .int .i64 0] 28 ?_; intro gb274 hg w1 hbox hb; have BK274 := Aside0.mk (hbox); have GW274 := Aside0.mk (bz hg); have GE274 := GW274; replace HB := kh hb; clear hb hbox hg; obtain ⟨hcz2_0, hcz2_1, hfz2_0, hfz2_1⟩ := b2 BK274))
 refine bodyPost_ret (results_cell_row rfl _ _ gb274 28 #[.int .i64 0, .int .i64 1] (0, 0) _ rfl (by (with_reducible repeat (first | refine blk_drewN ?_ _ | refine blk_drew ?_ | refine blk_alloc ?_ _)); refine blk_put (cs := #[.int .i64 0, .int .i64 0]) ?_ 1 _ rfl; (with_reducible repeat (first | refine blk_drewN ?_ _ | refine blk_drew ?_ | refine blk_alloc ?_ _)); refine blk_put (cs := #[.int .i64 0, .int .i64 0]) ?_ 0 _ rfl; (with_reducible repeat (first | refine blk_drewN ?_ _ | refine blk_drew ?_ | refine blk_alloc ?_ _)); exact BK274.out) Try.underlying28 rfl (by kernel_rfl)) rfl ?_
 exact ⟨rt, bl⟩

/-! ### impl_oneRat: function 91 -/
def impl_oneRat.f  : Option (Int × Int) := some (1, 1)
set_option maxHeartbeats 8000000 in
set_option maxRecDepth 100000 in
theorem impl_oneRat.calls  (r1 : Int) (r2 : Int) (w : World) (h : impl_oneRat.f  = some (r1, r2)) :
  Calls Try.prog 91 #[] w fun e w' => e = .returned (.agg #[.int .i64 r1, .int .i64 r2]) ∧ Below w.heap.size w w' := by
 have hu28 := Try.underlying28
 have HB := Aside0.mk (Below.refl w.heap.size w)
 have H : (some (1, 1)) = some (r1, r2) := h
 clear h
 simp only [Option.some.injEq, Prod.mk.injEq] at H
 obtain ⟨rfl, rfl⟩ := H
 go_enter Try.func91, Try.ntmps91
 go_wp2_with (first | ((with_reducible refine gate_dst (N := 0) rfl ?_); refine bx 0 #[.int .i64 0, .int .i64 0] 28 ?_; intro gb275 hg w1 hbox hb; have BK275 := Aside0.mk (hbox); have GW275 := Aside0.mk (bz hg); have GE275 := GW275; replace HB := kh hb; clear hb hbox hg; obtain ⟨hcz2_0, hcz2_1, hfz2_0, hfz2_1⟩ := b2 BK275))
 refine bodyPost_ret (results_cell_row rfl _ _ gb275 28 #[.int .i64 1, .int .i64 1] (0, 0) _ rfl (by (with_reducible repeat (first | refine blk_drewN ?_ _ | refine blk_drew ?_ | refine blk_alloc ?_ _)); refine blk_put (cs := #[.int .i64 1, .int .i64 0]) ?_ 1 _ rfl; (with_reducible repeat (first | refine blk_drewN ?_ _ | refine blk_drew ?_ | refine blk_alloc ?_ _)); refine blk_put (cs := #[.int .i64 0, .int .i64 0]) ?_ 0 _ rfl; (with_reducible repeat (first | refine blk_drewN ?_ _ | refine blk_drew ?_ | refine blk_alloc ?_ _)); exact BK275.out) Try.underlying28 rfl (by kernel_rfl)) rfl ?_
 exact ⟨rt, bl⟩

/-! ### impl_compare: function 54 -/
def impl_compare.f (a0_0 : Int) (a0_1 : Int) (a1_0 : Int) (a1_1 : Int) : Option (Int) := if (wrap64 (a0_0 * a1_1)) < (wrap64 (a1_0 * a0_1)) then (some (-1)) else (if (wrap64 (a0_0 * a1_1)) > (wrap64 (a1_0 * a0_1)) then (some 1) else (some 0))
set_option maxHeartbeats 8000000 in
set_option maxRecDepth 100000 in
theorem impl_compare.calls (a0_0 : Int) (a0_1 : Int) (a1_0 : Int) (a1_1 : Int) (r : Int) (w : World) (h : impl_compare.f a0_0 a0_1 a1_0 a1_1 = some r) :
  Calls Try.prog 54 #[.agg #[.int .i64 a0_0, .int .i64 a0_1], .agg #[.int .i64 a1_0, .int .i64 a1_1]] w fun e w' => e = .returned (.int .i64 r) ∧ Below w.heap.size w w' := by
 have hu28 := Try.underlying28
 have HB := Aside0.mk (Below.refl w.heap.size w)
 have H : (if (wrap64 (a0_0 * a1_1)) < (wrap64 (a1_0 * a0_1)) then (some (-1)) else (if (wrap64 (a0_0 * a1_1)) > (wrap64 (a1_0 * a0_1)) then (some 1) else (some 0))) = some r := h
 clear h
 by_cases c3 : (wrap64 (a0_0 * a1_1)) < (wrap64 (a1_0 * a0_1))
 ·rw [if_pos c3] at H
  have c3b0 : decide ((wrap64 (a0_0 * a1_1)) < (wrap64 (a1_0 * a0_1))) = true := decide_eq_true c3
  clear c3
  obtain rfl := Option.some.inj H
  go_enter Try.func54, Try.ntmps54
  go_wp2_with (first | ((with_reducible refine gate_dst (N := 2) rfl ?_); refine bx 2 #[.int .i64 a0_0, .int .i64 a0_1] 28 ?_; intro gb276 hg w4 hbox hb; have BK276 := Aside0.mk (hbox); have GW276 := Aside0.mk (bz hg); have GE276 := GW276; replace HB := kh hb; clear hb hbox hg) | ((with_reducible refine gate_dst (N := 3) rfl ?_); refine bx 3 #[.int .i64 a1_0, .int .i64 a1_1] 28 ?_; intro gb277 hg w5 hbox hb; have BK277 := Aside0.mk (hbox); have GW277 := Aside0.mk (bz hg); have GE277 := GW277; have NB276_277 := Aside0.mk (bn gb276 hg); have NB277_276 := sy NB276_277; replace BK276 := kb BK276 hb; replace HB := kh hb; clear hb hbox hg; have hnb6 := NB276_277.out; have hnc6 := NB277_276.out; obtain ⟨hcz7_0, hcz7_1, hfz7_0, hfz7_1⟩ := b2 BK276; obtain ⟨hcz8_0, hcz8_1, hfz8_0, hfz8_1⟩ := b2 BK277))
  repeat (go_quiet (first | ((with_reducible refine gate_dst (N := 2) rfl ?_); refine bx 2 #[.int .i64 a0_0, .int .i64 a0_1] 28 ?_; intro gb276 hg w4 hbox hb; have BK276 := Aside0.mk (hbox); have GW276 := Aside0.mk (bz hg); have GE276 := GW276; replace HB := kh hb; clear hb hbox hg) | ((with_reducible refine gate_dst (N := 3) rfl ?_); refine bx 3 #[.int .i64 a1_0, .int .i64 a1_1] 28 ?_; intro gb277 hg w5 hbox hb; have BK277 := Aside0.mk (hbox); have GW277 := Aside0.mk (bz hg); have GE277 := GW277; have NB276_277 := Aside0.mk (bn gb276 hg); have NB277_276 := sy NB276_277; replace BK276 := kb BK276 hb; replace HB := kh hb; clear hb hbox hg; have hnb6 := NB276_277.out; have hnc6 := NB277_276.out; obtain ⟨hcz7_0, hcz7_1, hfz7_0, hfz7_1⟩ := b2 BK276; obtain ⟨hcz8_0, hcz8_1, hfz8_0, hfz8_1⟩ := b2 BK277)); try go_wp2_with (first | ((with_reducible refine gate_dst (N := 2) rfl ?_); refine bx 2 #[.int .i64 a0_0, .int .i64 a0_1] 28 ?_; intro gb276 hg w4 hbox hb; have BK276 := Aside0.mk (hbox); have GW276 := Aside0.mk (bz hg); have GE276 := GW276; replace HB := kh hb; clear hb hbox hg) | ((with_reducible refine gate_dst (N := 3) rfl ?_); refine bx 3 #[.int .i64 a1_0, .int .i64 a1_1] 28 ?_; intro gb277 hg w5 hbox hb; have BK277 := Aside0.mk (hbox); have GW277 := Aside0.mk (bz hg); have GE277 := GW277; have NB276_277 := Aside0.mk (bn gb276 hg); have NB277_276 := sy NB276_277; replace BK276 := kb BK276 hb; replace HB := kh hb; clear hb hbox hg; have hnb6 := NB276_277.out; have hnc6 := NB277_276.out; obtain ⟨hcz7_0, hcz7_1, hfz7_0, hfz7_1⟩ := b2 BK276; obtain ⟨hcz8_0, hcz8_1, hfz8_0, hfz8_1⟩ := b2 BK277)))
  go_ret
  exact ⟨rt, bl⟩
 ·rw [if_neg c3] at H
  have c3b0 : decide ((wrap64 (a0_0 * a1_1)) < (wrap64 (a1_0 * a0_1))) = false := decide_eq_false c3
  clear c3
  by_cases c9 : (wrap64 (a0_0 * a1_1)) > (wrap64 (a1_0 * a0_1))
  ·rw [if_pos c9] at H
   have c9b0 : decide ((wrap64 (a1_0 * a0_1)) < (wrap64 (a0_0 * a1_1))) = true := decide_eq_true c9
   clear c9
   obtain rfl := Option.some.inj H
   go_enter Try.func54, Try.ntmps54
   go_wp2_with (first | ((with_reducible refine gate_dst (N := 2) rfl ?_); refine bx 2 #[.int .i64 a0_0, .int .i64 a0_1] 28 ?_; intro gb276 hg w10 hbox hb; have BK276 := Aside0.mk (hbox); have GW276 := Aside0.mk (bz hg); have GE276 := GW276; replace HB := kh hb; clear hb hbox hg) | ((with_reducible refine gate_dst (N := 3) rfl ?_); refine bx 3 #[.int .i64 a1_0, .int .i64 a1_1] 28 ?_; intro gb277 hg w11 hbox hb; have BK277 := Aside0.mk (hbox); have GW277 := Aside0.mk (bz hg); have GE277 := GW277; have NB276_277 := Aside0.mk (bn gb276 hg); have NB277_276 := sy NB276_277; replace BK276 := kb BK276 hb; replace HB := kh hb; clear hb hbox hg; have hnb12 := NB276_277.out; have hnc12 := NB277_276.out; obtain ⟨hcz13_0, hcz13_1, hfz13_0, hfz13_1⟩ := b2 BK276; obtain ⟨hcz14_0, hcz14_1, hfz14_0, hfz14_1⟩ := b2 BK277))
   repeat (go_quiet (first | ((with_reducible refine gate_dst (N := 2) rfl ?_); refine bx 2 #[.int .i64 a0_0, .int .i64 a0_1] 28 ?_; intro gb276 hg w10 hbox hb; have BK276 := Aside0.mk (hbox); have GW276 := Aside0.mk (bz hg); have GE276 := GW276; replace HB := kh hb; clear hb hbox hg) | ((with_reducible refine gate_dst (N := 3) rfl ?_); refine bx 3 #[.int .i64 a1_0, .int .i64 a1_1] 28 ?_; intro gb277 hg w11 hbox hb; have BK277 := Aside0.mk (hbox); have GW277 := Aside0.mk (bz hg); have GE277 := GW277; have NB276_277 := Aside0.mk (bn gb276 hg); have NB277_276 := sy NB276_277; replace BK276 := kb BK276 hb; replace HB := kh hb; clear hb hbox hg; have hnb12 := NB276_277.out; have hnc12 := NB277_276.out; obtain ⟨hcz13_0, hcz13_1, hfz13_0, hfz13_1⟩ := b2 BK276; obtain ⟨hcz14_0, hcz14_1, hfz14_0, hfz14_1⟩ := b2 BK277)); try go_wp2_with (first | ((with_reducible refine gate_dst (N := 2) rfl ?_); refine bx 2 #[.int .i64 a0_0, .int .i64 a0_1] 28 ?_; intro gb276 hg w10 hbox hb; have BK276 := Aside0.mk (hbox); have GW276 := Aside0.mk (bz hg); have GE276 := GW276; replace HB := kh hb; clear hb hbox hg) | ((with_reducible refine gate_dst (N := 3) rfl ?_); refine bx 3 #[.int .i64 a1_0, .int .i64 a1_1] 28 ?_; intro gb277 hg w11 hbox hb; have BK277 := Aside0.mk (hbox); have GW277 := Aside0.mk (bz hg); have GE277 := GW277; have NB276_277 := Aside0.mk (bn gb276 hg); have NB277_276 := sy NB276_277; replace BK276 := kb BK276 hb; replace HB := kh hb; clear hb hbox hg; have hnb12 := NB276_277.out; have hnc12 := NB277_276.out; obtain ⟨hcz13_0, hcz13_1, hfz13_0, hfz13_1⟩ := b2 BK276; obtain ⟨hcz14_0, hcz14_1, hfz14_0, hfz14_1⟩ := b2 BK277)))
   go_ret
   exact ⟨rt, bl⟩
  ·rw [if_neg c9] at H
   have c9b0 : decide ((wrap64 (a1_0 * a0_1)) < (wrap64 (a0_0 * a1_1))) = false := decide_eq_false c9
   clear c9
   obtain rfl := Option.some.inj H
   go_enter Try.func54, Try.ntmps54
   go_wp2_with (first | ((with_reducible refine gate_dst (N := 2) rfl ?_); refine bx 2 #[.int .i64 a0_0, .int .i64 a0_1] 28 ?_; intro gb276 hg w15 hbox hb; have BK276 := Aside0.mk (hbox); have GW276 := Aside0.mk (bz hg); have GE276 := GW276; replace HB := kh hb; clear hb hbox hg) | ((with_reducible refine gate_dst (N := 3) rfl ?_); refine bx 3 #[.int .i64 a1_0, .int .i64 a1_1] 28 ?_; intro gb277 hg w16 hbox hb; have BK277 := Aside0.mk (hbox); have GW277 := Aside0.mk (bz hg); have GE277 := GW277; have NB276_277 := Aside0.mk (bn gb276 hg); have NB277_276 := sy NB276_277; replace BK276 := kb BK276 hb; replace HB := kh hb; clear hb hbox hg; have hnb17 := NB276_277.out; have hnc17 := NB277_276.out; obtain ⟨hcz18_0, hcz18_1, hfz18_0, hfz18_1⟩ := b2 BK276; obtain ⟨hcz19_0, hcz19_1, hfz19_0, hfz19_1⟩ := b2 BK277))
   repeat (go_quiet (first | ((with_reducible refine gate_dst (N := 2) rfl ?_); refine bx 2 #[.int .i64 a0_0, .int .i64 a0_1] 28 ?_; intro gb276 hg w15 hbox hb; have BK276 := Aside0.mk (hbox); have GW276 := Aside0.mk (bz hg); have GE276 := GW276; replace HB := kh hb; clear hb hbox hg) | ((with_reducible refine gate_dst (N := 3) rfl ?_); refine bx 3 #[.int .i64 a1_0, .int .i64 a1_1] 28 ?_; intro gb277 hg w16 hbox hb; have BK277 := Aside0.mk (hbox); have GW277 := Aside0.mk (bz hg); have GE277 := GW277; have NB276_277 := Aside0.mk (bn gb276 hg); have NB277_276 := sy NB276_277; replace BK276 := kb BK276 hb; replace HB := kh hb; clear hb hbox hg; have hnb17 := NB276_277.out; have hnc17 := NB277_276.out; obtain ⟨hcz18_0, hcz18_1, hfz18_0, hfz18_1⟩ := b2 BK276; obtain ⟨hcz19_0, hcz19_1, hfz19_0, hfz19_1⟩ := b2 BK277)); try go_wp2_with (first | ((with_reducible refine gate_dst (N := 2) rfl ?_); refine bx 2 #[.int .i64 a0_0, .int .i64 a0_1] 28 ?_; intro gb276 hg w15 hbox hb; have BK276 := Aside0.mk (hbox); have GW276 := Aside0.mk (bz hg); have GE276 := GW276; replace HB := kh hb; clear hb hbox hg) | ((with_reducible refine gate_dst (N := 3) rfl ?_); refine bx 3 #[.int .i64 a1_0, .int .i64 a1_1] 28 ?_; intro gb277 hg w16 hbox hb; have BK277 := Aside0.mk (hbox); have GW277 := Aside0.mk (bz hg); have GE277 := GW277; have NB276_277 := Aside0.mk (bn gb276 hg); have NB277_276 := sy NB276_277; replace BK276 := kb BK276 hb; replace HB := kh hb; clear hb hbox hg; have hnb17 := NB276_277.out; have hnc17 := NB277_276.out; obtain ⟨hcz18_0, hcz18_1, hfz18_0, hfz18_1⟩ := b2 BK276; obtain ⟨hcz19_0, hcz19_1, hfz19_0, hfz19_1⟩ := b2 BK277)))
   go_ret
   exact ⟨rt, bl⟩

/-! ### impl_less: function 95 -/
def impl_less.f (a0_0 : Int) (a0_1 : Int) (a1_0 : Int) (a1_1 : Int) : Option (Bool) := (impl_compare.f a0_0 a0_1 a1_0 a1_1).bind fun t280 => (some (decide (t280 < 0)))
set_option maxHeartbeats 8000000 in
set_option maxRecDepth 100000 in
theorem impl_less.calls (a0_0 : Int) (a0_1 : Int) (a1_0 : Int) (a1_1 : Int) (r : Bool) (w : World) (h : impl_less.f a0_0 a0_1 a1_0 a1_1 = some r) :
  Calls Try.prog 95 #[.agg #[.int .i64 a0_0, .int .i64 a0_1], .agg #[.int .i64 a1_0, .int .i64 a1_1]] w fun e w' => e = .returned (.bool r) ∧ Below w.heap.size w w' := by
 have hu28 := Try.underlying28
 have HB := Aside0.mk (Below.refl w.heap.size w)
 have H : ((impl_compare.f a0_0 a0_1 a1_0 a1_1).bind fun t280 => (some (decide (t280 < 0)))) = some r := h
 clear h
 replace H := Option.bind_eq_some_iff.mp H
 obtain ⟨t280, A30, H⟩ := H
 replace H : (some (decide (t280 < 0))) = some r := H
 have A3 := Aside0.mk A30
 clear A30
 obtain rfl := Option.some.inj H
 go_enter Try.func95, Try.ntmps95
 go_wp2_with (first | ((with_reducible refine gate_dst (N := 2) rfl ?_); refine bx 2 #[.int .i64 a0_0, .int .i64 a0_1] 28 ?_; intro gb278 hg w4 hbox hb; have BK278 := Aside0.mk (hbox); have GW278 := Aside0.mk (bz hg); have GE278 := GW278; replace HB := kh hb; clear hb hbox hg) | ((with_reducible refine gate_dst (N := 3) rfl ?_); refine bx 3 #[.int .i64 a1_0, .int .i64 a1_1] 28 ?_; intro gb279 hg w5 hbox hb; have BK279 := Aside0.mk (hbox); have GW279 := Aside0.mk (bz hg); have GE279 := GW279; have NB278_279 := Aside0.mk (bn gb278 hg); have NB279_278 := sy NB278_279; replace BK278 := kb BK278 hb; replace HB := kh hb; clear hb hbox hg; have hnb6 := NB278_279.out; have hnc6 := NB279_278.out; obtain ⟨hcz7_0, hcz7_1, hfz7_0, hfz7_1⟩ := b2 BK278; obtain ⟨hcz8_0, hcz8_1, hfz8_0, hfz8_1⟩ := b2 BK279) | ((with_reducible refine gate_callee (f := 54) rfl ?_); refine gl 7 Try.func54 #[.agg #[.int .i64 a0_0, .int .i64 a0_1], .agg #[.int .i64 a1_0, .int .i64 a1_1]] ?_; (with_reducible refine (impl_compare.calls a0_0 a0_1 a1_0 a1_1 t280 _ A3.out).mono ?_); rintro e w9 ⟨rfl, hb⟩; refine ⟨_, rfl, ?_⟩; replace BK278 := kb BK278 hb; replace BK279 := kb BK279 hb; replace HB := kh hb; (try clear hb); (try clear hb2); (try clear hk); (try clear hi)))
 go_ret
 exact ⟨rt, bl⟩

/-! ### impl_isRising: function 92 -/
def impl_isRising.l0 : Nat → List (S28) → Int → Option (Bool)
 | 0, _, _ => none
 | k + 1, x0, x3 => if x3 < (x0.length : Int) then (if 0 ≤ (wrap64 (x3 - 1)) then (if (wrap64 (x3 - 1)) < (x0.length : Int) then (if 0 ≤ x3 then ((impl_less.f ((rd_T28 x0 (wrap64 (x3 - 1))).f0) ((rd_T28 x0 (wrap64 (x3 - 1))).f1) ((rd_T28 x0 x3).f0) ((rd_T28 x0 x3).f1)).bind fun t283 => (if t283 = true then (impl_isRising.l0 k x0 (wrap64 (x3 + 1))) else (some false))) else (none)) else (none)) else (none)) else (some true)
def impl_isRising.f (k : Nat) (l0 : List (S28)) : Option (Bool) := impl_isRising.l0 k l0 1
def impl_isRising.T4 : Bool × List (List Nat × List Nat) := (true, [([], []), ([], []), ([1], [1]), ([0, 2], [0, 2]), ([3], [3]), ([], []), ([], []), ([5, 6], [5, 6]), ([7], [7]), ([4, 8], [4, 8]), ([9], [9])])
def impl_isRising.B4 : List Nat := [0, 0, 2, 7, 15, 0, 0, 96, 224, 511, 1023]
theorem impl_isRising.tab4 : rtab .any (opsOf Try.f92 4) = impl_isRising.T4 := by kernel_rfl
theorem impl_isRising.bits4 : waitsOk impl_isRising.T4.2 impl_isRising.B4 = true := by kernel_rfl
set_option maxHeartbeats 8000000 in
set_option maxRecDepth 100000 in
theorem impl_isRising.calls (k : Nat) (A0 : Option Addr) (c0 : Nat) (l0 : List (S28)) (r : Bool) (w : World) (hr0 : Kd.C k28 w A0 l0.length l0) (hc0 : l0.length ≤ c0) (h : impl_isRising.f k l0 = some r) :
  Calls Try.prog 92 #[.slice A0 l0.length c0] w fun e w' => e = .returned (.bool r) ∧ Below w.heap.size w w' := by
 have hu28 := Try.underlying28
 have HR0 := Aside0.mk hr0
 have HC0 := Aside0.mk hc0
 clear hr0 hc0
 have HB := Aside0.mk (Below.refl w.heap.size w)
 have H : (impl_isRising.l0 k l0 1) = some r := h
 clear h
 have H' := Aside0.mk H
 clear H
 go_enter Try.func92, Try.ntmps92
 go_wp2
 go_loopg [3] k (fun kq v3 w' => ∃ (x3_1 : Int), v3 = .int .i64 x3_1 ∧ Aside0 (impl_isRising.l0 kq l0 x3_1 = some r) ∧ Aside0 (kq ≤ k) ∧ Aside0 (Below w.heap.size w w'))
 case atStart => exact ⟨(1), rs, H', ⟨Nat.le_refl _⟩, ⟨bl⟩⟩
 case round =>
  clear H'
  obtain ⟨x3_1, rfl, HA, HK1, HB⟩ := hrel
  cases gk with
  | zero => exact absurd HA.out (by simp [impl_isRising.l0])
  | succ k1 =>
   have H := HA.out
   clear HA
   simp only [impl_isRising.l0] at H
   by_cases c2 : x3_1 < (l0.length : Int)
   ·rw [if_pos c2] at H
    have c2b0 : decide (x3_1 < (l0.length : Int)) = true := decide_eq_true c2
    clear c2
    obtain ⟨ji3, hji3⟩ : ∃ j_ : Int, (wrap64 (x3_1 - 1)) = j_ := ⟨_, rfl⟩
    replace H : (if 0 ≤ (ji3) then (if (ji3) < (l0.length : Int) then (if 0 ≤ x3_1 then ((impl_less.f ((rd_T28 l0 (ji3)).f0) ((rd_T28 l0 (ji3)).f1) ((rd_T28 l0 x3_1).f0) ((rd_T28 l0 x3_1).f1)).bind fun t283 => (if t283 = true then (impl_isRising.l0 k1 l0 (wrap64 (x3_1 + 1))) else (some false))) else (none)) else (none)) else (none)) = some r := by first | (rw [hji3] at H; exact H) | (simp only [hji3] at H ⊢; exact H)
    have hji3w : (IntKind.i64.wrap (x3_1 - 1)) = ji3 := (i64_w _).trans hji3
    by_cases c4 : 0 ≤ (ji3)
    ·rw [if_pos c4] at H
     have c4b0 : decide (0 ≤ (ji3)) = true := decide_eq_true c4
     clear c4
     by_cases c5 : (ji3) < (l0.length : Int)
     ·rw [if_pos c5] at H
      have c5b0 : decide ((ji3) < (l0.length : Int)) = true := decide_eq_true c5
      clear c5
      by_cases c6 : 0 ≤ x3_1
      ·rw [if_pos c6] at H
       have c6b0 : decide (0 ≤ x3_1) = true := decide_eq_true c6
       clear c6
       replace H := Option.bind_eq_some_iff.mp H
       obtain ⟨t283, A70, H⟩ := H
       replace H : (if t283 = true then (impl_isRising.l0 k1 l0 (wrap64 (x3_1 + 1))) else (some false)) = some r := H
       have A7 := Aside0.mk A70
       clear A70
       by_cases c8 : t283 = true
       ·subst c8
        have H1 : (impl_isRising.l0 k1 l0 (wrap64 (x3_1 + 1))) = some r := by rw [if_pos rfl] at H; exact H
        clear H
        have H := H1
        clear H1
        have H' := Aside0.mk H
        clear H
        try go_wp2
        replace HB := Aside0.mk (below_drew1 HB.out)
        have p281 : 0 ≤ ((ji3) : Int) := da
        have q281 : (ji3) < (l0.length : Int) := da
        obtain ⟨ad281, e281, hx281_0, hx281_1⟩ := at_T28 HR0.out (ji3) p281 q281
        have hw281_1 := hx281_1
        have hw281_0 := hx281_0
        cases e281
        replace hx281_0 := (hc HB hx281_0 :)
        replace hx281_1 := (hc HB hx281_1 :)
        replace p281 := eq_true p281
        replace q281 := eq_true q281
        have p282 : 0 ≤ (x3_1 : Int) := da
        have q282 : x3_1 < (l0.length : Int) := da
        obtain ⟨ad282, e282, hx282_0, hx282_1⟩ := at_T28 HR0.out x3_1 p282 q282
        have hw282_1 := hx282_1
        have hw282_0 := hx282_0
        obtain rfl : ad281 = ad282 := (by injection e282)
        replace hx282_0 := (hc HB hx282_0 :)
        replace hx282_1 := (hc HB hx282_1 :)
        replace p282 := eq_true p282
        replace q282 := eq_true q282
        refine start_ (n := 11) (S := fun w' => w'.cell? (ad281.add (((ji3)).toNat * 2)) = some (.int .i64 ((rd_T28 l0 (ji3)).f0)) ∧ w'.cell? ⟨(ad281.add (((ji3)).toNat * 2)).block, (ad281.add (((ji3)).toNat * 2)).off + 1, none⟩ = some (.int .i64 ((rd_T28 l0 (ji3)).f1)) ∧ w'.cell? (ad281.add ((x3_1).toNat * 2)) = some (.int .i64 ((rd_T28 l0 x3_1).f0)) ∧ w'.cell? ⟨(ad281.add ((x3_1).toNat * 2)).block, (ad281.add ((x3_1).toNat * 2)).off + 1, none⟩ = some (.int .i64 ((rd_T28 l0 x3_1).f1))) (ds := []) (tb 0 11) (by kernel_rfl) rfl rfl ⟨(hc HB hw281_0 :), (hc HB hw281_1 :), (hc HB hw282_0 :), (hc HB hw282_1 :)⟩ (fun hHeld => ?_); refine with_tabW impl_isRising.tab4 impl_isRising.bits4 (fun HT_ HW_ => ?_)
        generalize wr.drew = w9 at HB hx281_0 hx281_1 hx282_0 hx282_1 hHeld ⊢
        refine pu 0 10 (tb 1 10) ?_
        refine pu 1 11 (tb 2 9) ?_
        refine pu 2 12 (tb 3 8) ?_
        refine pu 3 13 (tb 4 7) ?_
        refine pu 5 15 #[true, true, true, true, false, true, false, false, false, false, false] ?_
        refine pu 6 16 #[true, true, true, true, false, true, true, false, false, false, false] ?_
        refine pu 7 17 #[true, true, true, true, false, true, true, true, false, false, false] ?_
        refine tk 4 14 (tb 8 3) (hy := by rintro w' ⟨s0, s1, s2, s3⟩; go_simp; with_reducible rfl) (h := ?_)
        refine tk 8 18 (tb 9 2) (hy := by rintro w' ⟨s0, s1, s2, s3⟩; go_simp; with_reducible rfl) (h := ?_)
        refine on 9 19 (tb 10 1) (fun K hK => ?_)
        refine goes_ Try.func95 (by kernel_rfl) rfl #[.agg #[.int .i64 ((rd_T28 l0 (ji3)).f0), .int .i64 ((rd_T28 l0 (ji3)).f1)], .agg #[.int .i64 ((rd_T28 l0 x3_1).f0), .int .i64 ((rd_T28 l0 x3_1).f1)]] (by rfl) rfl rfl (by (try simp only [List.map_toArray, List.map_cons, List.map_nil]); first | done | (simp only [hji3]; rfl) | rfl | (simp only [List.length_drop, List.length_take]; rfl)) ?_
        with_reducible refine (impl_less.calls ((rd_T28 l0 (ji3)).f0) ((rd_T28 l0 (ji3)).f1) ((rd_T28 l0 x3_1).f0) ((rd_T28 l0 x3_1).f1) true _ A7.out).mono ?_
        rintro e w10 ⟨rfl, hb⟩
        refine ⟨_, rfl, ?_⟩
        replace HB := kh hb
        (try clear hb)
        (try clear hb2)
        (try clear hk)
        (try clear hi)
        refine hK.out _ _ ⟨(hc HB hw281_0 :), (hc HB hw281_1 :), (hc HB hw282_0 :), (hc HB hw282_1 :)⟩ (fun hHeld => ?_)
        clear hK K
        refine nm 19 ?_
        refine pu 10 20 (tb 11 0) ?_
        refine done_ (done_of HT_.out (by kernel_rfl)) ?_
        try go_wp2
        go_roundg k1
        case measure => have := HK1.out; omega
        case rel => exact ⟨(wrap64 (x3_1 + 1)), rs, H', ⟨by have := HK1.out; omega⟩, ⟨bl⟩⟩
       ·replace c8 := Bool.eq_false_iff.mpr c8
        subst c8
        have H1 : (some false) = some r := by rw [if_neg (show ¬ (false = true) by decide)] at H; exact H
        clear H
        have H := H1
        clear H1
        obtain rfl := Option.some.inj H
        try go_wp2
        replace HB := Aside0.mk (below_drew1 HB.out)
        have p281 : 0 ≤ ((ji3) : Int) := da
        have q281 : (ji3) < (l0.length : Int) := da
        obtain ⟨ad281, e281, hx281_0, hx281_1⟩ := at_T28 HR0.out (ji3) p281 q281
        have hw281_1 := hx281_1
        have hw281_0 := hx281_0
        cases e281
        replace hx281_0 := (hc HB hx281_0 :)
        replace hx281_1 := (hc HB hx281_1 :)
        replace p281 := eq_true p281
        replace q281 := eq_true q281
        have p282 : 0 ≤ (x3_1 : Int) := da
        have q282 : x3_1 < (l0.length : Int) := da
        obtain ⟨ad282, e282, hx282_0, hx282_1⟩ := at_T28 HR0.out x3_1 p282 q282
        have hw282_1 := hx282_1
        have hw282_0 := hx282_0
        obtain rfl : ad281 = ad282 := (by injection e282)
        replace hx282_0 := (hc HB hx282_0 :)
        replace hx282_1 := (hc HB hx282_1 :)
        replace p282 := eq_true p282
        replace q282 := eq_true q282
        refine start_ (n := 11) (S := fun w' => w'.cell? (ad281.add (((ji3)).toNat * 2)) = some (.int .i64 ((rd_T28 l0 (ji3)).f0)) ∧ w'.cell? ⟨(ad281.add (((ji3)).toNat * 2)).block, (ad281.add (((ji3)).toNat * 2)).off + 1, none⟩ = some (.int .i64 ((rd_T28 l0 (ji3)).f1)) ∧ w'.cell? (ad281.add ((x3_1).toNat * 2)) = some (.int .i64 ((rd_T28 l0 x3_1).f0)) ∧ w'.cell? ⟨(ad281.add ((x3_1).toNat * 2)).block, (ad281.add ((x3_1).toNat * 2)).off + 1, none⟩ = some (.int .i64 ((rd_T28 l0 x3_1).f1))) (ds := []) (tb 0 11) (by kernel_rfl) rfl rfl ⟨(hc HB hw281_0 :), (hc HB hw281_1 :), (hc HB hw282_0 :), (hc HB hw282_1 :)⟩ (fun hHeld => ?_); refine with_tabW impl_isRising.tab4 impl_isRising.bits4 (fun HT_ HW_ => ?_)
        generalize wr.drew = w11 at HB hx281_0 hx281_1 hx282_0 hx282_1 hHeld ⊢
        refine pu 0 10 (tb 1 10) ?_
        refine pu 1 11 (tb 2 9) ?_
        refine pu 2 12 (tb 3 8) ?_
        refine pu 3 13 (tb 4 7) ?_
        refine pu 5 15 #[true, true, true, true, false, true, false, false, false, false, false] ?_
        refine pu 6 16 #[true, true, true, true, false, true, true, false, false, false, false] ?_
        refine pu 7 17 #[true, true, true, true, false, true, true, true, false, false, false] ?_
        refine tk 4 14 (tb 8 3) (hy := by rintro w' ⟨s0, s1, s2, s3⟩; go_simp; with_reducible rfl) (h := ?_)
        refine tk 8 18 (tb 9 2) (hy := by rintro w' ⟨s0, s1, s2, s3⟩; go_simp; with_reducible rfl) (h := ?_)
        refine on 9 19 (tb 10 1) (fun K hK => ?_)
        refine goes_ Try.func95 (by kernel_rfl) rfl #[.agg #[.int .i64 ((rd_T28 l0 (ji3)).f0), .int .i64 ((rd_T28 l0 (ji3)).f1)], .agg #[.int .i64 ((rd_T28 l0 x3_1).f0), .int .i64 ((rd_T28 l0 x3_1).f1)]] (by rfl) rfl rfl (by (try simp only [List.map_toArray, List.map_cons, List.map_nil]); first | done | (simp only [hji3]; rfl) | rfl | (simp only [List.length_drop, List.length_take]; rfl)) ?_
        with_reducible refine (impl_less.calls ((rd_T28 l0 (ji3)).f0) ((rd_T28 l0 (ji3)).f1) ((rd_T28 l0 x3_1).f0) ((rd_T28 l0 x3_1).f1) false _ A7.out).mono ?_
        rintro e w12 ⟨rfl, hb⟩
        refine ⟨_, rfl, ?_⟩
        replace HB := kh hb
        (try clear hb)
        (try clear hb2)
        (try clear hk)
        (try clear hi)
        refine hK.out _ _ ⟨(hc HB hw281_0 :), (hc HB hw281_1 :), (hc HB hw282_0 :), (hc HB hw282_1 :)⟩ (fun hHeld => ?_)
        clear hK K
        refine nm 19 ?_
        refine pu 10 20 (tb 11 0) ?_
        refine done_ (done_of HT_.out (by kernel_rfl)) ?_
        try go_wp2
        go_ret
        exact ⟨by first | rfl | (simp [errW_none, errW_some] <;> rfl) | (simp only [← hji3]; first | rfl | (simp [errW_none, errW_some] <;> rfl)) | (simp [*, errW_none, errW_some] <;> rfl), bl⟩
      ·rw [if_neg c6] at H
       exact absurd H (by simp)
     ·rw [if_neg c5] at H
      exact absurd H (by simp)
    ·rw [if_neg c4] at H
     exact absurd H (by simp)
   ·rw [if_neg c2] at H
    have c2b0 : decide (x3_1 < (l0.length : Int)) = false := decide_eq_false c2
    clear c2
    obtain rfl := Option.some.inj H
    go_wp2
    go_ret
    exact ⟨rt, bl⟩

/-! ### impl_xsOf: function 93 -/
def impl_xsOf.l0 : Nat → List (S28) → List (S68) → Int → Int → Option ((List (S28)))
 | 0, _, _, _, _ => none
 | k + 1, x3, x6, x7, x8 => if x8 < x7 then (if 0 ≤ x8 then (if x8 < (x6.length : Int) then (if x3.length < 8796093022208 then (impl_xsOf.l0 k (x3 ++ [(⟨(rd_T68 x6 x8).f0.f0, (rd_T68 x6 x8).f0.f1⟩ : S28)]) x6 x7 (wrap64 (x8 + 1))) else (none)) else (none)) else (none)) else (some x3)
def impl_xsOf.f (k : Nat) (l0 : List (S68)) : Option ((List (S28))) := impl_xsOf.l0 k ([] : List (S28)) l0 (l0.length : Int) 0
set_option maxHeartbeats 8000000 in
set_option maxRecDepth 100000 in
theorem impl_xsOf.calls (k : Nat) (A0 : Option Addr) (c0 : Nat) (l0 : List (S68)) (r : List (S28)) (w : World) (hr0 : Kd.C k68 w A0 l0.length l0) (hc0 : l0.length ≤ c0) (h : impl_xsOf.f k l0 = some r) :
  Calls Try.prog 93 #[.slice A0 l0.length c0] w fun e w' => ∃ v0_ : Value, e = .returned (v0_) ∧ Kd.R k28 28 w' w.heap.size (fun _ => True) v0_ r ∧ Below w.heap.size w w' := by
 have hu68 := Try.underlying68
 have hu28 := Try.underlying28
 have HR0 := Aside0.mk hr0
 have HC0 := Aside0.mk hc0
 clear hr0 hc0
 have HB := Aside0.mk (Below.refl w.heap.size w)
 have H : (impl_xsOf.l0 k ([] : List (S28)) l0 (l0.length : Int) 0) = some r := h
 clear h
 have H' := Aside0.mk H
 clear H
 go_enter Try.func93, Try.ntmps93
 go_wp2
 go_loopg [3, 8] k (fun kq v3 v8 w' => ∃ (x3_1 : List (S28)) (x8_1 : Int), v8 = .int .i64 x8_1 ∧ Aside0 (impl_xsOf.l0 kq x3_1 l0 (l0.length : Int) x8_1 = some r) ∧ Aside0 (kq ≤ k) ∧ Aside0 (Kd.R k28 28 w' w.heap.size (fun _ => True) v3 x3_1) ∧ Aside0 (Below w.heap.size w w'))
 case atStart => exact ⟨(([] : List (S28))), (0), rs, H', ⟨Nat.le_refl _⟩, ⟨by first | exact Kd.R_nil _ _ _ _ _ | exact Kd.N_nil _ _ _ _ _ | exact Kd.V_nil _ _ _ _ _ | exact Kd.Q_nil _ _ _ _ _ | exact Kd.S_nil _ _ _ _ _⟩, ⟨bl⟩⟩
 case round =>
  clear H'
  obtain ⟨x3_1, x8_1, rfl, HA, HK1, HO_3, HB⟩ := hrel
  cases gk with
  | zero => exact absurd HA.out (by simp [impl_xsOf.l0])
  | succ k1 =>
   have H := HA.out
   clear HA
   simp only [impl_xsOf.l0] at H
   by_cases c2 : x8_1 < (l0.length : Int)
   ·rw [if_pos c2] at H
    have c2b0 : decide (x8_1 < (l0.length : Int)) = true := decide_eq_true c2
    clear c2
    by_cases c3 : 0 ≤ x8_1
    ·rw [if_pos c3] at H
     have c3b0 : decide (0 ≤ x8_1) = true := decide_eq_true c3
     clear c3
     by_cases c4 : x8_1 < (l0.length : Int)
     ·rw [if_pos c4] at H
      have c4b0 : decide (x8_1 < (l0.length : Int)) = true := decide_eq_true c4
      clear c4
      by_cases c5 : x3_1.length < 8796093022208
      ·rw [if_pos c5] at H
       have LMc5 := Aside0.mk c5
       clear c5
       obtain ⟨y286, hy286⟩ : ∃ y_ : List (S28), y_ = (x3_1 ++ [(⟨(rd_T68 l0 x8_1).f0.f0, (rd_T68 l0 x8_1).f0.f1⟩ : S28)]) := ⟨_, rfl⟩
       replace H : (impl_xsOf.l0 k1 y286 l0 (l0.length : Int) (wrap64 (x8_1 + 1))) = some r := by first | (rw [hy286]; with_reducible exact H) | (have H2_ := (Option.bind_some _ _).symm.trans H; rw [hy286]; with_reducible exact H2_) | (have H2_ := (Option.bind_some _ _).symm.trans H; with_reducible exact H2_) | with_reducible exact H | (rw [hy286]; exact H) | exact H
       have Ny286 := Aside0.mk hy286
       clear hy286
       have H' := Aside0.mk H
       clear H
       have p284 : 0 ≤ (x8_1 : Int) := da
       have q284 : x8_1 < (l0.length : Int) := da
       obtain ⟨ad284, e284, hx284_0, hx284_1, hx284_2, hx284_3⟩ := at_T68 HR0.out x8_1 p284 q284
       cases e284
       replace hx284_0 := (hc HB hx284_0 :)
       replace hx284_1 := (hc HB hx284_1 :)
       replace hx284_2 := (hc HB hx284_2 :)
       replace hx284_3 := (hc HB hx284_3 :)
       replace p284 := eq_true p284
       replace q284 := eq_true q284
       go_wp2_with (first | ((with_reducible refine gate_dst (N := 5) rfl ?_); refine bx 5 #[.int .i64 0, .int .i64 0, .int .i64 0, .int .i64 0] 68 ?_; intro gb285 hg w6 hbox hb; have BK285 := Aside0.mk (hbox); have GW285 := Aside0.mk (bz hg); have GE285 := GW285; replace HO_3 := Aside0.mk (Kd.R_below (by (with_reducible repeat (first | apply Kd.R_alloc | apply Kd.R_drewN | apply Kd.R_drew)); exact HO_3.out) hb); replace HB := kh hb; clear hb hbox hg; obtain ⟨hcz7_0, hcz7_1, hcz7_2, hcz7_3, hfz7_0, hfz7_1, hfz7_2, hfz7_3⟩ := b4 BK285) | ((with_reducible refine gate_builtin (b := .append) (xs := #[.tmp 12, .tmp 15]) rfl ?_); at_builtin; refine Kd.R_append k28 (w0 := w) w.heap.size rfl (.tmp 12) (.tmp 15) 64 28 (.agg #[(.int .i64 0), (.int .i64 0)]) 16 rfl Try.underlying64 info28 rfl (by decide) (by omega) u3 x3_1 (⟨(rd_T68 l0 x8_1).f0.f0, (rd_T68 l0 x8_1).f0.f1⟩ : S28) [.int .i64 ((rd_T68 l0 x8_1).f0.f0), .int .i64 ((rd_T68 l0 x8_1).f0.f1)] (fun _ => True) (fun _ => False) rfl (by first | (go_simp; done) | (go_simp; rfl)) ?aP (fun _ hk => hk.elim) ?aF ?aO ?aB ?aS ?aL ?_; (case aP => exact k28_mkM _ _ _ (⟨(rd_T68 l0 x8_1).f0.f0, (rd_T68 l0 x8_1).f0.f1⟩ : S28)); (case aB => exact bl); (case aF => exact (fun _ _ => trivial)); (case aO => exact (by (with_reducible repeat (first | apply Kd.R_alloc | apply Kd.R_drewN | apply Kd.R_drew)); exact Kd.R_mono (Kd.R_far (p := ⟨gb285, 3, none⟩) (Kd.R_far (p := ⟨gb285, 2, none⟩) (Kd.R_far (p := ⟨gb285, 1, none⟩) (Kd.R_far (p := ⟨gb285, 0, none⟩) (Kd.R_types HO_3.out BK285.out (by decide)) (fun _ hk => hk.2) (.int .i64 ((rd_T68 l0 x8_1).f0.f0))) (fun _ hk => hk.2) (.int .i64 ((rd_T68 l0 x8_1).f0.f1))) (fun _ hk => hk.2) (.int .i64 ((rd_T68 l0 x8_1).f1.f0))) (fun _ hk => hk.2) (.int .i64 ((rd_T68 l0 x8_1).f1.f1))) (fun _ hk => trivial))); (case aS => exact (below_size bl)); (case aL => have := LMc5.out; omega); intro v287 w8 ho hb hg hat; rw [← Ny286.out] at ho; have HO288 := Aside0.mk (ho); replace BK285 := Aside0.mk (blk_grown (g := gb285) (o := .cells #[.int .i64 ((rd_T68 l0 x8_1).f0.f0), .int .i64 ((rd_T68 l0 x8_1).f0.f1), .int .i64 ((rd_T68 l0 x8_1).f1.f0), .int .i64 ((rd_T68 l0 x8_1).f1.f1)] 68 (0, 0)) (by (with_reducible repeat (first | refine blk_drewN ?_ _ | refine blk_drew ?_ | refine blk_alloc ?_ _)); refine blk_put (cs := #[.int .i64 ((rd_T68 l0 x8_1).f0.f0), .int .i64 ((rd_T68 l0 x8_1).f0.f1), .int .i64 ((rd_T68 l0 x8_1).f1.f0), .int .i64 0]) ?_ 3 _ rfl; (with_reducible repeat (first | refine blk_drewN ?_ _ | refine blk_drew ?_ | refine blk_alloc ?_ _)); refine blk_put (cs := #[.int .i64 ((rd_T68 l0 x8_1).f0.f0), .int .i64 ((rd_T68 l0 x8_1).f0.f1), .int .i64 0, .int .i64 0]) ?_ 2 _ rfl; (with_reducible repeat (first | refine blk_drewN ?_ _ | refine blk_drew ?_ | refine blk_alloc ?_ _)); refine blk_put (cs := #[.int .i64 ((rd_T68 l0 x8_1).f0.f0), .int .i64 0, .int .i64 0, .int .i64 0]) ?_ 1 _ rfl; (with_reducible repeat (first | refine blk_drewN ?_ _ | refine blk_drew ?_ | refine blk_alloc ?_ _)); refine blk_put (cs := #[.int .i64 0, .int .i64 0, .int .i64 0, .int .i64 0]) ?_ 0 _ rfl; (with_reducible repeat (first | refine blk_drewN ?_ _ | refine blk_drew ?_ | refine blk_alloc ?_ _)); exact BK285.out) hg (Kd.R_ne HO_3.out BK285.out (by decide))); replace HB := Aside0.mk (hb); clear HO_3; clear ho hb hg hat))
       go_roundg k1
       case measure => have := HK1.out; omega
       case rel => exact ⟨(y286), (wrap64 (x8_1 + 1)), rs, H', ⟨by have := HK1.out; omega⟩, ⟨by (with_reducible repeat (first | apply Kd.R_alloc | apply Kd.R_drewN | apply Kd.R_drew)); exact HO288.out⟩, ⟨bl⟩⟩
      ·rw [if_neg c5] at H
       exact absurd H (by simp)
     ·rw [if_neg c4] at H
      exact absurd H (by simp)
    ·rw [if_neg c3] at H
     exact absurd H (by simp)
   ·rw [if_neg c2] at H
    have c2b0 : decide (x8_1 < (l0.length : Int)) = false := decide_eq_false c2
    clear c2
    obtain rfl := Option.some.inj H
    go_wp2
    go_ret
    exact ⟨_, rt, by (with_reducible repeat (first | apply Kd.R_alloc | apply Kd.R_drewN | apply Kd.R_drew)); exact HO_3.out, bl⟩

/-! ### slices_IndexFunc__impl_isMap_1: function 118 -/
def slices_IndexFunc__impl_isMap_1.l0 : Nat → List (S68) → Int → Int → Option (Int)
 | 0, _, _, _ => none
 | k + 1, x0, x7, x8 => if x8 < x7 then (if 0 ≤ x8 then (if x8 < (x0.length : Int) then ((impl_isMap_1.f k ((rd_T68 x0 x8).f0.f0) ((rd_T68 x0 x8).f0.f1) ((rd_T68 x0 x8).f1.f0) ((rd_T68 x0 x8).f1.f1)).bind fun t290 => (if t290 = true then (some x8) else (slices_IndexFunc__impl_isMap_1.l0 k x0 x7 (wrap64 (x8 + 1))))) else (none)) else (none)) else (some (-1))
def slices_IndexFunc__impl_isMap_1.f (k : Nat) (l0 : List (S68))  : Option (Int) := slices_IndexFunc__impl_isMap_1.l0 k l0 (l0.length : Int) 0
set_option maxHeartbeats 8000000 in
set_option maxRecDepth 100000 in
theorem slices_IndexFunc__impl_isMap_1.calls (k : Nat) (A0 : Option Addr) (c0 : Nat) (l0 : List (S68))  (r : Int) (w : World) (hr0 : Kd.C k68 w A0 l0.length l0) (hc0 : l0.length ≤ c0) (h : slices_IndexFunc__impl_isMap_1.f k l0 = some r) :
  Calls Try.prog 118 #[.slice A0 l0.length c0, .func (.func 88) #[] #[]] w fun e w' => e = .returned (.int .i64 r) ∧ Below w.heap.size w w' := by
 have hu68 := Try.underlying68
 have HR0 := Aside0.mk hr0
 have HC0 := Aside0.mk hc0
 clear hr0 hc0
 have HB := Aside0.mk (Below.refl w.heap.size w)
 have H : (slices_IndexFunc__impl_isMap_1.l0 k l0 (l0.length : Int) 0) = some r := h
 clear h
 have H' := Aside0.mk H
 clear H
 go_enter Try.func118, Try.ntmps118
 go_wp2
 go_loopg [8] k (fun kq v8 w' => ∃ (x8_1 : Int), v8 = .int .i64 x8_1 ∧ Aside0 (slices_IndexFunc__impl_isMap_1.l0 kq l0 (l0.length : Int) x8_1 = some r) ∧ Aside0 (kq ≤ k) ∧ Aside0 (Below w.heap.size w w'))
 case atStart => exact ⟨(0), rs, H', ⟨Nat.le_refl _⟩, ⟨bl⟩⟩
 case round =>
  clear H'
  try clear p2
  obtain ⟨x8_1, rfl, HA, HK1, HB⟩ := hrel
  cases gk with
  | zero => exact absurd HA.out (by simp [slices_IndexFunc__impl_isMap_1.l0])
  | succ k1 =>
   have H := HA.out
   clear HA
   simp only [slices_IndexFunc__impl_isMap_1.l0] at H
   by_cases c3 : x8_1 < (l0.length : Int)
   ·rw [if_pos c3] at H
    have c3b0 : decide (x8_1 < (l0.length : Int)) = true := decide_eq_true c3
    clear c3
    by_cases c4 : 0 ≤ x8_1
    ·rw [if_pos c4] at H
     have c4b0 : decide (0 ≤ x8_1) = true := decide_eq_true c4
     clear c4
     by_cases c5 : x8_1 < (l0.length : Int)
     ·rw [if_pos c5] at H
      have c5b0 : decide (x8_1 < (l0.length : Int)) = true := decide_eq_true c5
      clear c5
      replace H := Option.bind_eq_some_iff.mp H
      obtain ⟨t290, A60, H⟩ := H
      replace H : (if t290 = true then (some x8_1) else (slices_IndexFunc__impl_isMap_1.l0 k1 l0 (l0.length : Int) (wrap64 (x8_1 + 1)))) = some r := H
      have A6 := Aside0.mk A60
      clear A60
      by_cases c7 : t290 = true
      ·subst c7
       have H1 : (some x8_1) = some r := by rw [if_pos rfl] at H; exact H
       clear H
       have H := H1
       clear H1
       obtain rfl := Option.some.inj H
       have p289 : 0 ≤ (x8_1 : Int) := da
       have q289 : x8_1 < (l0.length : Int) := da
       obtain ⟨ad289, e289, hx289_0, hx289_1, hx289_2, hx289_3⟩ := at_T68 HR0.out x8_1 p289 q289
       cases e289
       replace hx289_0 := (hc HB hx289_0 :)
       replace hx289_1 := (hc HB hx289_1 :)
       replace hx289_2 := (hc HB hx289_2 :)
       replace hx289_3 := (hc HB hx289_3 :)
       replace p289 := eq_true p289
       replace q289 := eq_true q289
       go_wp2_with (first | ((with_reducible refine gate_value (t := 11) rfl ?_); refine goesV_ (t := 11) (f := 88) rfl (some 16) rfl rfl Try.func88 (by kernel_rfl) rfl #[.agg #[.int .i64 ((rd_T68 l0 x8_1).f0.f0), .int .i64 ((rd_T68 l0 x8_1).f0.f1), .int .i64 ((rd_T68 l0 x8_1).f1.f0), .int .i64 ((rd_T68 l0 x8_1).f1.f1)]] rfl (by (try simp only [List.map_toArray, List.map_cons, List.map_nil]); first | done | rfl | (simp only [List.length_drop, List.length_take]; rfl)) ?_; (with_reducible refine (impl_isMap_1.calls k1 ((rd_T68 l0 x8_1).f0.f0) ((rd_T68 l0 x8_1).f0.f1) ((rd_T68 l0 x8_1).f1.f0) ((rd_T68 l0 x8_1).f1.f1) true _ A6.out).mono ?_); rintro e w8 ⟨rfl, hb⟩; refine ⟨_, rfl, ?_⟩; replace HB := kh hb; (try clear hb); (try clear hb2); (try clear hk); (try clear hi)))
       go_ret
       exact ⟨rt, bl⟩
      ·replace c7 := Bool.eq_false_iff.mpr c7
       subst c7
       have H1 : (slices_IndexFunc__impl_isMap_1.l0 k1 l0 (l0.length : Int) (wrap64 (x8_1 + 1))) = some r := by rw [if_neg (show ¬ (false = true) by decide)] at H; exact H
       clear H
       have H := H1
       clear H1
       have H' := Aside0.mk H
       clear H
       have p289 : 0 ≤ (x8_1 : Int) := da
       have q289 : x8_1 < (l0.length : Int) := da
       obtain ⟨ad289, e289, hx289_0, hx289_1, hx289_2, hx289_3⟩ := at_T68 HR0.out x8_1 p289 q289
       cases e289
       replace hx289_0 := (hc HB hx289_0 :)
       replace hx289_1 := (hc HB hx289_1 :)
       replace hx289_2 := (hc HB hx289_2 :)
       replace hx289_3 := (hc HB hx289_3 :)
       replace p289 := eq_true p289
       replace q289 := eq_true q289
       go_wp2_with (first | ((with_reducible refine gate_value (t := 11) rfl ?_); refine goesV_ (t := 11) (f := 88) rfl (some 16) rfl rfl Try.func88 (by kernel_rfl) rfl #[.agg #[.int .i64 ((rd_T68 l0 x8_1).f0.f0), .int .i64 ((rd_T68 l0 x8_1).f0.f1), .int .i64 ((rd_T68 l0 x8_1).f1.f0), .int .i64 ((rd_T68 l0 x8_1).f1.f1)]] rfl (by (try simp only [List.map_toArray, List.map_cons, List.map_nil]); first | done | rfl | (simp only [List.length_drop, List.length_take]; rfl)) ?_; (with_reducible refine (impl_isMap_1.calls k1 ((rd_T68 l0 x8_1).f0.f0) ((rd_T68 l0 x8_1).f0.f1) ((rd_T68 l0 x8_1).f1.f0) ((rd_T68 l0 x8_1).f1.f1) false _ A6.out).mono ?_); rintro e w9 ⟨rfl, hb⟩; refine ⟨_, rfl, ?_⟩; replace HB := kh hb; (try clear hb); (try clear hb2); (try clear hk); (try clear hi)))
       go_roundg k1
       case measure => have := HK1.out; omega
       case rel => exact ⟨(wrap64 (x8_1 + 1)), rs, H', ⟨by have := HK1.out; omega⟩, ⟨bl⟩⟩
     ·rw [if_neg c5] at H
      exact absurd H (by simp)
    ·rw [if_neg c4] at H
     exact absurd H (by simp)
   ·rw [if_neg c3] at H
    have c3b0 : decide (x8_1 < (l0.length : Int)) = false := decide_eq_false c3
    clear c3
    obtain rfl := Option.some.inj H
    go_wp2
    go_ret
    exact ⟨rt, bl⟩

/-! ### slices_ContainsFunc__impl_isMap_1: function 87 -/
def slices_ContainsFunc__impl_isMap_1.f (k : Nat) (l0 : List (S68))  : Option (Bool) := (slices_IndexFunc__impl_isMap_1.f k l0).bind fun t291 => (some (decide (t291 ≥ 0)))
set_option maxHeartbeats 8000000 in
set_option maxRecDepth 100000 in
theorem slices_ContainsFunc__impl_isMap_1.calls (k : Nat) (A0 : Option Addr) (c0 : Nat) (l0 : List (S68))  (r : Bool) (w : World) (hr0 : Kd.C k68 w A0 l0.length l0) (hc0 : l0.length ≤ c0) (h : slices_ContainsFunc__impl_isMap_1.f k l0 = some r) :
  Calls Try.prog 87 #[.slice A0 l0.length c0, .func (.func 88) #[] #[]] w fun e w' => e = .returned (.bool r) ∧ Below w.heap.size w w' := by
 have HR0 := Aside0.mk hr0
 have HC0 := Aside0.mk hc0
 clear hr0 hc0
 have HB := Aside0.mk (Below.refl w.heap.size w)
 have H : ((slices_IndexFunc__impl_isMap_1.f k l0).bind fun t291 => (some (decide (t291 ≥ 0)))) = some r := h
 clear h
 replace H := Option.bind_eq_some_iff.mp H
 obtain ⟨t291, A30, H⟩ := H
 replace H : (some (decide (t291 ≥ 0))) = some r := H
 have A3 := Aside0.mk A30
 clear A30
 obtain rfl := Option.some.inj H
 go_enter Try.func87, Try.ntmps87
 go_wp2_with (first | ((with_reducible refine gate_callee (f := 118) rfl ?_); refine gl 7 Try.func118 #[.slice A0 l0.length c0, .func (.func 88) #[] #[]] ?_; (with_reducible refine (slices_IndexFunc__impl_isMap_1.calls k _ _ l0  t291 _ ?side1 ?side2 A3.out).mono ?_); (case side1 => repeat (first | exact HR0.out | (with_reducible refine Kd.C_alloc ?_ _) | (with_reducible refine Kd.C_drewN ?_ _) | (with_reducible refine Kd.C_drew ?_))); (case side2 => exact HC0.out); rintro e w4 ⟨rfl, hb⟩; refine ⟨_, rfl, ?_⟩; replace HB := kh hb; (try clear hb); (try clear hb2); (try clear hk); (try clear hi)))
 go_ret
 exact ⟨rt, bl⟩

end Go.Proofs.Ytmecnnnagallnaa.PFnExactCompareWords
