-- Written by this session's program wip/pp (the kit's print tool with additions) 35421559b90ae4d0a3588c463048766b98c2df88dd9212a6774a882060cdf62d
import Derived.Test.YtannadjfkaghjaaPFnExactIsRepellingx0
import Derived.Test.YtannadjfkaghjaaPFnExactIsRepellingx10
namespace Go.Proofs.Ytannadjfkaghjaa.PFnExactIsRepelling
open Go.RowKit Go.Proofs.YtannadjfkaghjaaW.PrintWords Go.Proofs.YtannadjfkaghjaaW.PrintLast Go.Proofs.YtannadjfkaghjaaW.PrintMore
attribute [local go_sem] max2_int min2_int max_two min_two max_three min_three max_four min_four   -- for this text's walks alone
set_option linter.unusedVariables false
set_option linter.unusedSimpArgs false

/-! ### impl_isMap_1: function 133 -/
def impl_isMap_1.f (k : Nat) (a0_0 : Int) (a0_1 : Int) (a0_2 : Int) (a0_3 : Int) : Option (Bool) := (impl_isCoord.f k a0_0 a0_1).bind fun t318 => (if t318 = true then ((impl_isCoord.f k a0_2 a0_3).bind fun t319 => (some (!t319))) else (some true))
set_option maxHeartbeats 8000000 in
set_option maxRecDepth 100000 in
theorem impl_isMap_1.calls (k : Nat) (a0_0 : Int) (a0_1 : Int) (a0_2 : Int) (a0_3 : Int) (r : Bool) (w : World) (h : impl_isMap_1.f k a0_0 a0_1 a0_2 a0_3 = some r) :
  Calls Try.prog 133 #[.agg #[.int .i64 a0_0, .int .i64 a0_1, .int .i64 a0_2, .int .i64 a0_3]] w fun e w' => e = .returned (.bool r) ∧ Below w.heap.size w w' := by
 have hu73 := Try.underlying73
 have hu53 := Try.underlying53
 have HB := Aside0.mk (Below.refl w.heap.size w)
 have H : ((impl_isCoord.f k a0_0 a0_1).bind fun t318 => (if t318 = true then ((impl_isCoord.f k a0_2 a0_3).bind fun t319 => (some (!t319))) else (some true))) = some r := h
 clear h
 replace H := Option.bind_eq_some_iff.mp H
 obtain ⟨t318, A20, H⟩ := H
 replace H : (if t318 = true then ((impl_isCoord.f k a0_2 a0_3).bind fun t319 => (some (!t319))) else (some true)) = some r := H
 have A2 := Aside0.mk A20
 clear A20
 by_cases c3 : t318 = true
 ·subst c3
  have H1 : ((impl_isCoord.f k a0_2 a0_3).bind fun t319 => (some (!t319))) = some r := by rw [if_pos rfl] at H; exact H
  clear H
  have H := H1
  clear H1
  replace H := Option.bind_eq_some_iff.mp H
  obtain ⟨t319, A40, H⟩ := H
  replace H : (some (!t319)) = some r := H
  have A4 := Aside0.mk A40
  clear A40
  obtain rfl := Option.some.inj H
  go_enter Try.func133, Try.ntmps133
  go_wp2_with (first | ((with_reducible refine gate_dst (N := 1) rfl ?_); refine bx 1 #[.int .i64 a0_0, .int .i64 a0_1, .int .i64 a0_2, .int .i64 a0_3] 73 ?_; intro gb317 hg w5 hbox hb; have BK317 := Aside0.mk (hbox); have GW317 := Aside0.mk (bz hg); have GE317 := GW317; replace HB := kh hb; clear hb hbox hg; obtain ⟨hcz6_0, hcz6_1, hcz6_2, hcz6_3, hfz6_0, hfz6_1, hfz6_2, hfz6_3⟩ := b4 BK317) | ((with_reducible refine gate_callee (f := 134) rfl ?_); refine gl 5 Try.func134 #[.agg #[.int .i64 a0_0, .int .i64 a0_1]] ?_; (with_reducible refine (impl_isCoord.calls k a0_0 a0_1 true _ A2.out).mono ?_); rintro e w7 ⟨rfl, hb⟩; refine ⟨_, rfl, ?_⟩; replace BK317 := kb BK317 hb; replace HB := kh hb; (try clear hb); (try clear hb2); (try clear hk); (try clear hi); obtain ⟨hcz8_0, hcz8_1, hcz8_2, hcz8_3, hfz8_0, hfz8_1, hfz8_2, hfz8_3⟩ := b4 BK317) | (go_at_call 134; (with_reducible refine (impl_isCoord.calls k a0_2 a0_3 t319 _ A4.out).mono ?_); rintro e w9 ⟨rfl, hb⟩; replace BK317 := kb BK317 hb; replace HB := kh hb; (try clear hb); (try clear hb2); (try clear hk); (try clear hi)))
  go_ret
  exact ⟨rt, bl⟩
 ·replace c3 := Bool.eq_false_iff.mpr c3
  subst c3
  have H1 : (some true) = some r := by rw [if_neg (show ¬ (false = true) by decide)] at H; exact H
  clear H
  have H := H1
  clear H1
  obtain rfl := Option.some.inj H
  go_enter Try.func133, Try.ntmps133
  go_wp2_with (first | ((with_reducible refine gate_dst (N := 1) rfl ?_); refine bx 1 #[.int .i64 a0_0, .int .i64 a0_1, .int .i64 a0_2, .int .i64 a0_3] 73 ?_; intro gb317 hg w10 hbox hb; have BK317 := Aside0.mk (hbox); have GW317 := Aside0.mk (bz hg); have GE317 := GW317; replace HB := kh hb; clear hb hbox hg; obtain ⟨hcz11_0, hcz11_1, hcz11_2, hcz11_3, hfz11_0, hfz11_1, hfz11_2, hfz11_3⟩ := b4 BK317) | ((with_reducible refine gate_callee (f := 134) rfl ?_); refine gl 5 Try.func134 #[.agg #[.int .i64 a0_0, .int .i64 a0_1]] ?_; (with_reducible refine (impl_isCoord.calls k a0_0 a0_1 false _ A2.out).mono ?_); rintro e w12 ⟨rfl, hb⟩; refine ⟨_, rfl, ?_⟩; replace BK317 := kb BK317 hb; replace HB := kh hb; (try clear hb); (try clear hb2); (try clear hk); (try clear hi)))
  go_ret
  exact ⟨rt, bl⟩

/-! ### impl_compare: function 141 -/
def impl_compare.f (a0_0 : Int) (a0_1 : Int) (a1_0 : Int) (a1_1 : Int) : Option (Int) := if (wrap64 (a0_0 * a1_1)) < (wrap64 (a1_0 * a0_1)) then (some (-1)) else (if (wrap64 (a0_0 * a1_1)) > (wrap64 (a1_0 * a0_1)) then (some 1) else (some 0))
set_option maxHeartbeats 8000000 in
set_option maxRecDepth 100000 in
theorem impl_compare.calls (a0_0 : Int) (a0_1 : Int) (a1_0 : Int) (a1_1 : Int) (r : Int) (w : World) (h : impl_compare.f a0_0 a0_1 a1_0 a1_1 = some r) :
  Calls Try.prog 141 #[.agg #[.int .i64 a0_0, .int .i64 a0_1], .agg #[.int .i64 a1_0, .int .i64 a1_1]] w fun e w' => e = .returned (.int .i64 r) ∧ Below w.heap.size w w' := by
 have hu53 := Try.underlying53
 have HB := Aside0.mk (Below.refl w.heap.size w)
 have H : (if (wrap64 (a0_0 * a1_1)) < (wrap64 (a1_0 * a0_1)) then (some (-1)) else (if (wrap64 (a0_0 * a1_1)) > (wrap64 (a1_0 * a0_1)) then (some 1) else (some 0))) = some r := h
 clear h
 by_cases c3 : (wrap64 (a0_0 * a1_1)) < (wrap64 (a1_0 * a0_1))
 ·rw [if_pos c3] at H
  have c3b0 : decide ((wrap64 (a0_0 * a1_1)) < (wrap64 (a1_0 * a0_1))) = true := decide_eq_true c3
  clear c3
  obtain rfl := Option.some.inj H
  go_enter Try.func141, Try.ntmps141
  go_wp2_with (first | ((with_reducible refine gate_dst (N := 2) rfl ?_); refine bx 2 #[.int .i64 a0_0, .int .i64 a0_1] 53 ?_; intro gb320 hg w4 hbox hb; have BK320 := Aside0.mk (hbox); have GW320 := Aside0.mk (bz hg); have GE320 := GW320; replace HB := kh hb; clear hb hbox hg) | ((with_reducible refine gate_dst (N := 3) rfl ?_); refine bx 3 #[.int .i64 a1_0, .int .i64 a1_1] 53 ?_; intro gb321 hg w5 hbox hb; have BK321 := Aside0.mk (hbox); have GW321 := Aside0.mk (bz hg); have GE321 := GW321; have NB320_321 := Aside0.mk (bn gb320 hg); have NB321_320 := sy NB320_321; replace BK320 := kb BK320 hb; replace HB := kh hb; clear hb hbox hg; have hnb6 := NB320_321.out; have hnc6 := NB321_320.out; obtain ⟨hcz7_0, hcz7_1, hfz7_0, hfz7_1⟩ := b2 BK320; obtain ⟨hcz8_0, hcz8_1, hfz8_0, hfz8_1⟩ := b2 BK321))
  repeat (go_quiet (first | ((with_reducible refine gate_dst (N := 2) rfl ?_); refine bx 2 #[.int .i64 a0_0, .int .i64 a0_1] 53 ?_; intro gb320 hg w4 hbox hb; have BK320 := Aside0.mk (hbox); have GW320 := Aside0.mk (bz hg); have GE320 := GW320; replace HB := kh hb; clear hb hbox hg) | ((with_reducible refine gate_dst (N := 3) rfl ?_); refine bx 3 #[.int .i64 a1_0, .int .i64 a1_1] 53 ?_; intro gb321 hg w5 hbox hb; have BK321 := Aside0.mk (hbox); have GW321 := Aside0.mk (bz hg); have GE321 := GW321; have NB320_321 := Aside0.mk (bn gb320 hg); have NB321_320 := sy NB320_321; replace BK320 := kb BK320 hb; replace HB := kh hb; clear hb hbox hg; have hnb6 := NB320_321.out; have hnc6 := NB321_320.out; obtain ⟨hcz7_0, hcz7_1, hfz7_0, hfz7_1⟩ := b2 BK320; obtain ⟨hcz8_0, hcz8_1, hfz8_0, hfz8_1⟩ := b2 BK321)); try go_wp2_with (first | ((with_reducible refine gate_dst (N := 2) rfl ?_); refine bx 2 #[.int .i64 a0_0, .int .i64 a0_1] 53 ?_; intro gb320 hg w4 hbox hb; have BK320 := Aside0.mk (hbox); have GW320 := Aside0.mk (bz hg); have GE320 := GW320; replace HB := kh hb; clear hb hbox hg) | ((with_reducible refine gate_dst (N := 3) rfl ?_); refine bx 3 #[.int .i64 a1_0, .int .i64 a1_1] 53 ?_; intro gb321 hg w5 hbox hb; have BK321 := Aside0.mk (hbox); have GW321 := Aside0.mk (bz hg); have GE321 := GW321; have NB320_321 := Aside0.mk (bn gb320 hg); have NB321_320 := sy NB320_321; replace BK320 := kb BK320 hb; replace HB := kh hb; clear hb hbox hg; have hnb6 := NB320_321.out; have hnc6 := NB321_320.out; obtain ⟨hcz7_0, hcz7_1, hfz7_0, hfz7_1⟩ := b2 BK320; obtain ⟨hcz8_0, hcz8_1, hfz8_0, hfz8_1⟩ := b2 BK321)))
  go_ret
  exact ⟨rt, bl⟩
 ·rw [if_neg c3] at H
  have c3b0 : decide ((wrap64 (a0_0 * a1_1)) < (wrap64 (a1_0 * a0_1))) = false := decide_eq_false c3
  clear c3
  by_cases c9 : (wrap64 (a0_0 * a1_1)) > (wrap64 (a1_0 * a0_1))
  ·rw [if_pos c9] at H
   have c9b0 : decide ((wrap64 (a1_0 * a0_1)) < (wrap64 (a0_0 * a1_1))) = true := decide_eq_true c9
   clear c9
   obtain rfl := Option.some.inj H
   go_enter Try.func141, Try.ntmps141
   go_wp2_with (first | ((with_reducible refine gate_dst (N := 2) rfl ?_); refine bx 2 #[.int .i64 a0_0, .int .i64 a0_1] 53 ?_; intro gb320 hg w10 hbox hb; have BK320 := Aside0.mk (hbox); have GW320 := Aside0.mk (bz hg); have GE320 := GW320; replace HB := kh hb; clear hb hbox hg) | ((with_reducible refine gate_dst (N := 3) rfl ?_); refine bx 3 #[.int .i64 a1_0, .int .i64 a1_1] 53 ?_; intro gb321 hg w11 hbox hb; have BK321 := Aside0.mk (hbox); have GW321 := Aside0.mk (bz hg); have GE321 := GW321; have NB320_321 := Aside0.mk (bn gb320 hg); have NB321_320 := sy NB320_321; replace BK320 := kb BK320 hb; replace HB := kh hb; clear hb hbox hg; have hnb12 := NB320_321.out; have hnc12 := NB321_320.out; obtain ⟨hcz13_0, hcz13_1, hfz13_0, hfz13_1⟩ := b2 BK320; obtain ⟨hcz14_0, hcz14_1, hfz14_0, hfz14_1⟩ := b2 BK321))
   repeat (go_quiet (first | ((with_reducible refine gate_dst (N := 2) rfl ?_); refine bx 2 #[.int .i64 a0_0, .int .i64 a0_1] 53 ?_; intro gb320 hg w10 hbox hb; have BK320 := Aside0.mk (hbox); have GW320 := Aside0.mk (bz hg); have GE320 := GW320; replace HB := kh hb; clear hb hbox hg) | ((with_reducible refine gate_dst (N := 3) rfl ?_); refine bx 3 #[.int .i64 a1_0, .int .i64 a1_1] 53 ?_; intro gb321 hg w11 hbox hb; have BK321 := Aside0.mk (hbox); have GW321 := Aside0.mk (bz hg); have GE321 := GW321; have NB320_321 := Aside0.mk (bn gb320 hg); have NB321_320 := sy NB320_321; replace BK320 := kb BK320 hb; replace HB := kh hb; clear hb hbox hg; have hnb12 := NB320_321.out; have hnc12 := NB321_320.out; obtain ⟨hcz13_0, hcz13_1, hfz13_0, hfz13_1⟩ := b2 BK320; obtain ⟨hcz14_0, hcz14_1, hfz14_0, hfz14_1⟩ := b2 BK321)); try go_wp2_with (first | ((with_reducible refine gate_dst (N := 2) rfl ?_); refine bx 2 #[.int .i64 a0_0, .int .i64 a0_1] 53 ?_; intro gb320 hg w10 hbox hb; have BK320 := Aside0.mk (hbox); have GW320 := Aside0.mk (bz hg); have GE320 := GW320; replace HB := kh hb; clear hb hbox hg) | ((with_reducible refine gate_dst (N := 3) rfl ?_); refine bx 3 #[.int .i64 a1_0, .int .i64 a1_1] 53 ?_; intro gb321 hg w11 hbox hb; have BK321 := Aside0.mk (hbox); have GW321 := Aside0.mk (bz hg); have GE321 := GW321; have NB320_321 := Aside0.mk (bn gb320 hg); have NB321_320 := sy NB320_321; replace BK320 := kb BK320 hb; replace HB := kh hb; clear hb hbox hg; have hnb12 := NB320_321.out; have hnc12 := NB321_320.out; obtain ⟨hcz13_0, hcz13_1, hfz13_0, hfz13_1⟩ := b2 BK320; obtain ⟨hcz14_0, hcz14_1, hfz14_0, hfz14_1⟩ := b2 BK321)))
   go_ret
   exact ⟨rt, bl⟩
  ·rw [if_neg c9] at H
   have c9b0 : decide ((wrap64 (a1_0 * a0_1)) < (wrap64 (a0_0 * a1_1))) = false := decide_eq_false c9
   clear c9
   obtain rfl := Option.some.inj H
   go_enter Try.func141, Try.ntmps141
   go_wp2_with (first | ((with_reducible refine gate_dst (N := 2) rfl ?_); refine bx 2 #[.int .i64 a0_0, .int .i64 a0_1] 53 ?_; intro gb320 hg w15 hbox hb; have BK320 := Aside0.mk (hbox); have GW320 := Aside0.mk (bz hg); have GE320 := GW320; replace HB := kh hb; clear hb hbox hg) | ((with_reducible refine gate_dst (N := 3) rfl ?_); refine bx 3 #[.int .i64 a1_0, .int .i64 a1_1] 53 ?_; intro gb321 hg w16 hbox hb; have BK321 := Aside0.mk (hbox); have GW321 := Aside0.mk (bz hg); have GE321 := GW321; have NB320_321 := Aside0.mk (bn gb320 hg); have NB321_320 := sy NB320_321; replace BK320 := kb BK320 hb; replace HB := kh hb; clear hb hbox hg; have hnb17 := NB320_321.out; have hnc17 := NB321_320.out; obtain ⟨hcz18_0, hcz18_1, hfz18_0, hfz18_1⟩ := b2 BK320; obtain ⟨hcz19_0, hcz19_1, hfz19_0, hfz19_1⟩ := b2 BK321))
   repeat (go_quiet (first | ((with_reducible refine gate_dst (N := 2) rfl ?_); refine bx 2 #[.int .i64 a0_0, .int .i64 a0_1] 53 ?_; intro gb320 hg w15 hbox hb; have BK320 := Aside0.mk (hbox); have GW320 := Aside0.mk (bz hg); have GE320 := GW320; replace HB := kh hb; clear hb hbox hg) | ((with_reducible refine gate_dst (N := 3) rfl ?_); refine bx 3 #[.int .i64 a1_0, .int .i64 a1_1] 53 ?_; intro gb321 hg w16 hbox hb; have BK321 := Aside0.mk (hbox); have GW321 := Aside0.mk (bz hg); have GE321 := GW321; have NB320_321 := Aside0.mk (bn gb320 hg); have NB321_320 := sy NB320_321; replace BK320 := kb BK320 hb; replace HB := kh hb; clear hb hbox hg; have hnb17 := NB320_321.out; have hnc17 := NB321_320.out; obtain ⟨hcz18_0, hcz18_1, hfz18_0, hfz18_1⟩ := b2 BK320; obtain ⟨hcz19_0, hcz19_1, hfz19_0, hfz19_1⟩ := b2 BK321)); try go_wp2_with (first | ((with_reducible refine gate_dst (N := 2) rfl ?_); refine bx 2 #[.int .i64 a0_0, .int .i64 a0_1] 53 ?_; intro gb320 hg w15 hbox hb; have BK320 := Aside0.mk (hbox); have GW320 := Aside0.mk (bz hg); have GE320 := GW320; replace HB := kh hb; clear hb hbox hg) | ((with_reducible refine gate_dst (N := 3) rfl ?_); refine bx 3 #[.int .i64 a1_0, .int .i64 a1_1] 53 ?_; intro gb321 hg w16 hbox hb; have BK321 := Aside0.mk (hbox); have GW321 := Aside0.mk (bz hg); have GE321 := GW321; have NB320_321 := Aside0.mk (bn gb320 hg); have NB321_320 := sy NB320_321; replace BK320 := kb BK320 hb; replace HB := kh hb; clear hb hbox hg; have hnb17 := NB320_321.out; have hnc17 := NB321_320.out; obtain ⟨hcz18_0, hcz18_1, hfz18_0, hfz18_1⟩ := b2 BK320; obtain ⟨hcz19_0, hcz19_1, hfz19_0, hfz19_1⟩ := b2 BK321)))
   go_ret
   exact ⟨rt, bl⟩

/-! ### impl_less: function 127 -/
def impl_less.f (a0_0 : Int) (a0_1 : Int) (a1_0 : Int) (a1_1 : Int) : Option (Bool) := (impl_compare.f a0_0 a0_1 a1_0 a1_1).bind fun t324 => (some (decide (t324 < 0)))
set_option maxHeartbeats 8000000 in
set_option maxRecDepth 100000 in
theorem impl_less.calls (a0_0 : Int) (a0_1 : Int) (a1_0 : Int) (a1_1 : Int) (r : Bool) (w : World) (h : impl_less.f a0_0 a0_1 a1_0 a1_1 = some r) :
  Calls Try.prog 127 #[.agg #[.int .i64 a0_0, .int .i64 a0_1], .agg #[.int .i64 a1_0, .int .i64 a1_1]] w fun e w' => e = .returned (.bool r) ∧ Below w.heap.size w w' := by
 have hu53 := Try.underlying53
 have HB := Aside0.mk (Below.refl w.heap.size w)
 have H : ((impl_compare.f a0_0 a0_1 a1_0 a1_1).bind fun t324 => (some (decide (t324 < 0)))) = some r := h
 clear h
 replace H := Option.bind_eq_some_iff.mp H
 obtain ⟨t324, A30, H⟩ := H
 replace H : (some (decide (t324 < 0))) = some r := H
 have A3 := Aside0.mk A30
 clear A30
 obtain rfl := Option.some.inj H
 go_enter Try.func127, Try.ntmps127
 go_wp2_with (first | ((with_reducible refine gate_dst (N := 2) rfl ?_); refine bx 2 #[.int .i64 a0_0, .int .i64 a0_1] 53 ?_; intro gb322 hg w4 hbox hb; have BK322 := Aside0.mk (hbox); have GW322 := Aside0.mk (bz hg); have GE322 := GW322; replace HB := kh hb; clear hb hbox hg) | ((with_reducible refine gate_dst (N := 3) rfl ?_); refine bx 3 #[.int .i64 a1_0, .int .i64 a1_1] 53 ?_; intro gb323 hg w5 hbox hb; have BK323 := Aside0.mk (hbox); have GW323 := Aside0.mk (bz hg); have GE323 := GW323; have NB322_323 := Aside0.mk (bn gb322 hg); have NB323_322 := sy NB322_323; replace BK322 := kb BK322 hb; replace HB := kh hb; clear hb hbox hg; have hnb6 := NB322_323.out; have hnc6 := NB323_322.out; obtain ⟨hcz7_0, hcz7_1, hfz7_0, hfz7_1⟩ := b2 BK322; obtain ⟨hcz8_0, hcz8_1, hfz8_0, hfz8_1⟩ := b2 BK323) | ((with_reducible refine gate_callee (f := 141) rfl ?_); refine gl 7 Try.func141 #[.agg #[.int .i64 a0_0, .int .i64 a0_1], .agg #[.int .i64 a1_0, .int .i64 a1_1]] ?_; (with_reducible refine (impl_compare.calls a0_0 a0_1 a1_0 a1_1 t324 _ A3.out).mono ?_); rintro e w9 ⟨rfl, hb⟩; refine ⟨_, rfl, ?_⟩; replace BK322 := kb BK322 hb; replace BK323 := kb BK323 hb; replace HB := kh hb; (try clear hb); (try clear hb2); (try clear hk); (try clear hi)))
 go_ret
 exact ⟨rt, bl⟩

/-! ### impl_isRising: function 135 -/
def impl_isRising.l0 : Nat → List (S53) → Int → Option (Bool)
 | 0, _, _ => none
 | k + 1, x0, x3 => if x3 < (x0.length : Int) then (if 0 ≤ (wrap64 (x3 - 1)) then (if (wrap64 (x3 - 1)) < (x0.length : Int) then (if 0 ≤ x3 then ((impl_less.f ((rd_T53 x0 (wrap64 (x3 - 1))).f0) ((rd_T53 x0 (wrap64 (x3 - 1))).f1) ((rd_T53 x0 x3).f0) ((rd_T53 x0 x3).f1)).bind fun t327 => (if t327 = true then (impl_isRising.l0 k x0 (wrap64 (x3 + 1))) else (some false))) else (none)) else (none)) else (none)) else (some true)
def impl_isRising.f (k : Nat) (l0 : List (S53)) : Option (Bool) := impl_isRising.l0 k l0 1
def impl_isRising.T4 : Bool × List (List Nat × List Nat) := (true, [([], []), ([], []), ([1], [1]), ([0, 2], [0, 2]), ([3], [3]), ([], []), ([], []), ([5, 6], [5, 6]), ([7], [7]), ([4, 8], [4, 8]), ([9], [9])])
def impl_isRising.B4 : List Nat := [0, 0, 2, 7, 15, 0, 0, 96, 224, 511, 1023]
theorem impl_isRising.tab4 : rtab .any (opsOf Try.f135 4) = impl_isRising.T4 := by kernel_rfl
theorem impl_isRising.bits4 : waitsOk impl_isRising.T4.2 impl_isRising.B4 = true := by kernel_rfl
set_option maxHeartbeats 8000000 in
set_option maxRecDepth 100000 in
theorem impl_isRising.calls (k : Nat) (A0 : Option Addr) (c0 : Nat) (l0 : List (S53)) (r : Bool) (w : World) (hr0 : Kd.C k53 w A0 l0.length l0) (hc0 : l0.length ≤ c0) (h : impl_isRising.f k l0 = some r) :
  Calls Try.prog 135 #[.slice A0 l0.length c0] w fun e w' => e = .returned (.bool r) ∧ Below w.heap.size w w' := by
 have hu53 := Try.underlying53
 have HR0 := Aside0.mk hr0
 have HC0 := Aside0.mk hc0
 clear hr0 hc0
 have HB := Aside0.mk (Below.refl w.heap.size w)
 have H : (impl_isRising.l0 k l0 1) = some r := h
 clear h
 have H' := Aside0.mk H
 clear H
 go_enter Try.func135, Try.ntmps135
 go_wp2
 go_loopg [3] k (fun kq v3 w' => ∃ (x3_1 : Int), v3 = .int .i64 x3_1 ∧ Aside0 (impl_isRising.l0 kq l0 x3_1 = some r) ∧ Aside0 (kq ≤ k) ∧ Aside0 (Below w.heap.size w w'))
 case atStart => exact ⟨(1), rs, H', ⟨Nat.le_refl _⟩, ⟨bl⟩⟩
 case round =>
  clear H'
  try clear c1
  obtain ⟨x3_1, rfl, HA, HK1, HB⟩ := hrel
  cases gk with
  | zero => exact absurd HA.out (by simp [impl_isRising.l0])
  | succ k1 =>
   have H := HA.out
   clear HA
   simp only [impl_isRising.l0] at H
   by_cases c2 : x3_1 < (l0.length : Int)
   ·rw [if_pos c2] at H
    have c2b0 : decide (x3_1 < (l0.length : Int)) = true := decide_eq_true c2
    clear c2
    obtain ⟨ji3, hji3⟩ : ∃ j_ : Int, (wrap64 (x3_1 - 1)) = j_ := ⟨_, rfl⟩
    replace H : (if 0 ≤ (ji3) then (if (ji3) < (l0.length : Int) then (if 0 ≤ x3_1 then ((impl_less.f ((rd_T53 l0 (ji3)).f0) ((rd_T53 l0 (ji3)).f1) ((rd_T53 l0 x3_1).f0) ((rd_T53 l0 x3_1).f1)).bind fun t327 => (if t327 = true then (impl_isRising.l0 k1 l0 (wrap64 (x3_1 + 1))) else (some false))) else (none)) else (none)) else (none)) = some r := by first | (rw [hji3] at H; exact H) | (simp only [hji3] at H ⊢; exact H)
    have hji3w : (IntKind.i64.wrap (x3_1 - 1)) = ji3 := (i64_w _).trans hji3
    by_cases c4 : 0 ≤ (ji3)
    ·rw [if_pos c4] at H
     have c4b0 : decide (0 ≤ (ji3)) = true := decide_eq_true c4
     clear c4
     by_cases c5 : (ji3) < (l0.length : Int)
     ·rw [if_pos c5] at H
      have c5b0 : decide ((ji3) < (l0.length : Int)) = true := decide_eq_true c5
      clear c5
      by_cases c6 : 0 ≤ x3_1
      ·rw [if_pos c6] at H
       have c6b0 : decide (0 ≤ x3_1) = true := decide_eq_true c6
       clear c6
       replace H := Option.bind_eq_some_iff.mp H
       obtain ⟨t327, A70, H⟩ := H
       replace H : (if t327 = true then (impl_isRising.l0 k1 l0 (wrap64 (x3_1 + 1))) else (some false)) = some r := H
       have A7 := Aside0.mk A70
       clear A70
       by_cases c8 : t327 = true
       ·subst c8
        have H1 : (impl_isRising.l0 k1 l0 (wrap64 (x3_1 + 1))) = some r := by rw [if_pos rfl] at H; exact H
        clear H
        have H := H1
        clear H1
        have H' := Aside0.mk H
        clear H
        try go_wp2
        replace HB := Aside0.mk (below_drew1 HB.out)
        have p325 : 0 ≤ ((ji3) : Int) := da
        have q325 : (ji3) < (l0.length : Int) := da
        obtain ⟨ad325, e325, hx325_0, hx325_1⟩ := at_T53 HR0.out (ji3) p325 q325
        have hw325_1 := hx325_1
        have hw325_0 := hx325_0
        cases e325
        replace hx325_0 := (hc HB hx325_0 :)
        replace hx325_1 := (hc HB hx325_1 :)
        replace p325 := eq_true p325
        replace q325 := eq_true q325
        have p326 : 0 ≤ (x3_1 : Int) := da
        have q326 : x3_1 < (l0.length : Int) := da
        obtain ⟨ad326, e326, hx326_0, hx326_1⟩ := at_T53 HR0.out x3_1 p326 q326
        have hw326_1 := hx326_1
        have hw326_0 := hx326_0
        obtain rfl : ad325 = ad326 := (by injection e326)
        replace hx326_0 := (hc HB hx326_0 :)
        replace hx326_1 := (hc HB hx326_1 :)
        replace p326 := eq_true p326
        replace q326 := eq_true q326
        refine start_ (n := 11) (S := fun w' => w'.cell? (ad325.add (((ji3)).toNat * 2)) = some (.int .i64 ((rd_T53 l0 (ji3)).f0)) ∧ w'.cell? ⟨(ad325.add (((ji3)).toNat * 2)).block, (ad325.add (((ji3)).toNat * 2)).off + 1, none⟩ = some (.int .i64 ((rd_T53 l0 (ji3)).f1)) ∧ w'.cell? (ad325.add ((x3_1).toNat * 2)) = some (.int .i64 ((rd_T53 l0 x3_1).f0)) ∧ w'.cell? ⟨(ad325.add ((x3_1).toNat * 2)).block, (ad325.add ((x3_1).toNat * 2)).off + 1, none⟩ = some (.int .i64 ((rd_T53 l0 x3_1).f1))) (ds := []) (tb 0 11) (by kernel_rfl) rfl rfl ⟨(hc HB hw325_0 :), (hc HB hw325_1 :), (hc HB hw326_0 :), (hc HB hw326_1 :)⟩ (fun hHeld => ?_); refine with_tabW impl_isRising.tab4 impl_isRising.bits4 (fun HT_ HW_ => ?_)
        generalize wr.drew = w9 at HB hx325_0 hx325_1 hx326_0 hx326_1 hHeld ⊢
        refine pu 0 10 (tb 1 10) ?_
        refine pu 1 11 (tb 2 9) ?_
        refine pu 2 12 (tb 3 8) ?_
        refine pu 3 13 (tb 4 7) ?_
        refine pu 5 15 #[true, true, true, true, false, true, false, false, false, false, false] ?_
        refine pu 6 16 #[true, true, true, true, false, true, true, false, false, false, false] ?_
        refine pu 7 17 #[true, true, true, true, false, true, true, true, false, false, false] ?_
        refine tk 4 14 (tb 8 3) (hy := by rintro w' ⟨s0, s1, s2, s3⟩; go_simp; with_reducible rfl) (h := ?_)
        refine tk 8 18 (tb 9 2) (hy := by rintro w' ⟨s0, s1, s2, s3⟩; go_simp; with_reducible rfl) (h := ?_)
        refine on 9 19 (tb 10 1) (fun K hK => ?_)
        refine goes_ Try.func127 (by kernel_rfl) rfl #[.agg #[.int .i64 ((rd_T53 l0 (ji3)).f0), .int .i64 ((rd_T53 l0 (ji3)).f1)], .agg #[.int .i64 ((rd_T53 l0 x3_1).f0), .int .i64 ((rd_T53 l0 x3_1).f1)]] (by rfl) rfl rfl (by (try simp only [List.map_toArray, List.map_cons, List.map_nil]); first | done | (simp only [hji3]; rfl) | rfl | (simp only [List.length_drop, List.length_take]; rfl)) ?_
        with_reducible refine (impl_less.calls ((rd_T53 l0 (ji3)).f0) ((rd_T53 l0 (ji3)).f1) ((rd_T53 l0 x3_1).f0) ((rd_T53 l0 x3_1).f1) true _ A7.out).mono ?_
        rintro e w10 ⟨rfl, hb⟩
        refine ⟨_, rfl, ?_⟩
        replace HB := kh hb
        (try clear hb)
        (try clear hb2)
        (try clear hk)
        (try clear hi)
        refine hK.out _ _ ⟨(hc HB hw325_0 :), (hc HB hw325_1 :), (hc HB hw326_0 :), (hc HB hw326_1 :)⟩ (fun hHeld => ?_)
        clear hK K
        refine nm 19 ?_
        refine pu 10 20 (tb 11 0) ?_
        refine done_ (done_of HT_.out (by kernel_rfl)) ?_
        try go_wp2
        go_roundg k1
        case measure => have := HK1.out; omega
        case rel => exact ⟨(wrap64 (x3_1 + 1)), rs, H', ⟨by have := HK1.out; omega⟩, ⟨bl⟩⟩
       ·replace c8 := Bool.eq_false_iff.mpr c8
        subst c8
        have H1 : (some false) = some r := by rw [if_neg (show ¬ (false = true) by decide)] at H; exact H
        clear H
        have H := H1
        clear H1
        obtain rfl := Option.some.inj H
        try go_wp2
        replace HB := Aside0.mk (below_drew1 HB.out)
        have p325 : 0 ≤ ((ji3) : Int) := da
        have q325 : (ji3) < (l0.length : Int) := da
        obtain ⟨ad325, e325, hx325_0, hx325_1⟩ := at_T53 HR0.out (ji3) p325 q325
        have hw325_1 := hx325_1
        have hw325_0 := hx325_0
        cases e325
        replace hx325_0 := (hc HB hx325_0 :)
        replace hx325_1 := (hc HB hx325_1 :)
        replace p325 := eq_true p325
        replace q325 := eq_true q325
        have p326 : 0 ≤ (x3_1 : Int) := da
        have q326 : x3_1 < (l0.length : Int) := da
        obtain ⟨ad326, e326, hx326_0, hx326_1⟩ := at_T53 HR0.out x3_1 p326 q326
        have hw326_1 := hx326_1
        have hw326_0 := hx326_0
        obtain rfl : ad325 = ad326 := (by injection e326)
        replace hx326_0 := (hc HB hx326_0 :)
        replace hx326_1 := (hc HB hx326_1 :)
        replace p326 := eq_true p326
        replace q326 := eq_true q326
        refine start_ (n := 11) (S := fun w' => w'.cell? (ad325.add (((ji3)).toNat * 2)) = some (.int .i64 ((rd_T53 l0 (ji3)).f0)) ∧ w'.cell? ⟨(ad325.add (((ji3)).toNat * 2)).block, (ad325.add (((ji3)).toNat * 2)).off + 1, none⟩ = some (.int .i64 ((rd_T53 l0 (ji3)).f1)) ∧ w'.cell? (ad325.add ((x3_1).toNat * 2)) = some (.int .i64 ((rd_T53 l0 x3_1).f0)) ∧ w'.cell? ⟨(ad325.add ((x3_1).toNat * 2)).block, (ad325.add ((x3_1).toNat * 2)).off + 1, none⟩ = some (.int .i64 ((rd_T53 l0 x3_1).f1))) (ds := []) (tb 0 11) (by kernel_rfl) rfl rfl ⟨(hc HB hw325_0 :), (hc HB hw325_1 :), (hc HB hw326_0 :), (hc HB hw326_1 :)⟩ (fun hHeld => ?_); refine with_tabW impl_isRising.tab4 impl_isRising.bits4 (fun HT_ HW_ => ?_)
        generalize wr.drew = w11 at HB hx325_0 hx325_1 hx326_0 hx326_1 hHeld ⊢
        refine pu 0 10 (tb 1 10) ?_
        refine pu 1 11 (tb 2 9) ?_
        refine pu 2 12 (tb 3 8) ?_
        refine pu 3 13 (tb 4 7) ?_
        refine pu 5 15 #[true, true, true, true, false, true, false, false, false, false, false] ?_
        refine pu 6 16 #[true, true, true, true, false, true, true, false, false, false, false] ?_
        refine pu 7 17 #[true, true, true, true, false, true, true, true, false, false, false] ?_
        refine tk 4 14 (tb 8 3) (hy := by rintro w' ⟨s0, s1, s2, s3⟩; go_simp; with_reducible rfl) (h := ?_)
        refine tk 8 18 (tb 9 2) (hy := by rintro w' ⟨s0, s1, s2, s3⟩; go_simp; with_reducible rfl) (h := ?_)
        refine on 9 19 (tb 10 1) (fun K hK => ?_)
        refine goes_ Try.func127 (by kernel_rfl) rfl #[.agg #[.int .i64 ((rd_T53 l0 (ji3)).f0), .int .i64 ((rd_T53 l0 (ji3)).f1)], .agg #[.int .i64 ((rd_T53 l0 x3_1).f0), .int .i64 ((rd_T53 l0 x3_1).f1)]] (by rfl) rfl rfl (by (try simp only [List.map_toArray, List.map_cons, List.map_nil]); first | done | (simp only [hji3]; rfl) | rfl | (simp only [List.length_drop, List.length_take]; rfl)) ?_
        with_reducible refine (impl_less.calls ((rd_T53 l0 (ji3)).f0) ((rd_T53 l0 (ji3)).f1) ((rd_T53 l0 x3_1).f0) ((rd_T53 l0 x3_1).f1) false _ A7.out).mono ?_
        rintro e w12 ⟨rfl, hb⟩
        refine ⟨_, rfl, ?_⟩
        replace HB := kh hb
        (try clear hb)
        (try clear hb2)
        (try clear hk)
        (try clear hi)
        refine hK.out _ _ ⟨(hc HB hw325_0 :), (hc HB hw325_1 :), (hc HB hw326_0 :), (hc HB hw326_1 :)⟩ (fun hHeld => ?_)
        clear hK K
        refine nm 19 ?_
        refine pu 10 20 (tb 11 0) ?_
        refine done_ (done_of HT_.out (by kernel_rfl)) ?_
        try go_wp2
        go_ret
        exact ⟨by first | rfl | (simp [errW_none, errW_some] <;> rfl) | (simp only [← hji3]; first | rfl | (simp [errW_none, errW_some] <;> rfl)) | (simp [*, errW_none, errW_some] <;> rfl), bl⟩
      ·rw [if_neg c6] at H
       exact absurd H (by simp)
     ·rw [if_neg c5] at H
      exact absurd H (by simp)
    ·rw [if_neg c4] at H
     exact absurd H (by simp)
   ·rw [if_neg c2] at H
    have c2b0 : decide (x3_1 < (l0.length : Int)) = false := decide_eq_false c2
    clear c2
    obtain rfl := Option.some.inj H
    go_wp2
    go_ret
    exact ⟨rt, bl⟩

/-! ### impl_xsOf: function 136 -/
def impl_xsOf.l0 : Nat → List (S53) → List (S73) → Int → Int → Option ((List (S53)))
 | 0, _, _, _, _ => none
 | k + 1, x3, x6, x7, x8 => if x8 < x7 then (if 0 ≤ x8 then (if x8 < (x6.length : Int) then (if x3.length < 8796093022208 then (impl_xsOf.l0 k (x3 ++ [(⟨(rd_T73 x6 x8).f0.f0, (rd_T73 x6 x8).f0.f1⟩ : S53)]) x6 x7 (wrap64 (x8 + 1))) else (none)) else (none)) else (none)) else (some x3)
def impl_xsOf.f (k : Nat) (l0 : List (S73)) : Option ((List (S53))) := impl_xsOf.l0 k ([] : List (S53)) l0 (l0.length : Int) 0
set_option maxHeartbeats 8000000 in
set_option maxRecDepth 100000 in
theorem impl_xsOf.calls (k : Nat) (A0 : Option Addr) (c0 : Nat) (l0 : List (S73)) (r : List (S53)) (w : World) (hr0 : Kd.C k73 w A0 l0.length l0) (hc0 : l0.length ≤ c0) (h : impl_xsOf.f k l0 = some r) :
  Calls Try.prog 136 #[.slice A0 l0.length c0] w fun e w' => ∃ v0_ : Value, e = .returned (v0_) ∧ Kd.R k53 53 w' w.heap.size (fun _ => True) v0_ r ∧ Below w.heap.size w w' := by
 have hu73 := Try.underlying73
 have hu53 := Try.underlying53
 have HR0 := Aside0.mk hr0
 have HC0 := Aside0.mk hc0
 clear hr0 hc0
 have HB := Aside0.mk (Below.refl w.heap.size w)
 have H : (impl_xsOf.l0 k ([] : List (S53)) l0 (l0.length : Int) 0) = some r := h
 clear h
 have H' := Aside0.mk H
 clear H
 go_enter Try.func136, Try.ntmps136
 go_wp2
 go_loopg [3, 8] k (fun kq v3 v8 w' => ∃ (x3_1 : List (S53)) (x8_1 : Int), v8 = .int .i64 x8_1 ∧ Aside0 (impl_xsOf.l0 kq x3_1 l0 (l0.length : Int) x8_1 = some r) ∧ Aside0 (kq ≤ k) ∧ Aside0 (Kd.R k53 53 w' w.heap.size (fun _ => True) v3 x3_1) ∧ Aside0 (Below w.heap.size w w'))
 case atStart => exact ⟨(([] : List (S53))), (0), rs, H', ⟨Nat.le_refl _⟩, ⟨by first | exact Kd.R_nil _ _ _ _ _ | exact Kd.N_nil _ _ _ _ _ | exact Kd.V_nil _ _ _ _ _ | exact Kd.Q_nil _ _ _ _ _ | exact Kd.S_nil _ _ _ _ _⟩, ⟨bl⟩⟩
 case round =>
  clear H'
  try clear c1
  obtain ⟨x3_1, x8_1, rfl, HA, HK1, HO_3, HB⟩ := hrel
  cases gk with
  | zero => exact absurd HA.out (by simp [impl_xsOf.l0])
  | succ k1 =>
   have H := HA.out
   clear HA
   simp only [impl_xsOf.l0] at H
   by_cases c2 : x8_1 < (l0.length : Int)
   ·rw [if_pos c2] at H
    have c2b0 : decide (x8_1 < (l0.length : Int)) = true := decide_eq_true c2
    clear c2
    by_cases c3 : 0 ≤ x8_1
    ·rw [if_pos c3] at H
     have c3b0 : decide (0 ≤ x8_1) = true := decide_eq_true c3
     clear c3
     by_cases c4 : x8_1 < (l0.length : Int)
     ·rw [if_pos c4] at H
      have c4b0 : decide (x8_1 < (l0.length : Int)) = true := decide_eq_true c4
      clear c4
      by_cases c5 : x3_1.length < 8796093022208
      ·rw [if_pos c5] at H
       have LMc5 := Aside0.mk c5
       clear c5
       obtain ⟨y330, hy330⟩ : ∃ y_ : List (S53), y_ = (x3_1 ++ [(⟨(rd_T73 l0 x8_1).f0.f0, (rd_T73 l0 x8_1).f0.f1⟩ : S53)]) := ⟨_, rfl⟩
       replace H : (impl_xsOf.l0 k1 y330 l0 (l0.length : Int) (wrap64 (x8_1 + 1))) = some r := by first | (rw [hy330]; with_reducible exact H) | (have H2_ := (Option.bind_some _ _).symm.trans H; rw [hy330]; with_reducible exact H2_) | (have H2_ := (Option.bind_some _ _).symm.trans H; with_reducible exact H2_) | with_reducible exact H | (rw [hy330]; exact H) | exact H
       have Ny330 := Aside0.mk hy330
       clear hy330
       have H' := Aside0.mk H
       clear H
       have p328 : 0 ≤ (x8_1 : Int) := da
       have q328 : x8_1 < (l0.length : Int) := da
       obtain ⟨ad328, e328, hx328_0, hx328_1, hx328_2, hx328_3⟩ := at_T73 HR0.out x8_1 p328 q328
       cases e328
       replace hx328_0 := (hc HB hx328_0 :)
       replace hx328_1 := (hc HB hx328_1 :)
       replace hx328_2 := (hc HB hx328_2 :)
       replace hx328_3 := (hc HB hx328_3 :)
       replace p328 := eq_true p328
       replace q328 := eq_true q328
       go_wp2_with (first | ((with_reducible refine gate_dst (N := 5) rfl ?_); refine bx 5 #[.int .i64 0, .int .i64 0, .int .i64 0, .int .i64 0] 73 ?_; intro gb329 hg w6 hbox hb; have BK329 := Aside0.mk (hbox); have GW329 := Aside0.mk (bz hg); have GE329 := GW329; replace HO_3 := Aside0.mk (Kd.R_below (by (with_reducible repeat (first | apply Kd.R_alloc | apply Kd.R_drewN | apply Kd.R_drew)); exact HO_3.out) hb); replace HB := kh hb; clear hb hbox hg; obtain ⟨hcz7_0, hcz7_1, hcz7_2, hcz7_3, hfz7_0, hfz7_1, hfz7_2, hfz7_3⟩ := b4 BK329) | ((with_reducible refine gate_builtin (b := .append) (xs := #[.tmp 12, .tmp 15]) rfl ?_); at_builtin; refine Kd.R_append k53 (w0 := w) w.heap.size rfl (.tmp 12) (.tmp 15) 84 53 (.agg #[(.int .i64 0), (.int .i64 0)]) 16 rfl Try.underlying84 info53 rfl (by decide) (by omega) u3 x3_1 (⟨(rd_T73 l0 x8_1).f0.f0, (rd_T73 l0 x8_1).f0.f1⟩ : S53) [.int .i64 ((rd_T73 l0 x8_1).f0.f0), .int .i64 ((rd_T73 l0 x8_1).f0.f1)] (fun _ => True) (fun _ => False) rfl (by first | (go_simp; done) | (go_simp; rfl)) ?aP (fun _ hk => hk.elim) ?aF ?aO ?aB ?aS ?aL ?_; (case aP => exact k53_mkM _ _ _ (⟨(rd_T73 l0 x8_1).f0.f0, (rd_T73 l0 x8_1).f0.f1⟩ : S53)); (case aB => exact bl); (case aF => exact (fun _ _ => trivial)); (case aO => exact (by (with_reducible repeat (first | apply Kd.R_alloc | apply Kd.R_drewN | apply Kd.R_drew)); exact Kd.R_mono (Kd.R_far (p := ⟨gb329, 3, none⟩) (Kd.R_far (p := ⟨gb329, 2, none⟩) (Kd.R_far (p := ⟨gb329, 1, none⟩) (Kd.R_far (p := ⟨gb329, 0, none⟩) (Kd.R_types HO_3.out BK329.out (by decide)) (fun _ hk => hk.2) (.int .i64 ((rd_T73 l0 x8_1).f0.f0))) (fun _ hk => hk.2) (.int .i64 ((rd_T73 l0 x8_1).f0.f1))) (fun _ hk => hk.2) (.int .i64 ((rd_T73 l0 x8_1).f1.f0))) (fun _ hk => hk.2) (.int .i64 ((rd_T73 l0 x8_1).f1.f1))) (fun _ hk => trivial))); (case aS => exact (below_size bl)); (case aL => have := LMc5.out; omega); intro v331 w8 ho hb hg hat; rw [← Ny330.out] at ho; have HO332 := Aside0.mk (ho); replace BK329 := Aside0.mk (blk_grown (g := gb329) (o := .cells #[.int .i64 ((rd_T73 l0 x8_1).f0.f0), .int .i64 ((rd_T73 l0 x8_1).f0.f1), .int .i64 ((rd_T73 l0 x8_1).f1.f0), .int .i64 ((rd_T73 l0 x8_1).f1.f1)] 73 (0, 0)) (by (with_reducible repeat (first | refine blk_drewN ?_ _ | refine blk_drew ?_ | refine blk_alloc ?_ _)); refine blk_put (cs := #[.int .i64 ((rd_T73 l0 x8_1).f0.f0), .int .i64 ((rd_T73 l0 x8_1).f0.f1), .int .i64 ((rd_T73 l0 x8_1).f1.f0), .int .i64 0]) ?_ 3 _ rfl; (with_reducible repeat (first | refine blk_drewN ?_ _ | refine blk_drew ?_ | refine blk_alloc ?_ _)); refine blk_put (cs := #[.int .i64 ((rd_T73 l0 x8_1).f0.f0), .int .i64 ((rd_T73 l0 x8_1).f0.f1), .int .i64 0, .int .i64 0]) ?_ 2 _ rfl; (with_reducible repeat (first | refine blk_drewN ?_ _ | refine blk_drew ?_ | refine blk_alloc ?_ _)); refine blk_put (cs := #[.int .i64 ((rd_T73 l0 x8_1).f0.f0), .int .i64 0, .int .i64 0, .int .i64 0]) ?_ 1 _ rfl; (with_reducible repeat (first | refine blk_drewN ?_ _ | refine blk_drew ?_ | refine blk_alloc ?_ _)); refine blk_put (cs := #[.int .i64 0, .int .i64 0, .int .i64 0, .int .i64 0]) ?_ 0 _ rfl; (with_reducible repeat (first | refine blk_drewN ?_ _ | refine blk_drew ?_ | refine blk_alloc ?_ _)); exact BK329.out) hg (Kd.R_ne HO_3.out BK329.out (by decide))); replace HB := Aside0.mk (hb); clear HO_3; clear ho hb hg hat))
       go_roundg k1
       case measure => have := HK1.out; omega
       case rel => exact ⟨(y330), (wrap64 (x8_1 + 1)), rs, H', ⟨by have := HK1.out; omega⟩, ⟨by (with_reducible repeat (first | apply Kd.R_alloc | apply Kd.R_drewN | apply Kd.R_drew)); exact HO332.out⟩, ⟨bl⟩⟩
      ·rw [if_neg c5] at H
       exact absurd H (by simp)
     ·rw [if_neg c4] at H
      exact absurd H (by simp)
    ·rw [if_neg c3] at H
     exact absurd H (by simp)
   ·rw [if_neg c2] at H
    have c2b0 : decide (x8_1 < (l0.length : Int)) = false := decide_eq_false c2
    clear c2
    obtain rfl := Option.some.inj H
    go_wp2
    go_ret
    exact ⟨_, rt, by (with_reducible repeat (first | apply Kd.R_alloc | apply Kd.R_drewN | apply Kd.R_drew)); exact HO_3.out, bl⟩

/-! ### slices_IndexFunc__impl_isMap_1: function 125 -/
def slices_IndexFunc__impl_isMap_1.l0 : Nat → List (S73) → Int → Int → Option (Int)
 | 0, _, _, _ => none
 | k + 1, x0, x7, x8 => if x8 < x7 then (if 0 ≤ x8 then (if x8 < (x0.length : Int) then ((impl_isMap_1.f k ((rd_T73 x0 x8).f0.f0) ((rd_T73 x0 x8).f0.f1) ((rd_T73 x0 x8).f1.f0) ((rd_T73 x0 x8).f1.f1)).bind fun t334 => (if t334 = true then (some x8) else (slices_IndexFunc__impl_isMap_1.l0 k x0 x7 (wrap64 (x8 + 1))))) else (none)) else (none)) else (some (-1))
def slices_IndexFunc__impl_isMap_1.f (k : Nat) (l0 : List (S73))  : Option (Int) := slices_IndexFunc__impl_isMap_1.l0 k l0 (l0.length : Int) 0
set_option maxHeartbeats 8000000 in
set_option maxRecDepth 100000 in
theorem slices_IndexFunc__impl_isMap_1.calls (k : Nat) (A0 : Option Addr) (c0 : Nat) (l0 : List (S73))  (r : Int) (w : World) (hr0 : Kd.C k73 w A0 l0.length l0) (hc0 : l0.length ≤ c0) (h : slices_IndexFunc__impl_isMap_1.f k l0 = some r) :
  Calls Try.prog 125 #[.slice A0 l0.length c0, .func (.func 133) #[] #[]] w fun e w' => e = .returned (.int .i64 r) ∧ Below w.heap.size w w' := by
 have hu73 := Try.underlying73
 have HR0 := Aside0.mk hr0
 have HC0 := Aside0.mk hc0
 clear hr0 hc0
 have HB := Aside0.mk (Below.refl w.heap.size w)
 have H : (slices_IndexFunc__impl_isMap_1.l0 k l0 (l0.length : Int) 0) = some r := h
 clear h
 have H' := Aside0.mk H
 clear H
 go_enter Try.func125, Try.ntmps125
 go_wp2
 go_loopg [8] k (fun kq v8 w' => ∃ (x8_1 : Int), v8 = .int .i64 x8_1 ∧ Aside0 (slices_IndexFunc__impl_isMap_1.l0 kq l0 (l0.length : Int) x8_1 = some r) ∧ Aside0 (kq ≤ k) ∧ Aside0 (Below w.heap.size w w'))
 case atStart => exact ⟨(0), rs, H', ⟨Nat.le_refl _⟩, ⟨bl⟩⟩
 case round =>
  clear H'
  try clear p2
  obtain ⟨x8_1, rfl, HA, HK1, HB⟩ := hrel
  cases gk with
  | zero => exact absurd HA.out (by simp [slices_IndexFunc__impl_isMap_1.l0])
  | succ k1 =>
   have H := HA.out
   clear HA
   simp only [slices_IndexFunc__impl_isMap_1.l0] at H
   by_cases c3 : x8_1 < (l0.length : Int)
   ·rw [if_pos c3] at H
    have c3b0 : decide (x8_1 < (l0.length : Int)) = true := decide_eq_true c3
    clear c3
    by_cases c4 : 0 ≤ x8_1
    ·rw [if_pos c4] at H
     have c4b0 : decide (0 ≤ x8_1) = true := decide_eq_true c4
     clear c4
     by_cases c5 : x8_1 < (l0.length : Int)
     ·rw [if_pos c5] at H
      have c5b0 : decide (x8_1 < (l0.length : Int)) = true := decide_eq_true c5
      clear c5
      replace H := Option.bind_eq_some_iff.mp H
      obtain ⟨t334, A60, H⟩ := H
      replace H : (if t334 = true then (some x8_1) else (slices_IndexFunc__impl_isMap_1.l0 k1 l0 (l0.length : Int) (wrap64 (x8_1 + 1)))) = some r := H
      have A6 := Aside0.mk A60
      clear A60
      by_cases c7 : t334 = true
      ·subst c7
       have H1 : (some x8_1) = some r := by rw [if_pos rfl] at H; exact H
       clear H
       have H := H1
       clear H1
       obtain rfl := Option.some.inj H
       have p333 : 0 ≤ (x8_1 : Int) := da
       have q333 : x8_1 < (l0.length : Int) := da
       obtain ⟨ad333, e333, hx333_0, hx333_1, hx333_2, hx333_3⟩ := at_T73 HR0.out x8_1 p333 q333
       cases e333
       replace hx333_0 := (hc HB hx333_0 :)
       replace hx333_1 := (hc HB hx333_1 :)
       replace hx333_2 := (hc HB hx333_2 :)
       replace hx333_3 := (hc HB hx333_3 :)
       replace p333 := eq_true p333
       replace q333 := eq_true q333
       go_wp2_with (first | ((with_reducible refine gate_value (t := 11) rfl ?_); refine goesV_ (t := 11) (f := 133) rfl (some 16) rfl rfl Try.func133 (by kernel_rfl) rfl #[.agg #[.int .i64 ((rd_T73 l0 x8_1).f0.f0), .int .i64 ((rd_T73 l0 x8_1).f0.f1), .int .i64 ((rd_T73 l0 x8_1).f1.f0), .int .i64 ((rd_T73 l0 x8_1).f1.f1)]] rfl (by (try simp only [List.map_toArray, List.map_cons, List.map_nil]); first | done | rfl | (simp only [List.length_drop, List.length_take]; rfl)) ?_; (with_reducible refine (impl_isMap_1.calls k1 ((rd_T73 l0 x8_1).f0.f0) ((rd_T73 l0 x8_1).f0.f1) ((rd_T73 l0 x8_1).f1.f0) ((rd_T73 l0 x8_1).f1.f1) true _ A6.out).mono ?_); rintro e w8 ⟨rfl, hb⟩; refine ⟨_, rfl, ?_⟩; replace HB := kh hb; (try clear hb); (try clear hb2); (try clear hk); (try clear hi)))
       go_ret
       exact ⟨rt, bl⟩
      ·replace c7 := Bool.eq_false_iff.mpr c7
       subst c7
       have H1 : (slices_IndexFunc__impl_isMap_1.l0 k1 l0 (l0.length : Int) (wrap64 (x8_1 + 1))) = some r := by rw [if_neg (show ¬ (false = true) by decide)] at H; exact H
       clear H
       have H := H1
       clear H1
       have H' := Aside0.mk H
       clear H
       have p333 : 0 ≤ (x8_1 : Int) := da
       have q333 : x8_1 < (l0.length : Int) := da
       obtain ⟨ad333, e333, hx333_0, hx333_1, hx333_2, hx333_3⟩ := at_T73 HR0.out x8_1 p333 q333
       cases e333
       replace hx333_0 := (hc HB hx333_0 :)
       replace hx333_1 := (hc HB hx333_1 :)
       replace hx333_2 := (hc HB hx333_2 :)
       replace hx333_3 := (hc HB hx333_3 :)
       replace p333 := eq_true p333
       replace q333 := eq_true q333
       go_wp2_with (first | ((with_reducible refine gate_value (t := 11) rfl ?_); refine goesV_ (t := 11) (f := 133) rfl (some 16) rfl rfl Try.func133 (by kernel_rfl) rfl #[.agg #[.int .i64 ((rd_T73 l0 x8_1).f0.f0), .int .i64 ((rd_T73 l0 x8_1).f0.f1), .int .i64 ((rd_T73 l0 x8_1).f1.f0), .int .i64 ((rd_T73 l0 x8_1).f1.f1)]] rfl (by (try simp only [List.map_toArray, List.map_cons, List.map_nil]); first | done | rfl | (simp only [List.length_drop, List.length_take]; rfl)) ?_; (with_reducible refine (impl_isMap_1.calls k1 ((rd_T73 l0 x8_1).f0.f0) ((rd_T73 l0 x8_1).f0.f1) ((rd_T73 l0 x8_1).f1.f0) ((rd_T73 l0 x8_1).f1.f1) false _ A6.out).mono ?_); rintro e w9 ⟨rfl, hb⟩; refine ⟨_, rfl, ?_⟩; replace HB := kh hb; (try clear hb); (try clear hb2); (try clear hk); (try clear hi)))
       go_roundg k1
       case measure => have := HK1.out; omega
       case rel => exact ⟨(wrap64 (x8_1 + 1)), rs, H', ⟨by have := HK1.out; omega⟩, ⟨bl⟩⟩
     ·rw [if_neg c5] at H
      exact absurd H (by simp)
    ·rw [if_neg c4] at H
     exact absurd H (by simp)
   ·rw [if_neg c3] at H
    have c3b0 : decide (x8_1 < (l0.length : Int)) = false := decide_eq_false c3
    clear c3
    obtain rfl := Option.some.inj H
    go_wp2
    go_ret
    exact ⟨rt, bl⟩

/-! ### slices_ContainsFunc__impl_isMap_1: function 132 -/
def slices_ContainsFunc__impl_isMap_1.f (k : Nat) (l0 : List (S73))  : Option (Bool) := (slices_IndexFunc__impl_isMap_1.f k l0).bind fun t335 => (some (decide (t335 ≥ 0)))
set_option maxHeartbeats 8000000 in
set_option maxRecDepth 100000 in
theorem slices_ContainsFunc__impl_isMap_1.calls (k : Nat) (A0 : Option Addr) (c0 : Nat) (l0 : List (S73))  (r : Bool) (w : World) (hr0 : Kd.C k73 w A0 l0.length l0) (hc0 : l0.length ≤ c0) (h : slices_ContainsFunc__impl_isMap_1.f k l0 = some r) :
  Calls Try.prog 132 #[.slice A0 l0.length c0, .func (.func 133) #[] #[]] w fun e w' => e = .returned (.bool r) ∧ Below w.heap.size w w' := by
 have HR0 := Aside0.mk hr0
 have HC0 := Aside0.mk hc0
 clear hr0 hc0
 have HB := Aside0.mk (Below.refl w.heap.size w)
 have H : ((slices_IndexFunc__impl_isMap_1.f k l0).bind fun t335 => (some (decide (t335 ≥ 0)))) = some r := h
 clear h
 replace H := Option.bind_eq_some_iff.mp H
 obtain ⟨t335, A30, H⟩ := H
 replace H : (some (decide (t335 ≥ 0))) = some r := H
 have A3 := Aside0.mk A30
 clear A30
 obtain rfl := Option.some.inj H
 go_enter Try.func132, Try.ntmps132
 go_wp2_with (first | ((with_reducible refine gate_callee (f := 125) rfl ?_); refine gl 7 Try.func125 #[.slice A0 l0.length c0, .func (.func 133) #[] #[]] ?_; (with_reducible refine (slices_IndexFunc__impl_isMap_1.calls k _ _ l0  t335 _ ?side1 ?side2 A3.out).mono ?_); (case side1 => repeat (first | exact HR0.out | (with_reducible refine Kd.C_alloc ?_ _) | (with_reducible refine Kd.C_drewN ?_ _) | (with_reducible refine Kd.C_drew ?_))); (case side2 => exact HC0.out); rintro e w4 ⟨rfl, hb⟩; refine ⟨_, rfl, ?_⟩; replace HB := kh hb; (try clear hb); (try clear hb2); (try clear hk); (try clear hi)))
 go_ret
 exact ⟨rt, bl⟩

end Go.Proofs.Ytannadjfkaghjaa.PFnExactIsRepelling
