-- Written by this session's program wip/pp (the kit's print tool with additions) 35421559b90ae4d0a3588c463048766b98c2df88dd9212a6774a882060cdf62d
import Derived.Test.YtannadjfkaghjaaPFnExactIsRepellingx0
import Derived.Test.YtannadjfkaghjaaPFnExactIsRepellingx1
import Derived.Test.YtannadjfkaghjaaPFnExactIsRepellingx10
import Derived.Test.YtannadjfkaghjaaPFnExactIsRepellingx11
namespace Go.Proofs.Ytannadjfkaghjaa.PFnExactIsRepelling
open Go.RowKit Go.Proofs.YtannadjfkaghjaaW.PrintWords Go.Proofs.YtannadjfkaghjaaW.PrintLast Go.Proofs.YtannadjfkaghjaaW.PrintMore
attribute [local go_sem] max2_int min2_int max_two min_two max_three min_three max_four min_four   -- for this text's walks alone
set_option linter.unusedVariables false
set_option linter.unusedSimpArgs false

attribute [local go_sem high] eqA53
/-! ### impl_isMap: function 121 -/
def impl_isMap.j0 : Nat → List (S73) → Bool → Option (Bool)
 | 0, _, _ => none
 | k + 1, x0, x10 => if x10 = true then (some false) else (if 0 < (x0.length : Int) then ((impl_zero.f).bind fun bt339 => (if (((rd_T73 x0 0).f0.f0) == bt339.1 && (((rd_T73 x0 0).f0.f1) == bt339.2)) = true then (if 0 ≤ (wrap64 ((x0.length : Int) - 1)) then (if (wrap64 ((x0.length : Int) - 1)) < (x0.length : Int) then ((impl_oneRat.f).bind fun bt342 => (if (((rd_T73 x0 (wrap64 ((x0.length : Int) - 1))).f0.f0) == bt342.1 && (((rd_T73 x0 (wrap64 ((x0.length : Int) - 1))).f0.f1) == bt342.2)) = true then ((impl_xsOf.f k x0).bind fun t344 => ((impl_isRising.f k t344).bind fun t347 => (some t347))) else (some false))) else (none)) else (none)) else (some false))) else (none))
def impl_isMap.f (k : Nat) (l0 : List (S73)) : Option (Bool) := (impl_within.f (l0.length : Int) 2 12).bind fun t336 => (if t336 = true then ((slices_ContainsFunc__impl_isMap_1.f k l0).bind fun t337 => (impl_isMap.j0 k l0 t337)) else (impl_isMap.j0 k l0 true))
def impl_isMap.T3 : Bool × List (List Nat × List Nat) := (true, [([], []), ([0], [0]), ([1], [1]), ([2], [2]), ([], []), ([3, 4], [3, 4]), ([5, 4], [5]), ([6], [6]), ([6], [6]), ([8, 6], [6, 8]), ([9, 6], [6, 9]), ([7, 10, 6], [6, 7, 10]), ([11, 6], [6, 11]), ([12, 6], [6, 12]), ([6, 6], [6]), ([13, 14, 6], [6, 13, 14]), ([6, 15], [6, 15]), ([16, 14], [16]), ([17], [17]), ([18, 17, 17], [17, 18]), ([19, 19, 17], [17, 19]), ([17, 20], [17, 20]), ([21, 20, 0, 1, 2, 3, 4, 5, 6, 7, 8, 9, 10, 11, 12, 13, 14, 15, 16, 17, 18, 19, 20, 21], [21])])
def impl_isMap.B3 : List Nat := [0, 1, 3, 7, 0, 31, 63, 127, 127, 383, 895, 2047, 4095, 8191, 127, 32767, 65535, 131071, 262143, 524287, 1048575, 2097151, 4194303]
theorem impl_isMap.tab3 : rtab .any (opsOf Try.f121 3) = impl_isMap.T3 := by kernel_rfl
theorem impl_isMap.bits3 : waitsOk impl_isMap.T3.2 impl_isMap.B3 = true := by kernel_rfl
set_option maxHeartbeats 8000000 in
set_option maxRecDepth 100000 in
theorem impl_isMap.calls (k : Nat) (A0 : Option Addr) (c0 : Nat) (l0 : List (S73)) (r : Bool) (w : World) (hr0 : Kd.C k73 w A0 l0.length l0) (hc0 : l0.length ≤ c0) (h : impl_isMap.f k l0 = some r) :
  Calls Try.prog 121 #[.slice A0 l0.length c0] w fun e w' => e = .returned (.bool r) ∧ Below w.heap.size w w' := by
 have hu53 := Try.underlying53
 have HR0 := Aside0.mk hr0
 have HC0 := Aside0.mk hc0
 clear hr0 hc0
 have HB := Aside0.mk (Below.refl w.heap.size w)
 have H : ((impl_within.f (l0.length : Int) 2 12).bind fun t336 => (if t336 = true then ((slices_ContainsFunc__impl_isMap_1.f k l0).bind fun t337 => (impl_isMap.j0 k l0 t337)) else (impl_isMap.j0 k l0 true))) = some r := h
 clear h
 have HC2 := Aside0.mk H
 clear H
 go_enter Try.func121, Try.ntmps121
 go_upto_region 1 with (fail)
 go_cut [10] (fun v10 wc => ∃ (kq : Nat) (x10_1 : Bool), v10 = .bool x10_1 ∧ Aside0 (impl_isMap.j0 kq l0 x10_1 = some r) ∧ Aside0 (kq ≤ k) ∧ Aside0 (Below w.heap.size w wc))
 case first =>
  have H := HC2.out
  clear HC2
  replace H := Option.bind_eq_some_iff.mp H
  obtain ⟨t336, A30, H⟩ := H
  replace H : (if t336 = true then ((slices_ContainsFunc__impl_isMap_1.f k l0).bind fun t337 => (impl_isMap.j0 k l0 t337)) else (impl_isMap.j0 k l0 true)) = some r := H
  have A3 := Aside0.mk A30
  clear A30
  by_cases c4 : t336 = true
  ·subst c4
   have H1 : ((slices_ContainsFunc__impl_isMap_1.f k l0).bind fun t337 => (impl_isMap.j0 k l0 t337)) = some r := by rw [if_pos rfl] at H; exact H
   clear H
   have H := H1
   clear H1
   replace H := Option.bind_eq_some_iff.mp H
   obtain ⟨t337, A50, H⟩ := H
   replace H : (impl_isMap.j0 k l0 t337) = some r := H
   have A5 := Aside0.mk A50
   clear A50
   have H' := Aside0.mk H
   clear H
   go_wp2_with (first | ((with_reducible refine gate_callee (f := 70) rfl ?_); refine gl 5 Try.func70 #[.int .i64 (l0.length : Int), .int .i64 2, .int .i64 12] ?_; (with_reducible refine (impl_within.calls (l0.length : Int) 2 12 true _ A3.out).mono ?_); rintro e w' ⟨rfl, ⟨nd, rfl⟩⟩; refine ⟨_, rfl, ?_⟩) | (go_at_call 132; (with_reducible refine (slices_ContainsFunc__impl_isMap_1.calls k _ _ l0  t337 _ ?side1 ?side2 A5.out).mono ?_); (case side1 => repeat (first | exact (Kd.C_below HR0.out bl) | (with_reducible refine Kd.C_alloc ?_ _) | (with_reducible refine Kd.C_drewN ?_ _) | (with_reducible refine Kd.C_drew ?_))); (case side2 => exact HC0.out); rintro e w6 ⟨rfl, hb⟩; replace HB := kh hb; (try clear hb); (try clear hb2); (try clear hk); (try clear hi)))
   go_meet
   case rel => exact ⟨_, (t337), rs, H', ⟨by first | omega | exact Nat.le_refl _⟩, ⟨bl⟩⟩
  ·replace c4 := Bool.eq_false_iff.mpr c4
   subst c4
   have H1 : (impl_isMap.j0 k l0 true) = some r := by rw [if_neg (show ¬ (false = true) by decide)] at H; exact H
   clear H
   have H := H1
   clear H1
   have H' := Aside0.mk H
   clear H
   go_wp2_with (first | ((with_reducible refine gate_callee (f := 70) rfl ?_); refine gl 5 Try.func70 #[.int .i64 (l0.length : Int), .int .i64 2, .int .i64 12] ?_; (with_reducible refine (impl_within.calls (l0.length : Int) 2 12 false _ A3.out).mono ?_); rintro e w' ⟨rfl, ⟨nd, rfl⟩⟩; refine ⟨_, rfl, ?_⟩))
   go_meet
   case rel => exact ⟨_, (true), rs, H', ⟨by first | omega | exact Nat.le_refl _⟩, ⟨bl⟩⟩
 case rest =>
  clear HC2
  try clear c1
  try clear p2
  try clear c4
  obtain ⟨kq, x10_1, rfl, HA, HJ1, HB⟩ := hcut
  cases kq with
  | zero => exact absurd HA.out (by simp [impl_isMap.j0])
  | succ kj1 =>
   have H := HA.out
   clear HA
   simp only [impl_isMap.j0] at H
   by_cases c7 : x10_1 = true
   ·subst c7
    have H1 : (some false) = some r := by rw [if_pos rfl] at H; exact H
    clear H
    have H := H1
    clear H1
    obtain rfl := Option.some.inj H
    go_wp2
    go_ret
    exact ⟨rt, bl⟩
   ·replace c7 := Bool.eq_false_iff.mpr c7
    subst c7
    have H1 : (if 0 < (l0.length : Int) then ((impl_zero.f).bind fun bt339 => (if (((rd_T73 l0 0).f0.f0) == bt339.1 && (((rd_T73 l0 0).f0.f1) == bt339.2)) = true then (if 0 ≤ (wrap64 ((l0.length : Int) - 1)) then (if (wrap64 ((l0.length : Int) - 1)) < (l0.length : Int) then ((impl_oneRat.f).bind fun bt342 => (if (((rd_T73 l0 (wrap64 ((l0.length : Int) - 1))).f0.f0) == bt342.1 && (((rd_T73 l0 (wrap64 ((l0.length : Int) - 1))).f0.f1) == bt342.2)) = true then ((impl_xsOf.f kj1 l0).bind fun t344 => ((impl_isRising.f kj1 t344).bind fun t347 => (some t347))) else (some false))) else (none)) else (none)) else (some false))) else (none)) = some r := by rw [if_neg (show ¬ (false = true) by decide)] at H; exact H
    clear H
    have H := H1
    clear H1
    by_cases c8 : 0 < (l0.length : Int)
    ·rw [if_pos c8] at H
     have c8b0 : decide (0 < (l0.length : Int)) = true := decide_eq_true c8
     have c8b1 : decide (0 < l0.length) = true := decide_eq_true (by omega)
     clear c8
     replace H := Option.bind_eq_some_iff.mp H
     obtain ⟨⟨t339, t340⟩, A90, H⟩ := H
     replace H : (if (((rd_T73 l0 0).f0.f0) == t339 && (((rd_T73 l0 0).f0.f1) == t340)) = true then (if 0 ≤ (wrap64 ((l0.length : Int) - 1)) then (if (wrap64 ((l0.length : Int) - 1)) < (l0.length : Int) then ((impl_oneRat.f).bind fun bt342 => (if (((rd_T73 l0 (wrap64 ((l0.length : Int) - 1))).f0.f0) == bt342.1 && (((rd_T73 l0 (wrap64 ((l0.length : Int) - 1))).f0.f1) == bt342.2)) = true then ((impl_xsOf.f kj1 l0).bind fun t344 => ((impl_isRising.f kj1 t344).bind fun t347 => (some t347))) else (some false))) else (none)) else (none)) else (some false)) = some r := H
     have A9 := Aside0.mk A90
     clear A90
     by_cases c10 : (((rd_T73 l0 0).f0.f0) == t339 && (((rd_T73 l0 0).f0.f1) == t340)) = true
     ·rw [if_pos c10] at H
      have c10b0 : (((rd_T73 l0 0).f0.f0) == t339 && (((rd_T73 l0 0).f0.f1) == t340)) = true := c10
      (try (have c10b1 : decide (((rd_T73 l0 0).f0.f0) = t339 && (((rd_T73 l0 0).f0.f1) == t340)) = true := by simpa using c10))
      (try (have c10b2 : (((rd_T73 l0 0).f0.f0) == t339 && (((rd_T73 l0 0).f0.f1) == t340)) = true := by simpa using c10))
      clear c10
      obtain ⟨ji11, hji11⟩ : ∃ j_ : Int, (wrap64 ((l0.length : Int) - 1)) = j_ := ⟨_, rfl⟩
      replace H : (if 0 ≤ (ji11) then (if (ji11) < (l0.length : Int) then ((impl_oneRat.f).bind fun bt342 => (if (((rd_T73 l0 (ji11)).f0.f0) == bt342.1 && (((rd_T73 l0 (ji11)).f0.f1) == bt342.2)) = true then ((impl_xsOf.f kj1 l0).bind fun t344 => ((impl_isRising.f kj1 t344).bind fun t347 => (some t347))) else (some false))) else (none)) else (none)) = some r := by first | (rw [hji11] at H; exact H) | (simp only [hji11] at H ⊢; exact H)
      (try rw [hji11] at A9)
      have hji11w : (IntKind.i64.wrap ((l0.length : Int) - 1)) = ji11 := (i64_w _).trans hji11
      by_cases c12 : 0 ≤ (ji11)
      ·rw [if_pos c12] at H
       have c12b0 : decide (0 ≤ (ji11)) = true := decide_eq_true c12
       clear c12
       by_cases c13 : (ji11) < (l0.length : Int)
       ·rw [if_pos c13] at H
        have c13b0 : decide ((ji11) < (l0.length : Int)) = true := decide_eq_true c13
        clear c13
        replace H := Option.bind_eq_some_iff.mp H
        obtain ⟨⟨t342, t343⟩, A140, H⟩ := H
        replace H : (if (((rd_T73 l0 (ji11)).f0.f0) == t342 && (((rd_T73 l0 (ji11)).f0.f1) == t343)) = true then ((impl_xsOf.f kj1 l0).bind fun t344 => ((impl_isRising.f kj1 t344).bind fun t347 => (some t347))) else (some false)) = some r := H
        have A14 := Aside0.mk A140
        clear A140
        by_cases c15 : (((rd_T73 l0 (ji11)).f0.f0) == t342 && (((rd_T73 l0 (ji11)).f0.f1) == t343)) = true
        ·rw [if_pos c15] at H
         have c15b0 : (((rd_T73 l0 (ji11)).f0.f0) == t342 && (((rd_T73 l0 (ji11)).f0.f1) == t343)) = true := c15
         (try (have c15b1 : decide (((rd_T73 l0 (ji11)).f0.f0) = t342 && (((rd_T73 l0 (ji11)).f0.f1) == t343)) = true := by simpa using c15))
         (try (have c15b2 : (((rd_T73 l0 (ji11)).f0.f0) == t342 && (((rd_T73 l0 (ji11)).f0.f1) == t343)) = true := by simpa using c15))
         clear c15
         replace H := Option.bind_eq_some_iff.mp H
         obtain ⟨t344, A160, H⟩ := H
         replace H : ((impl_isRising.f kj1 t344).bind fun t347 => (some t347)) = some r := H
         have A16 := Aside0.mk A160
         clear A160
         replace H := Option.bind_eq_some_iff.mp H
         obtain ⟨t347, A170, H⟩ := H
         replace H : (some t347) = some r := H
         have A17 := Aside0.mk A170
         clear A170
         obtain rfl := Option.some.inj H
         try go_wp2
         replace HB := Aside0.mk (below_drew1 HB.out)
         have p338 : 0 ≤ (0 : Int) := (by omega)
         have q338 : 0 < (l0.length : Int) := da
         obtain ⟨ad338, e338, hx338_0, hx338_1, hx338_2, hx338_3⟩ := at_T73 HR0.out 0 p338 q338
         have hw338_3 := hx338_3
         (try rw [show ((0 : Int)).toNat = 0 from rfl] at hw338_3)
         (try rw [show 0 * 4 = 0 from rfl] at hw338_3)
         (try rw [Addr.add_zero'] at hw338_3)
         have hw338_2 := hx338_2
         (try rw [show ((0 : Int)).toNat = 0 from rfl] at hw338_2)
         (try rw [show 0 * 4 = 0 from rfl] at hw338_2)
         (try rw [Addr.add_zero'] at hw338_2)
         have hw338_1 := hx338_1
         (try rw [show ((0 : Int)).toNat = 0 from rfl] at hw338_1)
         (try rw [show 0 * 4 = 0 from rfl] at hw338_1)
         (try rw [Addr.add_zero'] at hw338_1)
         have hw338_0 := hx338_0
         (try rw [show ((0 : Int)).toNat = 0 from rfl] at hw338_0)
         (try rw [show 0 * 4 = 0 from rfl] at hw338_0)
         (try rw [Addr.add_zero'] at hw338_0)
         cases e338
         have qi338 : (0 < l0.length) = True := eq_true (by omega)
         (try rw [show ((0 : Int)).toNat = 0 from rfl] at hx338_0)
         (try rw [show 0 * 4 = 0 from rfl] at hx338_0)
         (try rw [Addr.add_zero'] at hx338_0)
         (try rw [show ((0 : Int)).toNat = 0 from rfl] at hx338_1)
         (try rw [show 0 * 4 = 0 from rfl] at hx338_1)
         (try rw [Addr.add_zero'] at hx338_1)
         (try rw [show ((0 : Int)).toNat = 0 from rfl] at hx338_2)
         (try rw [show 0 * 4 = 0 from rfl] at hx338_2)
         (try rw [Addr.add_zero'] at hx338_2)
         (try rw [show ((0 : Int)).toNat = 0 from rfl] at hx338_3)
         (try rw [show 0 * 4 = 0 from rfl] at hx338_3)
         (try rw [Addr.add_zero'] at hx338_3)
         replace hx338_0 := (hc HB hx338_0 :)
         replace hx338_1 := (hc HB hx338_1 :)
         replace hx338_2 := (hc HB hx338_2 :)
         replace hx338_3 := (hc HB hx338_3 :)
         replace p338 := eq_true p338
         replace q338 := eq_true q338
         have p341 : 0 ≤ ((ji11) : Int) := da
         have q341 : (ji11) < (l0.length : Int) := da
         obtain ⟨ad341, e341, hx341_0, hx341_1, hx341_2, hx341_3⟩ := at_T73 HR0.out (ji11) p341 q341
         have hw341_3 := hx341_3
         have hw341_2 := hx341_2
         have hw341_1 := hx341_1
         have hw341_0 := hx341_0
         obtain rfl : ad338 = ad341 := (by injection e341)
         replace hx341_0 := (hc HB hx341_0 :)
         replace hx341_1 := (hc HB hx341_1 :)
         replace hx341_2 := (hc HB hx341_2 :)
         replace hx341_3 := (hc HB hx341_3 :)
         replace p341 := eq_true p341
         replace q341 := eq_true q341
         refine start_ (n := 23) (S := fun w' => w'.cell? ad338 = some (.int .i64 ((rd_T73 l0 0).f0.f0)) ∧ w'.cell? ⟨ad338.block, ad338.off + 1, none⟩ = some (.int .i64 ((rd_T73 l0 0).f0.f1)) ∧ w'.cell? ⟨ad338.block, ad338.off + 2, none⟩ = some (.int .i64 ((rd_T73 l0 0).f1.f0)) ∧ w'.cell? ⟨ad338.block, ad338.off + 3, none⟩ = some (.int .i64 ((rd_T73 l0 0).f1.f1)) ∧ w'.cell? (ad338.add (((ji11)).toNat * 4)) = some (.int .i64 ((rd_T73 l0 (ji11)).f0.f0)) ∧ w'.cell? ⟨(ad338.add (((ji11)).toNat * 4)).block, (ad338.add (((ji11)).toNat * 4)).off + 1, none⟩ = some (.int .i64 ((rd_T73 l0 (ji11)).f0.f1)) ∧ w'.cell? ⟨(ad338.add (((ji11)).toNat * 4)).block, (ad338.add (((ji11)).toNat * 4)).off + 2, none⟩ = some (.int .i64 ((rd_T73 l0 (ji11)).f1.f0)) ∧ w'.cell? ⟨(ad338.add (((ji11)).toNat * 4)).block, (ad338.add (((ji11)).toNat * 4)).off + 3, none⟩ = some (.int .i64 ((rd_T73 l0 (ji11)).f1.f1))) (ds := []) (tb 0 23) (by kernel_rfl) rfl rfl ⟨(hc HB hw338_0 :), (hc HB hw338_1 :), (hc HB hw338_2 :), (hc HB hw338_3 :), (hc HB hw341_0 :), (hc HB hw341_1 :), (hc HB hw341_2 :), (hc HB hw341_3 :)⟩ (fun hHeld => ?_); refine with_tabW impl_isMap.tab3 impl_isMap.bits3 (fun HT_ HW_ => ?_)
         generalize wc.drew = w18 at HB hx338_0 hx338_1 hx338_2 hx338_3 hx341_0 hx341_1 hx341_2 hx341_3 hHeld ⊢
         refine pu 0 11 (tb 1 22) ?_
         refine pu 1 12 (tb 2 21) ?_
         refine pu 2 13 (tb 3 20) ?_
         refine tk 3 14 (tb 4 19) (hy := by rintro w' ⟨s0, s1, s2, s3, s4, s5, s6, s7⟩; go_simp; with_reducible rfl) (h := ?_)
         refine on 4 15 (tb 5 18) (fun K hK => ?_)
         refine gs Try.func128 #[] ?_
         with_reducible refine (impl_zero.calls  t339 t340 _ A9.out).mono ?_
         rintro e w19 ⟨rfl, hb⟩
         refine ⟨_, rfl, ?_⟩
         replace HB := kh hb
         (try clear hb)
         (try clear hb2)
         (try clear hk)
         (try clear hi)
         refine hK.out _ _ ⟨(hc HB hw338_0 :), (hc HB hw338_1 :), (hc HB hw338_2 :), (hc HB hw338_3 :), (hc HB hw341_0 :), (hc HB hw341_1 :), (hc HB hw341_2 :), (hc HB hw341_3 :)⟩ (fun hHeld => ?_)
         clear hK K
         refine nm 15 ?_
         refine pu 5 16 (tb 6 17) ?_
         refine pu 6 17 (tb 7 16) ?_
         refine pu 7 18 (tb 8 15) ?_
         refine pu 8 19 (tb 9 14) ?_
         refine pu 9 20 (tb 10 13) ?_
         refine pu 10 21 (tb 11 12) ?_
         refine pu 11 22 (tb 12 11) ?_
         refine pu 12 23 (tb 13 10) ?_
         refine tk 13 24 (tb 14 9) (hy := by rintro w' ⟨s0, s1, s2, s3, s4, s5, s6, s7⟩; go_simp; with_reducible rfl) (h := ?_)
         refine on 14 25 (tb 15 8) (fun K hK => ?_)
         refine gs Try.func101 #[] ?_
         with_reducible refine (impl_oneRat.calls  t342 t343 _ A14.out).mono ?_
         rintro e w20 ⟨rfl, hb⟩
         refine ⟨_, rfl, ?_⟩
         replace HB := kh hb
         (try clear hb)
         (try clear hb2)
         (try clear hk)
         (try clear hi)
         refine hK.out _ _ ⟨(hc HB hw338_0 :), (hc HB hw338_1 :), (hc HB hw338_2 :), (hc HB hw338_3 :), (hc HB hw341_0 :), (hc HB hw341_1 :), (hc HB hw341_2 :), (hc HB hw341_3 :)⟩ (fun hHeld => ?_)
         clear hK K
         refine nm 25 ?_
         refine pu 15 26 (tb 16 7) ?_
         refine pu 16 27 (tb 17 6) ?_
         refine pu 17 28 (tb 18 5) ?_
         refine pu 18 29 (tb 19 4) ?_
         refine on 19 30 (tb 20 3) (fun K hK => ?_)
         refine gs Try.func136 #[.slice (some ad338) l0.length c0] ?_
         with_reducible refine (impl_xsOf.calls kj1 _ _ l0 t344 _ ?side1 ?side2 A16.out).mono ?_
         (case side1 => repeat (first | exact (Kd.C_below HR0.out HB.out) | (with_reducible refine Kd.C_alloc ?_ _) | (with_reducible refine Kd.C_drewN ?_ _) | (with_reducible refine Kd.C_drew ?_)))
         (case side2 => exact HC0.out)
         rintro e w21 ⟨v345, rfl, ho0, hb⟩
         refine ⟨_, rfl, ?_⟩
         have HO346 := Aside0.mk (Kd.R_lower ho0 (below_size bl))
         replace HB := kh hb
         (try clear hb)
         (try clear hb2)
         (try clear hk)
         (try clear hi)
         (try clear ho0)
         obtain ⟨Ao22, co22, eo22⟩ := Kd.R_slice HO346.out
         (first | subst eo22 | (injection eo22 with f1_ f2_ f3_; have f4_ := f1_.symm; have f5_ := f3_.symm; clear f1_ f2_ f3_; subst f4_; subst f5_))
         refine hK.out _ _ ⟨(hc HB hw338_0 :), (hc HB hw338_1 :), (hc HB hw338_2 :), (hc HB hw338_3 :), (hc HB hw341_0 :), (hc HB hw341_1 :), (hc HB hw341_2 :), (hc HB hw341_3 :)⟩ (fun hHeld => ?_)
         clear hK K
         refine nm 30 ?_
         refine on 20 31 (tb 21 2) (fun K hK => ?_)
         refine gs Try.func135 #[.slice Ao22 t344.length co22] ?_
         with_reducible refine (impl_isRising.calls kj1 _ _ t344 t347 _ ?side1 ?side2 A17.out).mono ?_
         (case side1 => repeat (first | exact (Kd.R_reads' HO346.out).2.2 | (with_reducible refine Kd.C_alloc ?_ _) | (with_reducible refine Kd.C_drewN ?_ _) | (with_reducible refine Kd.C_drew ?_)))
         (case side2 => exact (Kd.R_reads' HO346.out).2.1)
         rintro e w23 ⟨rfl, hb⟩
         refine ⟨_, rfl, ?_⟩
         replace HO346 := Aside0.mk (Kd.R_below (by (with_reducible repeat (first | apply Kd.R_alloc | apply Kd.R_drewN | apply Kd.R_drew)); exact HO346.out) hb)
         replace HB := kh hb
         (try clear hb)
         (try clear hb2)
         (try clear hk)
         (try clear hi)
         refine hK.out _ _ ⟨(hc HB hw338_0 :), (hc HB hw338_1 :), (hc HB hw338_2 :), (hc HB hw338_3 :), (hc HB hw341_0 :), (hc HB hw341_1 :), (hc HB hw341_2 :), (hc HB hw341_3 :)⟩ (fun hHeld => ?_)
         clear hK K
         refine nm 31 ?_
         refine pu 21 32 (tb 22 1) ?_
         refine pu 22 2 (tb 23 0) ?_
         refine done_ (done_of HT_.out (by kernel_rfl)) ?_
         try go_wp2
         go_ret
         exact ⟨by first | rfl | (simp [errW_none, errW_some] <;> rfl) | (simp only [← hji11]; first | rfl | (simp [errW_none, errW_some] <;> rfl)) | (simp [*, errW_none, errW_some] <;> rfl), bl⟩
        ·rw [if_neg c15] at H
         have c15b0 : (((rd_T73 l0 (ji11)).f0.f0) == t342 && (((rd_T73 l0 (ji11)).f0.f1) == t343)) = false := by simpa using c15
         (try (have c15b1 : decide (((rd_T73 l0 (ji11)).f0.f0) = t342 && (((rd_T73 l0 (ji11)).f0.f1) == t343)) = false := by simpa using c15))
         (try (have c15b2 : (((rd_T73 l0 (ji11)).f0.f0) == t342 && (((rd_T73 l0 (ji11)).f0.f1) == t343)) = false := by simpa using c15))
         (try (have c15b3 : ¬ (((rd_T73 l0 (ji11)).f0.f0) = t342 && (((rd_T73 l0 (ji11)).f0.f1) == t343)) := by simpa using c15))
         clear c15
         obtain rfl := Option.some.inj H
         try go_wp2
         replace HB := Aside0.mk (below_drew1 HB.out)
         have p338 : 0 ≤ (0 : Int) := (by omega)
         have q338 : 0 < (l0.length : Int) := da
         obtain ⟨ad338, e338, hx338_0, hx338_1, hx338_2, hx338_3⟩ := at_T73 HR0.out 0 p338 q338
         have hw338_3 := hx338_3
         (try rw [show ((0 : Int)).toNat = 0 from rfl] at hw338_3)
         (try rw [show 0 * 4 = 0 from rfl] at hw338_3)
         (try rw [Addr.add_zero'] at hw338_3)
         have hw338_2 := hx338_2
         (try rw [show ((0 : Int)).toNat = 0 from rfl] at hw338_2)
         (try rw [show 0 * 4 = 0 from rfl] at hw338_2)
         (try rw [Addr.add_zero'] at hw338_2)
         have hw338_1 := hx338_1
         (try rw [show ((0 : Int)).toNat = 0 from rfl] at hw338_1)
         (try rw [show 0 * 4 = 0 from rfl] at hw338_1)
         (try rw [Addr.add_zero'] at hw338_1)
         have hw338_0 := hx338_0
         (try rw [show ((0 : Int)).toNat = 0 from rfl] at hw338_0)
         (try rw [show 0 * 4 = 0 from rfl] at hw338_0)
         (try rw [Addr.add_zero'] at hw338_0)
         cases e338
         have qi338 : (0 < l0.length) = True := eq_true (by omega)
         (try rw [show ((0 : Int)).toNat = 0 from rfl] at hx338_0)
         (try rw [show 0 * 4 = 0 from rfl] at hx338_0)
         (try rw [Addr.add_zero'] at hx338_0)
         (try rw [show ((0 : Int)).toNat = 0 from rfl] at hx338_1)
         (try rw [show 0 * 4 = 0 from rfl] at hx338_1)
         (try rw [Addr.add_zero'] at hx338_1)
         (try rw [show ((0 : Int)).toNat = 0 from rfl] at hx338_2)
         (try rw [show 0 * 4 = 0 from rfl] at hx338_2)
         (try rw [Addr.add_zero'] at hx338_2)
         (try rw [show ((0 : Int)).toNat = 0 from rfl] at hx338_3)
         (try rw [show 0 * 4 = 0 from rfl] at hx338_3)
         (try rw [Addr.add_zero'] at hx338_3)
         replace hx338_0 := (hc HB hx338_0 :)
         replace hx338_1 := (hc HB hx338_1 :)
         replace hx338_2 := (hc HB hx338_2 :)
         replace hx338_3 := (hc HB hx338_3 :)
         replace p338 := eq_true p338
         replace q338 := eq_true q338
         have p341 : 0 ≤ ((ji11) : Int) := da
         have q341 : (ji11) < (l0.length : Int) := da
         obtain ⟨ad341, e341, hx341_0, hx341_1, hx341_2, hx341_3⟩ := at_T73 HR0.out (ji11) p341 q341
         have hw341_3 := hx341_3
         have hw341_2 := hx341_2
         have hw341_1 := hx341_1
         have hw341_0 := hx341_0
         obtain rfl : ad338 = ad341 := (by injection e341)
         replace hx341_0 := (hc HB hx341_0 :)
         replace hx341_1 := (hc HB hx341_1 :)
         replace hx341_2 := (hc HB hx341_2 :)
         replace hx341_3 := (hc HB hx341_3 :)
         replace p341 := eq_true p341
         replace q341 := eq_true q341
         refine start_ (n := 23) (S := fun w' => w'.cell? ad338 = some (.int .i64 ((rd_T73 l0 0).f0.f0)) ∧ w'.cell? ⟨ad338.block, ad338.off + 1, none⟩ = some (.int .i64 ((rd_T73 l0 0).f0.f1)) ∧ w'.cell? ⟨ad338.block, ad338.off + 2, none⟩ = some (.int .i64 ((rd_T73 l0 0).f1.f0)) ∧ w'.cell? ⟨ad338.block, ad338.off + 3, none⟩ = some (.int .i64 ((rd_T73 l0 0).f1.f1)) ∧ w'.cell? (ad338.add (((ji11)).toNat * 4)) = some (.int .i64 ((rd_T73 l0 (ji11)).f0.f0)) ∧ w'.cell? ⟨(ad338.add (((ji11)).toNat * 4)).block, (ad338.add (((ji11)).toNat * 4)).off + 1, none⟩ = some (.int .i64 ((rd_T73 l0 (ji11)).f0.f1)) ∧ w'.cell? ⟨(ad338.add (((ji11)).toNat * 4)).block, (ad338.add (((ji11)).toNat * 4)).off + 2, none⟩ = some (.int .i64 ((rd_T73 l0 (ji11)).f1.f0)) ∧ w'.cell? ⟨(ad338.add (((ji11)).toNat * 4)).block, (ad338.add (((ji11)).toNat * 4)).off + 3, none⟩ = some (.int .i64 ((rd_T73 l0 (ji11)).f1.f1))) (ds := []) (tb 0 23) (by kernel_rfl) rfl rfl ⟨(hc HB hw338_0 :), (hc HB hw338_1 :), (hc HB hw338_2 :), (hc HB hw338_3 :), (hc HB hw341_0 :), (hc HB hw341_1 :), (hc HB hw341_2 :), (hc HB hw341_3 :)⟩ (fun hHeld => ?_); refine with_tabW impl_isMap.tab3 impl_isMap.bits3 (fun HT_ HW_ => ?_)
         generalize wc.drew = w24 at HB hx338_0 hx338_1 hx338_2 hx338_3 hx341_0 hx341_1 hx341_2 hx341_3 hHeld ⊢
         refine pu 0 11 (tb 1 22) ?_
         refine pu 1 12 (tb 2 21) ?_
         refine pu 2 13 (tb 3 20) ?_
         refine tk 3 14 (tb 4 19) (hy := by rintro w' ⟨s0, s1, s2, s3, s4, s5, s6, s7⟩; go_simp; with_reducible rfl) (h := ?_)
         refine on 4 15 (tb 5 18) (fun K hK => ?_)
         refine gs Try.func128 #[] ?_
         with_reducible refine (impl_zero.calls  t339 t340 _ A9.out).mono ?_
         rintro e w25 ⟨rfl, hb⟩
         refine ⟨_, rfl, ?_⟩
         replace HB := kh hb
         (try clear hb)
         (try clear hb2)
         (try clear hk)
         (try clear hi)
         refine hK.out _ _ ⟨(hc HB hw338_0 :), (hc HB hw338_1 :), (hc HB hw338_2 :), (hc HB hw338_3 :), (hc HB hw341_0 :), (hc HB hw341_1 :), (hc HB hw341_2 :), (hc HB hw341_3 :)⟩ (fun hHeld => ?_)
         clear hK K
         refine nm 15 ?_
         refine pu 5 16 (tb 6 17) ?_
         refine pu 6 17 (tb 7 16) ?_
         refine pu 7 18 (tb 8 15) ?_
         refine pu 8 19 (tb 9 14) ?_
         refine pu 9 20 (tb 10 13) ?_
         refine pu 10 21 (tb 11 12) ?_
         refine pu 11 22 (tb 12 11) ?_
         refine pu 12 23 (tb 13 10) ?_
         refine tk 13 24 (tb 14 9) (hy := by rintro w' ⟨s0, s1, s2, s3, s4, s5, s6, s7⟩; go_simp; with_reducible rfl) (h := ?_)
         refine on 14 25 (tb 15 8) (fun K hK => ?_)
         refine gs Try.func101 #[] ?_
         with_reducible refine (impl_oneRat.calls  t342 t343 _ A14.out).mono ?_
         rintro e w26 ⟨rfl, hb⟩
         refine ⟨_, rfl, ?_⟩
         replace HB := kh hb
         (try clear hb)
         (try clear hb2)
         (try clear hk)
         (try clear hi)
         refine hK.out _ _ ⟨(hc HB hw338_0 :), (hc HB hw338_1 :), (hc HB hw338_2 :), (hc HB hw338_3 :), (hc HB hw341_0 :), (hc HB hw341_1 :), (hc HB hw341_2 :), (hc HB hw341_3 :)⟩ (fun hHeld => ?_)
         clear hK K
         refine nm 25 ?_
         refine pu 15 26 (tb 16 7) ?_
         refine pu 16 27 (tb 17 6) ?_
         refine pu 17 28 (tb 18 5) ?_
         refine sk 18 29 (tb 19 4) ?_
         refine sk 19 30 (tb 20 3) ?_
         refine sk 20 31 (tb 21 2) ?_
         refine pu 21 32 (tb 22 1) ?_
         refine pu 22 2 (tb 23 0) ?_
         refine done_ (done_of HT_.out (by kernel_rfl)) ?_
         try go_wp2
         go_ret
         exact ⟨by first | rfl | (simp [errW_none, errW_some] <;> rfl) | (simp only [← hji11]; first | rfl | (simp [errW_none, errW_some] <;> rfl)) | (simp [*, errW_none, errW_some] <;> rfl), bl⟩
       ·rw [if_neg c13] at H
        exact absurd H (by simp)
      ·rw [if_neg c12] at H
       exact absurd H (by simp)
     ·rw [if_neg c10] at H
      have c10b0 : (((rd_T73 l0 0).f0.f0) == t339 && (((rd_T73 l0 0).f0.f1) == t340)) = false := by simpa using c10
      (try (have c10b1 : decide (((rd_T73 l0 0).f0.f0) = t339 && (((rd_T73 l0 0).f0.f1) == t340)) = false := by simpa using c10))
      (try (have c10b2 : (((rd_T73 l0 0).f0.f0) == t339 && (((rd_T73 l0 0).f0.f1) == t340)) = false := by simpa using c10))
      (try (have c10b3 : ¬ (((rd_T73 l0 0).f0.f0) = t339 && (((rd_T73 l0 0).f0.f1) == t340)) := by simpa using c10))
      clear c10
      obtain rfl := Option.some.inj H
      try go_wp2
      replace HB := Aside0.mk (below_drew1 HB.out)
      have p338 : 0 ≤ (0 : Int) := (by omega)
      have q338 : 0 < (l0.length : Int) := da
      obtain ⟨ad338, e338, hx338_0, hx338_1, hx338_2, hx338_3⟩ := at_T73 HR0.out 0 p338 q338
      have hw338_3 := hx338_3
      (try rw [show ((0 : Int)).toNat = 0 from rfl] at hw338_3)
      (try rw [show 0 * 4 = 0 from rfl] at hw338_3)
      (try rw [Addr.add_zero'] at hw338_3)
      have hw338_2 := hx338_2
      (try rw [show ((0 : Int)).toNat = 0 from rfl] at hw338_2)
      (try rw [show 0 * 4 = 0 from rfl] at hw338_2)
      (try rw [Addr.add_zero'] at hw338_2)
      have hw338_1 := hx338_1
      (try rw [show ((0 : Int)).toNat = 0 from rfl] at hw338_1)
      (try rw [show 0 * 4 = 0 from rfl] at hw338_1)
      (try rw [Addr.add_zero'] at hw338_1)
      have hw338_0 := hx338_0
      (try rw [show ((0 : Int)).toNat = 0 from rfl] at hw338_0)
      (try rw [show 0 * 4 = 0 from rfl] at hw338_0)
      (try rw [Addr.add_zero'] at hw338_0)
      cases e338
      have qi338 : (0 < l0.length) = True := eq_true (by omega)
      (try rw [show ((0 : Int)).toNat = 0 from rfl] at hx338_0)
      (try rw [show 0 * 4 = 0 from rfl] at hx338_0)
      (try rw [Addr.add_zero'] at hx338_0)
      (try rw [show ((0 : Int)).toNat = 0 from rfl] at hx338_1)
      (try rw [show 0 * 4 = 0 from rfl] at hx338_1)
      (try rw [Addr.add_zero'] at hx338_1)
      (try rw [show ((0 : Int)).toNat = 0 from rfl] at hx338_2)
      (try rw [show 0 * 4 = 0 from rfl] at hx338_2)
      (try rw [Addr.add_zero'] at hx338_2)
      (try rw [show ((0 : Int)).toNat = 0 from rfl] at hx338_3)
      (try rw [show 0 * 4 = 0 from rfl] at hx338_3)
      (try rw [Addr.add_zero'] at hx338_3)
      replace hx338_0 := (hc HB hx338_0 :)
      replace hx338_1 := (hc HB hx338_1 :)
      replace hx338_2 := (hc HB hx338_2 :)
      replace hx338_3 := (hc HB hx338_3 :)
      replace p338 := eq_true p338
      replace q338 := eq_true q338
      refine start_ (n := 23) (S := fun w' => w'.cell? ad338 = some (.int .i64 ((rd_T73 l0 0).f0.f0)) ∧ w'.cell? ⟨ad338.block, ad338.off + 1, none⟩ = some (.int .i64 ((rd_T73 l0 0).f0.f1)) ∧ w'.cell? ⟨ad338.block, ad338.off + 2, none⟩ = some (.int .i64 ((rd_T73 l0 0).f1.f0)) ∧ w'.cell? ⟨ad338.block, ad338.off + 3, none⟩ = some (.int .i64 ((rd_T73 l0 0).f1.f1))) (ds := []) (tb 0 23) (by kernel_rfl) rfl rfl ⟨(hc HB hw338_0 :), (hc HB hw338_1 :), (hc HB hw338_2 :), (hc HB hw338_3 :)⟩ (fun hHeld => ?_); refine with_tabW impl_isMap.tab3 impl_isMap.bits3 (fun HT_ HW_ => ?_)
      generalize wc.drew = w27 at HB hx338_0 hx338_1 hx338_2 hx338_3 hHeld ⊢
      refine pu 0 11 (tb 1 22) ?_
      refine pu 1 12 (tb 2 21) ?_
      refine pu 2 13 (tb 3 20) ?_
      refine tk 3 14 (tb 4 19) (hy := by rintro w' ⟨s0, s1, s2, s3⟩; go_simp; with_reducible rfl) (h := ?_)
      refine on 4 15 (tb 5 18) (fun K hK => ?_)
      refine gs Try.func128 #[] ?_
      with_reducible refine (impl_zero.calls  t339 t340 _ A9.out).mono ?_
      rintro e w28 ⟨rfl, hb⟩
      refine ⟨_, rfl, ?_⟩
      replace HB := kh hb
      (try clear hb)
      (try clear hb2)
      (try clear hk)
      (try clear hi)
      refine hK.out _ _ ⟨(hc HB hw338_0 :), (hc HB hw338_1 :), (hc HB hw338_2 :), (hc HB hw338_3 :)⟩ (fun hHeld => ?_)
      clear hK K
      refine nm 15 ?_
      refine pu 5 16 (tb 6 17) ?_
      refine pu 6 17 (tb 7 16) ?_
      refine sk 7 18 (tb 8 15) ?_
      refine sk 8 19 (tb 9 14) ?_
      refine sk 9 20 (tb 10 13) ?_
      refine sk 10 21 (tb 11 12) ?_
      refine sk 11 22 (tb 12 11) ?_
      refine sk 12 23 (tb 13 10) ?_
      refine sk 13 24 (tb 14 9) ?_
      refine sk 14 25 (tb 15 8) ?_
      refine sk 15 26 (tb 16 7) ?_
      refine pu 16 27 (tb 17 6) ?_
      refine pu 17 28 (tb 18 5) ?_
      refine sk 18 29 (tb 19 4) ?_
      refine sk 19 30 (tb 20 3) ?_
      refine sk 20 31 (tb 21 2) ?_
      refine pu 21 32 (tb 22 1) ?_
      refine pu 22 2 (tb 23 0) ?_
      refine done_ (done_of HT_.out (by kernel_rfl)) ?_
      try go_wp2
      go_ret
      exact ⟨rt, bl⟩
    ·rw [if_neg c8] at H
     exact absurd H (by simp)

end Go.Proofs.Ytannadjfkaghjaa.PFnExactIsRepelling
