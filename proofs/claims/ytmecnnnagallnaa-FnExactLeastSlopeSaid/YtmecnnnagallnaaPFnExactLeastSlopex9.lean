-- Written by this session's program wip/pp (the kit's print tool with additions) 35421559b90ae4d0a3588c463048766b98c2df88dd9212a6774a882060cdf62d
import Derived.Test.YtmecnnnagallnaaPFnExactLeastSlopex0
import Derived.Test.YtmecnnnagallnaaPFnExactLeastSlopex1
import Derived.Test.YtmecnnnagallnaaPFnExactLeastSlopex7
import Derived.Test.YtmecnnnagallnaaPFnExactLeastSlopex8
namespace Go.Proofs.Ytmecnnnagallnaa.PFnExactLeastSlope
open Go.RowKit Go.Proofs.YtmecnnnagallnaaW.PrintWords Go.Proofs.YtmecnnnagallnaaW.PrintLast Go.Proofs.YtmecnnnagallnaaW.PrintMore
attribute [local go_sem] max2_int min2_int max_two min_two max_three min_three max_four min_four   -- for this text's walks alone
set_option linter.unusedVariables false
set_option linter.unusedSimpArgs false

attribute [local go_sem high] eqA28
/-! ### impl_isMap: function 48 -/
def impl_isMap.j0 : Nat → List (S68) → Bool → Option (Bool)
 | 0, _, _ => none
 | k + 1, x0, x10 => if x10 = true then (some false) else (if 0 < (x0.length : Int) then ((impl_zero.f).bind fun bt253 => (if (((rd_T68 x0 0).f0.f0) == bt253.1 && (((rd_T68 x0 0).f0.f1) == bt253.2)) = true then (if 0 ≤ (wrap64 ((x0.length : Int) - 1)) then (if (wrap64 ((x0.length : Int) - 1)) < (x0.length : Int) then ((impl_oneRat.f).bind fun bt256 => (if (((rd_T68 x0 (wrap64 ((x0.length : Int) - 1))).f0.f0) == bt256.1 && (((rd_T68 x0 (wrap64 ((x0.length : Int) - 1))).f0.f1) == bt256.2)) = true then ((impl_xsOf.f k x0).bind fun t258 => ((impl_isRising.f k t258).bind fun t261 => (some t261))) else (some false))) else (none)) else (none)) else (some false))) else (none))
def impl_isMap.f (k : Nat) (l0 : List (S68)) : Option (Bool) := (impl_within.f (l0.length : Int) 2 12).bind fun t250 => (if t250 = true then ((slices_ContainsFunc__impl_isMap_1.f k l0).bind fun t251 => (impl_isMap.j0 k l0 t251)) else (impl_isMap.j0 k l0 true))
def impl_isMap.T3 : Bool × List (List Nat × List Nat) := (true, [([], []), ([0], [0]), ([1], [1]), ([2], [2]), ([], []), ([3, 4], [3, 4]), ([5, 4], [5]), ([6], [6]), ([6], [6]), ([8, 6], [6, 8]), ([9, 6], [6, 9]), ([7, 10, 6], [6, 7, 10]), ([11, 6], [6, 11]), ([12, 6], [6, 12]), ([6, 6], [6]), ([13, 14, 6], [6, 13, 14]), ([6, 15], [6, 15]), ([16, 14], [16]), ([17], [17]), ([18, 17, 17], [17, 18]), ([19, 19, 17], [17, 19]), ([17, 20], [17, 20]), ([21, 20, 0, 1, 2, 3, 4, 5, 6, 7, 8, 9, 10, 11, 12, 13, 14, 15, 16, 17, 18, 19, 20, 21], [21])])
def impl_isMap.B3 : List Nat := [0, 1, 3, 7, 0, 31, 63, 127, 127, 383, 895, 2047, 4095, 8191, 127, 32767, 65535, 131071, 262143, 524287, 1048575, 2097151, 4194303]
theorem impl_isMap.tab3 : rtab .any (opsOf Try.f48 3) = impl_isMap.T3 := by kernel_rfl
theorem impl_isMap.bits3 : waitsOk impl_isMap.T3.2 impl_isMap.B3 = true := by kernel_rfl
set_option maxHeartbeats 8000000 in
set_option maxRecDepth 100000 in
theorem impl_isMap.calls (k : Nat) (A0 : Option Addr) (c0 : Nat) (l0 : List (S68)) (r : Bool) (w : World) (hr0 : Kd.C k68 w A0 l0.length l0) (hc0 : l0.length ≤ c0) (h : impl_isMap.f k l0 = some r) :
  Calls Try.prog 48 #[.slice A0 l0.length c0] w fun e w' => e = .returned (.bool r) ∧ Below w.heap.size w w' := by
 have hu28 := Try.underlying28
 have HR0 := Aside0.mk hr0
 have HC0 := Aside0.mk hc0
 clear hr0 hc0
 have HB := Aside0.mk (Below.refl w.heap.size w)
 have H : ((impl_within.f (l0.length : Int) 2 12).bind fun t250 => (if t250 = true then ((slices_ContainsFunc__impl_isMap_1.f k l0).bind fun t251 => (impl_isMap.j0 k l0 t251)) else (impl_isMap.j0 k l0 true))) = some r := h
 clear h
 have HC2 := Aside0.mk H
 clear H
 go_enter Try.func48, Try.ntmps48
 go_upto_region 1 with (fail)
 go_cut [10] (fun v10 wc => ∃ (kq : Nat) (x10_1 : Bool), v10 = .bool x10_1 ∧ Aside0 (impl_isMap.j0 kq l0 x10_1 = some r) ∧ Aside0 (kq ≤ k) ∧ Aside0 (Below w.heap.size w wc))
 case first =>
  have H := HC2.out
  clear HC2
  replace H := Option.bind_eq_some_iff.mp H
  obtain ⟨t250, A30, H⟩ := H
  replace H : (if t250 = true then ((slices_ContainsFunc__impl_isMap_1.f k l0).bind fun t251 => (impl_isMap.j0 k l0 t251)) else (impl_isMap.j0 k l0 true)) = some r := H
  have A3 := Aside0.mk A30
  clear A30
  by_cases c4 : t250 = true
  ·subst c4
   have H1 : ((slices_ContainsFunc__impl_isMap_1.f k l0).bind fun t251 => (impl_isMap.j0 k l0 t251)) = some r := by rw [if_pos rfl] at H; exact H
   clear H
   have H := H1
   clear H1
   replace H := Option.bind_eq_some_iff.mp H
   obtain ⟨t251, A50, H⟩ := H
   replace H : (impl_isMap.j0 k l0 t251) = some r := H
   have A5 := Aside0.mk A50
   clear A50
   have H' := Aside0.mk H
   clear H
   go_wp2_with (first | ((with_reducible refine gate_callee (f := 72) rfl ?_); refine gl 5 Try.func72 #[.int .i64 (l0.length : Int), .int .i64 2, .int .i64 12] ?_; (with_reducible refine (impl_within.calls (l0.length : Int) 2 12 true _ A3.out).mono ?_); rintro e w' ⟨rfl, ⟨nd, rfl⟩⟩; refine ⟨_, rfl, ?_⟩) | (go_at_call 87; (with_reducible refine (slices_ContainsFunc__impl_isMap_1.calls k _ _ l0  t251 _ ?side1 ?side2 A5.out).mono ?_); (case side1 => repeat (first | exact (Kd.C_below HR0.out bl) | (with_reducible refine Kd.C_alloc ?_ _) | (with_reducible refine Kd.C_drewN ?_ _) | (with_reducible refine Kd.C_drew ?_))); (case side2 => exact HC0.out); rintro e w6 ⟨rfl, hb⟩; replace HB := Aside0.mk (bs hb); (try clear hb); (try clear hb2); (try clear hk); (try clear hi)))
   go_meet
   case rel => exact ⟨_, (t251), (by first | rfl | (simp; done) | (simp [*]; done)), H', ⟨by first | omega | exact Nat.le_refl _⟩, ⟨bl⟩⟩
  ·replace c4 := Bool.eq_false_iff.mpr c4
   subst c4
   have H1 : (impl_isMap.j0 k l0 true) = some r := by rw [if_neg (show ¬ (false = true) by decide)] at H; exact H
   clear H
   have H := H1
   clear H1
   have H' := Aside0.mk H
   clear H
   go_wp2_with (first | ((with_reducible refine gate_callee (f := 72) rfl ?_); refine gl 5 Try.func72 #[.int .i64 (l0.length : Int), .int .i64 2, .int .i64 12] ?_; (with_reducible refine (impl_within.calls (l0.length : Int) 2 12 false _ A3.out).mono ?_); rintro e w' ⟨rfl, ⟨nd, rfl⟩⟩; refine ⟨_, rfl, ?_⟩))
   go_meet
   case rel => exact ⟨_, (true), (by first | rfl | (simp; done) | (simp [*]; done)), H', ⟨by first | omega | exact Nat.le_refl _⟩, ⟨bl⟩⟩
 case rest =>
  clear HC2
  try clear p2
  try clear c4
  obtain ⟨kq, x10_1, rfl, HA, HJ1, HB⟩ := hcut
  cases kq with
  | zero => exact absurd HA.out (by simp [impl_isMap.j0])
  | succ kj1 =>
   have H := HA.out
   clear HA
   simp only [impl_isMap.j0] at H
   by_cases c7 : x10_1 = true
   ·subst c7
    have H1 : (some false) = some r := by rw [if_pos rfl] at H; exact H
    clear H
    have H := H1
    clear H1
    obtain rfl := Option.some.inj H
    go_wp2
    go_ret
    exact ⟨by first | rfl | (simp [errW_none, errW_some] <;> rfl) | (simp [*, errW_none, errW_some] <;> rfl), bl⟩
   ·replace c7 := Bool.eq_false_iff.mpr c7
    subst c7
    have H1 : (if 0 < (l0.length : Int) then ((impl_zero.f).bind fun bt253 => (if (((rd_T68 l0 0).f0.f0) == bt253.1 && (((rd_T68 l0 0).f0.f1) == bt253.2)) = true then (if 0 ≤ (wrap64 ((l0.length : Int) - 1)) then (if (wrap64 ((l0.length : Int) - 1)) < (l0.length : Int) then ((impl_oneRat.f).bind fun bt256 => (if (((rd_T68 l0 (wrap64 ((l0.length : Int) - 1))).f0.f0) == bt256.1 && (((rd_T68 l0 (wrap64 ((l0.length : Int) - 1))).f0.f1) == bt256.2)) = true then ((impl_xsOf.f kj1 l0).bind fun t258 => ((impl_isRising.f kj1 t258).bind fun t261 => (some t261))) else (some false))) else (none)) else (none)) else (some false))) else (none)) = some r := by rw [if_neg (show ¬ (false = true) by decide)] at H; exact H
    clear H
    have H := H1
    clear H1
    by_cases c8 : 0 < (l0.length : Int)
    ·rw [if_pos c8] at H
     have c8b0 : decide (0 < (l0.length : Int)) = true := decide_eq_true c8
     have c8b1 : decide (0 < l0.length) = true := decide_eq_true (by omega)
     clear c8
     replace H := Option.bind_eq_some_iff.mp H
     obtain ⟨⟨t253, t254⟩, A90, H⟩ := H
     replace H : (if (((rd_T68 l0 0).f0.f0) == t253 && (((rd_T68 l0 0).f0.f1) == t254)) = true then (if 0 ≤ (wrap64 ((l0.length : Int) - 1)) then (if (wrap64 ((l0.length : Int) - 1)) < (l0.length : Int) then ((impl_oneRat.f).bind fun bt256 => (if (((rd_T68 l0 (wrap64 ((l0.length : Int) - 1))).f0.f0) == bt256.1 && (((rd_T68 l0 (wrap64 ((l0.length : Int) - 1))).f0.f1) == bt256.2)) = true then ((impl_xsOf.f kj1 l0).bind fun t258 => ((impl_isRising.f kj1 t258).bind fun t261 => (some t261))) else (some false))) else (none)) else (none)) else (some false)) = some r := H
     have A9 := Aside0.mk A90
     clear A90
     by_cases c10 : (((rd_T68 l0 0).f0.f0) == t253 && (((rd_T68 l0 0).f0.f1) == t254)) = true
     ·rw [if_pos c10] at H
      have c10b0 : (((rd_T68 l0 0).f0.f0) == t253 && (((rd_T68 l0 0).f0.f1) == t254)) = true := c10
      (try (have c10b1 : decide (((rd_T68 l0 0).f0.f0) = t253 && (((rd_T68 l0 0).f0.f1) == t254)) = true := by simpa using c10))
      (try (have c10b2 : (((rd_T68 l0 0).f0.f0) == t253 && (((rd_T68 l0 0).f0.f1) == t254)) = true := by simpa using c10))
      clear c10
      obtain ⟨ji11, hji11⟩ : ∃ j_ : Int, (wrap64 ((l0.length : Int) - 1)) = j_ := ⟨_, rfl⟩
      replace H : (if 0 ≤ (ji11) then (if (ji11) < (l0.length : Int) then ((impl_oneRat.f).bind fun bt256 => (if (((rd_T68 l0 (ji11)).f0.f0) == bt256.1 && (((rd_T68 l0 (ji11)).f0.f1) == bt256.2)) = true then ((impl_xsOf.f kj1 l0).bind fun t258 => ((impl_isRising.f kj1 t258).bind fun t261 => (some t261))) else (some false))) else (none)) else (none)) = some r := by first | (rw [hji11] at H; exact H) | (simp only [hji11] at H ⊢; exact H)
      (try rw [hji11] at A9)
      have hji11w : (IntKind.i64.wrap ((l0.length : Int) - 1)) = ji11 := (i64_w _).trans hji11
      by_cases c12 : 0 ≤ (ji11)
      ·rw [if_pos c12] at H
       have c12b0 : decide (0 ≤ (ji11)) = true := decide_eq_true c12
       clear c12
       by_cases c13 : (ji11) < (l0.length : Int)
       ·rw [if_pos c13] at H
        have c13b0 : decide ((ji11) < (l0.length : Int)) = true := decide_eq_true c13
        clear c13
        replace H := Option.bind_eq_some_iff.mp H
        obtain ⟨⟨t256, t257⟩, A140, H⟩ := H
        replace H : (if (((rd_T68 l0 (ji11)).f0.f0) == t256 && (((rd_T68 l0 (ji11)).f0.f1) == t257)) = true then ((impl_xsOf.f kj1 l0).bind fun t258 => ((impl_isRising.f kj1 t258).bind fun t261 => (some t261))) else (some false)) = some r := H
        have A14 := Aside0.mk A140
        clear A140
        by_cases c15 : (((rd_T68 l0 (ji11)).f0.f0) == t256 && (((rd_T68 l0 (ji11)).f0.f1) == t257)) = true
        ·rw [if_pos c15] at H
         have c15b0 : (((rd_T68 l0 (ji11)).f0.f0) == t256 && (((rd_T68 l0 (ji11)).f0.f1) == t257)) = true := c15
         (try (have c15b1 : decide (((rd_T68 l0 (ji11)).f0.f0) = t256 && (((rd_T68 l0 (ji11)).f0.f1) == t257)) = true := by simpa using c15))
         (try (have c15b2 : (((rd_T68 l0 (ji11)).f0.f0) == t256 && (((rd_T68 l0 (ji11)).f0.f1) == t257)) = true := by simpa using c15))
         clear c15
         replace H := Option.bind_eq_some_iff.mp H
         obtain ⟨t258, A160, H⟩ := H
         replace H : ((impl_isRising.f kj1 t258).bind fun t261 => (some t261)) = some r := H
         have A16 := Aside0.mk A160
         clear A160
         replace H := Option.bind_eq_some_iff.mp H
         obtain ⟨t261, A170, H⟩ := H
         replace H : (some t261) = some r := H
         have A17 := Aside0.mk A170
         clear A170
         obtain rfl := Option.some.inj H
         try go_wp2
         replace HB := Aside0.mk (below_drew1 HB.out)
         have p252 : 0 ≤ (0 : Int) := (by omega)
         have q252 : 0 < (l0.length : Int) := da
         obtain ⟨ad252, e252, hx252_0, hx252_1, hx252_2, hx252_3⟩ := at_T68 HR0.out 0 p252 q252
         have hw252_3 := hx252_3
         (try rw [show ((0 : Int)).toNat = 0 from rfl] at hw252_3)
         (try rw [show 0 * 4 = 0 from rfl] at hw252_3)
         (try rw [Addr.add_zero'] at hw252_3)
         have hw252_2 := hx252_2
         (try rw [show ((0 : Int)).toNat = 0 from rfl] at hw252_2)
         (try rw [show 0 * 4 = 0 from rfl] at hw252_2)
         (try rw [Addr.add_zero'] at hw252_2)
         have hw252_1 := hx252_1
         (try rw [show ((0 : Int)).toNat = 0 from rfl] at hw252_1)
         (try rw [show 0 * 4 = 0 from rfl] at hw252_1)
         (try rw [Addr.add_zero'] at hw252_1)
         have hw252_0 := hx252_0
         (try rw [show ((0 : Int)).toNat = 0 from rfl] at hw252_0)
         (try rw [show 0 * 4 = 0 from rfl] at hw252_0)
         (try rw [Addr.add_zero'] at hw252_0)
         cases e252
         have qi252 : (0 < l0.length) = True := eq_true (by omega)
         (try rw [show ((0 : Int)).toNat = 0 from rfl] at hx252_0)
         (try rw [show 0 * 4 = 0 from rfl] at hx252_0)
         (try rw [Addr.add_zero'] at hx252_0)
         (try rw [show ((0 : Int)).toNat = 0 from rfl] at hx252_1)
         (try rw [show 0 * 4 = 0 from rfl] at hx252_1)
         (try rw [Addr.add_zero'] at hx252_1)
         (try rw [show ((0 : Int)).toNat = 0 from rfl] at hx252_2)
         (try rw [show 0 * 4 = 0 from rfl] at hx252_2)
         (try rw [Addr.add_zero'] at hx252_2)
         (try rw [show ((0 : Int)).toNat = 0 from rfl] at hx252_3)
         (try rw [show 0 * 4 = 0 from rfl] at hx252_3)
         (try rw [Addr.add_zero'] at hx252_3)
         replace hx252_0 := (hc HB hx252_0 :)
         replace hx252_1 := (hc HB hx252_1 :)
         replace hx252_2 := (hc HB hx252_2 :)
         replace hx252_3 := (hc HB hx252_3 :)
         replace p252 := eq_true p252
         replace q252 := eq_true q252
         have p255 : 0 ≤ ((ji11) : Int) := da
         have q255 : (ji11) < (l0.length : Int) := da
         obtain ⟨ad255, e255, hx255_0, hx255_1, hx255_2, hx255_3⟩ := at_T68 HR0.out (ji11) p255 q255
         have hw255_3 := hx255_3
         have hw255_2 := hx255_2
         have hw255_1 := hx255_1
         have hw255_0 := hx255_0
         obtain rfl : ad252 = ad255 := (by injection e255)
         replace hx255_0 := (hc HB hx255_0 :)
         replace hx255_1 := (hc HB hx255_1 :)
         replace hx255_2 := (hc HB hx255_2 :)
         replace hx255_3 := (hc HB hx255_3 :)
         replace p255 := eq_true p255
         replace q255 := eq_true q255
         refine start_ (n := 23) (S := fun w' => w'.cell? ad252 = some (.int .i64 ((rd_T68 l0 0).f0.f0)) ∧ w'.cell? ⟨ad252.block, ad252.off + 1, none⟩ = some (.int .i64 ((rd_T68 l0 0).f0.f1)) ∧ w'.cell? ⟨ad252.block, ad252.off + 2, none⟩ = some (.int .i64 ((rd_T68 l0 0).f1.f0)) ∧ w'.cell? ⟨ad252.block, ad252.off + 3, none⟩ = some (.int .i64 ((rd_T68 l0 0).f1.f1)) ∧ w'.cell? (ad252.add (((ji11)).toNat * 4)) = some (.int .i64 ((rd_T68 l0 (ji11)).f0.f0)) ∧ w'.cell? ⟨(ad252.add (((ji11)).toNat * 4)).block, (ad252.add (((ji11)).toNat * 4)).off + 1, none⟩ = some (.int .i64 ((rd_T68 l0 (ji11)).f0.f1)) ∧ w'.cell? ⟨(ad252.add (((ji11)).toNat * 4)).block, (ad252.add (((ji11)).toNat * 4)).off + 2, none⟩ = some (.int .i64 ((rd_T68 l0 (ji11)).f1.f0)) ∧ w'.cell? ⟨(ad252.add (((ji11)).toNat * 4)).block, (ad252.add (((ji11)).toNat * 4)).off + 3, none⟩ = some (.int .i64 ((rd_T68 l0 (ji11)).f1.f1))) (ds := []) (tb 0 23) (by kernel_rfl) rfl rfl ⟨(hc HB hw252_0 :), (hc HB hw252_1 :), (hc HB hw252_2 :), (hc HB hw252_3 :), (hc HB hw255_0 :), (hc HB hw255_1 :), (hc HB hw255_2 :), (hc HB hw255_3 :)⟩ (fun hHeld => ?_); refine with_tabW impl_isMap.tab3 impl_isMap.bits3 (fun HT_ HW_ => ?_)
         generalize wc.drew = w18 at HB hx252_0 hx252_1 hx252_2 hx252_3 hx255_0 hx255_1 hx255_2 hx255_3 hHeld ⊢
         refine pu 0 11 (tb 1 22) ?_
         refine pu 1 12 (tb 2 21) ?_
         refine pu 2 13 (tb 3 20) ?_
         refine tk 3 14 (tb 4 19) (hy := by rintro w' ⟨s0, s1, s2, s3, s4, s5, s6, s7⟩; go_simp; with_reducible rfl) (h := ?_)
         refine on 4 15 (tb 5 18) (fun K hK => ?_)
         refine gs Try.func90 #[] ?_
         with_reducible refine (impl_zero.calls  t253 t254 _ A9.out).mono ?_
         rintro e w19 ⟨rfl, hb⟩
         refine ⟨_, rfl, ?_⟩
         replace HB := Aside0.mk (bs hb)
         (try clear hb)
         (try clear hb2)
         (try clear hk)
         (try clear hi)
         refine hK.out _ _ ⟨(hc HB hw252_0 :), (hc HB hw252_1 :), (hc HB hw252_2 :), (hc HB hw252_3 :), (hc HB hw255_0 :), (hc HB hw255_1 :), (hc HB hw255_2 :), (hc HB hw255_3 :)⟩ (fun hHeld => ?_)
         clear hK K
         refine nm 15 ?_
         refine pu 5 16 (tb 6 17) ?_
         refine pu 6 17 (tb 7 16) ?_
         refine pu 7 18 (tb 8 15) ?_
         refine pu 8 19 (tb 9 14) ?_
         refine pu 9 20 (tb 10 13) ?_
         refine pu 10 21 (tb 11 12) ?_
         refine pu 11 22 (tb 12 11) ?_
         refine pu 12 23 (tb 13 10) ?_
         refine tk 13 24 (tb 14 9) (hy := by rintro w' ⟨s0, s1, s2, s3, s4, s5, s6, s7⟩; go_simp; with_reducible rfl) (h := ?_)
         refine on 14 25 (tb 15 8) (fun K hK => ?_)
         refine gs Try.func91 #[] ?_
         with_reducible refine (impl_oneRat.calls  t256 t257 _ A14.out).mono ?_
         rintro e w20 ⟨rfl, hb⟩
         refine ⟨_, rfl, ?_⟩
         replace HB := Aside0.mk (bs hb)
         (try clear hb)
         (try clear hb2)
         (try clear hk)
         (try clear hi)
         refine hK.out _ _ ⟨(hc HB hw252_0 :), (hc HB hw252_1 :), (hc HB hw252_2 :), (hc HB hw252_3 :), (hc HB hw255_0 :), (hc HB hw255_1 :), (hc HB hw255_2 :), (hc HB hw255_3 :)⟩ (fun hHeld => ?_)
         clear hK K
         refine nm 25 ?_
         refine pu 15 26 (tb 16 7) ?_
         refine pu 16 27 (tb 17 6) ?_
         refine pu 17 28 (tb 18 5) ?_
         refine pu 18 29 (tb 19 4) ?_
         refine on 19 30 (tb 20 3) (fun K hK => ?_)
         refine gs Try.func93 #[.slice (some ad252) l0.length c0] ?_
         with_reducible refine (impl_xsOf.calls kj1 _ _ l0 t258 _ ?side1 ?side2 A16.out).mono ?_
         (case side1 => repeat (first | exact (Kd.C_below HR0.out HB.out) | (with_reducible refine Kd.C_alloc ?_ _) | (with_reducible refine Kd.C_drewN ?_ _) | (with_reducible refine Kd.C_drew ?_)))
         (case side2 => exact HC0.out)
         rintro e w21 ⟨v259, rfl, ho0, hb⟩
         refine ⟨_, rfl, ?_⟩
         have HO260 := Aside0.mk (Kd.R_lower ho0 (below_size bl))
         replace HB := Aside0.mk (bs hb)
         (try clear hb)
         (try clear hb2)
         (try clear hk)
         (try clear hi)
         (try clear ho0)
         obtain ⟨Ao22, co22, eo22⟩ := Kd.R_slice HO260.out
         (first | subst eo22 | (injection eo22 with f1_ f2_ f3_; have f4_ := f1_.symm; have f5_ := f3_.symm; clear f1_ f2_ f3_; subst f4_; subst f5_))
         refine hK.out _ _ ⟨(hc HB hw252_0 :), (hc HB hw252_1 :), (hc HB hw252_2 :), (hc HB hw252_3 :), (hc HB hw255_0 :), (hc HB hw255_1 :), (hc HB hw255_2 :), (hc HB hw255_3 :)⟩ (fun hHeld => ?_)
         clear hK K
         refine nm 30 ?_
         refine on 20 31 (tb 21 2) (fun K hK => ?_)
         refine gs Try.func92 #[.slice Ao22 t258.length co22] ?_
         with_reducible refine (impl_isRising.calls kj1 _ _ t258 t261 _ ?side1 ?side2 A17.out).mono ?_
         (case side1 => repeat (first | exact (Kd.R_reads' HO260.out).2.2 | (with_reducible refine Kd.C_alloc ?_ _) | (with_reducible refine Kd.C_drewN ?_ _) | (with_reducible refine Kd.C_drew ?_)))
         (case side2 => exact (Kd.R_reads' HO260.out).2.1)
         rintro e w23 ⟨rfl, hb⟩
         refine ⟨_, rfl, ?_⟩
         replace HO260 := Aside0.mk (Kd.R_below (by (with_reducible repeat (first | apply Kd.R_alloc | apply Kd.R_drewN | apply Kd.R_drew)); exact HO260.out) hb)
         replace HB := Aside0.mk (bs hb)
         (try clear hb)
         (try clear hb2)
         (try clear hk)
         (try clear hi)
         refine hK.out _ _ ⟨(hc HB hw252_0 :), (hc HB hw252_1 :), (hc HB hw252_2 :), (hc HB hw252_3 :), (hc HB hw255_0 :), (hc HB hw255_1 :), (hc HB hw255_2 :), (hc HB hw255_3 :)⟩ (fun hHeld => ?_)
         clear hK K
         refine nm 31 ?_
         refine pu 21 32 (tb 22 1) ?_
         refine pu 22 2 (tb 23 0) ?_
         refine done_ (done_of HT_.out (by kernel_rfl)) ?_
         try go_wp2
         go_ret
         exact ⟨by first | rfl | (simp [errW_none, errW_some] <;> rfl) | (simp only [← hji11]; first | rfl | (simp [errW_none, errW_some] <;> rfl)) | (simp [*, errW_none, errW_some] <;> rfl), bl⟩
        ·rw [if_neg c15] at H
         have c15b0 : (((rd_T68 l0 (ji11)).f0.f0) == t256 && (((rd_T68 l0 (ji11)).f0.f1) == t257)) = false := by simpa using c15
         (try (have c15b1 : decide (((rd_T68 l0 (ji11)).f0.f0) = t256 && (((rd_T68 l0 (ji11)).f0.f1) == t257)) = false := by simpa using c15))
         (try (have c15b2 : (((rd_T68 l0 (ji11)).f0.f0) == t256 && (((rd_T68 l0 (ji11)).f0.f1) == t257)) = false := by simpa using c15))
         (try (have c15b3 : ¬ (((rd_T68 l0 (ji11)).f0.f0) = t256 && (((rd_T68 l0 (ji11)).f0.f1) == t257)) := by simpa using c15))
         clear c15
         obtain rfl := Option.some.inj H
         try go_wp2
         replace HB := Aside0.mk (below_drew1 HB.out)
         have p252 : 0 ≤ (0 : Int) := (by omega)
         have q252 : 0 < (l0.length : Int) := da
         obtain ⟨ad252, e252, hx252_0, hx252_1, hx252_2, hx252_3⟩ := at_T68 HR0.out 0 p252 q252
         have hw252_3 := hx252_3
         (try rw [show ((0 : Int)).toNat = 0 from rfl] at hw252_3)
         (try rw [show 0 * 4 = 0 from rfl] at hw252_3)
         (try rw [Addr.add_zero'] at hw252_3)
         have hw252_2 := hx252_2
         (try rw [show ((0 : Int)).toNat = 0 from rfl] at hw252_2)
         (try rw [show 0 * 4 = 0 from rfl] at hw252_2)
         (try rw [Addr.add_zero'] at hw252_2)
         have hw252_1 := hx252_1
         (try rw [show ((0 : Int)).toNat = 0 from rfl] at hw252_1)
         (try rw [show 0 * 4 = 0 from rfl] at hw252_1)
         (try rw [Addr.add_zero'] at hw252_1)
         have hw252_0 := hx252_0
         (try rw [show ((0 : Int)).toNat = 0 from rfl] at hw252_0)
         (try rw [show 0 * 4 = 0 from rfl] at hw252_0)
         (try rw [Addr.add_zero'] at hw252_0)
         cases e252
         have qi252 : (0 < l0.length) = True := eq_true (by omega)
         (try rw [show ((0 : Int)).toNat = 0 from rfl] at hx252_0)
         (try rw [show 0 * 4 = 0 from rfl] at hx252_0)
         (try rw [Addr.add_zero'] at hx252_0)
         (try rw [show ((0 : Int)).toNat = 0 from rfl] at hx252_1)
         (try rw [show 0 * 4 = 0 from rfl] at hx252_1)
         (try rw [Addr.add_zero'] at hx252_1)
         (try rw [show ((0 : Int)).toNat = 0 from rfl] at hx252_2)
         (try rw [show 0 * 4 = 0 from rfl] at hx252_2)
         (try rw [Addr.add_zero'] at hx252_2)
         (try rw [show ((0 : Int)).toNat = 0 from rfl] at hx252_3)
         (try rw [show 0 * 4 = 0 from rfl] at hx252_3)
         (try rw [Addr.add_zero'] at hx252_3)
         replace hx252_0 := (hc HB hx252_0 :)
         replace hx252_1 := (hc HB hx252_1 :)
         replace hx252_2 := (hc HB hx252_2 :)
         replace hx252_3 := (hc HB hx252_3 :)
         replace p252 := eq_true p252
         replace q252 := eq_true q252
         have p255 : 0 ≤ ((ji11) : Int) := da
         have q255 : (ji11) < (l0.length : Int) := da
         obtain ⟨ad255, e255, hx255_0, hx255_1, hx255_2, hx255_3⟩ := at_T68 HR0.out (ji11) p255 q255
         have hw255_3 := hx255_3
         have hw255_2 := hx255_2
         have hw255_1 := hx255_1
         have hw255_0 := hx255_0
         obtain rfl : ad252 = ad255 := (by injection e255)
         replace hx255_0 := (hc HB hx255_0 :)
         replace hx255_1 := (hc HB hx255_1 :)
         replace hx255_2 := (hc HB hx255_2 :)
         replace hx255_3 := (hc HB hx255_3 :)
         replace p255 := eq_true p255
         replace q255 := eq_true q255
         refine start_ (n := 23) (S := fun w' => w'.cell? ad252 = some (.int .i64 ((rd_T68 l0 0).f0.f0)) ∧ w'.cell? ⟨ad252.block, ad252.off + 1, none⟩ = some (.int .i64 ((rd_T68 l0 0).f0.f1)) ∧ w'.cell? ⟨ad252.block, ad252.off + 2, none⟩ = some (.int .i64 ((rd_T68 l0 0).f1.f0)) ∧ w'.cell? ⟨ad252.block, ad252.off + 3, none⟩ = some (.int .i64 ((rd_T68 l0 0).f1.f1)) ∧ w'.cell? (ad252.add (((ji11)).toNat * 4)) = some (.int .i64 ((rd_T68 l0 (ji11)).f0.f0)) ∧ w'.cell? ⟨(ad252.add (((ji11)).toNat * 4)).block, (ad252.add (((ji11)).toNat * 4)).off + 1, none⟩ = some (.int .i64 ((rd_T68 l0 (ji11)).f0.f1)) ∧ w'.cell? ⟨(ad252.add (((ji11)).toNat * 4)).block, (ad252.add (((ji11)).toNat * 4)).off + 2, none⟩ = some (.int .i64 ((rd_T68 l0 (ji11)).f1.f0)) ∧ w'.cell? ⟨(ad252.add (((ji11)).toNat * 4)).block, (ad252.add (((ji11)).toNat * 4)).off + 3, none⟩ = some (.int .i64 ((rd_T68 l0 (ji11)).f1.f1))) (ds := []) (tb 0 23) (by kernel_rfl) rfl rfl ⟨(hc HB hw252_0 :), (hc HB hw252_1 :), (hc HB hw252_2 :), (hc HB hw252_3 :), (hc HB hw255_0 :), (hc HB hw255_1 :), (hc HB hw255_2 :), (hc HB hw255_3 :)⟩ (fun hHeld => ?_); refine with_tabW impl_isMap.tab3 impl_isMap.bits3 (fun HT_ HW_ => ?_)
         generalize wc.drew = w24 at HB hx252_0 hx252_1 hx252_2 hx252_3 hx255_0 hx255_1 hx255_2 hx255_3 hHeld ⊢
         refine pu 0 11 (tb 1 22) ?_
         refine pu 1 12 (tb 2 21) ?_
         refine pu 2 13 (tb 3 20) ?_
         refine tk 3 14 (tb 4 19) (hy := by rintro w' ⟨s0, s1, s2, s3, s4, s5, s6, s7⟩; go_simp; with_reducible rfl) (h := ?_)
         refine on 4 15 (tb 5 18) (fun K hK => ?_)
         refine gs Try.func90 #[] ?_
         with_reducible refine (impl_zero.calls  t253 t254 _ A9.out).mono ?_
         rintro e w25 ⟨rfl, hb⟩
         refine ⟨_, rfl, ?_⟩
         replace HB := Aside0.mk (bs hb)
         (try clear hb)
         (try clear hb2)
         (try clear hk)
         (try clear hi)
         refine hK.out _ _ ⟨(hc HB hw252_0 :), (hc HB hw252_1 :), (hc HB hw252_2 :), (hc HB hw252_3 :), (hc HB hw255_0 :), (hc HB hw255_1 :), (hc HB hw255_2 :), (hc HB hw255_3 :)⟩ (fun hHeld => ?_)
         clear hK K
         refine nm 15 ?_
         refine pu 5 16 (tb 6 17) ?_
         refine pu 6 17 (tb 7 16) ?_
         refine pu 7 18 (tb 8 15) ?_
         refine pu 8 19 (tb 9 14) ?_
         refine pu 9 20 (tb 10 13) ?_
         refine pu 10 21 (tb 11 12) ?_
         refine pu 11 22 (tb 12 11) ?_
         refine pu 12 23 (tb 13 10) ?_
         refine tk 13 24 (tb 14 9) (hy := by rintro w' ⟨s0, s1, s2, s3, s4, s5, s6, s7⟩; go_simp; with_reducible rfl) (h := ?_)
         refine on 14 25 (tb 15 8) (fun K hK => ?_)
         refine gs Try.func91 #[] ?_
         with_reducible refine (impl_oneRat.calls  t256 t257 _ A14.out).mono ?_
         rintro e w26 ⟨rfl, hb⟩
         refine ⟨_, rfl, ?_⟩
         replace HB := Aside0.mk (bs hb)
         (try clear hb)
         (try clear hb2)
         (try clear hk)
         (try clear hi)
         refine hK.out _ _ ⟨(hc HB hw252_0 :), (hc HB hw252_1 :), (hc HB hw252_2 :), (hc HB hw252_3 :), (hc HB hw255_0 :), (hc HB hw255_1 :), (hc HB hw255_2 :), (hc HB hw255_3 :)⟩ (fun hHeld => ?_)
         clear hK K
         refine nm 25 ?_
         refine pu 15 26 (tb 16 7) ?_
         refine pu 16 27 (tb 17 6) ?_
         refine pu 17 28 (tb 18 5) ?_
         refine sk 18 29 (tb 19 4) ?_
         refine sk 19 30 (tb 20 3) ?_
         refine sk 20 31 (tb 21 2) ?_
         refine pu 21 32 (tb 22 1) ?_
         refine pu 22 2 (tb 23 0) ?_
         refine done_ (done_of HT_.out (by kernel_rfl)) ?_
         try go_wp2
         go_ret
         exact ⟨by first | rfl | (simp [errW_none, errW_some] <;> rfl) | (simp only [← hji11]; first | rfl | (simp [errW_none, errW_some] <;> rfl)) | (simp [*, errW_none, errW_some] <;> rfl), bl⟩
       ·rw [if_neg c13] at H
        exact absurd H (by simp)
      ·rw [if_neg c12] at H
       exact absurd H (by simp)
     ·rw [if_neg c10] at H
      have c10b0 : (((rd_T68 l0 0).f0.f0) == t253 && (((rd_T68 l0 0).f0.f1) == t254)) = false := by simpa using c10
      (try (have c10b1 : decide (((rd_T68 l0 0).f0.f0) = t253 && (((rd_T68 l0 0).f0.f1) == t254)) = false := by simpa using c10))
      (try (have c10b2 : (((rd_T68 l0 0).f0.f0) == t253 && (((rd_T68 l0 0).f0.f1) == t254)) = false := by simpa using c10))
      (try (have c10b3 : ¬ (((rd_T68 l0 0).f0.f0) = t253 && (((rd_T68 l0 0).f0.f1) == t254)) := by simpa using c10))
      clear c10
      obtain rfl := Option.some.inj H
      try go_wp2
      replace HB := Aside0.mk (below_drew1 HB.out)
      have p252 : 0 ≤ (0 : Int) := (by omega)
      have q252 : 0 < (l0.length : Int) := da
      obtain ⟨ad252, e252, hx252_0, hx252_1, hx252_2, hx252_3⟩ := at_T68 HR0.out 0 p252 q252
      have hw252_3 := hx252_3
      (try rw [show ((0 : Int)).toNat = 0 from rfl] at hw252_3)
      (try rw [show 0 * 4 = 0 from rfl] at hw252_3)
      (try rw [Addr.add_zero'] at hw252_3)
      have hw252_2 := hx252_2
      (try rw [show ((0 : Int)).toNat = 0 from rfl] at hw252_2)
      (try rw [show 0 * 4 = 0 from rfl] at hw252_2)
      (try rw [Addr.add_zero'] at hw252_2)
      have hw252_1 := hx252_1
      (try rw [show ((0 : Int)).toNat = 0 from rfl] at hw252_1)
      (try rw [show 0 * 4 = 0 from rfl] at hw252_1)
      (try rw [Addr.add_zero'] at hw252_1)
      have hw252_0 := hx252_0
      (try rw [show ((0 : Int)).toNat = 0 from rfl] at hw252_0)
      (try rw [show 0 * 4 = 0 from rfl] at hw252_0)
      (try rw [Addr.add_zero'] at hw252_0)
      cases e252
      have qi252 : (0 < l0.length) = True := eq_true (by omega)
      (try rw [show ((0 : Int)).toNat = 0 from rfl] at hx252_0)
      (try rw [show 0 * 4 = 0 from rfl] at hx252_0)
      (try rw [Addr.add_zero'] at hx252_0)
      (try rw [show ((0 : Int)).toNat = 0 from rfl] at hx252_1)
      (try rw [show 0 * 4 = 0 from rfl] at hx252_1)
      (try rw [Addr.add_zero'] at hx252_1)
      (try rw [show ((0 : Int)).toNat = 0 from rfl] at hx252_2)
      (try rw [show 0 * 4 = 0 from rfl] at hx252_2)
      (try rw [Addr.add_zero'] at hx252_2)
      (try rw [show ((0 : Int)).toNat = 0 from rfl] at hx252_3)
      (try rw [show 0 * 4 = 0 from rfl] at hx252_3)
      (try rw [Addr.add_zero'] at hx252_3)
      replace hx252_0 := (hc HB hx252_0 :)
      replace hx252_1 := (hc HB hx252_1 :)
      replace hx252_2 := (hc HB hx252_2 :)
      replace hx252_3 := (hc HB hx252_3 :)
      replace p252 := eq_true p252
      replace q252 := eq_true q252
      refine start_ (n := 23) (S := fun w' => w'.cell? ad252 = some (.int .i64 ((rd_T68 l0 0).f0.f0)) ∧ w'.cell? ⟨ad252.block, ad252.off + 1, none⟩ = some (.int .i64 ((rd_T68 l0 0).f0.f1)) ∧ w'.cell? ⟨ad252.block, ad252.off + 2, none⟩ = some (.int .i64 ((rd_T68 l0 0).f1.f0)) ∧ w'.cell? ⟨ad252.block, ad252.off + 3, none⟩ = some (.int .i64 ((rd_T68 l0 0).f1.f1))) (ds := []) (tb 0 23) (by kernel_rfl) rfl rfl ⟨(hc HB hw252_0 :), (hc HB hw252_1 :), (hc HB hw252_2 :), (hc HB hw252_3 :)⟩ (fun hHeld => ?_); refine with_tabW impl_isMap.tab3 impl_isMap.bits3 (fun HT_ HW_ => ?_)
      generalize wc.drew = w27 at HB hx252_0 hx252_1 hx252_2 hx252_3 hHeld ⊢
      refine pu 0 11 (tb 1 22) ?_
      refine pu 1 12 (tb 2 21) ?_
      refine pu 2 13 (tb 3 20) ?_
      refine tk 3 14 (tb 4 19) (hy := by rintro w' ⟨s0, s1, s2, s3⟩; go_simp; with_reducible rfl) (h := ?_)
      refine on 4 15 (tb 5 18) (fun K hK => ?_)
      refine gs Try.func90 #[] ?_
      with_reducible refine (impl_zero.calls  t253 t254 _ A9.out).mono ?_
      rintro e w28 ⟨rfl, hb⟩
      refine ⟨_, rfl, ?_⟩
      replace HB := Aside0.mk (bs hb)
      (try clear hb)
      (try clear hb2)
      (try clear hk)
      (try clear hi)
      refine hK.out _ _ ⟨(hc HB hw252_0 :), (hc HB hw252_1 :), (hc HB hw252_2 :), (hc HB hw252_3 :)⟩ (fun hHeld => ?_)
      clear hK K
      refine nm 15 ?_
      refine pu 5 16 (tb 6 17) ?_
      refine pu 6 17 (tb 7 16) ?_
      refine sk 7 18 (tb 8 15) ?_
      refine sk 8 19 (tb 9 14) ?_
      refine sk 9 20 (tb 10 13) ?_
      refine sk 10 21 (tb 11 12) ?_
      refine sk 11 22 (tb 12 11) ?_
      refine sk 12 23 (tb 13 10) ?_
      refine sk 13 24 (tb 14 9) ?_
      refine sk 14 25 (tb 15 8) ?_
      refine sk 15 26 (tb 16 7) ?_
      refine pu 16 27 (tb 17 6) ?_
      refine pu 17 28 (tb 18 5) ?_
      refine sk 18 29 (tb 19 4) ?_
      refine sk 19 30 (tb 20 3) ?_
      refine sk 20 31 (tb 21 2) ?_
      refine pu 21 32 (tb 22 1) ?_
      refine pu 22 2 (tb 23 0) ?_
      refine done_ (done_of HT_.out (by kernel_rfl)) ?_
      try go_wp2
      go_ret
      exact ⟨by first | rfl | (simp [errW_none, errW_some] <;> rfl) | (simp [*, errW_none, errW_some] <;> rfl), bl⟩
    ·rw [if_neg c8] at H
     exact absurd H (by simp)

end Go.Proofs.Ytmecnnnagallnaa.PFnExactLeastSlope
