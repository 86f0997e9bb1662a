-- Written by this session's program wip/pp (the kit's print tool with additions) 35421559b90ae4d0a3588c463048766b98c2df88dd9212a6774a882060cdf62d
import Derived.Test.YtannadjfkaghjaaPFnExactIsRepellingx0
import Derived.Test.YtannadjfkaghjaaPFnExactIsRepellingx1
import Derived.Test.YtannadjfkaghjaaPFnExactIsRepellingx13
import Derived.Test.YtannadjfkaghjaaPFnExactIsRepellingx18
namespace Go.Proofs.Ytannadjfkaghjaa.PFnExactIsRepelling
open Go.RowKit Go.Proofs.YtannadjfkaghjaaW.PrintWords Go.Proofs.YtannadjfkaghjaaW.PrintLast Go.Proofs.YtannadjfkaghjaaW.PrintMore
attribute [local go_sem] max2_int min2_int max_two min_two max_three min_three max_four min_four   -- for this text's walks alone
set_option linter.unusedVariables false
set_option linter.unusedSimpArgs false

attribute [local go_sem high] eqA53
/-! ### impl_slopeAt: function 102 -/
def impl_slopeAt.f (k : Nat) (l0 : List (S73)) (a1_0 : Int) (a1_1 : Int) : Option (Int × Int × Bool) := (impl_slopes.f k l0).bind fun t537 => ((impl_pieceAt.f k l0 a1_0 a1_1).bind fun t540 => (if 0 ≤ t540 then (if t540 < (t537.length : Int) then (if 0 ≤ (wrap64 (t540 + 1)) then (if (wrap64 (t540 + 1)) < (l0.length : Int) then (if (!(((rd_T73 l0 (wrap64 (t540 + 1))).f0.f0) == a1_0) || (!(((rd_T73 l0 (wrap64 (t540 + 1))).f0.f1) == a1_1))) = true then (some ((rd_T53 t537 t540).f0, (rd_T53 t537 t540).f1, true)) else (if (wrap64 (t540 + 1)) = (t537.length : Int) then (some ((rd_T53 t537 t540).f0, (rd_T53 t537 t540).f1, true)) else (if (wrap64 (t540 + 1)) < (t537.length : Int) then (some ((rd_T53 t537 t540).f0, (rd_T53 t537 t540).f1, (((rd_T53 t537 t540).f0) == ((rd_T53 t537 (wrap64 (t540 + 1))).f0) && (((rd_T53 t537 t540).f1) == ((rd_T53 t537 (wrap64 (t540 + 1))).f1))))) else (none)))) else (none)) else (none)) else (none)) else (none)))
def impl_slopeAt.T3 : Bool × List (List Nat × List Nat) := (true, [([], []), ([], []), ([0, 1], [0, 1]), ([2], [2]), ([], []), ([], []), ([5], [5]), ([4, 6], [4, 6]), ([7], [7]), ([8], [8]), ([], []), ([9, 10], [9, 10]), ([11], [11]), ([12], [12]), ([13, 12], [12, 13]), ([12], [12]), ([15, 12], [12, 15]), ([14, 16, 12], [12, 14, 16]), ([12, 17], [12, 17]), ([18, 12], [18]), ([19], [19]), ([19], [19]), ([20, 21, 19], [19, 20, 21]), ([22, 19], [19, 22]), ([19], [19]), ([19], [19]), ([25, 19], [19, 25]), ([24, 26, 19], [19, 24, 26]), ([27, 19], [19, 27]), ([23, 28, 19], [19, 23, 28]), ([19, 29], [19, 29]), ([3, 19, 0, 1, 2, 3], [3]), ([30, 31, 0, 1, 2, 3, 4, 5, 6, 7, 8, 9, 10, 11, 12, 13, 14, 15, 16, 17, 18, 19, 20, 21, 22, 23, 24, 25, 26, 27, 28, 29, 30, 31], [30])])
def impl_slopeAt.B3 : List Nat := [0, 0, 3, 7, 0, 0, 32, 112, 240, 496, 0, 2032, 4080, 8176, 16368, 8176, 40944, 131056, 262128, 524272, 1048560, 1048560, 4194288, 8388592, 1048560, 1048560, 34602992, 118489072, 252706800, 536870896, 1073741808, 1048575, 4294967295]
theorem impl_slopeAt.tab3 : rtab .any (opsOf Try.f102 3) = impl_slopeAt.T3 := by kernel_rfl
theorem impl_slopeAt.bits3 : waitsOk impl_slopeAt.T3.2 impl_slopeAt.B3 = true := by kernel_rfl
set_option maxHeartbeats 8000000 in
set_option maxRecDepth 100000 in
theorem impl_slopeAt.calls (k : Nat) (A0 : Option Addr) (c0 : Nat) (l0 : List (S73)) (a1_0 : Int) (a1_1 : Int) (r1 : Int) (r2 : Int) (r3 : Bool) (w : World) (hr0 : Kd.C k73 w A0 l0.length l0) (hc0 : l0.length ≤ c0) (h : impl_slopeAt.f k l0 a1_0 a1_1 = some (r1, r2, r3)) :
  Calls Try.prog 102 #[.slice A0 l0.length c0, .agg #[.int .i64 a1_0, .int .i64 a1_1]] w fun e w' => e = .returned (.tuple #[.agg #[.int .i64 r1, .int .i64 r2], .bool r3]) ∧ Below w.heap.size w w' := by
 have hu53 := Try.underlying53
 have HR0 := Aside0.mk hr0
 have HC0 := Aside0.mk hc0
 clear hr0 hc0
 have HB := Aside0.mk (Below.refl w.heap.size w)
 have H : ((impl_slopes.f k l0).bind fun t537 => ((impl_pieceAt.f k l0 a1_0 a1_1).bind fun t540 => (if 0 ≤ t540 then (if t540 < (t537.length : Int) then (if 0 ≤ (wrap64 (t540 + 1)) then (if (wrap64 (t540 + 1)) < (l0.length : Int) then (if (!(((rd_T73 l0 (wrap64 (t540 + 1))).f0.f0) == a1_0) || (!(((rd_T73 l0 (wrap64 (t540 + 1))).f0.f1) == a1_1))) = true then (some ((rd_T53 t537 t540).f0, (rd_T53 t537 t540).f1, true)) else (if (wrap64 (t540 + 1)) = (t537.length : Int) then (some ((rd_T53 t537 t540).f0, (rd_T53 t537 t540).f1, true)) else (if (wrap64 (t540 + 1)) < (t537.length : Int) then (some ((rd_T53 t537 t540).f0, (rd_T53 t537 t540).f1, (((rd_T53 t537 t540).f0) == ((rd_T53 t537 (wrap64 (t540 + 1))).f0) && (((rd_T53 t537 t540).f1) == ((rd_T53 t537 (wrap64 (t540 + 1))).f1))))) else (none)))) else (none)) else (none)) else (none)) else (none)))) = some (r1, r2, r3) := h
 clear h
 replace H := Option.bind_eq_some_iff.mp H
 obtain ⟨t537, A30, H⟩ := H
 replace H : ((impl_pieceAt.f k l0 a1_0 a1_1).bind fun t540 => (if 0 ≤ t540 then (if t540 < (t537.length : Int) then (if 0 ≤ (wrap64 (t540 + 1)) then (if (wrap64 (t540 + 1)) < (l0.length : Int) then (if (!(((rd_T73 l0 (wrap64 (t540 + 1))).f0.f0) == a1_0) || (!(((rd_T73 l0 (wrap64 (t540 + 1))).f0.f1) == a1_1))) = true then (some ((rd_T53 t537 t540).f0, (rd_T53 t537 t540).f1, true)) else (if (wrap64 (t540 + 1)) = (t537.length : Int) then (some ((rd_T53 t537 t540).f0, (rd_T53 t537 t540).f1, true)) else (if (wrap64 (t540 + 1)) < (t537.length : Int) then (some ((rd_T53 t537 t540).f0, (rd_T53 t537 t540).f1, (((rd_T53 t537 t540).f0) == ((rd_T53 t537 (wrap64 (t540 + 1))).f0) && (((rd_T53 t537 t540).f1) == ((rd_T53 t537 (wrap64 (t540 + 1))).f1))))) else (none)))) else (none)) else (none)) else (none)) else (none))) = some (r1, r2, r3) := H
 have A3 := Aside0.mk A30
 clear A30
 replace H := Option.bind_eq_some_iff.mp H
 obtain ⟨t540, A40, H⟩ := H
 replace H : (if 0 ≤ t540 then (if t540 < (t537.length : Int) then (if 0 ≤ (wrap64 (t540 + 1)) then (if (wrap64 (t540 + 1)) < (l0.length : Int) then (if (!(((rd_T73 l0 (wrap64 (t540 + 1))).f0.f0) == a1_0) || (!(((rd_T73 l0 (wrap64 (t540 + 1))).f0.f1) == a1_1))) = true then (some ((rd_T53 t537 t540).f0, (rd_T53 t537 t540).f1, true)) else (if (wrap64 (t540 + 1)) = (t537.length : Int) then (some ((rd_T53 t537 t540).f0, (rd_T53 t537 t540).f1, true)) else (if (wrap64 (t540 + 1)) < (t537.length : Int) then (some ((rd_T53 t537 t540).f0, (rd_T53 t537 t540).f1, (((rd_T53 t537 t540).f0) == ((rd_T53 t537 (wrap64 (t540 + 1))).f0) && (((rd_T53 t537 t540).f1) == ((rd_T53 t537 (wrap64 (t540 + 1))).f1))))) else (none)))) else (none)) else (none)) else (none)) else (none)) = some (r1, r2, r3) := H
 have A4 := Aside0.mk A40
 clear A40
 by_cases c5 : 0 ≤ t540
 ·rw [if_pos c5] at H
  have c5b0 : decide (0 ≤ t540) = true := decide_eq_true c5
  clear c5
  by_cases c6 : t540 < (t537.length : Int)
  ·rw [if_pos c6] at H
   have c6b0 : decide (t540 < (t537.length : Int)) = true := decide_eq_true c6
   clear c6
   obtain ⟨ji7, hji7⟩ : ∃ j_ : Int, (wrap64 (t540 + 1)) = j_ := ⟨_, rfl⟩
   replace H : (if 0 ≤ (ji7) then (if (ji7) < (l0.length : Int) then (if (!(((rd_T73 l0 (ji7)).f0.f0) == a1_0) || (!(((rd_T73 l0 (ji7)).f0.f1) == a1_1))) = true then (some ((rd_T53 t537 t540).f0, (rd_T53 t537 t540).f1, true)) else (if (ji7) = (t537.length : Int) then (some ((rd_T53 t537 t540).f0, (rd_T53 t537 t540).f1, true)) else (if (ji7) < (t537.length : Int) then (some ((rd_T53 t537 t540).f0, (rd_T53 t537 t540).f1, (((rd_T53 t537 t540).f0) == ((rd_T53 t537 (ji7)).f0) && (((rd_T53 t537 t540).f1) == ((rd_T53 t537 (ji7)).f1))))) else (none)))) else (none)) else (none)) = some (r1, r2, r3) := by first | (rw [hji7] at H; exact H) | (simp only [hji7] at H ⊢; exact H)
   (try rw [hji7] at A3)
   (try rw [hji7] at A4)
   have hji7w : (IntKind.i64.wrap (t540 + 1)) = ji7 := (i64_w _).trans hji7
   by_cases c8 : 0 ≤ (ji7)
   ·rw [if_pos c8] at H
    have c8b0 : decide (0 ≤ (ji7)) = true := decide_eq_true c8
    clear c8
    by_cases c9 : (ji7) < (l0.length : Int)
    ·rw [if_pos c9] at H
     have c9b0 : decide ((ji7) < (l0.length : Int)) = true := decide_eq_true c9
     clear c9
     by_cases c10 : (!(((rd_T73 l0 (ji7)).f0.f0) == a1_0) || (!(((rd_T73 l0 (ji7)).f0.f1) == a1_1))) = true
     ·rw [if_pos c10] at H
      have c10b0 : (!(((rd_T73 l0 (ji7)).f0.f0) == a1_0) || (!(((rd_T73 l0 (ji7)).f0.f1) == a1_1))) = true := c10
      clear c10
      simp only [Option.some.injEq, Prod.mk.injEq] at H
      obtain ⟨rfl, rfl, rfl⟩ := H
      go_enter Try.func102, Try.ntmps102
      try go_wp2_with (first | ((with_reducible refine gate_dst (N := 3) rfl ?_); (try (refine gate_guard (by rfl) ?_; dsimp only)); refine bx 3 #[.int .i64 a1_0, .int .i64 a1_1] 53 ?_; intro gb535 hg w11 hbox hb; have BK535 := Aside0.mk (hbox); have GW535 := Aside0.mk (bz hg); have GE535 := GW535; replace HB := kh hb; clear hb hbox hg) | ((with_reducible refine gate_dst (N := 4) rfl ?_); (try (refine gate_guard (by rfl) ?_; dsimp only)); refine bx 4 #[.int .i64 0, .int .i64 0] 53 ?_; intro gb536 hg w12 hbox hb; have BK536 := Aside0.mk (hbox); have GW536 := Aside0.mk (bz hg); have GE536 := GW536; have NB535_536 := Aside0.mk (bn gb535 hg); have NB536_535 := sy NB535_536; replace BK535 := kb BK535 hb; replace HB := kh hb; clear hb hbox hg) | ((with_reducible refine gate_callee (f := 115) rfl ?_); refine gl 9 Try.func115 #[.slice A0 l0.length c0] ?_; (with_reducible refine (impl_slopes.calls k _ _ l0 t537 _ ?side1 ?side2 A3.out).mono ?_); (case side1 => repeat (first | exact (Kd.C_below HR0.out HB.out) | (with_reducible refine Kd.C_alloc ?_ _) | (with_reducible refine Kd.C_drewN ?_ _) | (with_reducible refine Kd.C_drew ?_))); (case side2 => exact HC0.out); rintro e w13 ⟨v538, rfl, ho0, hb⟩; refine ⟨_, rfl, ?_⟩; have HO539 := Aside0.mk (Kd.R_lower (Kd.R_newB (Kd.R_newB ho0 (g := gb535) (o := .cells #[.int .i64 a1_0, .int .i64 a1_1] 53 (0, 0)) (bo gb535)) (g := gb536) (o := .cells #[.int .i64 0, .int .i64 0] 53 (0, 0)) (bo gb536)) (below_size bl)); replace BK535 := kb BK535 hb; replace BK536 := kb BK536 hb; replace HB := kh hb; (try clear hb); (try clear hb2); (try clear hk); (try clear hi); (try clear ho0); have hnb14 := NB535_536.out; have hnc14 := NB536_535.out; obtain ⟨hcz15_0, hcz15_1, hfz15_0, hfz15_1⟩ := b2 BK535) | ((with_reducible refine gate_callee (f := 116) rfl ?_); refine gl 12 Try.func116 #[.slice A0 l0.length c0, .agg #[.int .i64 a1_0, .int .i64 a1_1]] ?_; (with_reducible refine (impl_pieceAt.calls k _ _ l0 a1_0 a1_1 t540 _ ?side1 ?side2 A4.out).mono ?_); (case side1 => repeat (first | exact (Kd.C_below HR0.out HB.out) | (with_reducible refine Kd.C_alloc ?_ _) | (with_reducible refine Kd.C_drewN ?_ _) | (with_reducible refine Kd.C_drew ?_))); (case side2 => exact HC0.out); rintro e w16 ⟨rfl, hb⟩; refine ⟨_, rfl, ?_⟩; replace HO539 := Aside0.mk (Kd.R_below (by (with_reducible repeat (first | apply Kd.R_alloc | apply Kd.R_drewN | apply Kd.R_drew)); exact HO539.out) hb); replace BK535 := kb BK535 hb; replace BK536 := kb BK536 hb; replace HB := kh hb; (try clear hb); (try clear hb2); (try clear hk); (try clear hi)))
      replace HO539 := Aside0.mk (Kd.R_drew HO539.out)
      replace BK535 := Aside0.mk (blk_drew BK535.out)
      replace BK536 := Aside0.mk (blk_drew BK536.out)
      replace HB := Aside0.mk (below_drew1 HB.out)
      obtain ⟨Ao18, co18, eo18⟩ := Kd.R_slice HO539.out
      (first | subst eo18 | (injection eo18 with f1_ f2_ f3_; have f4_ := f1_.symm; have f5_ := f3_.symm; clear f1_ f2_ f3_; subst f4_; subst f5_))
      have p541 : 0 ≤ (t540 : Int) := da
      have q541 : t540 < (t537.length : Int) := da
      obtain ⟨ad541, e541, hx541_0, hx541_1⟩ := at_T53 (Kd.R_reads' HO539.out).2.2 t540 p541 q541
      cases e541
      replace p541 := eq_true p541
      replace q541 := eq_true q541
      have p542 : 0 ≤ ((ji7) : Int) := da
      have q542 : (ji7) < (l0.length : Int) := da
      obtain ⟨ad542, e542, hx542_0, hx542_1, hx542_2, hx542_3⟩ := at_T73 HR0.out (ji7) p542 q542
      have hw542_3 := hx542_3
      have hw542_2 := hx542_2
      have hw542_1 := hx542_1
      have hw542_0 := hx542_0
      cases e542
      replace hx542_0 := (hc HB hx542_0 :)
      replace hx542_1 := (hc HB hx542_1 :)
      replace hx542_2 := (hc HB hx542_2 :)
      replace hx542_3 := (hc HB hx542_3 :)
      replace p542 := eq_true p542
      replace q542 := eq_true q542
      refine start_ (n := 33) (S := fun w' => w'.cell? ⟨gb535, 0, none⟩ = some (.int .i64 a1_0) ∧ w'.cell? ⟨gb535, 1, none⟩ = some (.int .i64 a1_1) ∧ w'.cell? (ad541.add ((t540).toNat * 2)) = some (.int .i64 ((rd_T53 t537 t540).f0)) ∧ w'.cell? ⟨(ad541.add ((t540).toNat * 2)).block, (ad541.add ((t540).toNat * 2)).off + 1, none⟩ = some (.int .i64 ((rd_T53 t537 t540).f1)) ∧ w'.cell? (ad542.add (((ji7)).toNat * 4)) = some (.int .i64 ((rd_T73 l0 (ji7)).f0.f0)) ∧ w'.cell? ⟨(ad542.add (((ji7)).toNat * 4)).block, (ad542.add (((ji7)).toNat * 4)).off + 1, none⟩ = some (.int .i64 ((rd_T73 l0 (ji7)).f0.f1)) ∧ w'.cell? ⟨(ad542.add (((ji7)).toNat * 4)).block, (ad542.add (((ji7)).toNat * 4)).off + 2, none⟩ = some (.int .i64 ((rd_T73 l0 (ji7)).f1.f0)) ∧ w'.cell? ⟨(ad542.add (((ji7)).toNat * 4)).block, (ad542.add (((ji7)).toNat * 4)).off + 3, none⟩ = some (.int .i64 ((rd_T73 l0 (ji7)).f1.f1))) (ds := []) (tb 0 33) (by kernel_rfl) rfl rfl ⟨(blk_cell BK535.out 0).trans rfl, (blk_cell BK535.out 1).trans rfl, hx541_0, hx541_1, (hc HB hw542_0 :), (hc HB hw542_1 :), (hc HB hw542_2 :), (hc HB hw542_3 :)⟩ (fun hHeld => ?_); refine with_tabW impl_slopeAt.tab3 impl_slopeAt.bits3 (fun HT_ HW_ => ?_)
      generalize w16.drew = w17 at HO539 BK535 BK536 HB hx541_0 hx541_1 hx542_0 hx542_1 hx542_2 hx542_3 hHeld ⊢
      refine pu 0 13 (tb 1 32) ?_
      refine pu 1 14 (tb 2 31) ?_
      refine pu 2 15 (tb 3 30) ?_
      refine pu 4 17 #[true, true, true, false, true, false, false, false, false, false, false, false, false, false, false, false, false, false, false, false, false, false, false, false, false, false, false, false, false, false, false, false, false] ?_
      refine pu 5 18 #[true, true, true, false, true, true, false, false, false, false, false, false, false, false, false, false, false, false, false, false, false, false, false, false, false, false, false, false, false, false, false, false, false] ?_
      refine pu 6 19 #[true, true, true, false, true, true, true, false, false, false, false, false, false, false, false, false, false, false, false, false, false, false, false, false, false, false, false, false, false, false, false, false, false] ?_
      refine pu 7 20 #[true, true, true, false, true, true, true, true, false, false, false, false, false, false, false, false, false, false, false, false, false, false, false, false, false, false, false, false, false, false, false, false, false] ?_
      refine pu 8 21 #[true, true, true, false, true, true, true, true, true, false, false, false, false, false, false, false, false, false, false, false, false, false, false, false, false, false, false, false, false, false, false, false, false] ?_
      refine tk 3 16 (tb 9 24) (hy := by rintro w' ⟨s0, s1, s2, s3, s4, s5, s6, s7⟩; go_simp; with_reducible rfl) (h := ?_)
      refine tk 9 22 (tb 10 23) (hy := by rintro w' ⟨s0, s1, s2, s3, s4, s5, s6, s7⟩; go_simp; with_reducible rfl) (h := ?_)
      refine tk 10 23 (tb 11 22) (hy := by rintro w' ⟨s0, s1, s2, s3, s4, s5, s6, s7⟩; go_simp; with_reducible rfl) (h := ?_)
      refine pu 11 24 (tb 12 21) ?_
      refine pu 12 25 (tb 13 20) ?_
      refine sk 13 26 (tb 14 19) ?_
      refine sk 14 27 (tb 15 18) ?_
      refine sk 15 28 (tb 16 17) ?_
      refine sk 16 29 (tb 17 16) ?_
      refine sk 17 30 (tb 18 15) ?_
      refine pu 18 31 (tb 19 14) ?_
      refine pu 19 32 (tb 20 13) ?_
      refine sk 20 33 (tb 21 12) ?_
      refine sk 21 34 (tb 22 11) ?_
      refine sk 22 35 (tb 23 10) ?_
      refine sk 23 36 (tb 24 9) ?_
      refine sk 24 37 (tb 25 8) ?_
      refine sk 25 38 (tb 26 7) ?_
      refine sk 26 39 (tb 27 6) ?_
      refine sk 27 40 (tb 28 5) ?_
      refine sk 28 41 (tb 29 4) ?_
      refine sk 29 42 (tb 30 3) ?_
      refine pu 30 43 (tb 31 2) ?_
      refine one_ (i := 31) (N := none) (tb 32 1) rfl rfl (one_of HT_.out (by kernel_rfl)) (by decide) (fun K hK => ?_)
      have hs19 : w17.cell? ⟨gb536, 0, none⟩ = some (.int .i64 0) := (blk_cell BK536.out 0).trans rfl
      have hfs19 := blk_frozen BK536.out 0
      have hns19_0 := NB535_536.out
      have hms19_0 := NB536_535.out
      have hs20 : w17.cell? ⟨gb536, 1, none⟩ = some (.int .i64 0) := (blk_cell BK536.out 1).trans rfl
      have hfs20 := blk_frozen BK536.out 1
      have hns20_0 := NB535_536.out
      have hms20_0 := NB536_535.out
      refine skip_ (w1 := ?_) (by rfl) rfl ?_ ?_
      rotate_left
      ·go_simp
       rfl
      refine hK.out _ _ ⟨(by (iterate 2 refine (cell_far (p := ⟨gb536, _, none⟩) NB535_536.out _).trans ?_); exact hHeld.1), (by (iterate 2 refine (cell_far (p := ⟨gb536, _, none⟩) NB535_536.out _).trans ?_); exact hHeld.2.1), (by (iterate 2 refine (cell_far (p := ⟨gb536, _, none⟩) (by have h_ := Kd.own_blk (Kd.R_away HO539.out (fun _ hk => hk.2)); first | exact h_ | (rw [add_block]; exact h_) | (show (Addr.add _ _).block ≠ _; rw [add_block]; exact h_) | (dsimp only; exact h_)) _).trans ?_); exact hHeld.2.2.1), (by (iterate 2 refine (cell_far (p := ⟨gb536, _, none⟩) (by have h_ := Kd.own_blk (Kd.R_away HO539.out (fun _ hk => hk.2)); first | exact h_ | (rw [add_block]; exact h_) | (show (Addr.add _ _).block ≠ _; rw [add_block]; exact h_) | (dsimp only; exact h_)) _).trans ?_); exact hHeld.2.2.2.1), (by (iterate 2 refine (cell_far (p := ⟨gb536, _, none⟩) (by have h_ := Nat.ne_of_lt (Nat.lt_of_lt_of_le (by have := World.block_lt_of_cell? _ _ hw542_0; first | rwa [add_block] at this | exact this) GW536.out); first | exact h_ | (rw [add_block]; exact h_) | (show (Addr.add _ _).block ≠ _; rw [add_block]; exact h_) | (dsimp only; exact h_)) _).trans ?_); exact hHeld.2.2.2.2.1), (by (iterate 2 refine (cell_far (p := ⟨gb536, _, none⟩) (by have h_ := Nat.ne_of_lt (Nat.lt_of_lt_of_le (by have := World.block_lt_of_cell? _ _ hw542_1; first | rwa [add_block] at this | exact this) GW536.out); first | exact h_ | (rw [add_block]; exact h_) | (show (Addr.add _ _).block ≠ _; rw [add_block]; exact h_) | (dsimp only; exact h_)) _).trans ?_); exact hHeld.2.2.2.2.2.1), (by (iterate 2 refine (cell_far (p := ⟨gb536, _, none⟩) (by have h_ := Nat.ne_of_lt (Nat.lt_of_lt_of_le (by have := World.block_lt_of_cell? _ _ hw542_2; first | rwa [add_block] at this | exact this) GW536.out); first | exact h_ | (rw [add_block]; exact h_) | (show (Addr.add _ _).block ≠ _; rw [add_block]; exact h_) | (dsimp only; exact h_)) _).trans ?_); exact hHeld.2.2.2.2.2.2.1), (by (iterate 2 refine (cell_far (p := ⟨gb536, _, none⟩) (by have h_ := Nat.ne_of_lt (Nat.lt_of_lt_of_le (by have := World.block_lt_of_cell? _ _ hw542_3; first | rwa [add_block] at this | exact this) GW536.out); first | exact h_ | (rw [add_block]; exact h_) | (show (Addr.add _ _).block ≠ _; rw [add_block]; exact h_) | (dsimp only; exact h_)) _).trans ?_); exact hHeld.2.2.2.2.2.2.2)⟩ (fun hHeld => ?_)
      clear hK K
      refine pu 32 5 (tb 33 0) ?_
      refine done_ (done_of HT_.out (by kernel_rfl)) ?_
      try go_wp2
      refine bodyPost_ret (results_ct rfl _ _ gb536 53 #[.int .i64 ((rd_T53 t537 t540).f0), .int .i64 ((rd_T53 t537 t540).f1)] (0, 0) _ rfl (by (with_reducible repeat (first | refine blk_drewN ?_ _ | refine blk_drew ?_ | refine blk_alloc ?_ _)); refine blk_put (cs := #[.int .i64 ((rd_T53 t537 t540).f0), .int .i64 0]) ?_ 1 _ rfl; (with_reducible repeat (first | refine blk_drewN ?_ _ | refine blk_drew ?_ | refine blk_alloc ?_ _)); refine blk_put (cs := #[.int .i64 0, .int .i64 0]) ?_ 0 _ rfl; (with_reducible repeat (first | refine blk_drewN ?_ _ | refine blk_drew ?_ | refine blk_alloc ?_ _)); exact BK536.out) Try.underlying53 rfl (by kernel_rfl)) rfl ?_
      exact ⟨by first | rfl | (simp [errW_none, errW_some] <;> rfl) | (simp only [← hji7]; first | rfl | (simp [errW_none, errW_some] <;> rfl)) | (simp [*, errW_none, errW_some] <;> rfl), bl⟩
     ·rw [if_neg c10] at H
      have c10b0 : (!(((rd_T73 l0 (ji7)).f0.f0) == a1_0) || (!(((rd_T73 l0 (ji7)).f0.f1) == a1_1))) = false := by simpa using c10
      clear c10
      by_cases c21 : (ji7) = (t537.length : Int)
      ·rw [if_pos c21] at H
       have c21b0 : ((ji7) == (t537.length : Int)) = true := beq_iff_eq.mpr c21
       have c21b1 : ((ji7) != (t537.length : Int)) = false := bne_eq_false_iff_eq.mpr c21
       clear c21
       simp only [Option.some.injEq, Prod.mk.injEq] at H
       obtain ⟨rfl, rfl, rfl⟩ := H
       go_enter Try.func102, Try.ntmps102
       try go_wp2_with (first | ((with_reducible refine gate_dst (N := 3) rfl ?_); (try (refine gate_guard (by rfl) ?_; dsimp only)); refine bx 3 #[.int .i64 a1_0, .int .i64 a1_1] 53 ?_; intro gb535 hg w22 hbox hb; have BK535 := Aside0.mk (hbox); have GW535 := Aside0.mk (bz hg); have GE535 := GW535; replace HB := kh hb; clear hb hbox hg) | ((with_reducible refine gate_dst (N := 4) rfl ?_); (try (refine gate_guard (by rfl) ?_; dsimp only)); refine bx 4 #[.int .i64 0, .int .i64 0] 53 ?_; intro gb536 hg w23 hbox hb; have BK536 := Aside0.mk (hbox); have GW536 := Aside0.mk (bz hg); have GE536 := GW536; have NB535_536 := Aside0.mk (bn gb535 hg); have NB536_535 := sy NB535_536; replace BK535 := kb BK535 hb; replace HB := kh hb; clear hb hbox hg) | ((with_reducible refine gate_callee (f := 115) rfl ?_); refine gl 9 Try.func115 #[.slice A0 l0.length c0] ?_; (with_reducible refine (impl_slopes.calls k _ _ l0 t537 _ ?side1 ?side2 A3.out).mono ?_); (case side1 => repeat (first | exact (Kd.C_below HR0.out HB.out) | (with_reducible refine Kd.C_alloc ?_ _) | (with_reducible refine Kd.C_drewN ?_ _) | (with_reducible refine Kd.C_drew ?_))); (case side2 => exact HC0.out); rintro e w24 ⟨v538, rfl, ho0, hb⟩; refine ⟨_, rfl, ?_⟩; have HO539 := Aside0.mk (Kd.R_lower (Kd.R_newB (Kd.R_newB ho0 (g := gb535) (o := .cells #[.int .i64 a1_0, .int .i64 a1_1] 53 (0, 0)) (bo gb535)) (g := gb536) (o := .cells #[.int .i64 0, .int .i64 0] 53 (0, 0)) (bo gb536)) (below_size bl)); replace BK535 := kb BK535 hb; replace BK536 := kb BK536 hb; replace HB := kh hb; (try clear hb); (try clear hb2); (try clear hk); (try clear hi); (try clear ho0); have hnb25 := NB535_536.out; have hnc25 := NB536_535.out; obtain ⟨hcz26_0, hcz26_1, hfz26_0, hfz26_1⟩ := b2 BK535) | ((with_reducible refine gate_callee (f := 116) rfl ?_); refine gl 12 Try.func116 #[.slice A0 l0.length c0, .agg #[.int .i64 a1_0, .int .i64 a1_1]] ?_; (with_reducible refine (impl_pieceAt.calls k _ _ l0 a1_0 a1_1 t540 _ ?side1 ?side2 A4.out).mono ?_); (case side1 => repeat (first | exact (Kd.C_below HR0.out HB.out) | (with_reducible refine Kd.C_alloc ?_ _) | (with_reducible refine Kd.C_drewN ?_ _) | (with_reducible refine Kd.C_drew ?_))); (case side2 => exact HC0.out); rintro e w27 ⟨rfl, hb⟩; refine ⟨_, rfl, ?_⟩; replace HO539 := Aside0.mk (Kd.R_below (by (with_reducible repeat (first | apply Kd.R_alloc | apply Kd.R_drewN | apply Kd.R_drew)); exact HO539.out) hb); replace BK535 := kb BK535 hb; replace BK536 := kb BK536 hb; replace HB := kh hb; (try clear hb); (try clear hb2); (try clear hk); (try clear hi)))
       replace HO539 := Aside0.mk (Kd.R_drew HO539.out)
       replace BK535 := Aside0.mk (blk_drew BK535.out)
       replace BK536 := Aside0.mk (blk_drew BK536.out)
       replace HB := Aside0.mk (below_drew1 HB.out)
       obtain ⟨Ao29, co29, eo29⟩ := Kd.R_slice HO539.out
       (first | subst eo29 | (injection eo29 with f1_ f2_ f3_; have f4_ := f1_.symm; have f5_ := f3_.symm; clear f1_ f2_ f3_; subst f4_; subst f5_))
       have p541 : 0 ≤ (t540 : Int) := da
       have q541 : t540 < (t537.length : Int) := da
       obtain ⟨ad541, e541, hx541_0, hx541_1⟩ := at_T53 (Kd.R_reads' HO539.out).2.2 t540 p541 q541
       cases e541
       replace p541 := eq_true p541
       replace q541 := eq_true q541
       have p542 : 0 ≤ ((ji7) : Int) := da
       have q542 : (ji7) < (l0.length : Int) := da
       obtain ⟨ad542, e542, hx542_0, hx542_1, hx542_2, hx542_3⟩ := at_T73 HR0.out (ji7) p542 q542
       have hw542_3 := hx542_3
       have hw542_2 := hx542_2
       have hw542_1 := hx542_1
       have hw542_0 := hx542_0
       cases e542
       replace hx542_0 := (hc HB hx542_0 :)
       replace hx542_1 := (hc HB hx542_1 :)
       replace hx542_2 := (hc HB hx542_2 :)
       replace hx542_3 := (hc HB hx542_3 :)
       replace p542 := eq_true p542
       replace q542 := eq_true q542
       refine start_ (n := 33) (S := fun w' => w'.cell? ⟨gb535, 0, none⟩ = some (.int .i64 a1_0) ∧ w'.cell? ⟨gb535, 1, none⟩ = some (.int .i64 a1_1) ∧ w'.cell? (ad541.add ((t540).toNat * 2)) = some (.int .i64 ((rd_T53 t537 t540).f0)) ∧ w'.cell? ⟨(ad541.add ((t540).toNat * 2)).block, (ad541.add ((t540).toNat * 2)).off + 1, none⟩ = some (.int .i64 ((rd_T53 t537 t540).f1)) ∧ w'.cell? (ad542.add (((ji7)).toNat * 4)) = some (.int .i64 ((rd_T73 l0 (ji7)).f0.f0)) ∧ w'.cell? ⟨(ad542.add (((ji7)).toNat * 4)).block, (ad542.add (((ji7)).toNat * 4)).off + 1, none⟩ = some (.int .i64 ((rd_T73 l0 (ji7)).f0.f1)) ∧ w'.cell? ⟨(ad542.add (((ji7)).toNat * 4)).block, (ad542.add (((ji7)).toNat * 4)).off + 2, none⟩ = some (.int .i64 ((rd_T73 l0 (ji7)).f1.f0)) ∧ w'.cell? ⟨(ad542.add (((ji7)).toNat * 4)).block, (ad542.add (((ji7)).toNat * 4)).off + 3, none⟩ = some (.int .i64 ((rd_T73 l0 (ji7)).f1.f1))) (ds := []) (tb 0 33) (by kernel_rfl) rfl rfl ⟨(blk_cell BK535.out 0).trans rfl, (blk_cell BK535.out 1).trans rfl, hx541_0, hx541_1, (hc HB hw542_0 :), (hc HB hw542_1 :), (hc HB hw542_2 :), (hc HB hw542_3 :)⟩ (fun hHeld => ?_); refine with_tabW impl_slopeAt.tab3 impl_slopeAt.bits3 (fun HT_ HW_ => ?_)
       generalize w27.drew = w28 at HO539 BK535 BK536 HB hx541_0 hx541_1 hx542_0 hx542_1 hx542_2 hx542_3 hHeld ⊢
       refine pu 0 13 (tb 1 32) ?_
       refine pu 1 14 (tb 2 31) ?_
       refine pu 2 15 (tb 3 30) ?_
       refine pu 4 17 #[true, true, true, false, true, false, false, false, false, false, false, false, false, false, false, false, false, false, false, false, false, false, false, false, false, false, false, false, false, false, false, false, false] ?_
       refine pu 5 18 #[true, true, true, false, true, true, false, false, false, false, false, false, false, false, false, false, false, false, false, false, false, false, false, false, false, false, false, false, false, false, false, false, false] ?_
       refine pu 6 19 #[true, true, true, false, true, true, true, false, false, false, false, false, false, false, false, false, false, false, false, false, false, false, false, false, false, false, false, false, false, false, false, false, false] ?_
       refine pu 7 20 #[true, true, true, false, true, true, true, true, false, false, false, false, false, false, false, false, false, false, false, false, false, false, false, false, false, false, false, false, false, false, false, false, false] ?_
       refine pu 8 21 #[true, true, true, false, true, true, true, true, true, false, false, false, false, false, false, false, false, false, false, false, false, false, false, false, false, false, false, false, false, false, false, false, false] ?_
       refine tk 3 16 (tb 9 24) (hy := by rintro w' ⟨s0, s1, s2, s3, s4, s5, s6, s7⟩; go_simp; with_reducible rfl) (h := ?_)
       refine tk 9 22 (tb 10 23) (hy := by rintro w' ⟨s0, s1, s2, s3, s4, s5, s6, s7⟩; go_simp; with_reducible rfl) (h := ?_)
       refine tk 10 23 (tb 11 22) (hy := by rintro w' ⟨s0, s1, s2, s3, s4, s5, s6, s7⟩; go_simp; with_reducible rfl) (h := ?_)
       refine pu 11 24 (tb 12 21) ?_
       refine pu 12 25 (tb 13 20) ?_
       refine pu 13 26 (tb 14 19) ?_
       refine pu 14 27 (tb 15 18) ?_
       refine pu 15 28 (tb 16 17) ?_
       refine pu 16 29 (tb 17 16) ?_
       refine pu 17 30 (tb 18 15) ?_
       refine pu 18 31 (tb 19 14) ?_
       refine pu 19 32 (tb 20 13) ?_
       refine sk 20 33 (tb 21 12) ?_
       refine sk 21 34 (tb 22 11) ?_
       refine sk 22 35 (tb 23 10) ?_
       refine sk 23 36 (tb 24 9) ?_
       refine sk 24 37 (tb 25 8) ?_
       refine sk 25 38 (tb 26 7) ?_
       refine sk 26 39 (tb 27 6) ?_
       refine sk 27 40 (tb 28 5) ?_
       refine sk 28 41 (tb 29 4) ?_
       refine sk 29 42 (tb 30 3) ?_
       refine pu 30 43 (tb 31 2) ?_
       refine one_ (i := 31) (N := none) (tb 32 1) rfl rfl (one_of HT_.out (by kernel_rfl)) (by decide) (fun K hK => ?_)
       have hs30 : w28.cell? ⟨gb536, 0, none⟩ = some (.int .i64 0) := (blk_cell BK536.out 0).trans rfl
       have hfs30 := blk_frozen BK536.out 0
       have hns30_0 := NB535_536.out
       have hms30_0 := NB536_535.out
       have hs31 : w28.cell? ⟨gb536, 1, none⟩ = some (.int .i64 0) := (blk_cell BK536.out 1).trans rfl
       have hfs31 := blk_frozen BK536.out 1
       have hns31_0 := NB535_536.out
       have hms31_0 := NB536_535.out
       refine skip_ (w1 := ?_) (by rfl) rfl ?_ ?_
       rotate_left
       ·go_simp
        rfl
       refine hK.out _ _ ⟨(by (iterate 2 refine (cell_far (p := ⟨gb536, _, none⟩) NB535_536.out _).trans ?_); exact hHeld.1), (by (iterate 2 refine (cell_far (p := ⟨gb536, _, none⟩) NB535_536.out _).trans ?_); exact hHeld.2.1), (by (iterate 2 refine (cell_far (p := ⟨gb536, _, none⟩) (by have h_ := Kd.own_blk (Kd.R_away HO539.out (fun _ hk => hk.2)); first | exact h_ | (rw [add_block]; exact h_) | (show (Addr.add _ _).block ≠ _; rw [add_block]; exact h_) | (dsimp only; exact h_)) _).trans ?_); exact hHeld.2.2.1), (by (iterate 2 refine (cell_far (p := ⟨gb536, _, none⟩) (by have h_ := Kd.own_blk (Kd.R_away HO539.out (fun _ hk => hk.2)); first | exact h_ | (rw [add_block]; exact h_) | (show (Addr.add _ _).block ≠ _; rw [add_block]; exact h_) | (dsimp only; exact h_)) _).trans ?_); exact hHeld.2.2.2.1), (by (iterate 2 refine (cell_far (p := ⟨gb536, _, none⟩) (by have h_ := Nat.ne_of_lt (Nat.lt_of_lt_of_le (by have := World.block_lt_of_cell? _ _ hw542_0; first | rwa [add_block] at this | exact this) GW536.out); first | exact h_ | (rw [add_block]; exact h_) | (show (Addr.add _ _).block ≠ _; rw [add_block]; exact h_) | (dsimp only; exact h_)) _).trans ?_); exact hHeld.2.2.2.2.1), (by (iterate 2 refine (cell_far (p := ⟨gb536, _, none⟩) (by have h_ := Nat.ne_of_lt (Nat.lt_of_lt_of_le (by have := World.block_lt_of_cell? _ _ hw542_1; first | rwa [add_block] at this | exact this) GW536.out); first | exact h_ | (rw [add_block]; exact h_) | (show (Addr.add _ _).block ≠ _; rw [add_block]; exact h_) | (dsimp only; exact h_)) _).trans ?_); exact hHeld.2.2.2.2.2.1), (by (iterate 2 refine (cell_far (p := ⟨gb536, _, none⟩) (by have h_ := Nat.ne_of_lt (Nat.lt_of_lt_of_le (by have := World.block_lt_of_cell? _ _ hw542_2; first | rwa [add_block] at this | exact this) GW536.out); first | exact h_ | (rw [add_block]; exact h_) | (show (Addr.add _ _).block ≠ _; rw [add_block]; exact h_) | (dsimp only; exact h_)) _).trans ?_); exact hHeld.2.2.2.2.2.2.1), (by (iterate 2 refine (cell_far (p := ⟨gb536, _, none⟩) (by have h_ := Nat.ne_of_lt (Nat.lt_of_lt_of_le (by have := World.block_lt_of_cell? _ _ hw542_3; first | rwa [add_block] at this | exact this) GW536.out); first | exact h_ | (rw [add_block]; exact h_) | (show (Addr.add _ _).block ≠ _; rw [add_block]; exact h_) | (dsimp only; exact h_)) _).trans ?_); exact hHeld.2.2.2.2.2.2.2)⟩ (fun hHeld => ?_)
       clear hK K
       refine pu 32 5 (tb 33 0) ?_
       refine done_ (done_of HT_.out (by kernel_rfl)) ?_
       try go_wp2
       refine bodyPost_ret (results_ct rfl _ _ gb536 53 #[.int .i64 ((rd_T53 t537 t540).f0), .int .i64 ((rd_T53 t537 t540).f1)] (0, 0) _ rfl (by (with_reducible repeat (first | refine blk_drewN ?_ _ | refine blk_drew ?_ | refine blk_alloc ?_ _)); refine blk_put (cs := #[.int .i64 ((rd_T53 t537 t540).f0), .int .i64 0]) ?_ 1 _ rfl; (with_reducible repeat (first | refine blk_drewN ?_ _ | refine blk_drew ?_ | refine blk_alloc ?_ _)); refine blk_put (cs := #[.int .i64 0, .int .i64 0]) ?_ 0 _ rfl; (with_reducible repeat (first | refine blk_drewN ?_ _ | refine blk_drew ?_ | refine blk_alloc ?_ _)); exact BK536.out) Try.underlying53 rfl (by kernel_rfl)) rfl ?_
       exact ⟨by first | rfl | (simp [errW_none, errW_some] <;> rfl) | (simp only [← hji7]; first | rfl | (simp [errW_none, errW_some] <;> rfl)) | (simp [*, errW_none, errW_some] <;> rfl), bl⟩
      ·rw [if_neg c21] at H
       have c21b0 : ((ji7) == (t537.length : Int)) = false := beq_eq_false_iff_ne.mpr c21
       have c21b1 : ((ji7) != (t537.length : Int)) = true := bne_iff_ne.mpr c21
       by_cases c32 : (ji7) < (t537.length : Int)
       ·rw [if_pos c32] at H
        have c32b0 : decide ((ji7) < (t537.length : Int)) = true := decide_eq_true c32
        clear c32
        simp only [Option.some.injEq, Prod.mk.injEq] at H
        obtain ⟨rfl, rfl, rfl⟩ := H
        go_enter Try.func102, Try.ntmps102
        try go_wp2_with (first | ((with_reducible refine gate_dst (N := 3) rfl ?_); (try (refine gate_guard (by rfl) ?_; dsimp only)); refine bx 3 #[.int .i64 a1_0, .int .i64 a1_1] 53 ?_; intro gb535 hg w33 hbox hb; have BK535 := Aside0.mk (hbox); have GW535 := Aside0.mk (bz hg); have GE535 := GW535; replace HB := kh hb; clear hb hbox hg) | ((with_reducible refine gate_dst (N := 4) rfl ?_); (try (refine gate_guard (by rfl) ?_; dsimp only)); refine bx 4 #[.int .i64 0, .int .i64 0] 53 ?_; intro gb536 hg w34 hbox hb; have BK536 := Aside0.mk (hbox); have GW536 := Aside0.mk (bz hg); have GE536 := GW536; have NB535_536 := Aside0.mk (bn gb535 hg); have NB536_535 := sy NB535_536; replace BK535 := kb BK535 hb; replace HB := kh hb; clear hb hbox hg) | ((with_reducible refine gate_callee (f := 115) rfl ?_); refine gl 9 Try.func115 #[.slice A0 l0.length c0] ?_; (with_reducible refine (impl_slopes.calls k _ _ l0 t537 _ ?side1 ?side2 A3.out).mono ?_); (case side1 => repeat (first | exact (Kd.C_below HR0.out HB.out) | (with_reducible refine Kd.C_alloc ?_ _) | (with_reducible refine Kd.C_drewN ?_ _) | (with_reducible refine Kd.C_drew ?_))); (case side2 => exact HC0.out); rintro e w35 ⟨v538, rfl, ho0, hb⟩; refine ⟨_, rfl, ?_⟩; have HO539 := Aside0.mk (Kd.R_lower (Kd.R_newB (Kd.R_newB ho0 (g := gb535) (o := .cells #[.int .i64 a1_0, .int .i64 a1_1] 53 (0, 0)) (bo gb535)) (g := gb536) (o := .cells #[.int .i64 0, .int .i64 0] 53 (0, 0)) (bo gb536)) (below_size bl)); replace BK535 := kb BK535 hb; replace BK536 := kb BK536 hb; replace HB := kh hb; (try clear hb); (try clear hb2); (try clear hk); (try clear hi); (try clear ho0); have hnb36 := NB535_536.out; have hnc36 := NB536_535.out; obtain ⟨hcz37_0, hcz37_1, hfz37_0, hfz37_1⟩ := b2 BK535) | ((with_reducible refine gate_callee (f := 116) rfl ?_); refine gl 12 Try.func116 #[.slice A0 l0.length c0, .agg #[.int .i64 a1_0, .int .i64 a1_1]] ?_; (with_reducible refine (impl_pieceAt.calls k _ _ l0 a1_0 a1_1 t540 _ ?side1 ?side2 A4.out).mono ?_); (case side1 => repeat (first | exact (Kd.C_below HR0.out HB.out) | (with_reducible refine Kd.C_alloc ?_ _) | (with_reducible refine Kd.C_drewN ?_ _) | (with_reducible refine Kd.C_drew ?_))); (case side2 => exact HC0.out); rintro e w38 ⟨rfl, hb⟩; refine ⟨_, rfl, ?_⟩; replace HO539 := Aside0.mk (Kd.R_below (by (with_reducible repeat (first | apply Kd.R_alloc | apply Kd.R_drewN | apply Kd.R_drew)); exact HO539.out) hb); replace BK535 := kb BK535 hb; replace BK536 := kb BK536 hb; replace HB := kh hb; (try clear hb); (try clear hb2); (try clear hk); (try clear hi)))
        replace HO539 := Aside0.mk (Kd.R_drew HO539.out)
        replace BK535 := Aside0.mk (blk_drew BK535.out)
        replace BK536 := Aside0.mk (blk_drew BK536.out)
        replace HB := Aside0.mk (below_drew1 HB.out)
        obtain ⟨Ao40, co40, eo40⟩ := Kd.R_slice HO539.out
        (first | subst eo40 | (injection eo40 with f1_ f2_ f3_; have f4_ := f1_.symm; have f5_ := f3_.symm; clear f1_ f2_ f3_; subst f4_; subst f5_))
        have p541 : 0 ≤ (t540 : Int) := da
        have q541 : t540 < (t537.length : Int) := da
        obtain ⟨ad541, e541, hx541_0, hx541_1⟩ := at_T53 (Kd.R_reads' HO539.out).2.2 t540 p541 q541
        cases e541
        replace p541 := eq_true p541
        replace q541 := eq_true q541
        have p542 : 0 ≤ ((ji7) : Int) := da
        have q542 : (ji7) < (l0.length : Int) := da
        obtain ⟨ad542, e542, hx542_0, hx542_1, hx542_2, hx542_3⟩ := at_T73 HR0.out (ji7) p542 q542
        have hw542_3 := hx542_3
        have hw542_2 := hx542_2
        have hw542_1 := hx542_1
        have hw542_0 := hx542_0
        cases e542
        replace hx542_0 := (hc HB hx542_0 :)
        replace hx542_1 := (hc HB hx542_1 :)
        replace hx542_2 := (hc HB hx542_2 :)
        replace hx542_3 := (hc HB hx542_3 :)
        replace p542 := eq_true p542
        replace q542 := eq_true q542
        have p543 : 0 ≤ (t540 : Int) := da
        have q543 : t540 < (t537.length : Int) := da
        obtain ⟨ad543, e543, hx543_0, hx543_1⟩ := at_T53 (Kd.R_reads' HO539.out).2.2 t540 p543 q543
        obtain rfl : ad541 = ad543 := (by injection e543)
        replace p543 := eq_true p543
        replace q543 := eq_true q543
        have p544 : 0 ≤ ((ji7) : Int) := da
        have q544 : (ji7) < (t537.length : Int) := da
        obtain ⟨ad544, e544, hx544_0, hx544_1⟩ := at_T53 (Kd.R_reads' HO539.out).2.2 (ji7) p544 q544
        obtain rfl : ad541 = ad544 := (by injection e544)
        replace p544 := eq_true p544
        replace q544 := eq_true q544
        refine start_ (n := 33) (S := fun w' => w'.cell? ⟨gb535, 0, none⟩ = some (.int .i64 a1_0) ∧ w'.cell? ⟨gb535, 1, none⟩ = some (.int .i64 a1_1) ∧ w'.cell? (ad541.add ((t540).toNat * 2)) = some (.int .i64 ((rd_T53 t537 t540).f0)) ∧ w'.cell? ⟨(ad541.add ((t540).toNat * 2)).block, (ad541.add ((t540).toNat * 2)).off + 1, none⟩ = some (.int .i64 ((rd_T53 t537 t540).f1)) ∧ w'.cell? (ad542.add (((ji7)).toNat * 4)) = some (.int .i64 ((rd_T73 l0 (ji7)).f0.f0)) ∧ w'.cell? ⟨(ad542.add (((ji7)).toNat * 4)).block, (ad542.add (((ji7)).toNat * 4)).off + 1, none⟩ = some (.int .i64 ((rd_T73 l0 (ji7)).f0.f1)) ∧ w'.cell? ⟨(ad542.add (((ji7)).toNat * 4)).block, (ad542.add (((ji7)).toNat * 4)).off + 2, none⟩ = some (.int .i64 ((rd_T73 l0 (ji7)).f1.f0)) ∧ w'.cell? ⟨(ad542.add (((ji7)).toNat * 4)).block, (ad542.add (((ji7)).toNat * 4)).off + 3, none⟩ = some (.int .i64 ((rd_T73 l0 (ji7)).f1.f1)) ∧ w'.cell? (ad541.add ((t540).toNat * 2)) = some (.int .i64 ((rd_T53 t537 t540).f0)) ∧ w'.cell? ⟨(ad541.add ((t540).toNat * 2)).block, (ad541.add ((t540).toNat * 2)).off + 1, none⟩ = some (.int .i64 ((rd_T53 t537 t540).f1)) ∧ w'.cell? (ad541.add (((ji7)).toNat * 2)) = some (.int .i64 ((rd_T53 t537 (ji7)).f0)) ∧ w'.cell? ⟨(ad541.add (((ji7)).toNat * 2)).block, (ad541.add (((ji7)).toNat * 2)).off + 1, none⟩ = some (.int .i64 ((rd_T53 t537 (ji7)).f1))) (ds := []) (tb 0 33) (by kernel_rfl) rfl rfl ⟨(blk_cell BK535.out 0).trans rfl, (blk_cell BK535.out 1).trans rfl, hx541_0, hx541_1, (hc HB hw542_0 :), (hc HB hw542_1 :), (hc HB hw542_2 :), (hc HB hw542_3 :), hx543_0, hx543_1, hx544_0, hx544_1⟩ (fun hHeld => ?_); refine with_tabW impl_slopeAt.tab3 impl_slopeAt.bits3 (fun HT_ HW_ => ?_)
        generalize w38.drew = w39 at HO539 BK535 BK536 HB hx541_0 hx541_1 hx542_0 hx542_1 hx542_2 hx542_3 hx543_0 hx543_1 hx544_0 hx544_1 hHeld ⊢
        refine pu 0 13 (tb 1 32) ?_
        refine pu 1 14 (tb 2 31) ?_
        refine pu 2 15 (tb 3 30) ?_
        refine pu 4 17 #[true, true, true, false, true, false, false, false, false, false, false, false, false, false, false, false, false, false, false, false, false, false, false, false, false, false, false, false, false, false, false, false, false] ?_
        refine pu 5 18 #[true, true, true, false, true, true, false, false, false, false, false, false, false, false, false, false, false, false, false, false, false, false, false, false, false, false, false, false, false, false, false, false, false] ?_
        refine pu 6 19 #[true, true, true, false, true, true, true, false, false, false, false, false, false, false, false, false, false, false, false, false, false, false, false, false, false, false, false, false, false, false, false, false, false] ?_
        refine pu 7 20 #[true, true, true, false, true, true, true, true, false, false, false, false, false, false, false, false, false, false, false, false, false, false, false, false, false, false, false, false, false, false, false, false, false] ?_
        refine pu 8 21 #[true, true, true, false, true, true, true, true, true, false, false, false, false, false, false, false, false, false, false, false, false, false, false, false, false, false, false, false, false, false, false, false, false] ?_
        refine tk 3 16 (tb 9 24) (hy := by rintro w' ⟨s0, s1, s2, s3, s4, s5, s6, s7, s8, s9, s10, s11⟩; go_simp; with_reducible rfl) (h := ?_)
        refine tk 9 22 (tb 10 23) (hy := by rintro w' ⟨s0, s1, s2, s3, s4, s5, s6, s7, s8, s9, s10, s11⟩; go_simp; with_reducible rfl) (h := ?_)
        refine tk 10 23 (tb 11 22) (hy := by rintro w' ⟨s0, s1, s2, s3, s4, s5, s6, s7, s8, s9, s10, s11⟩; go_simp; with_reducible rfl) (h := ?_)
        refine pu 11 24 (tb 12 21) ?_
        refine pu 12 25 (tb 13 20) ?_
        refine pu 13 26 (tb 14 19) ?_
        refine pu 14 27 (tb 15 18) ?_
        refine pu 15 28 (tb 16 17) ?_
        refine pu 16 29 (tb 17 16) ?_
        refine pu 17 30 (tb 18 15) ?_
        refine pu 18 31 (tb 19 14) ?_
        refine pu 19 32 (tb 20 13) ?_
        refine pu 20 33 (tb 21 12) ?_
        refine pu 21 34 (tb 22 11) ?_
        refine pu 22 35 (tb 23 10) ?_
        refine pu 24 37 #[true, true, true, true, true, true, true, true, true, true, true, true, true, true, true, true, true, true, true, true, true, true, true, false, true, false, false, false, false, false, false, false, false] ?_
        refine pu 25 38 #[true, true, true, true, true, true, true, true, true, true, true, true, true, true, true, true, true, true, true, true, true, true, true, false, true, true, false, false, false, false, false, false, false] ?_
        refine pu 26 39 #[true, true, true, true, true, true, true, true, true, true, true, true, true, true, true, true, true, true, true, true, true, true, true, false, true, true, true, false, false, false, false, false, false] ?_
        refine pu 27 40 #[true, true, true, true, true, true, true, true, true, true, true, true, true, true, true, true, true, true, true, true, true, true, true, false, true, true, true, true, false, false, false, false, false] ?_
        refine tk 23 36 (tb 28 5) (hy := by rintro w' ⟨s0, s1, s2, s3, s4, s5, s6, s7, s8, s9, s10, s11⟩; go_simp; with_reducible rfl) (h := ?_)
        refine tk 28 41 (tb 29 4) (hy := by rintro w' ⟨s0, s1, s2, s3, s4, s5, s6, s7, s8, s9, s10, s11⟩; go_simp; with_reducible rfl) (h := ?_)
        refine pu 29 42 (tb 30 3) ?_
        refine pu 30 43 (tb 31 2) ?_
        refine one_ (i := 31) (N := none) (tb 32 1) rfl rfl (one_of HT_.out (by kernel_rfl)) (by decide) (fun K hK => ?_)
        have hs41 : w39.cell? ⟨gb536, 0, none⟩ = some (.int .i64 0) := (blk_cell BK536.out 0).trans rfl
        have hfs41 := blk_frozen BK536.out 0
        have hns41_0 := NB535_536.out
        have hms41_0 := NB536_535.out
        have hs42 : w39.cell? ⟨gb536, 1, none⟩ = some (.int .i64 0) := (blk_cell BK536.out 1).trans rfl
        have hfs42 := blk_frozen BK536.out 1
        have hns42_0 := NB535_536.out
        have hms42_0 := NB536_535.out
        refine skip_ (w1 := ?_) (by rfl) rfl ?_ ?_
        rotate_left
        ·go_simp
         rfl
        refine hK.out _ _ ⟨(by (iterate 2 refine (cell_far (p := ⟨gb536, _, none⟩) NB535_536.out _).trans ?_); exact hHeld.1), (by (iterate 2 refine (cell_far (p := ⟨gb536, _, none⟩) NB535_536.out _).trans ?_); exact hHeld.2.1), (by (iterate 2 refine (cell_far (p := ⟨gb536, _, none⟩) (by have h_ := Kd.own_blk (Kd.R_away HO539.out (fun _ hk => hk.2)); first | exact h_ | (rw [add_block]; exact h_) | (show (Addr.add _ _).block ≠ _; rw [add_block]; exact h_) | (dsimp only; exact h_)) _).trans ?_); exact hHeld.2.2.1), (by (iterate 2 refine (cell_far (p := ⟨gb536, _, none⟩) (by have h_ := Kd.own_blk (Kd.R_away HO539.out (fun _ hk => hk.2)); first | exact h_ | (rw [add_block]; exact h_) | (show (Addr.add _ _).block ≠ _; rw [add_block]; exact h_) | (dsimp only; exact h_)) _).trans ?_); exact hHeld.2.2.2.1), (by (iterate 2 refine (cell_far (p := ⟨gb536, _, none⟩) (by have h_ := Nat.ne_of_lt (Nat.lt_of_lt_of_le (by have := World.block_lt_of_cell? _ _ hw542_0; first | rwa [add_block] at this | exact this) GW536.out); first | exact h_ | (rw [add_block]; exact h_) | (show (Addr.add _ _).block ≠ _; rw [add_block]; exact h_) | (dsimp only; exact h_)) _).trans ?_); exact hHeld.2.2.2.2.1), (by (iterate 2 refine (cell_far (p := ⟨gb536, _, none⟩) (by have h_ := Nat.ne_of_lt (Nat.lt_of_lt_of_le (by have := World.block_lt_of_cell? _ _ hw542_1; first | rwa [add_block] at this | exact this) GW536.out); first | exact h_ | (rw [add_block]; exact h_) | (show (Addr.add _ _).block ≠ _; rw [add_block]; exact h_) | (dsimp only; exact h_)) _).trans ?_); exact hHeld.2.2.2.2.2.1), (by (iterate 2 refine (cell_far (p := ⟨gb536, _, none⟩) (by have h_ := Nat.ne_of_lt (Nat.lt_of_lt_of_le (by have := World.block_lt_of_cell? _ _ hw542_2; first | rwa [add_block] at this | exact this) GW536.out); first | exact h_ | (rw [add_block]; exact h_) | (show (Addr.add _ _).block ≠ _; rw [add_block]; exact h_) | (dsimp only; exact h_)) _).trans ?_); exact hHeld.2.2.2.2.2.2.1), (by (iterate 2 refine (cell_far (p := ⟨gb536, _, none⟩) (by have h_ := Nat.ne_of_lt (Nat.lt_of_lt_of_le (by have := World.block_lt_of_cell? _ _ hw542_3; first | rwa [add_block] at this | exact this) GW536.out); first | exact h_ | (rw [add_block]; exact h_) | (show (Addr.add _ _).block ≠ _; rw [add_block]; exact h_) | (dsimp only; exact h_)) _).trans ?_); exact hHeld.2.2.2.2.2.2.2.1), (by (iterate 2 refine (cell_far (p := ⟨gb536, _, none⟩) (by have h_ := Kd.own_blk (Kd.R_away HO539.out (fun _ hk => hk.2)); first | exact h_ | (rw [add_block]; exact h_) | (show (Addr.add _ _).block ≠ _; rw [add_block]; exact h_) | (dsimp only; exact h_)) _).trans ?_); exact hHeld.2.2.2.2.2.2.2.2.1), (by (iterate 2 refine (cell_far (p := ⟨gb536, _, none⟩) (by have h_ := Kd.own_blk (Kd.R_away HO539.out (fun _ hk => hk.2)); first | exact h_ | (rw [add_block]; exact h_) | (show (Addr.add _ _).block ≠ _; rw [add_block]; exact h_) | (dsimp only; exact h_)) _).trans ?_); exact hHeld.2.2.2.2.2.2.2.2.2.1), (by (iterate 2 refine (cell_far (p := ⟨gb536, _, none⟩) (by have h_ := Kd.own_blk (Kd.R_away HO539.out (fun _ hk => hk.2)); first | exact h_ | (rw [add_block]; exact h_) | (show (Addr.add _ _).block ≠ _; rw [add_block]; exact h_) | (dsimp only; exact h_)) _).trans ?_); exact hHeld.2.2.2.2.2.2.2.2.2.2.1), (by (iterate 2 refine (cell_far (p := ⟨gb536, _, none⟩) (by have h_ := Kd.own_blk (Kd.R_away HO539.out (fun _ hk => hk.2)); first | exact h_ | (rw [add_block]; exact h_) | (show (Addr.add _ _).block ≠ _; rw [add_block]; exact h_) | (dsimp only; exact h_)) _).trans ?_); exact hHeld.2.2.2.2.2.2.2.2.2.2.2)⟩ (fun hHeld => ?_)
        clear hK K
        refine pu 32 5 (tb 33 0) ?_
        refine done_ (done_of HT_.out (by kernel_rfl)) ?_
        try go_wp2
        refine bodyPost_ret (results_ct rfl _ _ gb536 53 #[.int .i64 ((rd_T53 t537 t540).f0), .int .i64 ((rd_T53 t537 t540).f1)] (0, 0) _ rfl (by (with_reducible repeat (first | refine blk_drewN ?_ _ | refine blk_drew ?_ | refine blk_alloc ?_ _)); refine blk_put (cs := #[.int .i64 ((rd_T53 t537 t540).f0), .int .i64 0]) ?_ 1 _ rfl; (with_reducible repeat (first | refine blk_drewN ?_ _ | refine blk_drew ?_ | refine blk_alloc ?_ _)); refine blk_put (cs := #[.int .i64 0, .int .i64 0]) ?_ 0 _ rfl; (with_reducible repeat (first | refine blk_drewN ?_ _ | refine blk_drew ?_ | refine blk_alloc ?_ _)); exact BK536.out) Try.underlying53 rfl (by kernel_rfl)) rfl ?_
        exact ⟨by first | rfl | (simp [errW_none, errW_some] <;> rfl) | (simp only [← hji7]; first | rfl | (simp [errW_none, errW_some] <;> rfl)) | (simp [*, errW_none, errW_some] <;> rfl), bl⟩
       ·rw [if_neg c32] at H
        exact absurd H (by simp)
    ·rw [if_neg c9] at H
     exact absurd H (by simp)
   ·rw [if_neg c8] at H
    exact absurd H (by simp)
  ·rw [if_neg c6] at H
   exact absurd H (by simp)
 ·rw [if_neg c5] at H
  exact absurd H (by simp)

end Go.Proofs.Ytannadjfkaghjaa.PFnExactIsRepelling
