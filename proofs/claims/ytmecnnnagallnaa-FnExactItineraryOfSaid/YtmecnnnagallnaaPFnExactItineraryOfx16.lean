-- Written by this session's program wip/pp (the kit's print tool with additions) 35421559b90ae4d0a3588c463048766b98c2df88dd9212a6774a882060cdf62d
import Derived.Test.YtmecnnnagallnaaPFnExactItineraryOfx0
import Derived.Test.YtmecnnnagallnaaPFnExactItineraryOfx11
import Derived.Test.YtmecnnnagallnaaPFnExactItineraryOfx13
import Derived.Test.YtmecnnnagallnaaPFnExactItineraryOfx14
import Derived.Test.YtmecnnnagallnaaPFnExactItineraryOfx15
namespace Go.Proofs.Ytmecnnnagallnaa.PFnExactItineraryOf
open Go.RowKit Go.Proofs.YtmecnnnagallnaaW.PrintWords Go.Proofs.YtmecnnnagallnaaW.PrintLast Go.Proofs.YtmecnnnagallnaaW.PrintMore
attribute [local go_sem] max2_int min2_int max_two min_two max_three min_three max_four min_four   -- for this text's walks alone
set_option linter.unusedVariables false
set_option linter.unusedSimpArgs false

/-! ### impl_slopes: function 50 -/
def impl_slopes.l0 : Nat → List (S68) → List (S28) → Int → Bool → Option ((List (S28)))
 | 0, _, _, _, _ => none
 | k + 1, x0, x4, x5, x430000 => if x5 < (x0.length : Int) then (if 0 ≤ (wrap64 (x5 - 1)) then (if (wrap64 (x5 - 1)) < (x0.length : Int) then (if 0 ≤ x5 then ((impl_calc_slope.f k x430000 ((rd_T68 x0 (wrap64 (x5 - 1))).f0.f0) ((rd_T68 x0 (wrap64 (x5 - 1))).f0.f1) ((rd_T68 x0 (wrap64 (x5 - 1))).f1.f0) ((rd_T68 x0 (wrap64 (x5 - 1))).f1.f1) ((rd_T68 x0 x5).f0.f0) ((rd_T68 x0 x5).f0.f1) ((rd_T68 x0 x5).f1.f0) ((rd_T68 x0 x5).f1.f1)).bind fun bt432 => (if x4.length < 8796093022208 then (impl_slopes.l0 k x0 (x4 ++ [(⟨bt432.1, bt432.2.1⟩ : S28)]) (wrap64 (x5 + 1)) bt432.2.2) else (none))) else (none)) else (none)) else (none)) else (some x4)
def impl_slopes.f (k : Nat) (l0 : List (S68)) : Option ((List (S28))) := impl_slopes.l0 k l0 ([] : List (S28)) 1 false
def impl_slopes.T6 : Bool × List (List Nat × List Nat) := (true, [([], []), ([], []), ([], []), ([2], [2]), ([1, 3], [1, 3]), ([4], [4]), ([], []), ([], []), ([6, 7], [6, 7]), ([8], [8]), ([5, 9], [5, 9]), ([10], [10]), ([0, 11, 10], [0, 11]), ([12, 12, 0, 1, 2, 3, 4, 5, 6, 7, 8, 9, 10, 11, 12], [0, 12])])
def impl_slopes.B6 : List Nat := [0, 0, 0, 4, 14, 30, 0, 0, 192, 448, 1022, 2046, 4095, 8191]
theorem impl_slopes.tab6 : rtab .any (opsOf Try.f50 6) = impl_slopes.T6 := by kernel_rfl
theorem impl_slopes.bits6 : waitsOk impl_slopes.T6.2 impl_slopes.B6 = true := by kernel_rfl
set_option maxHeartbeats 8000000 in
set_option maxRecDepth 100000 in
theorem impl_slopes.calls (k : Nat) (A0 : Option Addr) (c0 : Nat) (l0 : List (S68)) (r : List (S28)) (w : World) (hr0 : Kd.C k68 w A0 l0.length l0) (hc0 : l0.length ≤ c0) (h : impl_slopes.f k l0 = some r) :
  Calls Try.prog 50 #[.slice A0 l0.length c0] w fun e w' => ∃ v0_ : Value, e = .returned (v0_) ∧ Kd.R k28 28 w' w.heap.size (fun _ => True) v0_ r ∧ Below w.heap.size w w' := by
 have hu78 := Try.underlying78
 have hu68 := Try.underlying68
 have HR0 := Aside0.mk hr0
 have HC0 := Aside0.mk hc0
 clear hr0 hc0
 have HB := Aside0.mk (Below.refl w.heap.size w)
 have H : (impl_slopes.l0 k l0 ([] : List (S28)) 1 false) = some r := h
 clear h
 have H' := Aside0.mk H
 clear H
 go_enter Try.func50, Try.ntmps50
 go_wp2_with (first | ((with_reducible refine gate_dst (N := 3) rfl ?_); refine bx 3 #[.bool false] 78 ?_; intro gb429 hg w2 hbox hb; have HI429 := Aside0.mk ((⟨hbox, (by rw [hg]; exact (below_size bl) : w.heap.size ≤ gb429)⟩ : IsS78 w w2 gb429 false)); replace HB := kh hb; clear hb hbox hg))
 go_loopg [4, 5] k (fun kq v4 v5 w' => ∃ (x4_1 : List (S28)) (x5_1 : Int) (x430000_1 : Bool), v5 = .int .i64 x5_1 ∧ Aside0 (impl_slopes.l0 kq l0 x4_1 x5_1 x430000_1 = some r) ∧ Aside0 (kq ≤ k) ∧ Aside0 (Kd.R k28 28 w' w.heap.size (fun _ => True) v4 x4_1) ∧ Aside0 (IsS78 w w' gb429 x430000_1) ∧ Aside0 (Below w.heap.size w w'))
 case atStart => exact ⟨(([] : List (S28))), (1), (false), rs, H', ⟨Nat.le_refl _⟩, ⟨by first | exact Kd.R_nil _ _ _ _ _ | exact Kd.N_nil _ _ _ _ _ | exact Kd.V_nil _ _ _ _ _ | exact Kd.Q_nil _ _ _ _ _ | exact Kd.S_nil _ _ _ _ _⟩, ⟨by repeat (first | (with_reducible first | exact HI429.out | apply IsS78.alloc | apply IsS78.drewN | apply IsS78.drew | apply IsS78.set_0) | exact HI429.out)⟩, ⟨by repeat (first | (with_reducible first | exact HB.out | apply below_alloc | apply pw_below_drewN | apply below_drew1 | refine below_set ?_ (IsS78.ge HI429.out)) | exact HB.out)⟩⟩
 case round =>
  clear H'
  try clear p2
  obtain ⟨x4_1, x5_1, x430000_1, rfl, HA, HK1, HO_4, HI429, HB⟩ := hrel
  cases gk with
  | zero => exact absurd HA.out (by simp [impl_slopes.l0])
  | succ k1 =>
   have H := HA.out
   clear HA
   simp only [impl_slopes.l0] at H
   by_cases c3 : x5_1 < (l0.length : Int)
   ·rw [if_pos c3] at H
    have c3b0 : decide (x5_1 < (l0.length : Int)) = true := decide_eq_true c3
    clear c3
    obtain ⟨ji4, hji4⟩ : ∃ j_ : Int, (wrap64 (x5_1 - 1)) = j_ := ⟨_, rfl⟩
    replace H : (if 0 ≤ (ji4) then (if (ji4) < (l0.length : Int) then (if 0 ≤ x5_1 then ((impl_calc_slope.f k1 x430000_1 ((rd_T68 l0 (ji4)).f0.f0) ((rd_T68 l0 (ji4)).f0.f1) ((rd_T68 l0 (ji4)).f1.f0) ((rd_T68 l0 (ji4)).f1.f1) ((rd_T68 l0 x5_1).f0.f0) ((rd_T68 l0 x5_1).f0.f1) ((rd_T68 l0 x5_1).f1.f0) ((rd_T68 l0 x5_1).f1.f1)).bind fun bt432 => (if x4_1.length < 8796093022208 then (impl_slopes.l0 k1 l0 (x4_1 ++ [(⟨bt432.1, bt432.2.1⟩ : S28)]) (wrap64 (x5_1 + 1)) bt432.2.2) else (none))) else (none)) else (none)) else (none)) = some r := by first | (rw [hji4] at H; exact H) | (simp only [hji4] at H ⊢; exact H)
    have hji4w : (IntKind.i64.wrap (x5_1 - 1)) = ji4 := (i64_w _).trans hji4
    by_cases c5 : 0 ≤ (ji4)
    ·rw [if_pos c5] at H
     have c5b0 : decide (0 ≤ (ji4)) = true := decide_eq_true c5
     clear c5
     by_cases c6 : (ji4) < (l0.length : Int)
     ·rw [if_pos c6] at H
      have c6b0 : decide ((ji4) < (l0.length : Int)) = true := decide_eq_true c6
      clear c6
      by_cases c7 : 0 ≤ x5_1
      ·rw [if_pos c7] at H
       have c7b0 : decide (0 ≤ x5_1) = true := decide_eq_true c7
       clear c7
       replace H := Option.bind_eq_some_iff.mp H
       obtain ⟨⟨t432, t433, t434⟩, A80, H⟩ := H
       replace H : (if x4_1.length < 8796093022208 then (impl_slopes.l0 k1 l0 (x4_1 ++ [(⟨t432, t433⟩ : S28)]) (wrap64 (x5_1 + 1)) t434) else (none)) = some r := H
       have A8 := Aside0.mk A80
       clear A80
       by_cases c9 : x4_1.length < 8796093022208
       ·rw [if_pos c9] at H
        have LMc9 := Aside0.mk c9
        clear c9
        obtain ⟨y435, hy435⟩ : ∃ y_ : List (S28), y_ = (x4_1 ++ [(⟨t432, t433⟩ : S28)]) := ⟨_, rfl⟩
        replace H : (impl_slopes.l0 k1 l0 y435 (wrap64 (x5_1 + 1)) t434) = some r := by first | (rw [hy435]; with_reducible exact H) | (have H2_ := (Option.bind_some _ _).symm.trans H; rw [hy435]; with_reducible exact H2_) | (have H2_ := (Option.bind_some _ _).symm.trans H; with_reducible exact H2_) | with_reducible exact H | (rw [hy435]; exact H) | exact H
        have Ny435 := Aside0.mk hy435
        clear hy435
        have H' := Aside0.mk H
        clear H
        try go_wp2
        replace HO_4 := Aside0.mk (Kd.R_drew HO_4.out)
        replace HI429 := Aside0.mk (IsS78.drew HI429.out)
        replace HB := Aside0.mk (below_drew1 HB.out)
        have p430 : 0 ≤ ((ji4) : Int) := da
        have q430 : (ji4) < (l0.length : Int) := da
        obtain ⟨ad430, e430, hx430_0, hx430_1, hx430_2, hx430_3⟩ := at_T68 HR0.out (ji4) p430 q430
        have hw430_3 := hx430_3
        have hw430_2 := hx430_2
        have hw430_1 := hx430_1
        have hw430_0 := hx430_0
        cases e430
        replace hx430_0 := (hc HB hx430_0 :)
        replace hx430_1 := (hc HB hx430_1 :)
        replace hx430_2 := (hc HB hx430_2 :)
        replace hx430_3 := (hc HB hx430_3 :)
        replace p430 := eq_true p430
        replace q430 := eq_true q430
        have p431 : 0 ≤ (x5_1 : Int) := da
        have q431 : x5_1 < (l0.length : Int) := da
        obtain ⟨ad431, e431, hx431_0, hx431_1, hx431_2, hx431_3⟩ := at_T68 HR0.out x5_1 p431 q431
        have hw431_3 := hx431_3
        have hw431_2 := hx431_2
        have hw431_1 := hx431_1
        have hw431_0 := hx431_0
        obtain rfl : ad430 = ad431 := (by injection e431)
        replace hx431_0 := (hc HB hx431_0 :)
        replace hx431_1 := (hc HB hx431_1 :)
        replace hx431_2 := (hc HB hx431_2 :)
        replace hx431_3 := (hc HB hx431_3 :)
        replace p431 := eq_true p431
        replace q431 := eq_true q431
        refine start_ (n := 14) (S := fun w' => w'.cell? (ad430.add (((ji4)).toNat * 4)) = some (.int .i64 ((rd_T68 l0 (ji4)).f0.f0)) ∧ w'.cell? ⟨(ad430.add (((ji4)).toNat * 4)).block, (ad430.add (((ji4)).toNat * 4)).off + 1, none⟩ = some (.int .i64 ((rd_T68 l0 (ji4)).f0.f1)) ∧ w'.cell? ⟨(ad430.add (((ji4)).toNat * 4)).block, (ad430.add (((ji4)).toNat * 4)).off + 2, none⟩ = some (.int .i64 ((rd_T68 l0 (ji4)).f1.f0)) ∧ w'.cell? ⟨(ad430.add (((ji4)).toNat * 4)).block, (ad430.add (((ji4)).toNat * 4)).off + 3, none⟩ = some (.int .i64 ((rd_T68 l0 (ji4)).f1.f1)) ∧ w'.cell? (ad430.add ((x5_1).toNat * 4)) = some (.int .i64 ((rd_T68 l0 x5_1).f0.f0)) ∧ w'.cell? ⟨(ad430.add ((x5_1).toNat * 4)).block, (ad430.add ((x5_1).toNat * 4)).off + 1, none⟩ = some (.int .i64 ((rd_T68 l0 x5_1).f0.f1)) ∧ w'.cell? ⟨(ad430.add ((x5_1).toNat * 4)).block, (ad430.add ((x5_1).toNat * 4)).off + 2, none⟩ = some (.int .i64 ((rd_T68 l0 x5_1).f1.f0)) ∧ w'.cell? ⟨(ad430.add ((x5_1).toNat * 4)).block, (ad430.add ((x5_1).toNat * 4)).off + 3, none⟩ = some (.int .i64 ((rd_T68 l0 x5_1).f1.f1))) (ds := []) (tb 0 14) (by kernel_rfl) rfl rfl ⟨(hc HB hw430_0 :), (hc HB hw430_1 :), (hc HB hw430_2 :), (hc HB hw430_3 :), (hc HB hw431_0 :), (hc HB hw431_1 :), (hc HB hw431_2 :), (hc HB hw431_3 :)⟩ (fun hHeld => ?_); refine with_tabW impl_slopes.tab6 impl_slopes.bits6 (fun HT_ HW_ => ?_)
        generalize wr.drew = w10 at HO_4 HI429 HB hx430_0 hx430_1 hx430_2 hx430_3 hx431_0 hx431_1 hx431_2 hx431_3 hHeld ⊢
        refine pu 0 12 (tb 1 13) ?_
        refine pu 1 13 (tb 2 12) ?_
        refine pu 2 14 (tb 3 11) ?_
        refine pu 3 15 (tb 4 10) ?_
        refine pu 4 16 (tb 5 9) ?_
        refine pu 6 18 #[true, true, true, true, true, false, true, false, false, false, false, false, false, false] ?_
        refine pu 7 19 #[true, true, true, true, true, false, true, true, false, false, false, false, false, false] ?_
        refine pu 8 20 #[true, true, true, true, true, false, true, true, true, false, false, false, false, false] ?_
        refine tk 5 17 (tb 9 5) (hy := by rintro w' ⟨s0, s1, s2, s3, s4, s5, s6, s7⟩; go_simp; with_reducible rfl) (h := ?_)
        refine tk 9 21 (tb 10 4) (hy := by rintro w' ⟨s0, s1, s2, s3, s4, s5, s6, s7⟩; go_simp; with_reducible rfl) (h := ?_)
        refine on 10 22 (tb 11 3) (fun K hK => ?_)
        refine goes_ Try.func96 (by kernel_rfl) rfl #[.pointer (some ⟨gb429, 0, none⟩), .agg #[.int .i64 ((rd_T68 l0 (ji4)).f0.f0), .int .i64 ((rd_T68 l0 (ji4)).f0.f1), .int .i64 ((rd_T68 l0 (ji4)).f1.f0), .int .i64 ((rd_T68 l0 (ji4)).f1.f1)], .agg #[.int .i64 ((rd_T68 l0 x5_1).f0.f0), .int .i64 ((rd_T68 l0 x5_1).f0.f1), .int .i64 ((rd_T68 l0 x5_1).f1.f0), .int .i64 ((rd_T68 l0 x5_1).f1.f1)]] (by rfl) rfl rfl (by (try simp only [List.map_toArray, List.map_cons, List.map_nil]); first | done | (simp only [hji4]; rfl) | rfl | (simp only [List.length_drop, List.length_take]; rfl)) ?_
        with_reducible refine (impl_calc_slope.calls k1 gb429 x430000_1 ((rd_T68 l0 (ji4)).f0.f0) ((rd_T68 l0 (ji4)).f0.f1) ((rd_T68 l0 (ji4)).f1.f0) ((rd_T68 l0 (ji4)).f1.f1) ((rd_T68 l0 x5_1).f0.f0) ((rd_T68 l0 x5_1).f0.f1) ((rd_T68 l0 x5_1).f1.f0) ((rd_T68 l0 x5_1).f1.f1) t432 t433 t434 w _ ?side1 ?side2 A8.out).mono ?_
        (case side1 => repeat (first | (with_reducible first | exact HI429.out | apply IsS78.alloc | apply IsS78.drewN | apply IsS78.drew | apply IsS78.set_0) | exact HI429.out))
        (case side2 => repeat (first | (with_reducible first | exact HB.out | apply below_alloc | apply pw_below_drewN | apply below_drew1 | refine below_set ?_ (IsS78.ge HI429.out)) | exact HB.out))
        rintro e w11 ⟨rfl, hi, hb, hk⟩
        refine ⟨_, rfl, ?_⟩
        replace HO_4 := Aside0.mk (Kd.R_mono (Kd.R_keep (IsS78.apart (show IsS78 w _ gb429 x430000_1 from by repeat (first | (with_reducible first | exact HI429.out | apply IsS78.alloc | apply IsS78.drewN | apply IsS78.drew | apply IsS78.set_0) | exact HI429.out)) (by (with_reducible repeat (first | apply Kd.R_alloc | apply Kd.R_drewN | apply Kd.R_drew)); exact HO_4.out) (by decide)) hk (fun _ h => h.2)) (fun _ h => h.1))
        replace HB := Aside0.mk (hb)
        replace HI429 := Aside0.mk (hi)
        (try clear hb)
        (try clear hb2)
        (try clear hk)
        (try clear hi)
        refine hK.out _ _ ⟨(hc HB hw430_0 :), (hc HB hw430_1 :), (hc HB hw430_2 :), (hc HB hw430_3 :), (hc HB hw431_0 :), (hc HB hw431_1 :), (hc HB hw431_2 :), (hc HB hw431_3 :)⟩ (fun hHeld => ?_)
        clear hK K
        refine nm 22 ?_
        refine on 11 23 (tb 12 2) (fun K hK => ?_)
        refine value_ (w1 := ?_) (v := ?_) (by rfl) rfl ?_ ?_
        rotate_left 2
        ·go_simp
         constructor
         ·rfl
         ·rfl
        refine hK.out _ _ ⟨(World.cell?_alloc_lt _ _ _ (World.block_lt_of_cell? _ _ ((hc HB hw430_0 :)))).trans ((hc HB hw430_0 :)), (World.cell?_alloc_lt _ _ _ (World.block_lt_of_cell? _ _ ((hc HB hw430_1 :)))).trans ((hc HB hw430_1 :)), (World.cell?_alloc_lt _ _ _ (World.block_lt_of_cell? _ _ ((hc HB hw430_2 :)))).trans ((hc HB hw430_2 :)), (World.cell?_alloc_lt _ _ _ (World.block_lt_of_cell? _ _ ((hc HB hw430_3 :)))).trans ((hc HB hw430_3 :)), (World.cell?_alloc_lt _ _ _ (World.block_lt_of_cell? _ _ ((hc HB hw431_0 :)))).trans ((hc HB hw431_0 :)), (World.cell?_alloc_lt _ _ _ (World.block_lt_of_cell? _ _ ((hc HB hw431_1 :)))).trans ((hc HB hw431_1 :)), (World.cell?_alloc_lt _ _ _ (World.block_lt_of_cell? _ _ ((hc HB hw431_2 :)))).trans ((hc HB hw431_2 :)), (World.cell?_alloc_lt _ _ _ (World.block_lt_of_cell? _ _ ((hc HB hw431_3 :)))).trans ((hc HB hw431_3 :))⟩ (fun hHeld => ?_)
        clear hK K
        refine nm 23 ?_
        refine on 12 24 (tb 13 1) (fun K hK => ?_)
        refine Kd.R_append_step k28 (w0 := w) w.heap.size (by rfl) (.tmp 12) (.tmp 23) 64 28 (.agg #[(.int .i64 0), (.int .i64 0)]) 16 rfl Try.underlying64 info28 rfl (by decide) (by omega) u4 x4_1 (⟨t432, t433⟩ : S28) [.int .i64 t432, .int .i64 t433] (fun _ => True) (fun _ => False) rfl rfl ?aP (fun _ hk => hk.elim) ?aF ?aO ?aB ?aS ?aL ?_
        (case aP => exact k28_mkM _ _ _ (⟨t432, t433⟩ : S28))
        (case aB => exact (by repeat (first | (with_reducible first | exact HB.out | apply below_alloc | apply pw_below_drewN | apply below_drew1 | refine below_set ?_ (IsS78.ge HI429.out)) | exact HB.out)))
        (case aF => exact (fun _ _ => trivial))
        (case aO => exact (by (with_reducible repeat (first | apply Kd.R_alloc | apply Kd.R_drewN | apply Kd.R_drew)); exact HO_4.out))
        (case aS => exact (below_size (by repeat (first | (with_reducible first | exact HB.out | apply below_alloc | apply pw_below_drewN | apply below_drew1 | refine below_set ?_ (IsS78.ge HI429.out)) | exact HB.out))))
        (case aL => have := LMc9.out; omega)
        intro v436 w12 ho hb hg hat
        rw [← Ny435.out] at ho
        have HO437 := Aside0.mk (ho)
        replace HI429 := Aside0.mk (IsS78.grown (show IsS78 w _ gb429 t434 from by repeat (first | (with_reducible first | exact HI429.out | apply IsS78.alloc | apply IsS78.drewN | apply IsS78.drew | apply IsS78.set_0) | exact HI429.out)) hg (IsS78.own_ne HI429.out HO_4.out (by decide)))
        replace HB := Aside0.mk (hb)
        clear HO_4
        clear ho hb hg hat
        refine hK.out _ _ ⟨(hc HB hw430_0 :), (hc HB hw430_1 :), (hc HB hw430_2 :), (hc HB hw430_3 :), (hc HB hw431_0 :), (hc HB hw431_1 :), (hc HB hw431_2 :), (hc HB hw431_3 :)⟩ (fun hHeld => ?_)
        clear hK K
        refine nm 24 ?_
        refine pu 13 4 (tb 14 0) ?_
        refine done_ (done_of HT_.out (by kernel_rfl)) ?_
        try go_wp2
        go_roundg k1
        case measure => have := HK1.out; omega
        case rel => exact ⟨(y435), (wrap64 (x5_1 + 1)), (t434), rs, H', ⟨by have := HK1.out; omega⟩, ⟨by (with_reducible repeat (first | apply Kd.R_alloc | apply Kd.R_drewN | apply Kd.R_drew)); exact HO437.out⟩, ⟨by repeat (first | (with_reducible first | exact HI429.out | apply IsS78.alloc | apply IsS78.drewN | apply IsS78.drew | apply IsS78.set_0) | exact HI429.out)⟩, ⟨by repeat (first | (with_reducible first | exact HB.out | apply below_alloc | apply pw_below_drewN | apply below_drew1 | refine below_set ?_ (IsS78.ge HI429.out)) | exact HB.out)⟩⟩
       ·rw [if_neg c9] at H
        exact absurd H (by simp)
      ·rw [if_neg c7] at H
       exact absurd H (by simp)
     ·rw [if_neg c6] at H
      exact absurd H (by simp)
    ·rw [if_neg c5] at H
     exact absurd H (by simp)
   ·rw [if_neg c3] at H
    have c3b0 : decide (x5_1 < (l0.length : Int)) = false := decide_eq_false c3
    clear c3
    obtain rfl := Option.some.inj H
    go_wp2
    go_ret
    exact ⟨_, rt, by (with_reducible repeat (first | apply Kd.R_alloc | apply Kd.R_drewN | apply Kd.R_drew)); exact HO_4.out, by repeat (first | (with_reducible first | exact HB.out | apply below_alloc | apply pw_below_drewN | apply below_drew1 | refine below_set ?_ (IsS78.ge HI429.out)) | exact HB.out)⟩

-- NOT PRINTED: function 131 (impl_Rat_131)

-- NOT PRINTED: function 109 (impl_Rat_109)

/-! ### impl_isLapMap_1: function 110 -/
def impl_isLapMap_1.f (a0_0 : Int) (a0_1 : Int) : Option (Bool) := some (a0_0 == 0)
set_option maxHeartbeats 8000000 in
set_option maxRecDepth 100000 in
theorem impl_isLapMap_1.calls (a0_0 : Int) (a0_1 : Int) (r : Bool) (w : World) (h : impl_isLapMap_1.f a0_0 a0_1 = some r) :
  Calls Try.prog 110 #[.agg #[.int .i64 a0_0, .int .i64 a0_1]] w fun e w' => e = .returned (.bool r) ∧ Below w.heap.size w w' := by
 have hu28 := Try.underlying28
 have HB := Aside0.mk (Below.refl w.heap.size w)
 have H : (some (a0_0 == 0)) = some r := h
 clear h
 obtain rfl := Option.some.inj H
 go_enter Try.func110, Try.ntmps110
 go_wp2_with (first | ((with_reducible refine gate_dst (N := 1) rfl ?_); refine bx 1 #[.int .i64 a0_0, .int .i64 a0_1] 28 ?_; intro gb438 hg w2 hbox hb; have BK438 := Aside0.mk (hbox); have GW438 := Aside0.mk (bz hg); have GE438 := GW438; replace HB := kh hb; clear hb hbox hg; obtain ⟨hcz3_0, hcz3_1, hfz3_0, hfz3_1⟩ := b2 BK438))
 go_ret
 exact ⟨rt, bl⟩

/-! ### slices_IndexFunc__impl_isLapMap_1: function 131 -/
def slices_IndexFunc__impl_isLapMap_1.l0 : Nat → List (S28) → Int → Int → Option (Int)
 | 0, _, _, _ => none
 | k + 1, x0, x7, x8 => if x8 < x7 then (if 0 ≤ x8 then (if x8 < (x0.length : Int) then ((impl_isLapMap_1.f ((rd_T28 x0 x8).f0) ((rd_T28 x0 x8).f1)).bind fun t440 => (if t440 = true then (some x8) else (slices_IndexFunc__impl_isLapMap_1.l0 k x0 x7 (wrap64 (x8 + 1))))) else (none)) else (none)) else (some (-1))
def slices_IndexFunc__impl_isLapMap_1.f (k : Nat) (l0 : List (S28))  : Option (Int) := slices_IndexFunc__impl_isLapMap_1.l0 k l0 (l0.length : Int) 0
set_option maxHeartbeats 8000000 in
set_option maxRecDepth 100000 in
theorem slices_IndexFunc__impl_isLapMap_1.calls (k : Nat) (A0 : Option Addr) (c0 : Nat) (l0 : List (S28))  (r : Int) (w : World) (hr0 : Kd.C k28 w A0 l0.length l0) (hc0 : l0.length ≤ c0) (h : slices_IndexFunc__impl_isLapMap_1.f k l0 = some r) :
  Calls Try.prog 131 #[.slice A0 l0.length c0, .func (.func 110) #[] #[]] w fun e w' => e = .returned (.int .i64 r) ∧ Below w.heap.size w w' := by
 have hu28 := Try.underlying28
 have HR0 := Aside0.mk hr0
 have HC0 := Aside0.mk hc0
 clear hr0 hc0
 have HB := Aside0.mk (Below.refl w.heap.size w)
 have H : (slices_IndexFunc__impl_isLapMap_1.l0 k l0 (l0.length : Int) 0) = some r := h
 clear h
 have H' := Aside0.mk H
 clear H
 go_enter Try.func131, Try.ntmps131
 go_wp2
 go_loopg [8] k (fun kq v8 w' => ∃ (x8_1 : Int), v8 = .int .i64 x8_1 ∧ Aside0 (slices_IndexFunc__impl_isLapMap_1.l0 kq l0 (l0.length : Int) x8_1 = some r) ∧ Aside0 (kq ≤ k) ∧ Aside0 (Below w.heap.size w w'))
 case atStart => exact ⟨(0), rs, H', ⟨Nat.le_refl _⟩, ⟨bl⟩⟩
 case round =>
  clear H'
  try clear p2
  obtain ⟨x8_1, rfl, HA, HK1, HB⟩ := hrel
  cases gk with
  | zero => exact absurd HA.out (by simp [slices_IndexFunc__impl_isLapMap_1.l0])
  | succ k1 =>
   have H := HA.out
   clear HA
   simp only [slices_IndexFunc__impl_isLapMap_1.l0] at H
   by_cases c3 : x8_1 < (l0.length : Int)
   ·rw [if_pos c3] at H
    have c3b0 : decide (x8_1 < (l0.length : Int)) = true := decide_eq_true c3
    clear c3
    by_cases c4 : 0 ≤ x8_1
    ·rw [if_pos c4] at H
     have c4b0 : decide (0 ≤ x8_1) = true := decide_eq_true c4
     clear c4
     by_cases c5 : x8_1 < (l0.length : Int)
     ·rw [if_pos c5] at H
      have c5b0 : decide (x8_1 < (l0.length : Int)) = true := decide_eq_true c5
      clear c5
      replace H := Option.bind_eq_some_iff.mp H
      obtain ⟨t440, A60, H⟩ := H
      replace H : (if t440 = true then (some x8_1) else (slices_IndexFunc__impl_isLapMap_1.l0 k1 l0 (l0.length : Int) (wrap64 (x8_1 + 1)))) = some r := H
      have A6 := Aside0.mk A60
      clear A60
      by_cases c7 : t440 = true
      ·subst c7
       have H1 : (some x8_1) = some r := by rw [if_pos rfl] at H; exact H
       clear H
       have H := H1
       clear H1
       obtain rfl := Option.some.inj H
       have p439 : 0 ≤ (x8_1 : Int) := da
       have q439 : x8_1 < (l0.length : Int) := da
       obtain ⟨ad439, e439, hx439_0, hx439_1⟩ := at_T28 HR0.out x8_1 p439 q439
       cases e439
       replace hx439_0 := (hc HB hx439_0 :)
       replace hx439_1 := (hc HB hx439_1 :)
       replace p439 := eq_true p439
       replace q439 := eq_true q439
       go_wp2_with (first | ((with_reducible refine gate_value (t := 11) rfl ?_); refine goesV_ (t := 11) (f := 110) rfl (some 16) rfl rfl Try.func110 (by kernel_rfl) rfl #[.agg #[.int .i64 ((rd_T28 l0 x8_1).f0), .int .i64 ((rd_T28 l0 x8_1).f1)]] rfl (by (try simp only [List.map_toArray, List.map_cons, List.map_nil]); first | done | rfl | (simp only [List.length_drop, List.length_take]; rfl)) ?_; (with_reducible refine (impl_isLapMap_1.calls ((rd_T28 l0 x8_1).f0) ((rd_T28 l0 x8_1).f1) true _ A6.out).mono ?_); rintro e w8 ⟨rfl, hb⟩; refine ⟨_, rfl, ?_⟩; replace HB := kh hb; (try clear hb); (try clear hb2); (try clear hk); (try clear hi)))
       go_ret
       exact ⟨rt, bl⟩
      ·replace c7 := Bool.eq_false_iff.mpr c7
       subst c7
       have H1 : (slices_IndexFunc__impl_isLapMap_1.l0 k1 l0 (l0.length : Int) (wrap64 (x8_1 + 1))) = some r := by rw [if_neg (show ¬ (false = true) by decide)] at H; exact H
       clear H
       have H := H1
       clear H1
       have H' := Aside0.mk H
       clear H
       have p439 : 0 ≤ (x8_1 : Int) := da
       have q439 : x8_1 < (l0.length : Int) := da
       obtain ⟨ad439, e439, hx439_0, hx439_1⟩ := at_T28 HR0.out x8_1 p439 q439
       cases e439
       replace hx439_0 := (hc HB hx439_0 :)
       replace hx439_1 := (hc HB hx439_1 :)
       replace p439 := eq_true p439
       replace q439 := eq_true q439
       go_wp2_with (first | ((with_reducible refine gate_value (t := 11) rfl ?_); refine goesV_ (t := 11) (f := 110) rfl (some 16) rfl rfl Try.func110 (by kernel_rfl) rfl #[.agg #[.int .i64 ((rd_T28 l0 x8_1).f0), .int .i64 ((rd_T28 l0 x8_1).f1)]] rfl (by (try simp only [List.map_toArray, List.map_cons, List.map_nil]); first | done | rfl | (simp only [List.length_drop, List.length_take]; rfl)) ?_; (with_reducible refine (impl_isLapMap_1.calls ((rd_T28 l0 x8_1).f0) ((rd_T28 l0 x8_1).f1) false _ A6.out).mono ?_); rintro e w9 ⟨rfl, hb⟩; refine ⟨_, rfl, ?_⟩; replace HB := kh hb; (try clear hb); (try clear hb2); (try clear hk); (try clear hi)))
       go_roundg k1
       case measure => have := HK1.out; omega
       case rel => exact ⟨(wrap64 (x8_1 + 1)), rs, H', ⟨by have := HK1.out; omega⟩, ⟨bl⟩⟩
     ·rw [if_neg c5] at H
      exact absurd H (by simp)
    ·rw [if_neg c4] at H
     exact absurd H (by simp)
   ·rw [if_neg c3] at H
    have c3b0 : decide (x8_1 < (l0.length : Int)) = false := decide_eq_false c3
    clear c3
    obtain rfl := Option.some.inj H
    go_wp2
    go_ret
    exact ⟨rt, bl⟩

/-! ### slices_ContainsFunc__impl_isLapMap_1: function 109 -/
def slices_ContainsFunc__impl_isLapMap_1.f (k : Nat) (l0 : List (S28))  : Option (Bool) := (slices_IndexFunc__impl_isLapMap_1.f k l0).bind fun t441 => (some (decide (t441 ≥ 0)))
set_option maxHeartbeats 8000000 in
set_option maxRecDepth 100000 in
theorem slices_ContainsFunc__impl_isLapMap_1.calls (k : Nat) (A0 : Option Addr) (c0 : Nat) (l0 : List (S28))  (r : Bool) (w : World) (hr0 : Kd.C k28 w A0 l0.length l0) (hc0 : l0.length ≤ c0) (h : slices_ContainsFunc__impl_isLapMap_1.f k l0 = some r) :
  Calls Try.prog 109 #[.slice A0 l0.length c0, .func (.func 110) #[] #[]] w fun e w' => e = .returned (.bool r) ∧ Below w.heap.size w w' := by
 have HR0 := Aside0.mk hr0
 have HC0 := Aside0.mk hc0
 clear hr0 hc0
 have HB := Aside0.mk (Below.refl w.heap.size w)
 have H : ((slices_IndexFunc__impl_isLapMap_1.f k l0).bind fun t441 => (some (decide (t441 ≥ 0)))) = some r := h
 clear h
 replace H := Option.bind_eq_some_iff.mp H
 obtain ⟨t441, A30, H⟩ := H
 replace H : (some (decide (t441 ≥ 0))) = some r := H
 have A3 := Aside0.mk A30
 clear A30
 obtain rfl := Option.some.inj H
 go_enter Try.func109, Try.ntmps109
 go_wp2_with (first | ((with_reducible refine gate_callee (f := 131) rfl ?_); refine gl 7 Try.func131 #[.slice A0 l0.length c0, .func (.func 110) #[] #[]] ?_; (with_reducible refine (slices_IndexFunc__impl_isLapMap_1.calls k _ _ l0  t441 _ ?side1 ?side2 A3.out).mono ?_); (case side1 => repeat (first | exact HR0.out | (with_reducible refine Kd.C_alloc ?_ _) | (with_reducible refine Kd.C_drewN ?_ _) | (with_reducible refine Kd.C_drew ?_))); (case side2 => exact HC0.out); rintro e w4 ⟨rfl, hb⟩; refine ⟨_, rfl, ?_⟩; replace HB := kh hb; (try clear hb); (try clear hb2); (try clear hk); (try clear hi)))
 go_ret
 exact ⟨rt, bl⟩

/-! ### impl_isLapMap: function 62 -/
def impl_isLapMap.f (k : Nat) (l0 : List (S68)) : Option (Bool) := (impl_isMap.f k l0).bind fun t442 => (if t442 = true then ((impl_slopes.f k l0).bind fun t443 => ((slices_ContainsFunc__impl_isLapMap_1.f k t443).bind fun t446 => (some (!t446)))) else (some false))
set_option maxHeartbeats 8000000 in
set_option maxRecDepth 100000 in
theorem impl_isLapMap.calls (k : Nat) (A0 : Option Addr) (c0 : Nat) (l0 : List (S68)) (r : Bool) (w : World) (hr0 : Kd.C k68 w A0 l0.length l0) (hc0 : l0.length ≤ c0) (h : impl_isLapMap.f k l0 = some r) :
  Calls Try.prog 62 #[.slice A0 l0.length c0] w fun e w' => e = .returned (.bool r) ∧ Below w.heap.size w w' := by
 have HR0 := Aside0.mk hr0
 have HC0 := Aside0.mk hc0
 clear hr0 hc0
 have HB := Aside0.mk (Below.refl w.heap.size w)
 have H : ((impl_isMap.f k l0).bind fun t442 => (if t442 = true then ((impl_slopes.f k l0).bind fun t443 => ((slices_ContainsFunc__impl_isLapMap_1.f k t443).bind fun t446 => (some (!t446)))) else (some false))) = some r := h
 clear h
 replace H := Option.bind_eq_some_iff.mp H
 obtain ⟨t442, A20, H⟩ := H
 replace H : (if t442 = true then ((impl_slopes.f k l0).bind fun t443 => ((slices_ContainsFunc__impl_isLapMap_1.f k t443).bind fun t446 => (some (!t446)))) else (some false)) = some r := H
 have A2 := Aside0.mk A20
 clear A20
 by_cases c3 : t442 = true
 ·subst c3
  have H1 : ((impl_slopes.f k l0).bind fun t443 => ((slices_ContainsFunc__impl_isLapMap_1.f k t443).bind fun t446 => (some (!t446)))) = some r := by rw [if_pos rfl] at H; exact H
  clear H
  have H := H1
  clear H1
  replace H := Option.bind_eq_some_iff.mp H
  obtain ⟨t443, A40, H⟩ := H
  replace H : ((slices_ContainsFunc__impl_isLapMap_1.f k t443).bind fun t446 => (some (!t446))) = some r := H
  have A4 := Aside0.mk A40
  clear A40
  replace H := Option.bind_eq_some_iff.mp H
  obtain ⟨t446, A50, H⟩ := H
  replace H : (some (!t446)) = some r := H
  have A5 := Aside0.mk A50
  clear A50
  obtain rfl := Option.some.inj H
  go_enter Try.func62, Try.ntmps62
  go_wp2_with (first | ((with_reducible refine gate_callee (f := 48) rfl ?_); refine gl 4 Try.func48 #[.slice A0 l0.length c0] ?_; (with_reducible refine (impl_isMap.calls k _ _ l0 true _ ?side1 ?side2 A2.out).mono ?_); (case side1 => repeat (first | exact HR0.out | (with_reducible refine Kd.C_alloc ?_ _) | (with_reducible refine Kd.C_drewN ?_ _) | (with_reducible refine Kd.C_drew ?_))); (case side2 => exact HC0.out); rintro e w6 ⟨rfl, hb⟩; refine ⟨_, rfl, ?_⟩; replace HB := kh hb; (try clear hb); (try clear hb2); (try clear hk); (try clear hi)) | (go_at_call 50; (with_reducible refine (impl_slopes.calls k _ _ l0 t443 _ ?side1 ?side2 A4.out).mono ?_); (case side1 => repeat (first | exact (Kd.C_below HR0.out HB.out) | (with_reducible refine Kd.C_alloc ?_ _) | (with_reducible refine Kd.C_drewN ?_ _) | (with_reducible refine Kd.C_drew ?_))); (case side2 => exact HC0.out); rintro e w7 ⟨v444, rfl, ho0, hb⟩; have HO445 := Aside0.mk (Kd.R_lower ho0 (below_size bl)); replace HB := kh hb; (try clear hb); (try clear hb2); (try clear hk); (try clear hi); (try clear ho0); obtain ⟨Ao8, co8, eo8⟩ := Kd.R_slice HO445.out; subst eo8) | (go_at_call 109; (with_reducible refine (slices_ContainsFunc__impl_isLapMap_1.calls k _ _ t443  t446 _ ?side1 ?side2 A5.out).mono ?_); (case side1 => repeat (first | exact (Kd.R_reads' HO445.out).2.2 | (with_reducible refine Kd.C_alloc ?_ _) | (with_reducible refine Kd.C_drewN ?_ _) | (with_reducible refine Kd.C_drew ?_))); (case side2 => exact (Kd.R_reads' HO445.out).2.1); rintro e w9 ⟨rfl, hb⟩; replace HO445 := Aside0.mk (Kd.R_below (by (with_reducible repeat (first | apply Kd.R_alloc | apply Kd.R_drewN | apply Kd.R_drew)); exact HO445.out) hb); replace HB := kh hb; (try clear hb); (try clear hb2); (try clear hk); (try clear hi)))
  go_ret
  exact ⟨rt, bl⟩
 ·replace c3 := Bool.eq_false_iff.mpr c3
  subst c3
  have H1 : (some false) = some r := by rw [if_neg (show ¬ (false = true) by decide)] at H; exact H
  clear H
  have H := H1
  clear H1
  obtain rfl := Option.some.inj H
  go_enter Try.func62, Try.ntmps62
  go_wp2_with (first | ((with_reducible refine gate_callee (f := 48) rfl ?_); refine gl 4 Try.func48 #[.slice A0 l0.length c0] ?_; (with_reducible refine (impl_isMap.calls k _ _ l0 false _ ?side1 ?side2 A2.out).mono ?_); (case side1 => repeat (first | exact HR0.out | (with_reducible refine Kd.C_alloc ?_ _) | (with_reducible refine Kd.C_drewN ?_ _) | (with_reducible refine Kd.C_drew ?_))); (case side2 => exact HC0.out); rintro e w10 ⟨rfl, hb⟩; refine ⟨_, rfl, ?_⟩; replace HB := kh hb; (try clear hb); (try clear hb2); (try clear hk); (try clear hi)))
  go_ret
  exact ⟨rt, bl⟩

-- NOT PRINTED: function 119 (impl_pieceAt_1)

/-! ### impl_pieceAt_1_with: function 119 -/
def impl_pieceAt_1_with.f (a0_0 : Int) (a0_1 : Int) (a0_2 : Int) (a0_3 : Int) (l1 : List (S28)) : Option (Bool) := if 0 < (l1.length : Int) then ((impl_less.f a0_0 a0_1 ((rd_T28 l1 0).f0) ((rd_T28 l1 0).f1)).bind fun t450 => (some (!t450))) else (none)
set_option maxHeartbeats 8000000 in
set_option maxRecDepth 100000 in
theorem impl_pieceAt_1_with.calls (a0_0 : Int) (a0_1 : Int) (a0_2 : Int) (a0_3 : Int) (A1 : Option Addr) (c1 : Nat) (l1 : List (S28)) (r : Bool) (w : World) (hr1 : Kd.C k28 w A1 l1.length l1) (hc1 : l1.length ≤ c1) (h : impl_pieceAt_1_with.f a0_0 a0_1 a0_2 a0_3 l1 = some r) :
  Calls Try.prog 119 #[.agg #[.int .i64 a0_0, .int .i64 a0_1, .int .i64 a0_2, .int .i64 a0_3], .pointer A1] w fun e w' => e = .returned (.bool r) ∧ Below w.heap.size w w' := by
 have hu68 := Try.underlying68
 have hu28 := Try.underlying28
 have HR1 := Aside0.mk hr1
 have HC1 := Aside0.mk hc1
 clear hr1 hc1
 have HB := Aside0.mk (Below.refl w.heap.size w)
 have H : (if 0 < (l1.length : Int) then ((impl_less.f a0_0 a0_1 ((rd_T28 l1 0).f0) ((rd_T28 l1 0).f1)).bind fun t450 => (some (!t450))) else (none)) = some r := h
 clear h
 by_cases c3 : 0 < (l1.length : Int)
 ·rw [if_pos c3] at H
  have c3b0 : decide (0 < (l1.length : Int)) = true := decide_eq_true c3
  have c3b1 : decide (0 < l1.length) = true := decide_eq_true (by omega)
  clear c3
  replace H := Option.bind_eq_some_iff.mp H
  obtain ⟨t450, A40, H⟩ := H
  replace H : (some (!t450)) = some r := H
  have A4 := Aside0.mk A40
  clear A40
  obtain rfl := Option.some.inj H
  go_enter Try.func119, Try.ntmps119
  go_wp2_with (first | ((with_reducible refine gate_dst (N := 2) rfl ?_); refine bx 2 #[.int .i64 a0_0, .int .i64 a0_1, .int .i64 a0_2, .int .i64 a0_3] 68 ?_; intro gb448 hg w5 hbox hb; have BK448 := Aside0.mk (hbox); have GW448 := Aside0.mk (bz hg); have GE448 := GW448; replace HB := kh hb; clear hb hbox hg; obtain ⟨hcz6_0, hcz6_1, hcz6_2, hcz6_3, hfz6_0, hfz6_1, hfz6_2, hfz6_3⟩ := b4 BK448; have p449 : 0 ≤ (0 : Int) := (by omega); have q449 : 0 < (l1.length : Int) := da; obtain ⟨ad449, e449, hx449_0, hx449_1⟩ := at_T28 HR1.out 0 p449 q449; cases e449; have qi449 : (0 < l1.length) = True := eq_true (by omega); (try rw [show ((0 : Int)).toNat = 0 from rfl] at hx449_0); (try rw [show 0 * 2 = 0 from rfl] at hx449_0); (try rw [Addr.add_zero'] at hx449_0); (try rw [show ((0 : Int)).toNat = 0 from rfl] at hx449_1); (try rw [show 0 * 2 = 0 from rfl] at hx449_1); (try rw [Addr.add_zero'] at hx449_1); replace hx449_0 := (hc HB hx449_0 :); replace hx449_1 := (hc HB hx449_1 :); replace p449 := eq_true p449; replace q449 := eq_true q449) | ((with_reducible refine gate_callee (f := 95) rfl ?_); refine gl 7 Try.func95 #[.agg #[.int .i64 a0_0, .int .i64 a0_1], .agg #[.int .i64 ((rd_T28 l1 0).f0), .int .i64 ((rd_T28 l1 0).f1)]] ?_; (with_reducible refine (impl_less.calls a0_0 a0_1 ((rd_T28 l1 0).f0) ((rd_T28 l1 0).f1) t450 _ A4.out).mono ?_); rintro e w7 ⟨rfl, hb⟩; refine ⟨_, rfl, ?_⟩; replace BK448 := kb BK448 hb; replace HB := kh hb; (try clear hb); (try clear hb2); (try clear hk); (try clear hi)))
  go_ret
  exact ⟨rt, bl⟩
 ·rw [if_neg c3] at H
  exact absurd H (by simp)

/-! ### slices_IndexFunc__impl_pieceAt_1: function 118 -/
def slices_IndexFunc__impl_pieceAt_1.l0 : Nat → List (S68) → Int → Int → List (S28) → Option (Int)
 | 0, _, _, _, _ => none
 | k + 1, x0, x7, x8, x502 => if x8 < x7 then (if 0 ≤ x8 then (if x8 < (x0.length : Int) then ((impl_pieceAt_1_with.f ((rd_T68 x0 x8).f0.f0) ((rd_T68 x0 x8).f0.f1) ((rd_T68 x0 x8).f1.f0) ((rd_T68 x0 x8).f1.f1) x502).bind fun t452 => (if t452 = true then (some x8) else (slices_IndexFunc__impl_pieceAt_1.l0 k x0 x7 (wrap64 (x8 + 1)) x502))) else (none)) else (none)) else (some (-1))
def slices_IndexFunc__impl_pieceAt_1.f (k : Nat) (l0 : List (S68))  (l2 : List (S28)) : Option (Int) := slices_IndexFunc__impl_pieceAt_1.l0 k l0 (l0.length : Int) 0 l2
set_option maxHeartbeats 8000000 in
set_option maxRecDepth 100000 in
theorem slices_IndexFunc__impl_pieceAt_1.calls (k : Nat) (A0 : Option Addr) (c0 : Nat) (l0 : List (S68))  (A2 : Option Addr) (c2 : Nat) (l2 : List (S28)) (r : Int) (w : World) (hr0 : Kd.C k68 w A0 l0.length l0) (hc0 : l0.length ≤ c0) (hr2 : Kd.C k28 w A2 l2.length l2) (hc2 : l2.length ≤ c2) (h : slices_IndexFunc__impl_pieceAt_1.f k l0 l2 = some r) :
  Calls Try.prog 118 #[.slice A0 l0.length c0, .func (.func 119) #[] #[.pointer A2]] w fun e w' => e = .returned (.int .i64 r) ∧ Below w.heap.size w w' := by
 have hu68 := Try.underlying68
 have HR0 := Aside0.mk hr0
 have HC0 := Aside0.mk hc0
 clear hr0 hc0
 have HR2 := Aside0.mk hr2
 have HC2 := Aside0.mk hc2
 clear hr2 hc2
 have HB := Aside0.mk (Below.refl w.heap.size w)
 have H : (slices_IndexFunc__impl_pieceAt_1.l0 k l0 (l0.length : Int) 0 l2) = some r := h
 clear h
 have H' := Aside0.mk H
 clear H
 go_enter Try.func118, Try.ntmps118
 go_wp2
 go_loopg [8] k (fun kq v8 w' => ∃ (x8_1 : Int), v8 = .int .i64 x8_1 ∧ Aside0 (slices_IndexFunc__impl_pieceAt_1.l0 kq l0 (l0.length : Int) x8_1 l2 = some r) ∧ Aside0 (kq ≤ k) ∧ Aside0 (Below w.heap.size w w'))
 case atStart => exact ⟨(0), rs, H', ⟨Nat.le_refl _⟩, ⟨bl⟩⟩
 case round =>
  clear H'
  try clear c2
  try clear p2
  obtain ⟨x8_1, rfl, HA, HK1, HB⟩ := hrel
  cases gk with
  | zero => exact absurd HA.out (by simp [slices_IndexFunc__impl_pieceAt_1.l0])
  | succ k1 =>
   have H := HA.out
   clear HA
   simp only [slices_IndexFunc__impl_pieceAt_1.l0] at H
   by_cases c4 : x8_1 < (l0.length : Int)
   ·rw [if_pos c4] at H
    have c4b0 : decide (x8_1 < (l0.length : Int)) = true := decide_eq_true c4
    clear c4
    by_cases c5 : 0 ≤ x8_1
    ·rw [if_pos c5] at H
     have c5b0 : decide (0 ≤ x8_1) = true := decide_eq_true c5
     clear c5
     by_cases c6 : x8_1 < (l0.length : Int)
     ·rw [if_pos c6] at H
      have c6b0 : decide (x8_1 < (l0.length : Int)) = true := decide_eq_true c6
      clear c6
      replace H := Option.bind_eq_some_iff.mp H
      obtain ⟨t452, A70, H⟩ := H
      replace H : (if t452 = true then (some x8_1) else (slices_IndexFunc__impl_pieceAt_1.l0 k1 l0 (l0.length : Int) (wrap64 (x8_1 + 1)) l2)) = some r := H
      have A7 := Aside0.mk A70
      clear A70
      by_cases c8 : t452 = true
      ·subst c8
       have H1 : (some x8_1) = some r := by rw [if_pos rfl] at H; exact H
       clear H
       have H := H1
       clear H1
       obtain rfl := Option.some.inj H
       have p451 : 0 ≤ (x8_1 : Int) := da
       have q451 : x8_1 < (l0.length : Int) := da
       obtain ⟨ad451, e451, hx451_0, hx451_1, hx451_2, hx451_3⟩ := at_T68 HR0.out x8_1 p451 q451
       cases e451
       replace hx451_0 := (hc HB hx451_0 :)
       replace hx451_1 := (hc HB hx451_1 :)
       replace hx451_2 := (hc HB hx451_2 :)
       replace hx451_3 := (hc HB hx451_3 :)
       replace p451 := eq_true p451
       replace q451 := eq_true q451
       go_wp2_with (first | ((with_reducible refine gate_value (t := 11) rfl ?_); refine goesV_ (t := 11) (f := 119) rfl (some 16) rfl rfl Try.func119 (by kernel_rfl) rfl #[.agg #[.int .i64 ((rd_T68 l0 x8_1).f0.f0), .int .i64 ((rd_T68 l0 x8_1).f0.f1), .int .i64 ((rd_T68 l0 x8_1).f1.f0), .int .i64 ((rd_T68 l0 x8_1).f1.f1)], .pointer A2] rfl (by (try simp only [List.map_toArray, List.map_cons, List.map_nil]); first | done | rfl | (simp only [List.length_drop, List.length_take]; rfl)) ?_; (with_reducible refine (impl_pieceAt_1_with.calls ((rd_T68 l0 x8_1).f0.f0) ((rd_T68 l0 x8_1).f0.f1) ((rd_T68 l0 x8_1).f1.f0) ((rd_T68 l0 x8_1).f1.f1) _ c2 l2 true _ ?side1 ?side2 A7.out).mono ?_); (case side1 => repeat (first | exact (Kd.C_below HR2.out HB.out) | (with_reducible refine Kd.C_alloc ?_ _) | (with_reducible refine Kd.C_drewN ?_ _) | (with_reducible refine Kd.C_drew ?_))); (case side2 => exact HC2.out); rintro e w9 ⟨rfl, hb⟩; refine ⟨_, rfl, ?_⟩; replace HB := kh hb; (try clear hb); (try clear hb2); (try clear hk); (try clear hi)))
       go_ret
       exact ⟨rt, bl⟩
      ·replace c8 := Bool.eq_false_iff.mpr c8
       subst c8
       have H1 : (slices_IndexFunc__impl_pieceAt_1.l0 k1 l0 (l0.length : Int) (wrap64 (x8_1 + 1)) l2) = some r := by rw [if_neg (show ¬ (false = true) by decide)] at H; exact H
       clear H
       have H := H1
       clear H1
       have H' := Aside0.mk H
       clear H
       have p451 : 0 ≤ (x8_1 : Int) := da
       have q451 : x8_1 < (l0.length : Int) := da
       obtain ⟨ad451, e451, hx451_0, hx451_1, hx451_2, hx451_3⟩ := at_T68 HR0.out x8_1 p451 q451
       cases e451
       replace hx451_0 := (hc HB hx451_0 :)
       replace hx451_1 := (hc HB hx451_1 :)
       replace hx451_2 := (hc HB hx451_2 :)
       replace hx451_3 := (hc HB hx451_3 :)
       replace p451 := eq_true p451
       replace q451 := eq_true q451
       go_wp2_with (first | ((with_reducible refine gate_value (t := 11) rfl ?_); refine goesV_ (t := 11) (f := 119) rfl (some 16) rfl rfl Try.func119 (by kernel_rfl) rfl #[.agg #[.int .i64 ((rd_T68 l0 x8_1).f0.f0), .int .i64 ((rd_T68 l0 x8_1).f0.f1), .int .i64 ((rd_T68 l0 x8_1).f1.f0), .int .i64 ((rd_T68 l0 x8_1).f1.f1)], .pointer A2] rfl (by (try simp only [List.map_toArray, List.map_cons, List.map_nil]); first | done | rfl | (simp only [List.length_drop, List.length_take]; rfl)) ?_; (with_reducible refine (impl_pieceAt_1_with.calls ((rd_T68 l0 x8_1).f0.f0) ((rd_T68 l0 x8_1).f0.f1) ((rd_T68 l0 x8_1).f1.f0) ((rd_T68 l0 x8_1).f1.f1) _ c2 l2 false _ ?side1 ?side2 A7.out).mono ?_); (case side1 => repeat (first | exact (Kd.C_below HR2.out HB.out) | (with_reducible refine Kd.C_alloc ?_ _) | (with_reducible refine Kd.C_drewN ?_ _) | (with_reducible refine Kd.C_drew ?_))); (case side2 => exact HC2.out); rintro e w10 ⟨rfl, hb⟩; refine ⟨_, rfl, ?_⟩; replace HB := kh hb; (try clear hb); (try clear hb2); (try clear hk); (try clear hi)))
       go_roundg k1
       case measure => have := HK1.out; omega
       case rel => exact ⟨(wrap64 (x8_1 + 1)), rs, H', ⟨by have := HK1.out; omega⟩, ⟨bl⟩⟩
     ·rw [if_neg c6] at H
      exact absurd H (by simp)
    ·rw [if_neg c5] at H
     exact absurd H (by simp)
   ·rw [if_neg c4] at H
    have c4b0 : decide (x8_1 < (l0.length : Int)) = false := decide_eq_false c4
    clear c4
    obtain rfl := Option.some.inj H
    go_wp2
    go_ret
    exact ⟨rt, bl⟩

/-! ### impl_pieceAt: function 74 -/
def impl_pieceAt.f (k : Nat) (l0 : List (S68)) (a1_0 : Int) (a1_1 : Int) : Option (Int) := (slices_IndexFunc__impl_pieceAt_1.f k l0 [(⟨a1_0, a1_1⟩ : S28)]).bind fun t454 => (some (mx (wrap64 (t454 - 1)) 0))
set_option maxHeartbeats 8000000 in
set_option maxRecDepth 100000 in
theorem impl_pieceAt.calls (k : Nat) (A0 : Option Addr) (c0 : Nat) (l0 : List (S68)) (a1_0 : Int) (a1_1 : Int) (r : Int) (w : World) (hr0 : Kd.C k68 w A0 l0.length l0) (hc0 : l0.length ≤ c0) (h : impl_pieceAt.f k l0 a1_0 a1_1 = some r) :
  Calls Try.prog 74 #[.slice A0 l0.length c0, .agg #[.int .i64 a1_0, .int .i64 a1_1]] w fun e w' => e = .returned (.int .i64 r) ∧ Below w.heap.size w w' := by
 have hu28 := Try.underlying28
 have HR0 := Aside0.mk hr0
 have HC0 := Aside0.mk hc0
 clear hr0 hc0
 have HB := Aside0.mk (Below.refl w.heap.size w)
 have H : ((slices_IndexFunc__impl_pieceAt_1.f k l0 [(⟨a1_0, a1_1⟩ : S28)]).bind fun t454 => (some (mx (wrap64 (t454 - 1)) 0))) = some r := h
 clear h
 replace H := Option.bind_eq_some_iff.mp H
 obtain ⟨t454, A30, H⟩ := H
 replace H : (some (mx (wrap64 (t454 - 1)) 0)) = some r := H
 have A3 := Aside0.mk A30
 clear A30
 obtain ⟨ji4, hji4⟩ : ∃ j_ : Int, (mx (wrap64 (t454 - 1)) 0) = j_ := ⟨_, rfl⟩
 replace H : (some ji4) = some r := by first | (rw [hji4] at H; exact H) | (simp only [hji4] at H ⊢; exact H)
 (try rw [hji4] at A3)
 (try (have hji4l : 0 ≤ ji4 := by (rw [← hji4]; unfold mx; (repeat' split) <;> omega)))
 (try (have hji4m : 0 ≤ ji4 := by omega))
 have hji4_ : (if (wrap64 (t454 - 1)) < 0 then 0 else (wrap64 (t454 - 1))) = ji4 := hji4
 obtain rfl := Option.some.inj H
 go_enter Try.func74, Try.ntmps74
 go_wp2_with (first | ((with_reducible refine gate_dst (N := 3) rfl ?_); refine bx 3 #[.int .i64 a1_0, .int .i64 a1_1] 28 ?_; intro gb453 hg w5 hbox hb; have BK453 := Aside0.mk (hbox); have GW453 := Aside0.mk (bz hg); have GE453 := GW453; replace HB := kh hb; clear hb hbox hg) | ((with_reducible refine gate_callee (f := 118) rfl ?_); refine gl 8 Try.func118 #[.slice A0 l0.length c0, .func (.func 119) #[] #[.pointer (some ⟨gb453, 0, none⟩)]] ?_; (with_reducible refine (slices_IndexFunc__impl_pieceAt_1.calls k _ _ l0  _ 1 [(⟨a1_0, a1_1⟩ : S28)] t454 _ ?side1 ?side2 ?side3 ?side4 A3.out).mono ?_); (case side1 => repeat (first | exact (Kd.C_below HR0.out HB.out) | (with_reducible refine Kd.C_alloc ?_ _) | (with_reducible refine Kd.C_drewN ?_ _) | (with_reducible refine Kd.C_drew ?_))); (case side2 => exact HC0.out); (case side3 => exact capC (t := 28) (d := k28) (cs := [.int .i64 a1_0, .int .i64 a1_1]) (x := (⟨a1_0, a1_1⟩ : S28)) (bo gb453) (k28_mk _ _)); (case side4 => exact Nat.le_refl _); rintro e w6 ⟨rfl, hb⟩; refine ⟨_, rfl, ?_⟩; replace BK453 := kb BK453 hb; replace HB := kh hb; (try clear hb); (try clear hb2); (try clear hk); (try clear hi)))
 go_ret
 exact ⟨by first | rfl | (simp [errW_none, errW_some] <;> rfl) | (simp only [← hji4]; first | rfl | (simp [errW_none, errW_some] <;> rfl)) | (simp [*, errW_none, errW_some] <;> rfl), bl⟩

/-! ### impl_MultiplyRats: function 128 -/
def impl_MultiplyRats.f (k : Nat) (a0_0 : Int) (a0_1 : Int) (a1_0 : Int) (a1_1 : Int) : Option (Int × Int × Bool) := (impl_areRats.f k (([(⟨a0_0, a0_1⟩ : S28), (⟨a1_0, a1_1⟩ : S28)] : List (S28)))).bind fun t461 => (if t461 = true then ((impl_lowest.f k (wrap64 (a0_0 * a1_0)) (wrap64 (a0_1 * a1_1))).bind fun bt462 => (some (bt462.1, bt462.2.1, bt462.2.2))) else (some (0, 0, false)))
set_option maxHeartbeats 8000000 in
set_option maxRecDepth 100000 in
theorem impl_MultiplyRats.calls (k : Nat) (a0_0 : Int) (a0_1 : Int) (a1_0 : Int) (a1_1 : Int) (r1 : Int) (r2 : Int) (r3 : Bool) (w : World) (h : impl_MultiplyRats.f k a0_0 a0_1 a1_0 a1_1 = some (r1, r2, r3)) :
  Calls Try.prog 128 #[.agg #[.int .i64 a0_0, .int .i64 a0_1], .agg #[.int .i64 a1_0, .int .i64 a1_1]] w fun e w' => e = .returned (.tuple #[.agg #[.int .i64 r1, .int .i64 r2], .bool r3]) ∧ Below w.heap.size w w' := by
 have hu28 := Try.underlying28
 have HB := Aside0.mk (Below.refl w.heap.size w)
 have H : ((impl_areRats.f k (([(⟨a0_0, a0_1⟩ : S28), (⟨a1_0, a1_1⟩ : S28)] : List (S28)))).bind fun t461 => (if t461 = true then ((impl_lowest.f k (wrap64 (a0_0 * a1_0)) (wrap64 (a0_1 * a1_1))).bind fun bt462 => (some (bt462.1, bt462.2.1, bt462.2.2))) else (some (0, 0, false)))) = some (r1, r2, r3) := h
 clear h
 obtain ⟨y458, hy458⟩ : ∃ y_ : List (S28), y_ = (([(⟨a0_0, a0_1⟩ : S28), (⟨a1_0, a1_1⟩ : S28)] : List (S28))) := ⟨_, rfl⟩
 replace H : ((impl_areRats.f k y458).bind fun t461 => (if t461 = true then ((impl_lowest.f k (wrap64 (a0_0 * a1_0)) (wrap64 (a0_1 * a1_1))).bind fun bt462 => (some (bt462.1, bt462.2.1, bt462.2.2))) else (some (0, 0, false)))) = some (r1, r2, r3) := by first | (rw [hy458]; with_reducible exact H) | (have H2_ := (Option.bind_some _ _).symm.trans H; rw [hy458]; with_reducible exact H2_) | (have H2_ := (Option.bind_some _ _).symm.trans H; with_reducible exact H2_) | with_reducible exact H | (rw [hy458]; exact H) | exact H
 have Ny458 := Aside0.mk hy458
 clear hy458
 replace H := Option.bind_eq_some_iff.mp H
 obtain ⟨t461, A30, H⟩ := H
 replace H : (if t461 = true then ((impl_lowest.f k (wrap64 (a0_0 * a1_0)) (wrap64 (a0_1 * a1_1))).bind fun bt462 => (some (bt462.1, bt462.2.1, bt462.2.2))) else (some (0, 0, false))) = some (r1, r2, r3) := H
 have A3 := Aside0.mk A30
 clear A30
 by_cases c4 : t461 = true
 ·subst c4
  have H1 : ((impl_lowest.f k (wrap64 (a0_0 * a1_0)) (wrap64 (a0_1 * a1_1))).bind fun bt462 => (some (bt462.1, bt462.2.1, bt462.2.2))) = some (r1, r2, r3) := by rw [if_pos rfl] at H; exact H
  clear H
  have H := H1
  clear H1
  replace H := Option.bind_eq_some_iff.mp H
  obtain ⟨⟨t462, t463, t464⟩, A50, H⟩ := H
  replace H : (some (t462, t463, t464)) = some (r1, r2, r3) := H
  have A5 := Aside0.mk A50
  clear A50
  simp only [Option.some.injEq, Prod.mk.injEq] at H
  obtain ⟨rfl, rfl, rfl⟩ := H
  go_enter Try.func128, Try.ntmps128
  go_wp2_with (first | ((with_reducible refine gate_dst (N := 2) rfl ?_); refine bx 2 #[.int .i64 a0_0, .int .i64 a0_1] 28 ?_; intro gb455 hg w6 hbox hb; have BK455 := Aside0.mk (hbox); have GW455 := Aside0.mk (bz hg); have GE455 := GW455; replace HB := kh hb; clear hb hbox hg) | ((with_reducible refine gate_dst (N := 3) rfl ?_); refine bx 3 #[.int .i64 a1_0, .int .i64 a1_1] 28 ?_; intro gb456 hg w7 hbox hb; have BK456 := Aside0.mk (hbox); have GW456 := Aside0.mk (bz hg); have GE456 := GW456; have NB455_456 := Aside0.mk (bn gb455 hg); have NB456_455 := sy NB455_456; replace BK455 := kb BK455 hb; replace HB := kh hb; clear hb hbox hg) | ((with_reducible refine gate_dst (N := 4) rfl ?_); refine bx 4 #[.int .i64 0, .int .i64 0] 28 ?_; intro gb457 hg w8 hbox hb; have BK457 := Aside0.mk (hbox); have GW457 := Aside0.mk (bz hg); have GE457 := GW457; have NB455_457 := Aside0.mk (bn gb455 hg); have NB457_455 := sy NB455_457; have NB456_457 := Aside0.mk (bn gb456 hg); have NB457_456 := sy NB456_457; replace BK455 := kb BK455 hb; replace BK456 := kb BK456 hb; replace HB := kh hb; clear hb hbox hg; have hnb9 := NB455_456.out; have hnc9 := NB456_455.out; have hnb10 := NB455_457.out; have hnc10 := NB457_455.out; obtain ⟨hcz11_0, hcz11_1, hfz11_0, hfz11_1⟩ := b2 BK455; have hnb12 := NB456_457.out; have hnc12 := NB457_456.out; obtain ⟨hcz13_0, hcz13_1, hfz13_0, hfz13_1⟩ := b2 BK456) | ((with_reducible refine gate_dst (N := 8) rfl ?_); refine Kd.R_lit k28 _ 28 ?hg (N := 8) ?hd (xs := ([(⟨a0_0, a0_1⟩ : S28), (⟨a1_0, a1_1⟩ : S28)] : List (S28))) (inner := [.int .i64 a0_0, .int .i64 a0_1, .int .i64 a1_0, .int .i64 a1_1]) (ok := fun _ => True) (okp := fun _ => True) ?hr ?hp (fun _ hk => hk) trivial (Below.refl _ _) (Nat.le_refl _) (by simp) ?_; (case hd => rfl); (case hg => rfl); (case hr => first | (go_simp; done) | (go_simp; rfl)); (case hp => exact (Reps.c2 (show Kd.M k28 _ _ _ (⟨a0_0, a0_1⟩ : S28) [.int .i64 a0_0, .int .i64 a0_1] from (k28_mkM _ _ _ (⟨a0_0, a0_1⟩ : S28) )) (Reps.c2 (show Kd.M k28 _ _ _ (⟨a1_0, a1_1⟩ : S28) [.int .i64 a1_0, .int .i64 a1_1] from (k28_mkM _ _ _ (⟨a1_0, a1_1⟩ : S28) )) (Reps.none _ _)))); intro v459 w14 ho15 hb hg_ hnew_; clear hg_ hnew_; (first | rw [← Ny458.out] at ho15 | (simp only [Int.reduceToNat] at ho15; rw [← Ny458.out] at ho15)); have HO460 := Aside0.mk (Kd.R_lower (Kd.R_newB (Kd.R_newB (Kd.R_newB ho15 (g := gb455) (o := .cells #[.int .i64 a0_0, .int .i64 a0_1] 28 (0, 0)) (bo gb455)) (g := gb456) (o := .cells #[.int .i64 a1_0, .int .i64 a1_1] 28 (0, 0)) (bo gb456)) (g := gb457) (o := .cells #[.int .i64 0, .int .i64 0] 28 (0, 0)) (bo gb457)) (below_size bl)); replace BK455 := kb BK455 hb; replace BK456 := kb BK456 hb; replace BK457 := kb BK457 hb; replace HB := kh hb; clear hb ho15; obtain ⟨Ao16, co16, eo16⟩ := Kd.R_slice HO460.out; subst eo16) | ((with_reducible refine gate_callee (f := 139) rfl ?_); refine gl 9 Try.func139 #[.slice Ao16 y458.length co16] ?_; (with_reducible refine (impl_areRats.calls k _ _ y458 true _ ?side1 ?side2 A3.out).mono ?_); (case side1 => repeat (first | exact (Kd.R_reads' HO460.out).2.2 | (with_reducible refine Kd.C_alloc ?_ _) | (with_reducible refine Kd.C_drewN ?_ _) | (with_reducible refine Kd.C_drew ?_))); (case side2 => exact (Kd.R_reads' HO460.out).2.1); rintro e w17 ⟨rfl, hb⟩; refine ⟨_, rfl, ?_⟩; replace HO460 := Aside0.mk (Kd.R_below (by (with_reducible repeat (first | apply Kd.R_alloc | apply Kd.R_drewN | apply Kd.R_drew)); exact HO460.out) hb); replace BK455 := kb BK455 hb; replace BK456 := kb BK456 hb; replace BK457 := kb BK457 hb; replace HB := kh hb; (try clear hb); (try clear hb2); (try clear hk); (try clear hi); obtain ⟨hcz18_0, hcz18_1, hfz18_0, hfz18_1⟩ := b2 BK455; obtain ⟨hcz19_0, hcz19_1, hfz19_0, hfz19_1⟩ := b2 BK456) | ((with_reducible refine gate_callee (f := 140) rfl ?_); refine gl 22 Try.func140 #[.int .i64 (wrap64 (a0_0 * a1_0)), .int .i64 (wrap64 (a0_1 * a1_1))] ?_; (with_reducible refine (impl_lowest.calls k (wrap64 (a0_0 * a1_0)) (wrap64 (a0_1 * a1_1)) t462 t463 t464 _ A5.out).mono ?_); rintro e w20 ⟨rfl, hb⟩; refine ⟨_, rfl, ?_⟩; replace HO460 := Aside0.mk (Kd.R_below (by (with_reducible repeat (first | apply Kd.R_alloc | apply Kd.R_drewN | apply Kd.R_drew)); exact HO460.out) hb); replace BK455 := kb BK455 hb; replace BK456 := kb BK456 hb; replace BK457 := kb BK457 hb; replace HB := kh hb; (try clear hb); (try clear hb2); (try clear hk); (try clear hi); obtain ⟨hcz21_0, hcz21_1, hfz21_0, hfz21_1⟩ := b2 BK457))
  refine bodyPost_ret (results_ct rfl _ _ gb457 28 #[.int .i64 t462, .int .i64 t463] (0, 0) _ rfl (by (with_reducible repeat (first | refine blk_drewN ?_ _ | refine blk_drew ?_ | refine blk_alloc ?_ _)); refine blk_put (cs := #[.int .i64 t462, .int .i64 0]) ?_ 1 _ rfl; (with_reducible repeat (first | refine blk_drewN ?_ _ | refine blk_drew ?_ | refine blk_alloc ?_ _)); refine blk_put (cs := #[.int .i64 0, .int .i64 0]) ?_ 0 _ rfl; (with_reducible repeat (first | refine blk_drewN ?_ _ | refine blk_drew ?_ | refine blk_alloc ?_ _)); exact BK457.out) Try.underlying28 rfl (by kernel_rfl)) rfl ?_
  exact ⟨rt, bl⟩
 ·replace c4 := Bool.eq_false_iff.mpr c4
  subst c4
  have H1 : (some (0, 0, false)) = some (r1, r2, r3) := by rw [if_neg (show ¬ (false = true) by decide)] at H; exact H
  clear H
  have H := H1
  clear H1
  simp only [Option.some.injEq, Prod.mk.injEq] at H
  obtain ⟨rfl, rfl, rfl⟩ := H
  go_enter Try.func128, Try.ntmps128
  go_wp2_with (first | ((with_reducible refine gate_dst (N := 2) rfl ?_); refine bx 2 #[.int .i64 a0_0, .int .i64 a0_1] 28 ?_; intro gb455 hg w22 hbox hb; have BK455 := Aside0.mk (hbox); have GW455 := Aside0.mk (bz hg); have GE455 := GW455; replace HB := kh hb; clear hb hbox hg) | ((with_reducible refine gate_dst (N := 3) rfl ?_); refine bx 3 #[.int .i64 a1_0, .int .i64 a1_1] 28 ?_; intro gb456 hg w23 hbox hb; have BK456 := Aside0.mk (hbox); have GW456 := Aside0.mk (bz hg); have GE456 := GW456; have NB455_456 := Aside0.mk (bn gb455 hg); have NB456_455 := sy NB455_456; replace BK455 := kb BK455 hb; replace HB := kh hb; clear hb hbox hg) | ((with_reducible refine gate_dst (N := 4) rfl ?_); refine bx 4 #[.int .i64 0, .int .i64 0] 28 ?_; intro gb457 hg w24 hbox hb; have BK457 := Aside0.mk (hbox); have GW457 := Aside0.mk (bz hg); have GE457 := GW457; have NB455_457 := Aside0.mk (bn gb455 hg); have NB457_455 := sy NB455_457; have NB456_457 := Aside0.mk (bn gb456 hg); have NB457_456 := sy NB456_457; replace BK455 := kb BK455 hb; replace BK456 := kb BK456 hb; replace HB := kh hb; clear hb hbox hg; have hnb25 := NB455_456.out; have hnc25 := NB456_455.out; have hnb26 := NB455_457.out; have hnc26 := NB457_455.out; obtain ⟨hcz27_0, hcz27_1, hfz27_0, hfz27_1⟩ := b2 BK455; have hnb28 := NB456_457.out; have hnc28 := NB457_456.out; obtain ⟨hcz29_0, hcz29_1, hfz29_0, hfz29_1⟩ := b2 BK456) | ((with_reducible refine gate_dst (N := 8) rfl ?_); refine Kd.R_lit k28 _ 28 ?hg (N := 8) ?hd (xs := ([(⟨a0_0, a0_1⟩ : S28), (⟨a1_0, a1_1⟩ : S28)] : List (S28))) (inner := [.int .i64 a0_0, .int .i64 a0_1, .int .i64 a1_0, .int .i64 a1_1]) (ok := fun _ => True) (okp := fun _ => True) ?hr ?hp (fun _ hk => hk) trivial (Below.refl _ _) (Nat.le_refl _) (by simp) ?_; (case hd => rfl); (case hg => rfl); (case hr => first | (go_simp; done) | (go_simp; rfl)); (case hp => exact (Reps.c2 (show Kd.M k28 _ _ _ (⟨a0_0, a0_1⟩ : S28) [.int .i64 a0_0, .int .i64 a0_1] from (k28_mkM _ _ _ (⟨a0_0, a0_1⟩ : S28) )) (Reps.c2 (show Kd.M k28 _ _ _ (⟨a1_0, a1_1⟩ : S28) [.int .i64 a1_0, .int .i64 a1_1] from (k28_mkM _ _ _ (⟨a1_0, a1_1⟩ : S28) )) (Reps.none _ _)))); intro v459 w30 ho31 hb hg_ hnew_; clear hg_ hnew_; (first | rw [← Ny458.out] at ho31 | (simp only [Int.reduceToNat] at ho31; rw [← Ny458.out] at ho31)); have HO460 := Aside0.mk (Kd.R_lower (Kd.R_newB (Kd.R_newB (Kd.R_newB ho31 (g := gb455) (o := .cells #[.int .i64 a0_0, .int .i64 a0_1] 28 (0, 0)) (bo gb455)) (g := gb456) (o := .cells #[.int .i64 a1_0, .int .i64 a1_1] 28 (0, 0)) (bo gb456)) (g := gb457) (o := .cells #[.int .i64 0, .int .i64 0] 28 (0, 0)) (bo gb457)) (below_size bl)); replace BK455 := kb BK455 hb; replace BK456 := kb BK456 hb; replace BK457 := kb BK457 hb; replace HB := kh hb; clear hb ho31; obtain ⟨Ao32, co32, eo32⟩ := Kd.R_slice HO460.out; subst eo32) | ((with_reducible refine gate_callee (f := 139) rfl ?_); refine gl 9 Try.func139 #[.slice Ao32 y458.length co32] ?_; (with_reducible refine (impl_areRats.calls k _ _ y458 false _ ?side1 ?side2 A3.out).mono ?_); (case side1 => repeat (first | exact (Kd.R_reads' HO460.out).2.2 | (with_reducible refine Kd.C_alloc ?_ _) | (with_reducible refine Kd.C_drewN ?_ _) | (with_reducible refine Kd.C_drew ?_))); (case side2 => exact (Kd.R_reads' HO460.out).2.1); rintro e w33 ⟨rfl, hb⟩; refine ⟨_, rfl, ?_⟩; replace HO460 := Aside0.mk (Kd.R_below (by (with_reducible repeat (first | apply Kd.R_alloc | apply Kd.R_drewN | apply Kd.R_drew)); exact HO460.out) hb); replace BK455 := kb BK455 hb; replace BK456 := kb BK456 hb; replace BK457 := kb BK457 hb; replace HB := kh hb; (try clear hb); (try clear hb2); (try clear hk); (try clear hi); obtain ⟨hcz34_0, hcz34_1, hfz34_0, hfz34_1⟩ := b2 BK457))
  refine bodyPost_ret (results_ct rfl _ _ gb457 28 #[.int .i64 0, .int .i64 0] (0, 0) _ rfl (by (with_reducible repeat (first | refine blk_drewN ?_ _ | refine blk_drew ?_ | refine blk_alloc ?_ _)); refine blk_put (cs := #[.int .i64 0, .int .i64 0]) ?_ 1 _ rfl; (with_reducible repeat (first | refine blk_drewN ?_ _ | refine blk_drew ?_ | refine blk_alloc ?_ _)); refine blk_put (cs := #[.int .i64 0, .int .i64 0]) ?_ 0 _ rfl; (with_reducible repeat (first | refine blk_drewN ?_ _ | refine blk_drew ?_ | refine blk_alloc ?_ _)); exact BK457.out) Try.underlying28 rfl (by kernel_rfl)) rfl ?_
  exact ⟨rt, bl⟩

/-! ### impl_calc_mul: function 105 -/
def impl_calc_mul.f (k : Nat) (s0_0 : Bool) (a1_0 : Int) (a1_1 : Int) (a2_0 : Int) (a2_1 : Int) : Option (Int × Int × Bool) := (impl_MultiplyRats.f k a1_0 a1_1 a2_0 a2_1).bind fun bt468 => ((impl_calc_keep.f s0_0 bt468.1 bt468.2.1 bt468.2.2).bind fun bt471 => (some (bt471.1, bt471.2.1, bt471.2.2)))
set_option maxHeartbeats 8000000 in
set_option maxRecDepth 100000 in
theorem impl_calc_mul.calls (k : Nat) (g : Nat) (s0_0 : Bool) (a1_0 : Int) (a1_1 : Int) (a2_0 : Int) (a2_1 : Int) (r1 : Int) (r2 : Int) (r3 : Bool) (w0 w : World) (hI : IsS78 w0 w g s0_0) (hB : Below w0.heap.size w0 w) (h : impl_calc_mul.f k s0_0 a1_0 a1_1 a2_0 a2_1 = some (r1, r2, r3)) :
  Calls Try.prog 105 #[.pointer (some ⟨g, 0, none⟩), .agg #[.int .i64 a1_0, .int .i64 a1_1], .agg #[.int .i64 a2_0, .int .i64 a2_1]] w fun e w' => e = .returned (.agg #[.int .i64 r1, .int .i64 r2]) ∧ IsS78 w0 w' g r3 ∧ Below w0.heap.size w0 w' ∧ KeepBut w w' g none := by
 have hu28 := Try.underlying28
 have HI0 := Aside0.mk hI
 have HK := Aside0.mk (KeepBut.refl w g none)
 have HL := Aside0.mk hB.size
 clear hI
 have HW0 := Aside0.mk hB.size
 have HB := Aside0.mk hB
 clear hB
 have H : ((impl_MultiplyRats.f k a1_0 a1_1 a2_0 a2_1).bind fun bt468 => ((impl_calc_keep.f s0_0 bt468.1 bt468.2.1 bt468.2.2).bind fun bt471 => (some (bt471.1, bt471.2.1, bt471.2.2)))) = some (r1, r2, r3) := h
 clear h
 replace H := Option.bind_eq_some_iff.mp H
 obtain ⟨⟨t468, t469, t470⟩, A40, H⟩ := H
 replace H : ((impl_calc_keep.f s0_0 t468 t469 t470).bind fun bt471 => (some (bt471.1, bt471.2.1, bt471.2.2))) = some (r1, r2, r3) := H
 have A4 := Aside0.mk A40
 clear A40
 replace H := Option.bind_eq_some_iff.mp H
 obtain ⟨⟨t471, t472, t473⟩, A50, H⟩ := H
 replace H : (some (t471, t472, t473)) = some (r1, r2, r3) := H
 have A5 := Aside0.mk A50
 clear A50
 simp only [Option.some.injEq, Prod.mk.injEq] at H
 obtain ⟨rfl, rfl, rfl⟩ := H
 go_enter Try.func105, Try.ntmps105
 go_wp2_with (first | ((with_reducible refine gate_dst (N := 4) rfl ?_); refine bx 4 #[.int .i64 a1_0, .int .i64 a1_1] 28 ?_; intro gb465 hg w6 hbox hb; have BK465 := Aside0.mk (hbox); have GW465 := Aside0.mk ((by rw [hg]; exact (keep_size (w := w) (g := g) (row := none) (by repeat (first | (with_reducible first | exact HK.out | apply KeepBut.set_ | apply keep_drewN | apply keep_drew | apply keep_alloc) | exact HK.out))) : w.heap.size ≤ gb465)); have GE465 := Aside0.mk ((Nat.le_trans HW0.out GW465.out : w0.heap.size ≤ gb465)); have NB0_465 := Aside0.mk ((by rw [hg]; exact Nat.ne_of_lt (IsS78.lt (show IsS78 w0 _ g s0_0 from by repeat (first | (with_reducible first | exact HI0.out | apply IsS78.alloc | apply IsS78.drewN | apply IsS78.drew | apply IsS78.set_0) | exact HI0.out))) : g ≠ gb465)); have NB465_0 := sy NB0_465; replace HK := Aside0.mk (KeepBut.trans (by repeat (first | (with_reducible first | exact HK.out | apply KeepBut.set_ | apply keep_drewN | apply keep_drew | apply keep_alloc) | exact HK.out)) (KeepBut.of_below hb g none) (.inl rfl)); replace HB := Aside0.mk (below_step (by repeat (first | (with_reducible first | exact HB.out | apply below_alloc | apply pw_below_drewN | apply below_drew1 | refine below_set ?_ (IsS78.ge HI0.out)) | exact HB.out)) hb); replace HI0 := Aside0.mk (IsS78.below (by repeat (first | (with_reducible first | exact HI0.out | apply IsS78.alloc | apply IsS78.drewN | apply IsS78.drew | apply IsS78.set_0) | exact HI0.out)) hb); clear hb hbox hg) | ((with_reducible refine gate_dst (N := 5) rfl ?_); refine bx 5 #[.int .i64 a2_0, .int .i64 a2_1] 28 ?_; intro gb466 hg w7 hbox hb; have BK466 := Aside0.mk (hbox); have GW466 := Aside0.mk ((by rw [hg]; exact (keep_size (w := w) (g := g) (row := none) (by repeat (first | (with_reducible first | exact HK.out | apply KeepBut.set_ | apply keep_drewN | apply keep_drew | apply keep_alloc | refine keep_far ?_ GW465.out _) | exact HK.out))) : w.heap.size ≤ gb466)); have GE466 := Aside0.mk ((Nat.le_trans HW0.out GW466.out : w0.heap.size ≤ gb466)); have NB465_466 := Aside0.mk (bn gb465 hg); have NB466_465 := sy NB465_466; have NB0_466 := Aside0.mk ((by rw [hg]; exact Nat.ne_of_lt (IsS78.lt (show IsS78 w0 _ g s0_0 from by repeat (first | (with_reducible first | exact HI0.out | apply IsS78.alloc | apply IsS78.drewN | apply IsS78.drew | apply IsS78.set_0 | refine IsS78.far ?_ NB0_465.out _) | exact HI0.out))) : g ≠ gb466)); have NB466_0 := sy NB0_466; replace BK465 := kb BK465 hb; replace HK := Aside0.mk (KeepBut.trans (by repeat (first | (with_reducible first | exact HK.out | apply KeepBut.set_ | apply keep_drewN | apply keep_drew | apply keep_alloc | refine keep_far ?_ GW465.out _) | exact HK.out)) (KeepBut.of_below hb g none) (.inl rfl)); replace HB := Aside0.mk (below_step (by repeat (first | (with_reducible first | exact HB.out | apply below_alloc | apply pw_below_drewN | apply below_drew1 | refine below_set ?_ (IsS78.ge HI0.out) | refine below_set ?_ GE465.out) | exact HB.out)) hb); replace HI0 := Aside0.mk (IsS78.below (by repeat (first | (with_reducible first | exact HI0.out | apply IsS78.alloc | apply IsS78.drewN | apply IsS78.drew | apply IsS78.set_0 | refine IsS78.far ?_ NB0_465.out _) | exact HI0.out)) hb); clear hb hbox hg) | ((with_reducible refine gate_dst (N := 6) rfl ?_); refine bx 6 #[.int .i64 0, .int .i64 0] 28 ?_; intro gb467 hg w8 hbox hb; have BK467 := Aside0.mk (hbox); have GW467 := Aside0.mk ((by rw [hg]; exact (keep_size (w := w) (g := g) (row := none) (by repeat (first | (with_reducible first | exact HK.out | apply KeepBut.set_ | apply keep_drewN | apply keep_drew | apply keep_alloc | refine keep_far ?_ GW465.out _ | refine keep_far ?_ GW466.out _) | exact HK.out))) : w.heap.size ≤ gb467)); have GE467 := Aside0.mk ((Nat.le_trans HW0.out GW467.out : w0.heap.size ≤ gb467)); have NB465_467 := Aside0.mk (bn gb465 hg); have NB467_465 := sy NB465_467; have NB466_467 := Aside0.mk (bn gb466 hg); have NB467_466 := sy NB466_467; have NB0_467 := Aside0.mk ((by rw [hg]; exact Nat.ne_of_lt (IsS78.lt (show IsS78 w0 _ g s0_0 from by repeat (first | (with_reducible first | exact HI0.out | apply IsS78.alloc | apply IsS78.drewN | apply IsS78.drew | apply IsS78.set_0 | refine IsS78.far ?_ NB0_465.out _ | refine IsS78.far ?_ NB0_466.out _) | exact HI0.out))) : g ≠ gb467)); have NB467_0 := sy NB0_467; replace BK465 := kb BK465 hb; replace BK466 := kb BK466 hb; replace HK := Aside0.mk (KeepBut.trans (by repeat (first | (with_reducible first | exact HK.out | apply KeepBut.set_ | apply keep_drewN | apply keep_drew | apply keep_alloc | refine keep_far ?_ GW465.out _ | refine keep_far ?_ GW466.out _) | exact HK.out)) (KeepBut.of_below hb g none) (.inl rfl)); replace HB := Aside0.mk (below_step (by repeat (first | (with_reducible first | exact HB.out | apply below_alloc | apply pw_below_drewN | apply below_drew1 | refine below_set ?_ (IsS78.ge HI0.out) | refine below_set ?_ GE465.out | refine below_set ?_ GE466.out) | exact HB.out)) hb); replace HI0 := Aside0.mk (IsS78.below (by repeat (first | (with_reducible first | exact HI0.out | apply IsS78.alloc | apply IsS78.drewN | apply IsS78.drew | apply IsS78.set_0 | refine IsS78.far ?_ NB0_465.out _ | refine IsS78.far ?_ NB0_466.out _) | exact HI0.out)) hb); clear hb hbox hg; have hnb9 := NB465_466.out; have hnc9 := NB466_465.out; have hnb10 := NB465_467.out; have hnc10 := NB467_465.out; have hnb11 := NB465_0.out; have hnc11 := NB0_465.out; obtain ⟨hcz12_0, hcz12_1, hfz12_0, hfz12_1⟩ := b2 BK465; have hnb13 := NB466_467.out; have hnc13 := NB467_466.out; have hnb14 := NB466_0.out; have hnc14 := NB0_466.out; obtain ⟨hcz15_0, hcz15_1, hfz15_0, hfz15_1⟩ := b2 BK466) | ((with_reducible refine gate_callee (f := 128) rfl ?_); refine gl 10 Try.func128 #[.agg #[.int .i64 a1_0, .int .i64 a1_1], .agg #[.int .i64 a2_0, .int .i64 a2_1]] ?_; (with_reducible refine (impl_MultiplyRats.calls k a1_0 a1_1 a2_0 a2_1 t468 t469 t470 _ A4.out).mono ?_); rintro e w16 ⟨rfl, hb⟩; refine ⟨_, rfl, ?_⟩; replace BK465 := kb BK465 hb; replace BK466 := kb BK466 hb; replace BK467 := kb BK467 hb; replace HK := Aside0.mk (KeepBut.trans (by repeat (first | (with_reducible first | exact HK.out | apply KeepBut.set_ | apply keep_drewN | apply keep_drew | apply keep_alloc | refine keep_far ?_ GW465.out _ | refine keep_far ?_ GW466.out _ | refine keep_far ?_ GW467.out _) | exact HK.out)) (KeepBut.of_below hb g none) (.inl rfl)); replace HB := Aside0.mk (below_step (by repeat (first | (with_reducible first | exact HB.out | apply below_alloc | apply pw_below_drewN | apply below_drew1 | refine below_set ?_ (IsS78.ge HI0.out) | refine below_set ?_ GE465.out | refine below_set ?_ GE466.out | refine below_set ?_ GE467.out) | exact HB.out)) hb); replace HI0 := Aside0.mk (IsS78.below (by repeat (first | (with_reducible first | exact HI0.out | apply IsS78.alloc | apply IsS78.drewN | apply IsS78.drew | apply IsS78.set_0 | refine IsS78.far ?_ NB0_465.out _ | refine IsS78.far ?_ NB0_466.out _ | refine IsS78.far ?_ NB0_467.out _) | exact HI0.out)) hb); (try clear hb); (try clear hb2); (try clear hk); (try clear hi)) | ((with_reducible refine gate_callee (f := 127) rfl ?_); refine gl 13 Try.func127 #[.pointer (some ⟨g, 0, none⟩), .agg #[.int .i64 t468, .int .i64 t469], .bool t470] ?_; (with_reducible refine (impl_calc_keep.calls g s0_0 t468 t469 t470 t471 t472 t473 w0 _ ?side1 ?side2 A5.out).mono ?_); (case side1 => repeat (first | (with_reducible first | exact HI0.out | apply IsS78.alloc | apply IsS78.drewN | apply IsS78.drew | apply IsS78.set_0 | refine IsS78.far ?_ NB0_465.out _ | refine IsS78.far ?_ NB0_466.out _ | refine IsS78.far ?_ NB0_467.out _) | exact HI0.out)); (case side2 => repeat (first | (with_reducible first | exact HB.out | apply below_alloc | apply pw_below_drewN | apply below_drew1 | refine below_set ?_ (IsS78.ge HI0.out) | refine below_set ?_ GE465.out | refine below_set ?_ GE466.out | refine below_set ?_ GE467.out) | exact HB.out)); rintro e w17 ⟨rfl, hi, hb, hk⟩; refine ⟨_, rfl, ?_⟩; replace BK465 := Aside0.mk (KeepBut.blk hk (g' := gb465) (o := .cells #[.int .i64 a1_0, .int .i64 a1_1] 28 (0, 0)) (bo gb465) NB465_0.out (by simp)); replace BK466 := Aside0.mk (KeepBut.blk hk (g' := gb466) (o := .cells #[.int .i64 a2_0, .int .i64 a2_1] 28 (0, 0)) (bo gb466) NB466_0.out (by simp)); replace BK467 := Aside0.mk (KeepBut.blk hk (g' := gb467) (o := .cells #[.int .i64 0, .int .i64 0] 28 (0, 0)) (bo gb467) NB467_0.out (by simp)); replace HK := Aside0.mk (KeepBut.trans (by repeat (first | (with_reducible first | exact HK.out | apply KeepBut.set_ | apply keep_drewN | apply keep_drew | apply keep_alloc | refine keep_far ?_ GW465.out _ | refine keep_far ?_ GW466.out _ | refine keep_far ?_ GW467.out _) | exact HK.out)) hk (.inl rfl)); replace HB := Aside0.mk (hb); replace HI0 := Aside0.mk (hi); (try clear hb); (try clear hb2); (try clear hk); (try clear hi); have hnb18 := NB467_0.out; have hnc18 := NB0_467.out; obtain ⟨hcz19_0, hcz19_1, hfz19_0, hfz19_1⟩ := b2 BK467))
 refine bodyPost_ret (results_cell_row rfl _ _ gb467 28 #[.int .i64 t471, .int .i64 t472] (0, 0) _ rfl (by (with_reducible repeat (first | refine blk_drewN ?_ _ | refine blk_drew ?_ | refine blk_alloc ?_ _)); refine blk_put (cs := #[.int .i64 t471, .int .i64 0]) ?_ 1 _ rfl; (with_reducible repeat (first | refine blk_drewN ?_ _ | refine blk_drew ?_ | refine blk_alloc ?_ _)); refine blk_put (cs := #[.int .i64 0, .int .i64 0]) ?_ 0 _ rfl; (with_reducible repeat (first | refine blk_drewN ?_ _ | refine blk_drew ?_ | refine blk_alloc ?_ _)); exact BK467.out) Try.underlying28 rfl (by kernel_rfl)) rfl ?_
 exact ⟨rt, by repeat (first | (with_reducible first | exact HI0.out | apply IsS78.alloc | apply IsS78.drewN | apply IsS78.drew | apply IsS78.set_0 | refine IsS78.far ?_ NB0_465.out _ | refine IsS78.far ?_ NB0_466.out _ | refine IsS78.far ?_ NB0_467.out _) | exact HI0.out), by repeat (first | (with_reducible first | exact HB.out | apply below_alloc | apply pw_below_drewN | apply below_drew1 | refine below_set ?_ (IsS78.ge HI0.out) | refine below_set ?_ GE465.out | refine below_set ?_ GE466.out | refine below_set ?_ GE467.out) | exact HB.out), by repeat (first | (with_reducible first | exact HK.out | apply KeepBut.set_ | apply keep_drewN | apply keep_drew | apply keep_alloc | refine keep_far ?_ GW465.out _ | refine keep_far ?_ GW466.out _ | refine keep_far ?_ GW467.out _) | exact HK.out)⟩

end Go.Proofs.Ytmecnnnagallnaa.PFnExactItineraryOf
