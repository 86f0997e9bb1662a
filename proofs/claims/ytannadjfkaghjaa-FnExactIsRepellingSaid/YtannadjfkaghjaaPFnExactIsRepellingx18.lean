-- Written by this session's program wip/pp (the kit's print tool with additions) 35421559b90ae4d0a3588c463048766b98c2df88dd9212a6774a882060cdf62d
import Derived.Test.YtannadjfkaghjaaPFnExactIsRepellingx0
import Derived.Test.YtannadjfkaghjaaPFnExactIsRepellingx13
import Derived.Test.YtannadjfkaghjaaPFnExactIsRepellingx15
namespace Go.Proofs.Ytannadjfkaghjaa.PFnExactIsRepelling
open Go.RowKit Go.Proofs.YtannadjfkaghjaaW.PrintWords Go.Proofs.YtannadjfkaghjaaW.PrintLast Go.Proofs.YtannadjfkaghjaaW.PrintMore
attribute [local go_sem] max2_int min2_int max_two min_two max_three min_three max_four min_four   -- for this text's walks alone
set_option linter.unusedVariables false
set_option linter.unusedSimpArgs false

/-! ### impl_slopes: function 115 -/
def impl_slopes.l0 : Nat → List (S73) → List (S53) → Int → Bool → Option ((List (S53)))
 | 0, _, _, _, _ => none
 | k + 1, x0, x4, x5, x527000 => if x5 < (x0.length : Int) then (if 0 ≤ (wrap64 (x5 - 1)) then (if (wrap64 (x5 - 1)) < (x0.length : Int) then (if 0 ≤ x5 then ((impl_calc_slope.f k x527000 ((rd_T73 x0 (wrap64 (x5 - 1))).f0.f0) ((rd_T73 x0 (wrap64 (x5 - 1))).f0.f1) ((rd_T73 x0 (wrap64 (x5 - 1))).f1.f0) ((rd_T73 x0 (wrap64 (x5 - 1))).f1.f1) ((rd_T73 x0 x5).f0.f0) ((rd_T73 x0 x5).f0.f1) ((rd_T73 x0 x5).f1.f0) ((rd_T73 x0 x5).f1.f1)).bind fun bt529 => (if x4.length < 8796093022208 then (impl_slopes.l0 k x0 (x4 ++ [(⟨bt529.1, bt529.2.1⟩ : S53)]) (wrap64 (x5 + 1)) bt529.2.2) else (none))) else (none)) else (none)) else (none)) else (some x4)
def impl_slopes.f (k : Nat) (l0 : List (S73)) : Option ((List (S53))) := impl_slopes.l0 k l0 ([] : List (S53)) 1 false
def impl_slopes.T6 : Bool × List (List Nat × List Nat) := (true, [([], []), ([], []), ([], []), ([2], [2]), ([1, 3], [1, 3]), ([4], [4]), ([], []), ([], []), ([6, 7], [6, 7]), ([8], [8]), ([5, 9], [5, 9]), ([10], [10]), ([0, 11, 10], [0, 11]), ([12, 12, 0, 1, 2, 3, 4, 5, 6, 7, 8, 9, 10, 11, 12], [0, 12])])
def impl_slopes.B6 : List Nat := [0, 0, 0, 4, 14, 30, 0, 0, 192, 448, 1022, 2046, 4095, 8191]
theorem impl_slopes.tab6 : rtab .any (opsOf Try.f115 6) = impl_slopes.T6 := by kernel_rfl
theorem impl_slopes.bits6 : waitsOk impl_slopes.T6.2 impl_slopes.B6 = true := by kernel_rfl
set_option maxHeartbeats 8000000 in
set_option maxRecDepth 100000 in
theorem impl_slopes.calls (k : Nat) (A0 : Option Addr) (c0 : Nat) (l0 : List (S73)) (r : List (S53)) (w : World) (hr0 : Kd.C k73 w A0 l0.length l0) (hc0 : l0.length ≤ c0) (h : impl_slopes.f k l0 = some r) :
  Calls Try.prog 115 #[.slice A0 l0.length c0] w fun e w' => ∃ v0_ : Value, e = .returned (v0_) ∧ Kd.R k53 53 w' w.heap.size (fun _ => True) v0_ r ∧ Below w.heap.size w w' := by
 have hu103 := Try.underlying103
 have hu73 := Try.underlying73
 have HR0 := Aside0.mk hr0
 have HC0 := Aside0.mk hc0
 clear hr0 hc0
 have HB := Aside0.mk (Below.refl w.heap.size w)
 have H : (impl_slopes.l0 k l0 ([] : List (S53)) 1 false) = some r := h
 clear h
 have H' := Aside0.mk H
 clear H
 go_enter Try.func115, Try.ntmps115
 go_wp2_with (first | ((with_reducible refine gate_dst (N := 3) rfl ?_); refine bx 3 #[.bool false] 103 ?_; intro gb526 hg w2 hbox hb; have HI526 := Aside0.mk ((⟨hbox, (by rw [hg]; exact (below_size bl) : w.heap.size ≤ gb526)⟩ : IsS103 w w2 gb526 false)); replace HB := kh hb; clear hb hbox hg))
 go_loopg [4, 5] k (fun kq v4 v5 w' => ∃ (x4_1 : List (S53)) (x5_1 : Int) (x527000_1 : Bool), v5 = .int .i64 x5_1 ∧ Aside0 (impl_slopes.l0 kq l0 x4_1 x5_1 x527000_1 = some r) ∧ Aside0 (kq ≤ k) ∧ Aside0 (Kd.R k53 53 w' w.heap.size (fun _ => True) v4 x4_1) ∧ Aside0 (IsS103 w w' gb526 x527000_1) ∧ Aside0 (Below w.heap.size w w'))
 case atStart => exact ⟨(([] : List (S53))), (1), (false), rs, H', ⟨Nat.le_refl _⟩, ⟨by first | exact Kd.R_nil _ _ _ _ _ | exact Kd.N_nil _ _ _ _ _ | exact Kd.V_nil _ _ _ _ _ | exact Kd.Q_nil _ _ _ _ _ | exact Kd.S_nil _ _ _ _ _⟩, ⟨by repeat (first | (with_reducible first | exact HI526.out | apply IsS103.alloc | apply IsS103.drewN | apply IsS103.drew | apply IsS103.set_0) | exact HI526.out)⟩, ⟨by repeat (first | (with_reducible first | exact HB.out | apply below_alloc | apply pw_below_drewN | apply below_drew1 | refine below_set ?_ (IsS103.ge HI526.out)) | exact HB.out)⟩⟩
 case round =>
  clear H'
  try clear c1
  try clear p2
  obtain ⟨x4_1, x5_1, x527000_1, rfl, HA, HK1, HO_4, HI526, HB⟩ := hrel
  cases gk with
  | zero => exact absurd HA.out (by simp [impl_slopes.l0])
  | succ k1 =>
   have H := HA.out
   clear HA
   simp only [impl_slopes.l0] at H
   by_cases c3 : x5_1 < (l0.length : Int)
   ·rw [if_pos c3] at H
    have c3b0 : decide (x5_1 < (l0.length : Int)) = true := decide_eq_true c3
    clear c3
    obtain ⟨ji4, hji4⟩ : ∃ j_ : Int, (wrap64 (x5_1 - 1)) = j_ := ⟨_, rfl⟩
    replace H : (if 0 ≤ (ji4) then (if (ji4) < (l0.length : Int) then (if 0 ≤ x5_1 then ((impl_calc_slope.f k1 x527000_1 ((rd_T73 l0 (ji4)).f0.f0) ((rd_T73 l0 (ji4)).f0.f1) ((rd_T73 l0 (ji4)).f1.f0) ((rd_T73 l0 (ji4)).f1.f1) ((rd_T73 l0 x5_1).f0.f0) ((rd_T73 l0 x5_1).f0.f1) ((rd_T73 l0 x5_1).f1.f0) ((rd_T73 l0 x5_1).f1.f1)).bind fun bt529 => (if x4_1.length < 8796093022208 then (impl_slopes.l0 k1 l0 (x4_1 ++ [(⟨bt529.1, bt529.2.1⟩ : S53)]) (wrap64 (x5_1 + 1)) bt529.2.2) else (none))) else (none)) else (none)) else (none)) = some r := by first | (rw [hji4] at H; exact H) | (simp only [hji4] at H ⊢; exact H)
    have hji4w : (IntKind.i64.wrap (x5_1 - 1)) = ji4 := (i64_w _).trans hji4
    by_cases c5 : 0 ≤ (ji4)
    ·rw [if_pos c5] at H
     have c5b0 : decide (0 ≤ (ji4)) = true := decide_eq_true c5
     clear c5
     by_cases c6 : (ji4) < (l0.length : Int)
     ·rw [if_pos c6] at H
      have c6b0 : decide ((ji4) < (l0.length : Int)) = true := decide_eq_true c6
      clear c6
      by_cases c7 : 0 ≤ x5_1
      ·rw [if_pos c7] at H
       have c7b0 : decide (0 ≤ x5_1) = true := decide_eq_true c7
       clear c7
       replace H := Option.bind_eq_some_iff.mp H
       obtain ⟨⟨t529, t530, t531⟩, A80, H⟩ := H
       replace H : (if x4_1.length < 8796093022208 then (impl_slopes.l0 k1 l0 (x4_1 ++ [(⟨t529, t530⟩ : S53)]) (wrap64 (x5_1 + 1)) t531) else (none)) = some r := H
       have A8 := Aside0.mk A80
       clear A80
       by_cases c9 : x4_1.length < 8796093022208
       ·rw [if_pos c9] at H
        have LMc9 := Aside0.mk c9
        clear c9
        obtain ⟨y532, hy532⟩ : ∃ y_ : List (S53), y_ = (x4_1 ++ [(⟨t529, t530⟩ : S53)]) := ⟨_, rfl⟩
        replace H : (impl_slopes.l0 k1 l0 y532 (wrap64 (x5_1 + 1)) t531) = some r := by first | (rw [hy532]; with_reducible exact H) | (have H2_ := (Option.bind_some _ _).symm.trans H; rw [hy532]; with_reducible exact H2_) | (have H2_ := (Option.bind_some _ _).symm.trans H; with_reducible exact H2_) | with_reducible exact H | (rw [hy532]; exact H) | exact H
        have Ny532 := Aside0.mk hy532
        clear hy532
        have H' := Aside0.mk H
        clear H
        try go_wp2
        replace HO_4 := Aside0.mk (Kd.R_drew HO_4.out)
        replace HI526 := Aside0.mk (IsS103.drew HI526.out)
        replace HB := Aside0.mk (below_drew1 HB.out)
        have p527 : 0 ≤ ((ji4) : Int) := da
        have q527 : (ji4) < (l0.length : Int) := da
        obtain ⟨ad527, e527, hx527_0, hx527_1, hx527_2, hx527_3⟩ := at_T73 HR0.out (ji4) p527 q527
        have hw527_3 := hx527_3
        have hw527_2 := hx527_2
        have hw527_1 := hx527_1
        have hw527_0 := hx527_0
        cases e527
        replace hx527_0 := (hc HB hx527_0 :)
        replace hx527_1 := (hc HB hx527_1 :)
        replace hx527_2 := (hc HB hx527_2 :)
        replace hx527_3 := (hc HB hx527_3 :)
        replace p527 := eq_true p527
        replace q527 := eq_true q527
        have p528 : 0 ≤ (x5_1 : Int) := da
        have q528 : x5_1 < (l0.length : Int) := da
        obtain ⟨ad528, e528, hx528_0, hx528_1, hx528_2, hx528_3⟩ := at_T73 HR0.out x5_1 p528 q528
        have hw528_3 := hx528_3
        have hw528_2 := hx528_2
        have hw528_1 := hx528_1
        have hw528_0 := hx528_0
        obtain rfl : ad527 = ad528 := (by injection e528)
        replace hx528_0 := (hc HB hx528_0 :)
        replace hx528_1 := (hc HB hx528_1 :)
        replace hx528_2 := (hc HB hx528_2 :)
        replace hx528_3 := (hc HB hx528_3 :)
        replace p528 := eq_true p528
        replace q528 := eq_true q528
        refine start_ (n := 14) (S := fun w' => w'.cell? (ad527.add (((ji4)).toNat * 4)) = some (.int .i64 ((rd_T73 l0 (ji4)).f0.f0)) ∧ w'.cell? ⟨(ad527.add (((ji4)).toNat * 4)).block, (ad527.add (((ji4)).toNat * 4)).off + 1, none⟩ = some (.int .i64 ((rd_T73 l0 (ji4)).f0.f1)) ∧ w'.cell? ⟨(ad527.add (((ji4)).toNat * 4)).block, (ad527.add (((ji4)).toNat * 4)).off + 2, none⟩ = some (.int .i64 ((rd_T73 l0 (ji4)).f1.f0)) ∧ w'.cell? ⟨(ad527.add (((ji4)).toNat * 4)).block, (ad527.add (((ji4)).toNat * 4)).off + 3, none⟩ = some (.int .i64 ((rd_T73 l0 (ji4)).f1.f1)) ∧ w'.cell? (ad527.add ((x5_1).toNat * 4)) = some (.int .i64 ((rd_T73 l0 x5_1).f0.f0)) ∧ w'.cell? ⟨(ad527.add ((x5_1).toNat * 4)).block, (ad527.add ((x5_1).toNat * 4)).off + 1, none⟩ = some (.int .i64 ((rd_T73 l0 x5_1).f0.f1)) ∧ w'.cell? ⟨(ad527.add ((x5_1).toNat * 4)).block, (ad527.add ((x5_1).toNat * 4)).off + 2, none⟩ = some (.int .i64 ((rd_T73 l0 x5_1).f1.f0)) ∧ w'.cell? ⟨(ad527.add ((x5_1).toNat * 4)).block, (ad527.add ((x5_1).toNat * 4)).off + 3, none⟩ = some (.int .i64 ((rd_T73 l0 x5_1).f1.f1))) (ds := []) (tb 0 14) (by kernel_rfl) rfl rfl ⟨(hc HB hw527_0 :), (hc HB hw527_1 :), (hc HB hw527_2 :), (hc HB hw527_3 :), (hc HB hw528_0 :), (hc HB hw528_1 :), (hc HB hw528_2 :), (hc HB hw528_3 :)⟩ (fun hHeld => ?_); refine with_tabW impl_slopes.tab6 impl_slopes.bits6 (fun HT_ HW_ => ?_)
        generalize wr.drew = w10 at HO_4 HI526 HB hx527_0 hx527_1 hx527_2 hx527_3 hx528_0 hx528_1 hx528_2 hx528_3 hHeld ⊢
        refine pu 0 12 (tb 1 13) ?_
        refine pu 1 13 (tb 2 12) ?_
        refine pu 2 14 (tb 3 11) ?_
        refine pu 3 15 (tb 4 10) ?_
        refine pu 4 16 (tb 5 9) ?_
        refine pu 6 18 #[true, true, true, true, true, false, true, false, false, false, false, false, false, false] ?_
        refine pu 7 19 #[true, true, true, true, true, false, true, true, false, false, false, false, false, false] ?_
        refine pu 8 20 #[true, true, true, true, true, false, true, true, true, false, false, false, false, false] ?_
        refine tk 5 17 (tb 9 5) (hy := by rintro w' ⟨s0, s1, s2, s3, s4, s5, s6, s7⟩; go_simp; with_reducible rfl) (h := ?_)
        refine tk 9 21 (tb 10 4) (hy := by rintro w' ⟨s0, s1, s2, s3, s4, s5, s6, s7⟩; go_simp; with_reducible rfl) (h := ?_)
        refine on 10 22 (tb 11 3) (fun K hK => ?_)
        refine goes_ Try.func124 (by kernel_rfl) rfl #[.pointer (some ⟨gb526, 0, none⟩), .agg #[.int .i64 ((rd_T73 l0 (ji4)).f0.f0), .int .i64 ((rd_T73 l0 (ji4)).f0.f1), .int .i64 ((rd_T73 l0 (ji4)).f1.f0), .int .i64 ((rd_T73 l0 (ji4)).f1.f1)], .agg #[.int .i64 ((rd_T73 l0 x5_1).f0.f0), .int .i64 ((rd_T73 l0 x5_1).f0.f1), .int .i64 ((rd_T73 l0 x5_1).f1.f0), .int .i64 ((rd_T73 l0 x5_1).f1.f1)]] (by rfl) rfl rfl (by (try simp only [List.map_toArray, List.map_cons, List.map_nil]); first | done | (simp only [hji4]; rfl) | rfl | (simp only [List.length_drop, List.length_take]; rfl)) ?_
        with_reducible refine (impl_calc_slope.calls k1 gb526 x527000_1 ((rd_T73 l0 (ji4)).f0.f0) ((rd_T73 l0 (ji4)).f0.f1) ((rd_T73 l0 (ji4)).f1.f0) ((rd_T73 l0 (ji4)).f1.f1) ((rd_T73 l0 x5_1).f0.f0) ((rd_T73 l0 x5_1).f0.f1) ((rd_T73 l0 x5_1).f1.f0) ((rd_T73 l0 x5_1).f1.f1) t529 t530 t531 w _ ?side1 ?side2 A8.out).mono ?_
        (case side1 => repeat (first | (with_reducible first | exact HI526.out | apply IsS103.alloc | apply IsS103.drewN | apply IsS103.drew | apply IsS103.set_0) | exact HI526.out))
        (case side2 => repeat (first | (with_reducible first | exact HB.out | apply below_alloc | apply pw_below_drewN | apply below_drew1 | refine below_set ?_ (IsS103.ge HI526.out)) | exact HB.out))
        rintro e w11 ⟨rfl, hi, hb, hk⟩
        refine ⟨_, rfl, ?_⟩
        replace HO_4 := Aside0.mk (Kd.R_mono (Kd.R_keep (IsS103.apart (show IsS103 w _ gb526 x527000_1 from by repeat (first | (with_reducible first | exact HI526.out | apply IsS103.alloc | apply IsS103.drewN | apply IsS103.drew | apply IsS103.set_0) | exact HI526.out)) (by (with_reducible repeat (first | apply Kd.R_alloc | apply Kd.R_drewN | apply Kd.R_drew)); exact HO_4.out) (by decide)) hk (fun _ h => h.2)) (fun _ h => h.1))
        replace HB := Aside0.mk (hb)
        replace HI526 := Aside0.mk (hi)
        (try clear hb)
        (try clear hb2)
        (try clear hk)
        (try clear hi)
        refine hK.out _ _ ⟨(hc HB hw527_0 :), (hc HB hw527_1 :), (hc HB hw527_2 :), (hc HB hw527_3 :), (hc HB hw528_0 :), (hc HB hw528_1 :), (hc HB hw528_2 :), (hc HB hw528_3 :)⟩ (fun hHeld => ?_)
        clear hK K
        refine nm 22 ?_
        refine on 11 23 (tb 12 2) (fun K hK => ?_)
        refine value_ (w1 := ?_) (v := ?_) (by rfl) rfl ?_ ?_
        rotate_left 2
        ·go_simp
         constructor
         ·rfl
         ·rfl
        refine hK.out _ _ ⟨(World.cell?_alloc_lt _ _ _ (World.block_lt_of_cell? _ _ ((hc HB hw527_0 :)))).trans ((hc HB hw527_0 :)), (World.cell?_alloc_lt _ _ _ (World.block_lt_of_cell? _ _ ((hc HB hw527_1 :)))).trans ((hc HB hw527_1 :)), (World.cell?_alloc_lt _ _ _ (World.block_lt_of_cell? _ _ ((hc HB hw527_2 :)))).trans ((hc HB hw527_2 :)), (World.cell?_alloc_lt _ _ _ (World.block_lt_of_cell? _ _ ((hc HB hw527_3 :)))).trans ((hc HB hw527_3 :)), (World.cell?_alloc_lt _ _ _ (World.block_lt_of_cell? _ _ ((hc HB hw528_0 :)))).trans ((hc HB hw528_0 :)), (World.cell?_alloc_lt _ _ _ (World.block_lt_of_cell? _ _ ((hc HB hw528_1 :)))).trans ((hc HB hw528_1 :)), (World.cell?_alloc_lt _ _ _ (World.block_lt_of_cell? _ _ ((hc HB hw528_2 :)))).trans ((hc HB hw528_2 :)), (World.cell?_alloc_lt _ _ _ (World.block_lt_of_cell? _ _ ((hc HB hw528_3 :)))).trans ((hc HB hw528_3 :))⟩ (fun hHeld => ?_)
        clear hK K
        refine nm 23 ?_
        refine on 12 24 (tb 13 1) (fun K hK => ?_)
        refine Kd.R_append_step k53 (w0 := w) w.heap.size (by rfl) (.tmp 12) (.tmp 23) 84 53 (.agg #[(.int .i64 0), (.int .i64 0)]) 16 rfl Try.underlying84 info53 rfl (by decide) (by omega) u4 x4_1 (⟨t529, t530⟩ : S53) [.int .i64 t529, .int .i64 t530] (fun _ => True) (fun _ => False) rfl rfl ?aP (fun _ hk => hk.elim) ?aF ?aO ?aB ?aS ?aL ?_
        (case aP => exact k53_mkM _ _ _ (⟨t529, t530⟩ : S53))
        (case aB => exact (by repeat (first | (with_reducible first | exact HB.out | apply below_alloc | apply pw_below_drewN | apply below_drew1 | refine below_set ?_ (IsS103.ge HI526.out)) | exact HB.out)))
        (case aF => exact (fun _ _ => trivial))
        (case aO => exact (by (with_reducible repeat (first | apply Kd.R_alloc | apply Kd.R_drewN | apply Kd.R_drew)); exact HO_4.out))
        (case aS => exact (below_size (by repeat (first | (with_reducible first | exact HB.out | apply below_alloc | apply pw_below_drewN | apply below_drew1 | refine below_set ?_ (IsS103.ge HI526.out)) | exact HB.out))))
        (case aL => have := LMc9.out; omega)
        intro v533 w12 ho hb hg hat
        rw [← Ny532.out] at ho
        have HO534 := Aside0.mk (ho)
        replace HI526 := Aside0.mk (IsS103.grown (show IsS103 w _ gb526 t531 from by repeat (first | (with_reducible first | exact HI526.out | apply IsS103.alloc | apply IsS103.drewN | apply IsS103.drew | apply IsS103.set_0) | exact HI526.out)) hg (IsS103.own_ne HI526.out HO_4.out (by decide)))
        replace HB := Aside0.mk (hb)
        clear HO_4
        clear ho hb hg hat
        refine hK.out _ _ ⟨(hc HB hw527_0 :), (hc HB hw527_1 :), (hc HB hw527_2 :), (hc HB hw527_3 :), (hc HB hw528_0 :), (hc HB hw528_1 :), (hc HB hw528_2 :), (hc HB hw528_3 :)⟩ (fun hHeld => ?_)
        clear hK K
        refine nm 24 ?_
        refine pu 13 4 (tb 14 0) ?_
        refine done_ (done_of HT_.out (by kernel_rfl)) ?_
        try go_wp2
        go_roundg k1
        case measure => have := HK1.out; omega
        case rel => exact ⟨(y532), (wrap64 (x5_1 + 1)), (t531), rs, H', ⟨by have := HK1.out; omega⟩, ⟨by (with_reducible repeat (first | apply Kd.R_alloc | apply Kd.R_drewN | apply Kd.R_drew)); exact HO534.out⟩, ⟨by repeat (first | (with_reducible first | exact HI526.out | apply IsS103.alloc | apply IsS103.drewN | apply IsS103.drew | apply IsS103.set_0) | exact HI526.out)⟩, ⟨by repeat (first | (with_reducible first | exact HB.out | apply below_alloc | apply pw_below_drewN | apply below_drew1 | refine below_set ?_ (IsS103.ge HI526.out)) | exact HB.out)⟩⟩
       ·rw [if_neg c9] at H
        exact absurd H (by simp)
      ·rw [if_neg c7] at H
       exact absurd H (by simp)
     ·rw [if_neg c6] at H
      exact absurd H (by simp)
    ·rw [if_neg c5] at H
     exact absurd H (by simp)
   ·rw [if_neg c3] at H
    have c3b0 : decide (x5_1 < (l0.length : Int)) = false := decide_eq_false c3
    clear c3
    obtain rfl := Option.some.inj H
    go_wp2
    go_ret
    exact ⟨_, rt, by (with_reducible repeat (first | apply Kd.R_alloc | apply Kd.R_drewN | apply Kd.R_drew)); exact HO_4.out, by repeat (first | (with_reducible first | exact HB.out | apply below_alloc | apply pw_below_drewN | apply below_drew1 | refine below_set ?_ (IsS103.ge HI526.out)) | exact HB.out)⟩

end Go.Proofs.Ytannadjfkaghjaa.PFnExactIsRepelling
