-- Written by this session's program wip/pp (the kit's print tool with additions) 35421559b90ae4d0a3588c463048766b98c2df88dd9212a6774a882060cdf62d
import Derived.Test.YtmecnnnagallnaaPFnExactCompareWordsx0
import Derived.Test.YtmecnnnagallnaaPFnExactCompareWordsx8
import Derived.Test.YtmecnnnagallnaaPFnExactCompareWordsx9
import Derived.Test.YtmecnnnagallnaaPFnExactCompareWordsx10
import Derived.Test.YtmecnnnagallnaaPFnExactCompareWordsx11
namespace Go.Proofs.Ytmecnnnagallnaa.PFnExactCompareWords
open Go.RowKit Go.Proofs.YtmecnnnagallnaaW.PrintWords Go.Proofs.YtmecnnnagallnaaW.PrintLast Go.Proofs.YtmecnnnagallnaaW.PrintMore
attribute [local go_sem] max2_int min2_int max_two min_two max_three min_three max_four min_four   -- for this text's walks alone
set_option linter.unusedVariables false
set_option linter.unusedSimpArgs false

/-! ### impl_slopes: function 50 -/
def impl_slopes.l0 : Nat → List (S68) → List (S28) → Int → Bool → Option ((List (S28)))
 | 0, _, _, _, _ => none
 | k + 1, x0, x4, x5, x378000 => if x5 < (x0.length : Int) then (if 0 ≤ (wrap64 (x5 - 1)) then (if (wrap64 (x5 - 1)) < (x0.length : Int) then (if 0 ≤ x5 then ((impl_calc_slope.f k x378000 ((rd_T68 x0 (wrap64 (x5 - 1))).f0.f0) ((rd_T68 x0 (wrap64 (x5 - 1))).f0.f1) ((rd_T68 x0 (wrap64 (x5 - 1))).f1.f0) ((rd_T68 x0 (wrap64 (x5 - 1))).f1.f1) ((rd_T68 x0 x5).f0.f0) ((rd_T68 x0 x5).f0.f1) ((rd_T68 x0 x5).f1.f0) ((rd_T68 x0 x5).f1.f1)).bind fun bt380 => (if x4.length < 8796093022208 then (impl_slopes.l0 k x0 (x4 ++ [(⟨bt380.1, bt380.2.1⟩ : S28)]) (wrap64 (x5 + 1)) bt380.2.2) else (none))) else (none)) else (none)) else (none)) else (some x4)
def impl_slopes.f (k : Nat) (l0 : List (S68)) : Option ((List (S28))) := impl_slopes.l0 k l0 ([] : List (S28)) 1 false
def impl_slopes.T6 : Bool × List (List Nat × List Nat) := (true, [([], []), ([], []), ([], []), ([2], [2]), ([1, 3], [1, 3]), ([4], [4]), ([], []), ([], []), ([6, 7], [6, 7]), ([8], [8]), ([5, 9], [5, 9]), ([10], [10]), ([0, 11, 10], [0, 11]), ([12, 12, 0, 1, 2, 3, 4, 5, 6, 7, 8, 9, 10, 11, 12], [0, 12])])
def impl_slopes.B6 : List Nat := [0, 0, 0, 4, 14, 30, 0, 0, 192, 448, 1022, 2046, 4095, 8191]
theorem impl_slopes.tab6 : rtab .any (opsOf Try.f50 6) = impl_slopes.T6 := by kernel_rfl
theorem impl_slopes.bits6 : waitsOk impl_slopes.T6.2 impl_slopes.B6 = true := by kernel_rfl
set_option maxHeartbeats 8000000 in
set_option maxRecDepth 100000 in
theorem impl_slopes.calls (k : Nat) (A0 : Option Addr) (c0 : Nat) (l0 : List (S68)) (r : List (S28)) (w : World) (hr0 : Kd.C k68 w A0 l0.length l0) (hc0 : l0.length ≤ c0) (h : impl_slopes.f k l0 = some r) :
  Calls Try.prog 50 #[.slice A0 l0.length c0] w fun e w' => ∃ v0_ : Value, e = .returned (v0_) ∧ Kd.R k28 28 w' w.heap.size (fun _ => True) v0_ r ∧ Below w.heap.size w w' := by
 have hu78 := Try.underlying78
 have hu68 := Try.underlying68
 have HR0 := Aside0.mk hr0
 have HC0 := Aside0.mk hc0
 clear hr0 hc0
 have HB := Aside0.mk (Below.refl w.heap.size w)
 have H : (impl_slopes.l0 k l0 ([] : List (S28)) 1 false) = some r := h
 clear h
 have H' := Aside0.mk H
 clear H
 go_enter Try.func50, Try.ntmps50
 go_wp2_with (first | ((with_reducible refine gate_dst (N := 3) rfl ?_); refine bx 3 #[.bool false] 78 ?_; intro gb377 hg w2 hbox hb; have HI377 := Aside0.mk ((⟨hbox, (by rw [hg]; exact (below_size bl) : w.heap.size ≤ gb377)⟩ : IsS78 w w2 gb377 false)); replace HB := kh hb; clear hb hbox hg))
 go_loopg [4, 5] k (fun kq v4 v5 w' => ∃ (x4_1 : List (S28)) (x5_1 : Int) (x378000_1 : Bool), v5 = .int .i64 x5_1 ∧ Aside0 (impl_slopes.l0 kq l0 x4_1 x5_1 x378000_1 = some r) ∧ Aside0 (kq ≤ k) ∧ Aside0 (Kd.R k28 28 w' w.heap.size (fun _ => True) v4 x4_1) ∧ Aside0 (IsS78 w w' gb377 x378000_1) ∧ Aside0 (Below w.heap.size w w'))
 case atStart => exact ⟨(([] : List (S28))), (1), (false), rs, H', ⟨Nat.le_refl _⟩, ⟨by first | exact Kd.R_nil _ _ _ _ _ | exact Kd.N_nil _ _ _ _ _ | exact Kd.V_nil _ _ _ _ _ | exact Kd.Q_nil _ _ _ _ _ | exact Kd.S_nil _ _ _ _ _⟩, ⟨by repeat (first | (with_reducible first | exact HI377.out | apply IsS78.alloc | apply IsS78.drewN | apply IsS78.drew | apply IsS78.set_0) | exact HI377.out)⟩, ⟨by repeat (first | (with_reducible first | exact HB.out | apply below_alloc | apply pw_below_drewN | apply below_drew1 | refine below_set ?_ (IsS78.ge HI377.out)) | exact HB.out)⟩⟩
 case round =>
  clear H'
  try clear p2
  obtain ⟨x4_1, x5_1, x378000_1, rfl, HA, HK1, HO_4, HI377, HB⟩ := hrel
  cases gk with
  | zero => exact absurd HA.out (by simp [impl_slopes.l0])
  | succ k1 =>
   have H := HA.out
   clear HA
   simp only [impl_slopes.l0] at H
   by_cases c3 : x5_1 < (l0.length : Int)
   ·rw [if_pos c3] at H
    have c3b0 : decide (x5_1 < (l0.length : Int)) = true := decide_eq_true c3
    clear c3
    obtain ⟨ji4, hji4⟩ : ∃ j_ : Int, (wrap64 (x5_1 - 1)) = j_ := ⟨_, rfl⟩
    replace H : (if 0 ≤ (ji4) then (if (ji4) < (l0.length : Int) then (if 0 ≤ x5_1 then ((impl_calc_slope.f k1 x378000_1 ((rd_T68 l0 (ji4)).f0.f0) ((rd_T68 l0 (ji4)).f0.f1) ((rd_T68 l0 (ji4)).f1.f0) ((rd_T68 l0 (ji4)).f1.f1) ((rd_T68 l0 x5_1).f0.f0) ((rd_T68 l0 x5_1).f0.f1) ((rd_T68 l0 x5_1).f1.f0) ((rd_T68 l0 x5_1).f1.f1)).bind fun bt380 => (if x4_1.length < 8796093022208 then (impl_slopes.l0 k1 l0 (x4_1 ++ [(⟨bt380.1, bt380.2.1⟩ : S28)]) (wrap64 (x5_1 + 1)) bt380.2.2) else (none))) else (none)) else (none)) else (none)) = some r := by first | (rw [hji4] at H; exact H) | (simp only [hji4] at H ⊢; exact H)
    have hji4w : (IntKind.i64.wrap (x5_1 - 1)) = ji4 := (i64_w _).trans hji4
    by_cases c5 : 0 ≤ (ji4)
    ·rw [if_pos c5] at H
     have c5b0 : decide (0 ≤ (ji4)) = true := decide_eq_true c5
     clear c5
     by_cases c6 : (ji4) < (l0.length : Int)
     ·rw [if_pos c6] at H
      have c6b0 : decide ((ji4) < (l0.length : Int)) = true := decide_eq_true c6
      clear c6
      by_cases c7 : 0 ≤ x5_1
      ·rw [if_pos c7] at H
       have c7b0 : decide (0 ≤ x5_1) = true := decide_eq_true c7
       clear c7
       replace H := Option.bind_eq_some_iff.mp H
       obtain ⟨⟨t380, t381, t382⟩, A80, H⟩ := H
       replace H : (if x4_1.length < 8796093022208 then (impl_slopes.l0 k1 l0 (x4_1 ++ [(⟨t380, t381⟩ : S28)]) (wrap64 (x5_1 + 1)) t382) else (none)) = some r := H
       have A8 := Aside0.mk A80
       clear A80
       by_cases c9 : x4_1.length < 8796093022208
       ·rw [if_pos c9] at H
        have LMc9 := Aside0.mk c9
        clear c9
        obtain ⟨y383, hy383⟩ : ∃ y_ : List (S28), y_ = (x4_1 ++ [(⟨t380, t381⟩ : S28)]) := ⟨_, rfl⟩
        replace H : (impl_slopes.l0 k1 l0 y383 (wrap64 (x5_1 + 1)) t382) = some r := by first | (rw [hy383]; with_reducible exact H) | (have H2_ := (Option.bind_some _ _).symm.trans H; rw [hy383]; with_reducible exact H2_) | (have H2_ := (Option.bind_some _ _).symm.trans H; with_reducible exact H2_) | with_reducible exact H | (rw [hy383]; exact H) | exact H
        have Ny383 := Aside0.mk hy383
        clear hy383
        have H' := Aside0.mk H
        clear H
        try go_wp2
        replace HO_4 := Aside0.mk (Kd.R_drew HO_4.out)
        replace HI377 := Aside0.mk (IsS78.drew HI377.out)
        replace HB := Aside0.mk (below_drew1 HB.out)
        have p378 : 0 ≤ ((ji4) : Int) := da
        have q378 : (ji4) < (l0.length : Int) := da
        obtain ⟨ad378, e378, hx378_0, hx378_1, hx378_2, hx378_3⟩ := at_T68 HR0.out (ji4) p378 q378
        have hw378_3 := hx378_3
        have hw378_2 := hx378_2
        have hw378_1 := hx378_1
        have hw378_0 := hx378_0
        cases e378
        replace hx378_0 := (hc HB hx378_0 :)
        replace hx378_1 := (hc HB hx378_1 :)
        replace hx378_2 := (hc HB hx378_2 :)
        replace hx378_3 := (hc HB hx378_3 :)
        replace p378 := eq_true p378
        replace q378 := eq_true q378
        have p379 : 0 ≤ (x5_1 : Int) := da
        have q379 : x5_1 < (l0.length : Int) := da
        obtain ⟨ad379, e379, hx379_0, hx379_1, hx379_2, hx379_3⟩ := at_T68 HR0.out x5_1 p379 q379
        have hw379_3 := hx379_3
        have hw379_2 := hx379_2
        have hw379_1 := hx379_1
        have hw379_0 := hx379_0
        obtain rfl : ad378 = ad379 := (by injection e379)
        replace hx379_0 := (hc HB hx379_0 :)
        replace hx379_1 := (hc HB hx379_1 :)
        replace hx379_2 := (hc HB hx379_2 :)
        replace hx379_3 := (hc HB hx379_3 :)
        replace p379 := eq_true p379
        replace q379 := eq_true q379
        refine start_ (n := 14) (S := fun w' => w'.cell? (ad378.add (((ji4)).toNat * 4)) = some (.int .i64 ((rd_T68 l0 (ji4)).f0.f0)) ∧ w'.cell? ⟨(ad378.add (((ji4)).toNat * 4)).block, (ad378.add (((ji4)).toNat * 4)).off + 1, none⟩ = some (.int .i64 ((rd_T68 l0 (ji4)).f0.f1)) ∧ w'.cell? ⟨(ad378.add (((ji4)).toNat * 4)).block, (ad378.add (((ji4)).toNat * 4)).off + 2, none⟩ = some (.int .i64 ((rd_T68 l0 (ji4)).f1.f0)) ∧ w'.cell? ⟨(ad378.add (((ji4)).toNat * 4)).block, (ad378.add (((ji4)).toNat * 4)).off + 3, none⟩ = some (.int .i64 ((rd_T68 l0 (ji4)).f1.f1)) ∧ w'.cell? (ad378.add ((x5_1).toNat * 4)) = some (.int .i64 ((rd_T68 l0 x5_1).f0.f0)) ∧ w'.cell? ⟨(ad378.add ((x5_1).toNat * 4)).block, (ad378.add ((x5_1).toNat * 4)).off + 1, none⟩ = some (.int .i64 ((rd_T68 l0 x5_1).f0.f1)) ∧ w'.cell? ⟨(ad378.add ((x5_1).toNat * 4)).block, (ad378.add ((x5_1).toNat * 4)).off + 2, none⟩ = some (.int .i64 ((rd_T68 l0 x5_1).f1.f0)) ∧ w'.cell? ⟨(ad378.add ((x5_1).toNat * 4)).block, (ad378.add ((x5_1).toNat * 4)).off + 3, none⟩ = some (.int .i64 ((rd_T68 l0 x5_1).f1.f1))) (ds := []) (tb 0 14) (by kernel_rfl) rfl rfl ⟨(hc HB hw378_0 :), (hc HB hw378_1 :), (hc HB hw378_2 :), (hc HB hw378_3 :), (hc HB hw379_0 :), (hc HB hw379_1 :), (hc HB hw379_2 :), (hc HB hw379_3 :)⟩ (fun hHeld => ?_); refine with_tabW impl_slopes.tab6 impl_slopes.bits6 (fun HT_ HW_ => ?_)
        generalize wr.drew = w10 at HO_4 HI377 HB hx378_0 hx378_1 hx378_2 hx378_3 hx379_0 hx379_1 hx379_2 hx379_3 hHeld ⊢
        refine pu 0 12 (tb 1 13) ?_
        refine pu 1 13 (tb 2 12) ?_
        refine pu 2 14 (tb 3 11) ?_
        refine pu 3 15 (tb 4 10) ?_
        refine pu 4 16 (tb 5 9) ?_
        refine pu 6 18 #[true, true, true, true, true, false, true, false, false, false, false, false, false, false] ?_
        refine pu 7 19 #[true, true, true, true, true, false, true, true, false, false, false, false, false, false] ?_
        refine pu 8 20 #[true, true, true, true, true, false, true, true, true, false, false, false, false, false] ?_
        refine tk 5 17 (tb 9 5) (hy := by rintro w' ⟨s0, s1, s2, s3, s4, s5, s6, s7⟩; go_simp; with_reducible rfl) (h := ?_)
        refine tk 9 21 (tb 10 4) (hy := by rintro w' ⟨s0, s1, s2, s3, s4, s5, s6, s7⟩; go_simp; with_reducible rfl) (h := ?_)
        refine on 10 22 (tb 11 3) (fun K hK => ?_)
        refine goes_ Try.func96 (by kernel_rfl) rfl #[.pointer (some ⟨gb377, 0, none⟩), .agg #[.int .i64 ((rd_T68 l0 (ji4)).f0.f0), .int .i64 ((rd_T68 l0 (ji4)).f0.f1), .int .i64 ((rd_T68 l0 (ji4)).f1.f0), .int .i64 ((rd_T68 l0 (ji4)).f1.f1)], .agg #[.int .i64 ((rd_T68 l0 x5_1).f0.f0), .int .i64 ((rd_T68 l0 x5_1).f0.f1), .int .i64 ((rd_T68 l0 x5_1).f1.f0), .int .i64 ((rd_T68 l0 x5_1).f1.f1)]] (by rfl) rfl rfl (by (try simp only [List.map_toArray, List.map_cons, List.map_nil]); first | done | (simp only [hji4]; rfl) | rfl | (simp only [List.length_drop, List.length_take]; rfl)) ?_
        with_reducible refine (impl_calc_slope.calls k1 gb377 x378000_1 ((rd_T68 l0 (ji4)).f0.f0) ((rd_T68 l0 (ji4)).f0.f1) ((rd_T68 l0 (ji4)).f1.f0) ((rd_T68 l0 (ji4)).f1.f1) ((rd_T68 l0 x5_1).f0.f0) ((rd_T68 l0 x5_1).f0.f1) ((rd_T68 l0 x5_1).f1.f0) ((rd_T68 l0 x5_1).f1.f1) t380 t381 t382 w _ ?side1 ?side2 A8.out).mono ?_
        (case side1 => repeat (first | (with_reducible first | exact HI377.out | apply IsS78.alloc | apply IsS78.drewN | apply IsS78.drew | apply IsS78.set_0) | exact HI377.out))
        (case side2 => repeat (first | (with_reducible first | exact HB.out | apply below_alloc | apply pw_below_drewN | apply below_drew1 | refine below_set ?_ (IsS78.ge HI377.out)) | exact HB.out))
        rintro e w11 ⟨rfl, hi, hb, hk⟩
        refine ⟨_, rfl, ?_⟩
        replace HO_4 := Aside0.mk (Kd.R_mono (Kd.R_keep (IsS78.apart (show IsS78 w _ gb377 x378000_1 from by repeat (first | (with_reducible first | exact HI377.out | apply IsS78.alloc | apply IsS78.drewN | apply IsS78.drew | apply IsS78.set_0) | exact HI377.out)) (by (with_reducible repeat (first | apply Kd.R_alloc | apply Kd.R_drewN | apply Kd.R_drew)); exact HO_4.out) (by decide)) hk (fun _ h => h.2)) (fun _ h => h.1))
        replace HB := Aside0.mk (hb)
        replace HI377 := Aside0.mk (hi)
        (try clear hb)
        (try clear hb2)
        (try clear hk)
        (try clear hi)
        refine hK.out _ _ ⟨(hc HB hw378_0 :), (hc HB hw378_1 :), (hc HB hw378_2 :), (hc HB hw378_3 :), (hc HB hw379_0 :), (hc HB hw379_1 :), (hc HB hw379_2 :), (hc HB hw379_3 :)⟩ (fun hHeld => ?_)
        clear hK K
        refine nm 22 ?_
        refine on 11 23 (tb 12 2) (fun K hK => ?_)
        refine value_ (w1 := ?_) (v := ?_) (by rfl) rfl ?_ ?_
        rotate_left 2
        ·go_simp
         constructor
         ·rfl
         ·rfl
        refine hK.out _ _ ⟨(World.cell?_alloc_lt _ _ _ (World.block_lt_of_cell? _ _ ((hc HB hw378_0 :)))).trans ((hc HB hw378_0 :)), (World.cell?_alloc_lt _ _ _ (World.block_lt_of_cell? _ _ ((hc HB hw378_1 :)))).trans ((hc HB hw378_1 :)), (World.cell?_alloc_lt _ _ _ (World.block_lt_of_cell? _ _ ((hc HB hw378_2 :)))).trans ((hc HB hw378_2 :)), (World.cell?_alloc_lt _ _ _ (World.block_lt_of_cell? _ _ ((hc HB hw378_3 :)))).trans ((hc HB hw378_3 :)), (World.cell?_alloc_lt _ _ _ (World.block_lt_of_cell? _ _ ((hc HB hw379_0 :)))).trans ((hc HB hw379_0 :)), (World.cell?_alloc_lt _ _ _ (World.block_lt_of_cell? _ _ ((hc HB hw379_1 :)))).trans ((hc HB hw379_1 :)), (World.cell?_alloc_lt _ _ _ (World.block_lt_of_cell? _ _ ((hc HB hw379_2 :)))).trans ((hc HB hw379_2 :)), (World.cell?_alloc_lt _ _ _ (World.block_lt_of_cell? _ _ ((hc HB hw379_3 :)))).trans ((hc HB hw379_3 :))⟩ (fun hHeld => ?_)
        clear hK K
        refine nm 23 ?_
        refine on 12 24 (tb 13 1) (fun K hK => ?_)
        refine Kd.R_append_step k28 (w0 := w) w.heap.size (by rfl) (.tmp 12) (.tmp 23) 64 28 (.agg #[(.int .i64 0), (.int .i64 0)]) 16 rfl Try.underlying64 info28 rfl (by decide) (by omega) u4 x4_1 (⟨t380, t381⟩ : S28) [.int .i64 t380, .int .i64 t381] (fun _ => True) (fun _ => False) rfl rfl ?aP (fun _ hk => hk.elim) ?aF ?aO ?aB ?aS ?aL ?_
        (case aP => exact k28_mkM _ _ _ (⟨t380, t381⟩ : S28))
        (case aB => exact (by repeat (first | (with_reducible first | exact HB.out | apply below_alloc | apply pw_below_drewN | apply below_drew1 | refine below_set ?_ (IsS78.ge HI377.out)) | exact HB.out)))
        (case aF => exact (fun _ _ => trivial))
        (case aO => exact (by (with_reducible repeat (first | apply Kd.R_alloc | apply Kd.R_drewN | apply Kd.R_drew)); exact HO_4.out))
        (case aS => exact (below_size (by repeat (first | (with_reducible first | exact HB.out | apply below_alloc | apply pw_below_drewN | apply below_drew1 | refine below_set ?_ (IsS78.ge HI377.out)) | exact HB.out))))
        (case aL => have := LMc9.out; omega)
        intro v384 w12 ho hb hg hat
        rw [← Ny383.out] at ho
        have HO385 := Aside0.mk (ho)
        replace HI377 := Aside0.mk (IsS78.grown (show IsS78 w _ gb377 t382 from by repeat (first | (with_reducible first | exact HI377.out | apply IsS78.alloc | apply IsS78.drewN | apply IsS78.drew | apply IsS78.set_0) | exact HI377.out)) hg (IsS78.own_ne HI377.out HO_4.out (by decide)))
        replace HB := Aside0.mk (hb)
        clear HO_4
        clear ho hb hg hat
        refine hK.out _ _ ⟨(hc HB hw378_0 :), (hc HB hw378_1 :), (hc HB hw378_2 :), (hc HB hw378_3 :), (hc HB hw379_0 :), (hc HB hw379_1 :), (hc HB hw379_2 :), (hc HB hw379_3 :)⟩ (fun hHeld => ?_)
        clear hK K
        refine nm 24 ?_
        refine pu 13 4 (tb 14 0) ?_
        refine done_ (done_of HT_.out (by kernel_rfl)) ?_
        try go_wp2
        go_roundg k1
        case measure => have := HK1.out; omega
        case rel => exact ⟨(y383), (wrap64 (x5_1 + 1)), (t382), rs, H', ⟨by have := HK1.out; omega⟩, ⟨by (with_reducible repeat (first | apply Kd.R_alloc | apply Kd.R_drewN | apply Kd.R_drew)); exact HO385.out⟩, ⟨by repeat (first | (with_reducible first | exact HI377.out | apply IsS78.alloc | apply IsS78.drewN | apply IsS78.drew | apply IsS78.set_0) | exact HI377.out)⟩, ⟨by repeat (first | (with_reducible first | exact HB.out | apply below_alloc | apply pw_below_drewN | apply below_drew1 | refine below_set ?_ (IsS78.ge HI377.out)) | exact HB.out)⟩⟩
       ·rw [if_neg c9] at H
        exact absurd H (by simp)
      ·rw [if_neg c7] at H
       exact absurd H (by simp)
     ·rw [if_neg c6] at H
      exact absurd H (by simp)
    ·rw [if_neg c5] at H
     exact absurd H (by simp)
   ·rw [if_neg c3] at H
    have c3b0 : decide (x5_1 < (l0.length : Int)) = false := decide_eq_false c3
    clear c3
    obtain rfl := Option.some.inj H
    go_wp2
    go_ret
    exact ⟨_, rt, by (with_reducible repeat (first | apply Kd.R_alloc | apply Kd.R_drewN | apply Kd.R_drew)); exact HO_4.out, by repeat (first | (with_reducible first | exact HB.out | apply below_alloc | apply pw_below_drewN | apply below_drew1 | refine below_set ?_ (IsS78.ge HI377.out)) | exact HB.out)⟩

-- NOT PRINTED: function 131 (impl_Rat_131)

-- NOT PRINTED: function 109 (impl_Rat_109)

/-! ### impl_isLapMap_1: function 110 -/
def impl_isLapMap_1.f (a0_0 : Int) (a0_1 : Int) : Option (Bool) := some (a0_0 == 0)
set_option maxHeartbeats 8000000 in
set_option maxRecDepth 100000 in
theorem impl_isLapMap_1.calls (a0_0 : Int) (a0_1 : Int) (r : Bool) (w : World) (h : impl_isLapMap_1.f a0_0 a0_1 = some r) :
  Calls Try.prog 110 #[.agg #[.int .i64 a0_0, .int .i64 a0_1]] w fun e w' => e = .returned (.bool r) ∧ Below w.heap.size w w' := by
 have hu28 := Try.underlying28
 have HB := Aside0.mk (Below.refl w.heap.size w)
 have H : (some (a0_0 == 0)) = some r := h
 clear h
 obtain rfl := Option.some.inj H
 go_enter Try.func110, Try.ntmps110
 go_wp2_with (first | ((with_reducible refine gate_dst (N := 1) rfl ?_); refine bx 1 #[.int .i64 a0_0, .int .i64 a0_1] 28 ?_; intro gb386 hg w2 hbox hb; have BK386 := Aside0.mk (hbox); have GW386 := Aside0.mk (bz hg); have GE386 := GW386; replace HB := kh hb; clear hb hbox hg; obtain ⟨hcz3_0, hcz3_1, hfz3_0, hfz3_1⟩ := b2 BK386))
 go_ret
 exact ⟨rt, bl⟩

/-! ### slices_IndexFunc__impl_isLapMap_1: function 131 -/
def slices_IndexFunc__impl_isLapMap_1.l0 : Nat → List (S28) → Int → Int → Option (Int)
 | 0, _, _, _ => none
 | k + 1, x0, x7, x8 => if x8 < x7 then (if 0 ≤ x8 then (if x8 < (x0.length : Int) then ((impl_isLapMap_1.f ((rd_T28 x0 x8).f0) ((rd_T28 x0 x8).f1)).bind fun t388 => (if t388 = true then (some x8) else (slices_IndexFunc__impl_isLapMap_1.l0 k x0 x7 (wrap64 (x8 + 1))))) else (none)) else (none)) else (some (-1))
def slices_IndexFunc__impl_isLapMap_1.f (k : Nat) (l0 : List (S28))  : Option (Int) := slices_IndexFunc__impl_isLapMap_1.l0 k l0 (l0.length : Int) 0
set_option maxHeartbeats 8000000 in
set_option maxRecDepth 100000 in
theorem slices_IndexFunc__impl_isLapMap_1.calls (k : Nat) (A0 : Option Addr) (c0 : Nat) (l0 : List (S28))  (r : Int) (w : World) (hr0 : Kd.C k28 w A0 l0.length l0) (hc0 : l0.length ≤ c0) (h : slices_IndexFunc__impl_isLapMap_1.f k l0 = some r) :
  Calls Try.prog 131 #[.slice A0 l0.length c0, .func (.func 110) #[] #[]] w fun e w' => e = .returned (.int .i64 r) ∧ Below w.heap.size w w' := by
 have hu28 := Try.underlying28
 have HR0 := Aside0.mk hr0
 have HC0 := Aside0.mk hc0
 clear hr0 hc0
 have HB := Aside0.mk (Below.refl w.heap.size w)
 have H : (slices_IndexFunc__impl_isLapMap_1.l0 k l0 (l0.length : Int) 0) = some r := h
 clear h
 have H' := Aside0.mk H
 clear H
 go_enter Try.func131, Try.ntmps131
 go_wp2
 go_loopg [8] k (fun kq v8 w' => ∃ (x8_1 : Int), v8 = .int .i64 x8_1 ∧ Aside0 (slices_IndexFunc__impl_isLapMap_1.l0 kq l0 (l0.length : Int) x8_1 = some r) ∧ Aside0 (kq ≤ k) ∧ Aside0 (Below w.heap.size w w'))
 case atStart => exact ⟨(0), rs, H', ⟨Nat.le_refl _⟩, ⟨bl⟩⟩
 case round =>
  clear H'
  try clear p2
  obtain ⟨x8_1, rfl, HA, HK1, HB⟩ := hrel
  cases gk with
  | zero => exact absurd HA.out (by simp [slices_IndexFunc__impl_isLapMap_1.l0])
  | succ k1 =>
   have H := HA.out
   clear HA
   simp only [slices_IndexFunc__impl_isLapMap_1.l0] at H
   by_cases c3 : x8_1 < (l0.length : Int)
   ·rw [if_pos c3] at H
    have c3b0 : decide (x8_1 < (l0.length : Int)) = true := decide_eq_true c3
    clear c3
    by_cases c4 : 0 ≤ x8_1
    ·rw [if_pos c4] at H
     have c4b0 : decide (0 ≤ x8_1) = true := decide_eq_true c4
     clear c4
     by_cases c5 : x8_1 < (l0.length : Int)
     ·rw [if_pos c5] at H
      have c5b0 : decide (x8_1 < (l0.length : Int)) = true := decide_eq_true c5
      clear c5
      replace H := Option.bind_eq_some_iff.mp H
      obtain ⟨t388, A60, H⟩ := H
      replace H : (if t388 = true then (some x8_1) else (slices_IndexFunc__impl_isLapMap_1.l0 k1 l0 (l0.length : Int) (wrap64 (x8_1 + 1)))) = some r := H
      have A6 := Aside0.mk A60
      clear A60
      by_cases c7 : t388 = true
      ·subst c7
       have H1 : (some x8_1) = some r := by rw [if_pos rfl] at H; exact H
       clear H
       have H := H1
       clear H1
       obtain rfl := Option.some.inj H
       have p387 : 0 ≤ (x8_1 : Int) := da
       have q387 : x8_1 < (l0.length : Int) := da
       obtain ⟨ad387, e387, hx387_0, hx387_1⟩ := at_T28 HR0.out x8_1 p387 q387
       cases e387
       replace hx387_0 := (hc HB hx387_0 :)
       replace hx387_1 := (hc HB hx387_1 :)
       replace p387 := eq_true p387
       replace q387 := eq_true q387
       go_wp2_with (first | ((with_reducible refine gate_value (t := 11) rfl ?_); refine goesV_ (t := 11) (f := 110) rfl (some 16) rfl rfl Try.func110 (by kernel_rfl) rfl #[.agg #[.int .i64 ((rd_T28 l0 x8_1).f0), .int .i64 ((rd_T28 l0 x8_1).f1)]] rfl (by (try simp only [List.map_toArray, List.map_cons, List.map_nil]); first | done | rfl | (simp only [List.length_drop, List.length_take]; rfl)) ?_; (with_reducible refine (impl_isLapMap_1.calls ((rd_T28 l0 x8_1).f0) ((rd_T28 l0 x8_1).f1) true _ A6.out).mono ?_); rintro e w8 ⟨rfl, hb⟩; refine ⟨_, rfl, ?_⟩; replace HB := kh hb; (try clear hb); (try clear hb2); (try clear hk); (try clear hi)))
       go_ret
       exact ⟨rt, bl⟩
      ·replace c7 := Bool.eq_false_iff.mpr c7
       subst c7
       have H1 : (slices_IndexFunc__impl_isLapMap_1.l0 k1 l0 (l0.length : Int) (wrap64 (x8_1 + 1))) = some r := by rw [if_neg (show ¬ (false = true) by decide)] at H; exact H
       clear H
       have H := H1
       clear H1
       have H' := Aside0.mk H
       clear H
       have p387 : 0 ≤ (x8_1 : Int) := da
       have q387 : x8_1 < (l0.length : Int) := da
       obtain ⟨ad387, e387, hx387_0, hx387_1⟩ := at_T28 HR0.out x8_1 p387 q387
       cases e387
       replace hx387_0 := (hc HB hx387_0 :)
       replace hx387_1 := (hc HB hx387_1 :)
       replace p387 := eq_true p387
       replace q387 := eq_true q387
       go_wp2_with (first | ((with_reducible refine gate_value (t := 11) rfl ?_); refine goesV_ (t := 11) (f := 110) rfl (some 16) rfl rfl Try.func110 (by kernel_rfl) rfl #[.agg #[.int .i64 ((rd_T28 l0 x8_1).f0), .int .i64 ((rd_T28 l0 x8_1).f1)]] rfl (by (try simp only [List.map_toArray, List.map_cons, List.map_nil]); first | done | rfl | (simp only [List.length_drop, List.length_take]; rfl)) ?_; (with_reducible refine (impl_isLapMap_1.calls ((rd_T28 l0 x8_1).f0) ((rd_T28 l0 x8_1).f1) false _ A6.out).mono ?_); rintro e w9 ⟨rfl, hb⟩; refine ⟨_, rfl, ?_⟩; replace HB := kh hb; (try clear hb); (try clear hb2); (try clear hk); (try clear hi)))
       go_roundg k1
       case measure => have := HK1.out; omega
       case rel => exact ⟨(wrap64 (x8_1 + 1)), rs, H', ⟨by have := HK1.out; omega⟩, ⟨bl⟩⟩
     ·rw [if_neg c5] at H
      exact absurd H (by simp)
    ·rw [if_neg c4] at H
     exact absurd H (by simp)
   ·rw [if_neg c3] at H
    have c3b0 : decide (x8_1 < (l0.length : Int)) = false := decide_eq_false c3
    clear c3
    obtain rfl := Option.some.inj H
    go_wp2
    go_ret
    exact ⟨rt, bl⟩

/-! ### slices_ContainsFunc__impl_isLapMap_1: function 109 -/
def slices_ContainsFunc__impl_isLapMap_1.f (k : Nat) (l0 : List (S28))  : Option (Bool) := (slices_IndexFunc__impl_isLapMap_1.f k l0).bind fun t389 => (some (decide (t389 ≥ 0)))
set_option maxHeartbeats 8000000 in
set_option maxRecDepth 100000 in
theorem slices_ContainsFunc__impl_isLapMap_1.calls (k : Nat) (A0 : Option Addr) (c0 : Nat) (l0 : List (S28))  (r : Bool) (w : World) (hr0 : Kd.C k28 w A0 l0.length l0) (hc0 : l0.length ≤ c0) (h : slices_ContainsFunc__impl_isLapMap_1.f k l0 = some r) :
  Calls Try.prog 109 #[.slice A0 l0.length c0, .func (.func 110) #[] #[]] w fun e w' => e = .returned (.bool r) ∧ Below w.heap.size w w' := by
 have HR0 := Aside0.mk hr0
 have HC0 := Aside0.mk hc0
 clear hr0 hc0
 have HB := Aside0.mk (Below.refl w.heap.size w)
 have H : ((slices_IndexFunc__impl_isLapMap_1.f k l0).bind fun t389 => (some (decide (t389 ≥ 0)))) = some r := h
 clear h
 replace H := Option.bind_eq_some_iff.mp H
 obtain ⟨t389, A30, H⟩ := H
 replace H : (some (decide (t389 ≥ 0))) = some r := H
 have A3 := Aside0.mk A30
 clear A30
 obtain rfl := Option.some.inj H
 go_enter Try.func109, Try.ntmps109
 go_wp2_with (first | ((with_reducible refine gate_callee (f := 131) rfl ?_); refine gl 7 Try.func131 #[.slice A0 l0.length c0, .func (.func 110) #[] #[]] ?_; (with_reducible refine (slices_IndexFunc__impl_isLapMap_1.calls k _ _ l0  t389 _ ?side1 ?side2 A3.out).mono ?_); (case side1 => repeat (first | exact HR0.out | (with_reducible refine Kd.C_alloc ?_ _) | (with_reducible refine Kd.C_drewN ?_ _) | (with_reducible refine Kd.C_drew ?_))); (case side2 => exact HC0.out); rintro e w4 ⟨rfl, hb⟩; refine ⟨_, rfl, ?_⟩; replace HB := kh hb; (try clear hb); (try clear hb2); (try clear hk); (try clear hi)))
 go_ret
 exact ⟨rt, bl⟩

/-! ### impl_isLapMap: function 62 -/
def impl_isLapMap.f (k : Nat) (l0 : List (S68)) : Option (Bool) := (impl_isMap.f k l0).bind fun t390 => (if t390 = true then ((impl_slopes.f k l0).bind fun t391 => ((slices_ContainsFunc__impl_isLapMap_1.f k t391).bind fun t394 => (some (!t394)))) else (some false))
set_option maxHeartbeats 8000000 in
set_option maxRecDepth 100000 in
theorem impl_isLapMap.calls (k : Nat) (A0 : Option Addr) (c0 : Nat) (l0 : List (S68)) (r : Bool) (w : World) (hr0 : Kd.C k68 w A0 l0.length l0) (hc0 : l0.length ≤ c0) (h : impl_isLapMap.f k l0 = some r) :
  Calls Try.prog 62 #[.slice A0 l0.length c0] w fun e w' => e = .returned (.bool r) ∧ Below w.heap.size w w' := by
 have HR0 := Aside0.mk hr0
 have HC0 := Aside0.mk hc0
 clear hr0 hc0
 have HB := Aside0.mk (Below.refl w.heap.size w)
 have H : ((impl_isMap.f k l0).bind fun t390 => (if t390 = true then ((impl_slopes.f k l0).bind fun t391 => ((slices_ContainsFunc__impl_isLapMap_1.f k t391).bind fun t394 => (some (!t394)))) else (some false))) = some r := h
 clear h
 replace H := Option.bind_eq_some_iff.mp H
 obtain ⟨t390, A20, H⟩ := H
 replace H : (if t390 = true then ((impl_slopes.f k l0).bind fun t391 => ((slices_ContainsFunc__impl_isLapMap_1.f k t391).bind fun t394 => (some (!t394)))) else (some false)) = some r := H
 have A2 := Aside0.mk A20
 clear A20
 by_cases c3 : t390 = true
 ·subst c3
  have H1 : ((impl_slopes.f k l0).bind fun t391 => ((slices_ContainsFunc__impl_isLapMap_1.f k t391).bind fun t394 => (some (!t394)))) = some r := by rw [if_pos rfl] at H; exact H
  clear H
  have H := H1
  clear H1
  replace H := Option.bind_eq_some_iff.mp H
  obtain ⟨t391, A40, H⟩ := H
  replace H : ((slices_ContainsFunc__impl_isLapMap_1.f k t391).bind fun t394 => (some (!t394))) = some r := H
  have A4 := Aside0.mk A40
  clear A40
  replace H := Option.bind_eq_some_iff.mp H
  obtain ⟨t394, A50, H⟩ := H
  replace H : (some (!t394)) = some r := H
  have A5 := Aside0.mk A50
  clear A50
  obtain rfl := Option.some.inj H
  go_enter Try.func62, Try.ntmps62
  go_wp2_with (first | ((with_reducible refine gate_callee (f := 48) rfl ?_); refine gl 4 Try.func48 #[.slice A0 l0.length c0] ?_; (with_reducible refine (impl_isMap.calls k _ _ l0 true _ ?side1 ?side2 A2.out).mono ?_); (case side1 => repeat (first | exact HR0.out | (with_reducible refine Kd.C_alloc ?_ _) | (with_reducible refine Kd.C_drewN ?_ _) | (with_reducible refine Kd.C_drew ?_))); (case side2 => exact HC0.out); rintro e w6 ⟨rfl, hb⟩; refine ⟨_, rfl, ?_⟩; replace HB := kh hb; (try clear hb); (try clear hb2); (try clear hk); (try clear hi)) | (go_at_call 50; (with_reducible refine (impl_slopes.calls k _ _ l0 t391 _ ?side1 ?side2 A4.out).mono ?_); (case side1 => repeat (first | exact (Kd.C_below HR0.out HB.out) | (with_reducible refine Kd.C_alloc ?_ _) | (with_reducible refine Kd.C_drewN ?_ _) | (with_reducible refine Kd.C_drew ?_))); (case side2 => exact HC0.out); rintro e w7 ⟨v392, rfl, ho0, hb⟩; have HO393 := Aside0.mk (Kd.R_lower ho0 (below_size bl)); replace HB := kh hb; (try clear hb); (try clear hb2); (try clear hk); (try clear hi); (try clear ho0); obtain ⟨Ao8, co8, eo8⟩ := Kd.R_slice HO393.out; subst eo8) | (go_at_call 109; (with_reducible refine (slices_ContainsFunc__impl_isLapMap_1.calls k _ _ t391  t394 _ ?side1 ?side2 A5.out).mono ?_); (case side1 => repeat (first | exact (Kd.R_reads' HO393.out).2.2 | (with_reducible refine Kd.C_alloc ?_ _) | (with_reducible refine Kd.C_drewN ?_ _) | (with_reducible refine Kd.C_drew ?_))); (case side2 => exact (Kd.R_reads' HO393.out).2.1); rintro e w9 ⟨rfl, hb⟩; replace HO393 := Aside0.mk (Kd.R_below (by (with_reducible repeat (first | apply Kd.R_alloc | apply Kd.R_drewN | apply Kd.R_drew)); exact HO393.out) hb); replace HB := kh hb; (try clear hb); (try clear hb2); (try clear hk); (try clear hi)))
  go_ret
  exact ⟨rt, bl⟩
 ·replace c3 := Bool.eq_false_iff.mpr c3
  subst c3
  have H1 : (some false) = some r := by rw [if_neg (show ¬ (false = true) by decide)] at H; exact H
  clear H
  have H := H1
  clear H1
  obtain rfl := Option.some.inj H
  go_enter Try.func62, Try.ntmps62
  go_wp2_with (first | ((with_reducible refine gate_callee (f := 48) rfl ?_); refine gl 4 Try.func48 #[.slice A0 l0.length c0] ?_; (with_reducible refine (impl_isMap.calls k _ _ l0 false _ ?side1 ?side2 A2.out).mono ?_); (case side1 => repeat (first | exact HR0.out | (with_reducible refine Kd.C_alloc ?_ _) | (with_reducible refine Kd.C_drewN ?_ _) | (with_reducible refine Kd.C_drew ?_))); (case side2 => exact HC0.out); rintro e w10 ⟨rfl, hb⟩; refine ⟨_, rfl, ?_⟩; replace HB := kh hb; (try clear hb); (try clear hb2); (try clear hk); (try clear hi)))
  go_ret
  exact ⟨rt, bl⟩

-- NOT PRINTED: function 126 (slices_IndexFunc_int_int)

-- NOT PRINTED: function 103 (slices_ContainsFunc_int_int)

/-! ### impl_sign: function 132 -/
def impl_sign.f (a0_0 : Int) (a0_1 : Int) : Option (Int) := (impl_zero.f).bind fun bt396 => ((impl_compare.f a0_0 a0_1 bt396.1 bt396.2).bind fun t398 => (some t398))
set_option maxHeartbeats 8000000 in
set_option maxRecDepth 100000 in
theorem impl_sign.calls (a0_0 : Int) (a0_1 : Int) (r : Int) (w : World) (h : impl_sign.f a0_0 a0_1 = some r) :
  Calls Try.prog 132 #[.agg #[.int .i64 a0_0, .int .i64 a0_1]] w fun e w' => e = .returned (.int .i64 r) ∧ Below w.heap.size w w' := by
 have hu28 := Try.underlying28
 have HB := Aside0.mk (Below.refl w.heap.size w)
 have H : ((impl_zero.f).bind fun bt396 => ((impl_compare.f a0_0 a0_1 bt396.1 bt396.2).bind fun t398 => (some t398))) = some r := h
 clear h
 replace H := Option.bind_eq_some_iff.mp H
 obtain ⟨⟨t396, t397⟩, A20, H⟩ := H
 replace H : ((impl_compare.f a0_0 a0_1 t396 t397).bind fun t398 => (some t398)) = some r := H
 have A2 := Aside0.mk A20
 clear A20
 replace H := Option.bind_eq_some_iff.mp H
 obtain ⟨t398, A30, H⟩ := H
 replace H : (some t398) = some r := H
 have A3 := Aside0.mk A30
 clear A30
 obtain rfl := Option.some.inj H
 go_enter Try.func132, Try.ntmps132
 try go_wp2_with (first | ((with_reducible refine gate_dst (N := 1) rfl ?_); refine bx 1 #[.int .i64 a0_0, .int .i64 a0_1] 28 ?_; intro gb395 hg w4 hbox hb; have BK395 := Aside0.mk (hbox); have GW395 := Aside0.mk (bz hg); have GE395 := GW395; replace HB := kh hb; clear hb hbox hg))
 replace BK395 := Aside0.mk (blk_drew BK395.out)
 replace HB := Aside0.mk (below_drew1 HB.out)
 refine start_ (n := 4) (S := fun w' => w'.cell? ⟨gb395, 0, none⟩ = some (.int .i64 a0_0) ∧ w'.cell? ⟨gb395, 1, none⟩ = some (.int .i64 a0_1)) (ds := []) (tb 0 4) (by kernel_rfl) rfl rfl ⟨(blk_cell BK395.out 0).trans rfl, (blk_cell BK395.out 1).trans rfl⟩ (fun hHeld => ?_)
 generalize w4.drew = w5 at BK395 HB hHeld ⊢
 refine take_ (i := 0) (N := some 3) (v := ?_) (a' := ?_) (tb 1 3) rfl rfl (by kernel_rfl) (fun _ _ _ h => h) (Or.inl ⟨by rfl, ?_⟩) hHeld ?_ ?_
 rotate_left
 ·rintro w' ⟨s0, s1⟩
  go_simp
  with_reducible rfl
 rotate_left
 ·simp only [Act.put, List.setIfInBounds_toArray, List.set_cons_zero, List.set_cons_succ, i64_w, i32_w]
  rfl
 refine one_ (i := 1) (N := some 4) (tb 2 2) rfl rfl (by kernel_rfl) (by decide) (fun K hK => ?_)
 refine gs Try.func90 #[] ?_
 with_reducible refine (impl_zero.calls  t396 t397 _ A2.out).mono ?_
 rintro e w6 ⟨rfl, hb⟩
 refine ⟨_, rfl, ?_⟩
 replace BK395 := kb BK395 hb
 replace HB := kh hb
 (try clear hb)
 (try clear hb2)
 (try clear hk)
 (try clear hi)
 refine hK.out _ _ ⟨(blk_cell BK395.out 0).trans rfl, (blk_cell BK395.out 1).trans rfl⟩ (fun hHeld => ?_)
 clear hK K
 refine nm 4 ?_
 refine one_ (i := 2) (N := some 5) (tb 3 1) rfl rfl (by kernel_rfl) (by decide) (fun K hK => ?_)
 refine gs Try.func54 #[.agg #[.int .i64 a0_0, .int .i64 a0_1], .agg #[.int .i64 t396, .int .i64 t397]] ?_
 with_reducible refine (impl_compare.calls a0_0 a0_1 t396 t397 t398 _ A3.out).mono ?_
 rintro e w7 ⟨rfl, hb⟩
 refine ⟨_, rfl, ?_⟩
 replace BK395 := kb BK395 hb
 replace HB := kh hb
 (try clear hb)
 (try clear hb2)
 (try clear hk)
 (try clear hi)
 refine hK.out _ _ ⟨(blk_cell BK395.out 0).trans rfl, (blk_cell BK395.out 1).trans rfl⟩ (fun hHeld => ?_)
 clear hK K
 refine nm 5 ?_
 refine pure_ (i := 3) (N := some 2) (v := ?_) (a' := ?_) (tb 4 0) rfl rfl (by kernel_rfl) (fun _ _ _ h => h) (Or.inl ⟨by rfl, ?_⟩) ?_ ?_
 rotate_left
 ·intro w'
  go_simp
  with_reducible rfl
 rotate_left
 ·simp only [Act.put, List.setIfInBounds_toArray, List.set_cons_zero, List.set_cons_succ, i64_w, i32_w]
  rfl
 refine done_ (by kernel_rfl) ?_
 try go_wp2
 go_ret
 exact ⟨rt, bl⟩

end Go.Proofs.Ytmecnnnagallnaa.PFnExactCompareWords
