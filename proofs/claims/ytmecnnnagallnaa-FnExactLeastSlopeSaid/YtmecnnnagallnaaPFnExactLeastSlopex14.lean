-- Written by this session's program wip/pp (the kit's print tool with additions) 35421559b90ae4d0a3588c463048766b98c2df88dd9212a6774a882060cdf62d
import Derived.Test.YtmecnnnagallnaaPFnExactLeastSlopex0
import Derived.Test.YtmecnnnagallnaaPFnExactLeastSlopex7
namespace Go.Proofs.Ytmecnnnagallnaa.PFnExactLeastSlope
open Go.RowKit Go.Proofs.YtmecnnnagallnaaW.PrintWords Go.Proofs.YtmecnnnagallnaaW.PrintLast Go.Proofs.YtmecnnnagallnaaW.PrintMore
attribute [local go_sem] max2_int min2_int max_two min_two max_three min_three max_four min_four   -- for this text's walks alone
set_option linter.unusedVariables false
set_option linter.unusedSimpArgs false

-- NOT PRINTED: function 53 (impl_Rat_53)

/-! ### slices_MinFunc__impl_compare: function 53 -/
def slices_MinFunc__impl_compare.l0 : Nat → List (S28) → Int → Int → Int → Option (Int × Int)
 | 0, _, _, _, _ => none
 | k + 1, x0, x6, x376000, x376001 => if x6 < (x0.length : Int) then (if 0 ≤ x6 then ((impl_compare.f ((rd_T28 x0 x6).f0) ((rd_T28 x0 x6).f1) x376000 x376001).bind fun t377 => (if t377 < 0 then (slices_MinFunc__impl_compare.l0 k x0 (wrap64 (x6 + 1)) ((rd_T28 x0 x6).f0) ((rd_T28 x0 x6).f1)) else (slices_MinFunc__impl_compare.l0 k x0 (wrap64 (x6 + 1)) x376000 x376001))) else (none)) else (some (x376000, x376001))
def slices_MinFunc__impl_compare.f (k : Nat) (l0 : List (S28))  : Option (Int × Int) := if (l0.length : Int) < 1 then (none) else (if 0 < (l0.length : Int) then (slices_MinFunc__impl_compare.l0 k l0 1 ((rd_T28 l0 0).f0) ((rd_T28 l0 0).f1)) else (none))
def slices_MinFunc__impl_compare.T7 : Bool × List (List Nat × List Nat) := (true, [([], []), ([], []), ([], []), ([1, 2], [1, 2]), ([3], [3]), ([], []), ([0, 4, 5], [0, 4, 5]), ([6], [6])])
def slices_MinFunc__impl_compare.B7 : List Nat := [0, 0, 0, 6, 14, 0, 63, 127]
theorem slices_MinFunc__impl_compare.tab7 : rtab .any (opsOf Try.f53 7) = slices_MinFunc__impl_compare.T7 := by kernel_rfl
theorem slices_MinFunc__impl_compare.bits7 : waitsOk slices_MinFunc__impl_compare.T7.2 slices_MinFunc__impl_compare.B7 = true := by kernel_rfl
set_option maxHeartbeats 8000000 in
set_option maxRecDepth 100000 in
theorem slices_MinFunc__impl_compare.calls (k : Nat) (A0 : Option Addr) (c0 : Nat) (l0 : List (S28))  (r1 : Int) (r2 : Int) (w : World) (hr0 : Kd.C k28 w A0 l0.length l0) (hc0 : l0.length ≤ c0) (h : slices_MinFunc__impl_compare.f k l0 = some (r1, r2)) :
  Calls Try.prog 53 #[.slice A0 l0.length c0, .func (.func 54) #[] #[]] w fun e w' => e = .returned (.agg #[.int .i64 r1, .int .i64 r2]) ∧ Below w.heap.size w w' := by
 have hu28 := Try.underlying28
 have HR0 := Aside0.mk hr0
 have HC0 := Aside0.mk hc0
 clear hr0 hc0
 have HB := Aside0.mk (Below.refl w.heap.size w)
 have H : (if (l0.length : Int) < 1 then (none) else (if 0 < (l0.length : Int) then (slices_MinFunc__impl_compare.l0 k l0 1 ((rd_T28 l0 0).f0) ((rd_T28 l0 0).f1)) else (none))) = some (r1, r2) := h
 clear h
 by_cases c3 : (l0.length : Int) < 1
 ·rw [if_pos c3] at H
  exact absurd H (by simp)
 ·rw [if_neg c3] at H
  have c3b0 : decide ((l0.length : Int) < 1) = false := decide_eq_false c3
  have c3b1 : decide (l0.length < 1) = false := decide_eq_false (by omega)
  clear c3
  by_cases c4 : 0 < (l0.length : Int)
  ·rw [if_pos c4] at H
   have c4b0 : decide (0 < (l0.length : Int)) = true := decide_eq_true c4
   have c4b1 : decide (0 < l0.length) = true := decide_eq_true (by omega)
   clear c4
   have H' := Aside0.mk H
   clear H
   go_enter Try.func53, Try.ntmps53
   go_wp2_with (first | ((with_reducible refine gate_dst (N := 4) rfl ?_); refine bx 4 #[.int .i64 0, .int .i64 0] 28 ?_; intro gb373 hg w5 hbox hb; have BK373 := Aside0.mk (hbox); have GW373 := Aside0.mk (bz hg); have GE373 := GW373; replace HB := Aside0.mk (bs hb); clear hb hbox hg; have p374 : 0 ≤ (0 : Int) := (by omega); have q374 : 0 < (l0.length : Int) := da; obtain ⟨ad374, e374, hx374_0, hx374_1⟩ := at_T28 HR0.out 0 p374 q374; cases e374; have qi374 : (0 < l0.length) = True := eq_true (by omega); (try rw [show ((0 : Int)).toNat = 0 from rfl] at hx374_0); (try rw [show 0 * 2 = 0 from rfl] at hx374_0); (try rw [Addr.add_zero'] at hx374_0); (try rw [show ((0 : Int)).toNat = 0 from rfl] at hx374_1); (try rw [show 0 * 2 = 0 from rfl] at hx374_1); (try rw [Addr.add_zero'] at hx374_1); replace hx374_0 := (hc HB hx374_0 :); replace hx374_1 := (hc HB hx374_1 :); replace p374 := eq_true p374; replace q374 := eq_true q374) | ((with_reducible refine gate_dst (N := 5) rfl ?_); refine bx 5 #[.int .i64 0, .int .i64 0] 28 ?_; intro gb375 hg w6 hbox hb; have BK375 := Aside0.mk (hbox); have GW375 := Aside0.mk (bz hg); have GE375 := GW375; have NB373_375 := Aside0.mk (bn gb373 hg); have NB375_373 := Aside0.mk NB373_375.out.symm; replace BK373 := Aside0.mk (bb gb373 hb); replace HB := Aside0.mk (bs hb); clear hb hbox hg; have hnb7 := NB375_373.out; have hnc7 := NB373_375.out; have hcz8_0 : w6.cell? ⟨gb375, 0, none⟩ = some (.int .i64 0) := (blk_cell BK375.out 0).trans rfl; have hcz8_1 : w6.cell? ⟨gb375, 1, none⟩ = some (.int .i64 0) := (blk_cell BK375.out 1).trans rfl; have hfz8_0 := blk_frozen BK375.out 0; have hfz8_1 := blk_frozen BK375.out 1))
   go_loopg [6] k (fun kq v6 w' => ∃ (x6_1 : Int) (x376000_1 : Int) (x376001_1 : Int), v6 = .int .i64 x6_1 ∧ Aside0 (slices_MinFunc__impl_compare.l0 kq l0 x6_1 x376000_1 x376001_1 = some (r1, r2)) ∧ Aside0 (kq ≤ k) ∧ Aside0 (w'.heap[gb373]? = some (.cells #[.int .i64 0, .int .i64 0] 28 (0, 0))) ∧ Aside0 (w'.heap[gb375]? = some (.cells #[.int .i64 x376000_1, .int .i64 x376001_1] 28 (0, 0))) ∧ Aside0 (Below w.heap.size w w'))
   case atStart => exact ⟨(1), ((rd_T28 l0 0).f0), ((rd_T28 l0 0).f1), (by first | rfl | (simp; done) | (simp [*]; done)), H', ⟨Nat.le_refl _⟩, ⟨by (with_reducible repeat (first | refine blk_drewN ?_ _ | refine blk_drew ?_ | refine blk_alloc ?_ _)); refine blk_far ?_ NB373_375.out _; (with_reducible repeat (first | refine blk_drewN ?_ _ | refine blk_drew ?_ | refine blk_alloc ?_ _)); refine blk_far ?_ NB373_375.out _; (with_reducible repeat (first | refine blk_drewN ?_ _ | refine blk_drew ?_ | refine blk_alloc ?_ _)); exact BK373.out⟩, ⟨by (with_reducible repeat (first | refine blk_drewN ?_ _ | refine blk_drew ?_ | refine blk_alloc ?_ _)); refine blk_put (cs := #[.int .i64 ((rd_T28 l0 0).f0), .int .i64 0]) ?_ 1 _ rfl; (with_reducible repeat (first | refine blk_drewN ?_ _ | refine blk_drew ?_ | refine blk_alloc ?_ _)); refine blk_put (cs := #[.int .i64 0, .int .i64 0]) ?_ 0 _ rfl; (with_reducible repeat (first | refine blk_drewN ?_ _ | refine blk_drew ?_ | refine blk_alloc ?_ _)); exact BK375.out⟩, ⟨bl⟩⟩
   case round =>
    clear H'
    try clear p2
    try clear c3
    try clear c3b0
    try clear c3b1
    try clear p3
    try clear q3
    try clear hx3
    try clear qi3
    try clear c4
    try clear c4b0
    try clear c4b1
    try clear c7
    try clear hcz8_0
    try clear hcz8_1
    try clear hfz8_0
    try clear hfz8_1
    try clear hx374_0
    try clear hx374_1
    try clear p374
    try clear q374
    obtain ⟨x6_1, x376000_1, x376001_1, rfl, HA, HK1, BK373, BK375, HB⟩ := hrel
    cases gk with
    | zero => exact absurd HA.out (by simp [slices_MinFunc__impl_compare.l0])
    | succ k1 =>
     have H := HA.out
     clear HA
     simp only [slices_MinFunc__impl_compare.l0] at H
     by_cases c9 : x6_1 < (l0.length : Int)
     ·rw [if_pos c9] at H
      have c9b0 : decide (x6_1 < (l0.length : Int)) = true := decide_eq_true c9
      clear c9
      by_cases c10 : 0 ≤ x6_1
      ·rw [if_pos c10] at H
       have c10b0 : decide (0 ≤ x6_1) = true := decide_eq_true c10
       clear c10
       replace H := Option.bind_eq_some_iff.mp H
       obtain ⟨t377, A110, H⟩ := H
       replace H : (if t377 < 0 then (slices_MinFunc__impl_compare.l0 k1 l0 (wrap64 (x6_1 + 1)) ((rd_T28 l0 x6_1).f0) ((rd_T28 l0 x6_1).f1)) else (slices_MinFunc__impl_compare.l0 k1 l0 (wrap64 (x6_1 + 1)) x376000_1 x376001_1)) = some (r1, r2) := H
       have A11 := Aside0.mk A110
       clear A110
       by_cases c12 : t377 < 0
       ·rw [if_pos c12] at H
        have c12b0 : decide (t377 < 0) = true := decide_eq_true c12
        clear c12
        have H' := Aside0.mk H
        clear H
        try go_wp2
        replace BK373 := Aside0.mk (blk_drew BK373.out)
        replace BK375 := Aside0.mk (blk_drew BK375.out)
        replace HB := Aside0.mk (below_drew1 HB.out)
        have p376 : 0 ≤ (x6_1 : Int) := da
        have q376 : x6_1 < (l0.length : Int) := da
        obtain ⟨ad376, e376, hx376_0, hx376_1⟩ := at_T28 HR0.out x6_1 p376 q376
        have hw376_1 := hx376_1
        have hw376_0 := hx376_0
        obtain rfl : ad374 = ad376 := (by injection e376)
        replace hx376_0 := (hc HB hx376_0 :)
        replace hx376_1 := (hc HB hx376_1 :)
        replace p376 := eq_true p376
        replace q376 := eq_true q376
        refine start_ (n := 8) (S := fun w' => w'.cell? ⟨gb375, 0, none⟩ = some (.int .i64 x376000_1) ∧ w'.cell? ⟨gb375, 1, none⟩ = some (.int .i64 x376001_1) ∧ w'.cell? (ad374.add ((x6_1).toNat * 2)) = some (.int .i64 ((rd_T28 l0 x6_1).f0)) ∧ w'.cell? ⟨(ad374.add ((x6_1).toNat * 2)).block, (ad374.add ((x6_1).toNat * 2)).off + 1, none⟩ = some (.int .i64 ((rd_T28 l0 x6_1).f1))) (ds := []) (tb 0 8) (by kernel_rfl) rfl rfl ⟨(blk_cell BK375.out 0).trans rfl, (blk_cell BK375.out 1).trans rfl, (hc HB hw376_0 :), (hc HB hw376_1 :)⟩ (fun hHeld => ?_); refine with_tabW slices_MinFunc__impl_compare.tab7 slices_MinFunc__impl_compare.bits7 (fun HT_ HW_ => ?_)
        generalize wr.drew = w13 at BK373 BK375 HB hx376_0 hx376_1 hHeld ⊢
        refine pu 0 20 (tb 1 7) ?_
        refine pu 1 21 (tb 2 6) ?_
        refine pu 2 22 (tb 3 5) ?_
        refine pu 3 23 (tb 4 4) ?_
        refine tk 4 24 (tb 5 3) (hy := by rintro w' ⟨s0, s1, s2, s3⟩; go_simp; with_reducible rfl) (h := ?_)
        refine tk 5 25 (tb 6 2) (hy := by rintro w' ⟨s0, s1, s2, s3⟩; go_simp; with_reducible rfl) (h := ?_)
        refine on 6 26 (tb 7 1) (fun K hK => ?_)
        refine goesVs_ (t := 20) (f := 54) rfl Try.func54 (by kernel_rfl) rfl #[.agg #[.int .i64 ((rd_T28 l0 x6_1).f0), .int .i64 ((rd_T28 l0 x6_1).f1)], .agg #[.int .i64 x376000_1, .int .i64 x376001_1]] (by rfl) rfl rfl (by (try simp only [List.map_toArray, List.map_cons, List.map_nil]); first | done | rfl | (simp only [List.length_drop, List.length_take]; rfl)) ?_
        with_reducible refine (impl_compare.calls ((rd_T28 l0 x6_1).f0) ((rd_T28 l0 x6_1).f1) x376000_1 x376001_1 t377 _ A11.out).mono ?_
        rintro e w14 ⟨rfl, hb⟩
        refine ⟨_, rfl, ?_⟩
        replace BK373 := Aside0.mk (bb gb373 hb)
        replace BK375 := Aside0.mk (bb gb375 hb)
        replace HB := Aside0.mk (bs hb)
        (try clear hb)
        (try clear hb2)
        (try clear hk)
        (try clear hi)
        refine hK.out _ _ ⟨(blk_cell BK375.out 0).trans rfl, (blk_cell BK375.out 1).trans rfl, (hc HB hw376_0 :), (hc HB hw376_1 :)⟩ (fun hHeld => ?_)
        clear hK K
        refine nm 26 ?_
        refine pu 7 27 (tb 8 0) ?_
        refine done_ (done_of HT_.out (by kernel_rfl)) ?_
        have p378 : 0 ≤ (x6_1 : Int) := da
        have q378 : x6_1 < (l0.length : Int) := da
        obtain ⟨ad378, e378, hx378_0, hx378_1⟩ := at_T28 HR0.out x6_1 p378 q378
        obtain rfl : ad374 = ad378 := (by injection e378)
        replace hx378_0 := (hc HB hx378_0 :)
        replace hx378_1 := (hc HB hx378_1 :)
        replace p378 := eq_true p378
        replace q378 := eq_true q378
        have hnb15 := NB375_373.out
        have hnc15 := NB373_375.out
        have hcz16_0 : w14.cell? ⟨gb375, 0, none⟩ = some (.int .i64 x376000_1) := (blk_cell BK375.out 0).trans rfl
        have hcz16_1 : w14.cell? ⟨gb375, 1, none⟩ = some (.int .i64 x376001_1) := (blk_cell BK375.out 1).trans rfl
        have hfz16_0 := blk_frozen BK375.out 0
        have hfz16_1 := blk_frozen BK375.out 1
        try go_wp2
        go_roundg k1
        case measure => have := HK1.out; omega
        case rel => exact ⟨(wrap64 (x6_1 + 1)), ((rd_T28 l0 x6_1).f0), ((rd_T28 l0 x6_1).f1), (by first | rfl | (simp; done) | (simp [*]; done)), H', ⟨by have := HK1.out; omega⟩, ⟨by (with_reducible repeat (first | refine blk_drewN ?_ _ | refine blk_drew ?_ | refine blk_alloc ?_ _)); refine blk_far ?_ NB373_375.out _; (with_reducible repeat (first | refine blk_drewN ?_ _ | refine blk_drew ?_ | refine blk_alloc ?_ _)); refine blk_far ?_ NB373_375.out _; (with_reducible repeat (first | refine blk_drewN ?_ _ | refine blk_drew ?_ | refine blk_alloc ?_ _)); exact BK373.out⟩, ⟨by (with_reducible repeat (first | refine blk_drewN ?_ _ | refine blk_drew ?_ | refine blk_alloc ?_ _)); refine blk_put (cs := #[.int .i64 ((rd_T28 l0 x6_1).f0), .int .i64 x376001_1]) ?_ 1 _ rfl; (with_reducible repeat (first | refine blk_drewN ?_ _ | refine blk_drew ?_ | refine blk_alloc ?_ _)); refine blk_put (cs := #[.int .i64 x376000_1, .int .i64 x376001_1]) ?_ 0 _ rfl; (with_reducible repeat (first | refine blk_drewN ?_ _ | refine blk_drew ?_ | refine blk_alloc ?_ _)); exact BK375.out⟩, ⟨bl⟩⟩
       ·rw [if_neg c12] at H
        have c12b0 : decide (t377 < 0) = false := decide_eq_false c12
        clear c12
        have H' := Aside0.mk H
        clear H
        try go_wp2
        replace BK373 := Aside0.mk (blk_drew BK373.out)
        replace BK375 := Aside0.mk (blk_drew BK375.out)
        replace HB := Aside0.mk (below_drew1 HB.out)
        have p376 : 0 ≤ (x6_1 : Int) := da
        have q376 : x6_1 < (l0.length : Int) := da
        obtain ⟨ad376, e376, hx376_0, hx376_1⟩ := at_T28 HR0.out x6_1 p376 q376
        have hw376_1 := hx376_1
        have hw376_0 := hx376_0
        obtain rfl : ad374 = ad376 := (by injection e376)
        replace hx376_0 := (hc HB hx376_0 :)
        replace hx376_1 := (hc HB hx376_1 :)
        replace p376 := eq_true p376
        replace q376 := eq_true q376
        refine start_ (n := 8) (S := fun w' => w'.cell? ⟨gb375, 0, none⟩ = some (.int .i64 x376000_1) ∧ w'.cell? ⟨gb375, 1, none⟩ = some (.int .i64 x376001_1) ∧ w'.cell? (ad374.add ((x6_1).toNat * 2)) = some (.int .i64 ((rd_T28 l0 x6_1).f0)) ∧ w'.cell? ⟨(ad374.add ((x6_1).toNat * 2)).block, (ad374.add ((x6_1).toNat * 2)).off + 1, none⟩ = some (.int .i64 ((rd_T28 l0 x6_1).f1))) (ds := []) (tb 0 8) (by kernel_rfl) rfl rfl ⟨(blk_cell BK375.out 0).trans rfl, (blk_cell BK375.out 1).trans rfl, (hc HB hw376_0 :), (hc HB hw376_1 :)⟩ (fun hHeld => ?_); refine with_tabW slices_MinFunc__impl_compare.tab7 slices_MinFunc__impl_compare.bits7 (fun HT_ HW_ => ?_)
        generalize wr.drew = w17 at BK373 BK375 HB hx376_0 hx376_1 hHeld ⊢
        refine pu 0 20 (tb 1 7) ?_
        refine pu 1 21 (tb 2 6) ?_
        refine pu 2 22 (tb 3 5) ?_
        refine pu 3 23 (tb 4 4) ?_
        refine tk 4 24 (tb 5 3) (hy := by rintro w' ⟨s0, s1, s2, s3⟩; go_simp; with_reducible rfl) (h := ?_)
        refine tk 5 25 (tb 6 2) (hy := by rintro w' ⟨s0, s1, s2, s3⟩; go_simp; with_reducible rfl) (h := ?_)
        refine on 6 26 (tb 7 1) (fun K hK => ?_)
        refine goesVs_ (t := 20) (f := 54) rfl Try.func54 (by kernel_rfl) rfl #[.agg #[.int .i64 ((rd_T28 l0 x6_1).f0), .int .i64 ((rd_T28 l0 x6_1).f1)], .agg #[.int .i64 x376000_1, .int .i64 x376001_1]] (by rfl) rfl rfl (by (try simp only [List.map_toArray, List.map_cons, List.map_nil]); first | done | rfl | (simp only [List.length_drop, List.length_take]; rfl)) ?_
        with_reducible refine (impl_compare.calls ((rd_T28 l0 x6_1).f0) ((rd_T28 l0 x6_1).f1) x376000_1 x376001_1 t377 _ A11.out).mono ?_
        rintro e w18 ⟨rfl, hb⟩
        refine ⟨_, rfl, ?_⟩
        replace BK373 := Aside0.mk (bb gb373 hb)
        replace BK375 := Aside0.mk (bb gb375 hb)
        replace HB := Aside0.mk (bs hb)
        (try clear hb)
        (try clear hb2)
        (try clear hk)
        (try clear hi)
        refine hK.out _ _ ⟨(blk_cell BK375.out 0).trans rfl, (blk_cell BK375.out 1).trans rfl, (hc HB hw376_0 :), (hc HB hw376_1 :)⟩ (fun hHeld => ?_)
        clear hK K
        refine nm 26 ?_
        refine pu 7 27 (tb 8 0) ?_
        refine done_ (done_of HT_.out (by kernel_rfl)) ?_
        try go_wp2
        go_roundg k1
        case measure => have := HK1.out; omega
        case rel => exact ⟨(wrap64 (x6_1 + 1)), (x376000_1), (x376001_1), (by first | rfl | (simp; done) | (simp [*]; done)), H', ⟨by have := HK1.out; omega⟩, ⟨by (with_reducible repeat (first | refine blk_drewN ?_ _ | refine blk_drew ?_ | refine blk_alloc ?_ _)); exact BK373.out⟩, ⟨by (with_reducible repeat (first | refine blk_drewN ?_ _ | refine blk_drew ?_ | refine blk_alloc ?_ _)); exact BK375.out⟩, ⟨bl⟩⟩
      ·rw [if_neg c10] at H
       exact absurd H (by simp)
     ·rw [if_neg c9] at H
      have c9b0 : decide (x6_1 < (l0.length : Int)) = false := decide_eq_false c9
      clear c9
      simp only [Option.some.injEq, Prod.mk.injEq] at H
      obtain ⟨rfl, rfl⟩ := H
      have hnb19 := NB375_373.out
      have hnc19 := NB373_375.out
      have hcz20_0 : wr.cell? ⟨gb375, 0, none⟩ = some (.int .i64 x376000_1) := (blk_cell BK375.out 0).trans rfl
      have hcz20_1 : wr.cell? ⟨gb375, 1, none⟩ = some (.int .i64 x376001_1) := (blk_cell BK375.out 1).trans rfl
      have hfz20_0 := blk_frozen BK375.out 0
      have hfz20_1 := blk_frozen BK375.out 1
      have hcz21_0 : wr.cell? ⟨gb373, 0, none⟩ = some (.int .i64 0) := (blk_cell BK373.out 0).trans rfl
      have hcz21_1 : wr.cell? ⟨gb373, 1, none⟩ = some (.int .i64 0) := (blk_cell BK373.out 1).trans rfl
      have hfz21_0 := blk_frozen BK373.out 0
      have hfz21_1 := blk_frozen BK373.out 1
      go_wp2
      refine bodyPost_ret (results_cell_row rfl _ _ gb373 28 #[.int .i64 x376000_1, .int .i64 x376001_1] (0, 0) _ rfl (by (with_reducible repeat (first | refine blk_drewN ?_ _ | refine blk_drew ?_ | refine blk_alloc ?_ _)); refine blk_put (cs := #[.int .i64 x376000_1, .int .i64 0]) ?_ 1 _ rfl; (with_reducible repeat (first | refine blk_drewN ?_ _ | refine blk_drew ?_ | refine blk_alloc ?_ _)); refine blk_put (cs := #[.int .i64 0, .int .i64 0]) ?_ 0 _ rfl; (with_reducible repeat (first | refine blk_drewN ?_ _ | refine blk_drew ?_ | refine blk_alloc ?_ _)); exact BK373.out) Try.underlying28 rfl (by kernel_rfl)) rfl ?_
      exact ⟨by first | rfl | (simp [errW_none, errW_some] <;> rfl) | (simp [*, errW_none, errW_some] <;> rfl), bl⟩
  ·rw [if_neg c4] at H
   exact absurd H (by simp)

end Go.Proofs.Ytmecnnnagallnaa.PFnExactLeastSlope
