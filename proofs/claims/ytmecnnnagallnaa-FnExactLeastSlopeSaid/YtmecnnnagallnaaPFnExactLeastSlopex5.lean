-- Written by this session's program wip/pp (the kit's print tool with additions) 35421559b90ae4d0a3588c463048766b98c2df88dd9212a6774a882060cdf62d
import Derived.Test.YtmecnnnagallnaaPFnExactLeastSlopex0
import Derived.Test.YtmecnnnagallnaaPFnExactLeastSlopex4
namespace Go.Proofs.Ytmecnnnagallnaa.PFnExactLeastSlope
open Go.RowKit Go.Proofs.YtmecnnnagallnaaW.PrintWords Go.Proofs.YtmecnnnagallnaaW.PrintLast Go.Proofs.YtmecnnnagallnaaW.PrintMore
attribute [local go_sem] max2_int min2_int max_two min_two max_three min_three max_four min_four   -- for this text's walks alone
set_option linter.unusedVariables false
set_option linter.unusedSimpArgs false

/-! ### spec_imSlopes: function 44 -/
def spec_imSlopes.l0 : Nat → List (S68) → List (S28) → Int → Option ((List (S28)))
 | 0, _, _, _ => none
 | k + 1, x0, x3, x4 => if x4 < (x0.length : Int) then (if 0 ≤ (wrap64 (x4 - 1)) then (if (wrap64 (x4 - 1)) < (x0.length : Int) then (if 0 ≤ x4 then ((spec_imSlope.f k ((rd_T68 x0 (wrap64 (x4 - 1))).f0.f0) ((rd_T68 x0 (wrap64 (x4 - 1))).f0.f1) ((rd_T68 x0 (wrap64 (x4 - 1))).f1.f0) ((rd_T68 x0 (wrap64 (x4 - 1))).f1.f1) ((rd_T68 x0 x4).f0.f0) ((rd_T68 x0 x4).f0.f1) ((rd_T68 x0 x4).f1.f0) ((rd_T68 x0 x4).f1.f1)).bind fun bt172 => (if x3.length < 8796093022208 then (spec_imSlopes.l0 k x0 (x3 ++ [(⟨bt172.1, bt172.2⟩ : S28)]) (wrap64 (x4 + 1))) else (none))) else (none)) else (none)) else (none)) else (some x3)
def spec_imSlopes.f (k : Nat) (l0 : List (S68)) : Option ((List (S28))) := spec_imSlopes.l0 k l0 ([] : List (S28)) 1
def spec_imSlopes.T5 : Bool × List (List Nat × List Nat) := (true, [([], []), ([], []), ([], []), ([2], [2]), ([1, 3], [1, 3]), ([4], [4]), ([], []), ([], []), ([6, 7], [6, 7]), ([8], [8]), ([5, 9], [5, 9]), ([10], [10]), ([0, 11, 10], [0, 11]), ([12, 12, 0, 1, 2, 3, 4, 5, 6, 7, 8, 9, 10, 11, 12], [0, 12])])
def spec_imSlopes.B5 : List Nat := [0, 0, 0, 4, 14, 30, 0, 0, 192, 448, 1022, 2046, 4095, 8191]
theorem spec_imSlopes.tab5 : rtab .any (opsOf Try.f44 5) = spec_imSlopes.T5 := by kernel_rfl
theorem spec_imSlopes.bits5 : waitsOk spec_imSlopes.T5.2 spec_imSlopes.B5 = true := by kernel_rfl
set_option maxHeartbeats 8000000 in
set_option maxRecDepth 100000 in
theorem spec_imSlopes.calls (k : Nat) (A0 : Option Addr) (c0 : Nat) (l0 : List (S68)) (r : List (S28)) (w : World) (hr0 : Kd.C k68 w A0 l0.length l0) (hc0 : l0.length ≤ c0) (h : spec_imSlopes.f k l0 = some r) :
  Calls Try.prog 44 #[.slice A0 l0.length c0] w fun e w' => ∃ v0_ : Value, e = .returned (v0_) ∧ Kd.R k28 28 w' w.heap.size (fun _ => True) v0_ r ∧ Below w.heap.size w w' := by
 have hu68 := Try.underlying68
 have HR0 := Aside0.mk hr0
 have HC0 := Aside0.mk hc0
 clear hr0 hc0
 have HB := Aside0.mk (Below.refl w.heap.size w)
 have H : (spec_imSlopes.l0 k l0 ([] : List (S28)) 1) = some r := h
 clear h
 have H' := Aside0.mk H
 clear H
 go_enter Try.func44, Try.ntmps44
 go_wp2
 go_loopg [3, 4] k (fun kq v3 v4 w' => ∃ (x3_1 : List (S28)) (x4_1 : Int), v4 = .int .i64 x4_1 ∧ Aside0 (spec_imSlopes.l0 kq l0 x3_1 x4_1 = some r) ∧ Aside0 (kq ≤ k) ∧ Aside0 (Kd.R k28 28 w' w.heap.size (fun _ => True) v3 x3_1) ∧ Aside0 (Below w.heap.size w w'))
 case atStart => exact ⟨(([] : List (S28))), (1), (by first | rfl | (simp; done) | (simp [*]; done)), H', ⟨Nat.le_refl _⟩, ⟨by first | exact Kd.R_nil _ _ _ _ _ | exact Kd.N_nil _ _ _ _ _ | exact Kd.V_nil _ _ _ _ _ | exact Kd.Q_nil _ _ _ _ _ | exact Kd.S_nil _ _ _ _ _⟩, ⟨bl⟩⟩
 case round =>
  clear H'
  obtain ⟨x3_1, x4_1, rfl, HA, HK1, HO_3, HB⟩ := hrel
  cases gk with
  | zero => exact absurd HA.out (by simp [spec_imSlopes.l0])
  | succ k1 =>
   have H := HA.out
   clear HA
   simp only [spec_imSlopes.l0] at H
   by_cases c2 : x4_1 < (l0.length : Int)
   ·rw [if_pos c2] at H
    have c2b0 : decide (x4_1 < (l0.length : Int)) = true := decide_eq_true c2
    clear c2
    obtain ⟨ji3, hji3⟩ : ∃ j_ : Int, (wrap64 (x4_1 - 1)) = j_ := ⟨_, rfl⟩
    replace H : (if 0 ≤ (ji3) then (if (ji3) < (l0.length : Int) then (if 0 ≤ x4_1 then ((spec_imSlope.f k1 ((rd_T68 l0 (ji3)).f0.f0) ((rd_T68 l0 (ji3)).f0.f1) ((rd_T68 l0 (ji3)).f1.f0) ((rd_T68 l0 (ji3)).f1.f1) ((rd_T68 l0 x4_1).f0.f0) ((rd_T68 l0 x4_1).f0.f1) ((rd_T68 l0 x4_1).f1.f0) ((rd_T68 l0 x4_1).f1.f1)).bind fun bt172 => (if x3_1.length < 8796093022208 then (spec_imSlopes.l0 k1 l0 (x3_1 ++ [(⟨bt172.1, bt172.2⟩ : S28)]) (wrap64 (x4_1 + 1))) else (none))) else (none)) else (none)) else (none)) = some r := by first | (rw [hji3] at H; exact H) | (simp only [hji3] at H ⊢; exact H)
    have hji3w : (IntKind.i64.wrap (x4_1 - 1)) = ji3 := (i64_w _).trans hji3
    by_cases c4 : 0 ≤ (ji3)
    ·rw [if_pos c4] at H
     have c4b0 : decide (0 ≤ (ji3)) = true := decide_eq_true c4
     clear c4
     by_cases c5 : (ji3) < (l0.length : Int)
     ·rw [if_pos c5] at H
      have c5b0 : decide ((ji3) < (l0.length : Int)) = true := decide_eq_true c5
      clear c5
      by_cases c6 : 0 ≤ x4_1
      ·rw [if_pos c6] at H
       have c6b0 : decide (0 ≤ x4_1) = true := decide_eq_true c6
       clear c6
       replace H := Option.bind_eq_some_iff.mp H
       obtain ⟨⟨t172, t173⟩, A70, H⟩ := H
       replace H : (if x3_1.length < 8796093022208 then (spec_imSlopes.l0 k1 l0 (x3_1 ++ [(⟨t172, t173⟩ : S28)]) (wrap64 (x4_1 + 1))) else (none)) = some r := H
       have A7 := Aside0.mk A70
       clear A70
       by_cases c8 : x3_1.length < 8796093022208
       ·rw [if_pos c8] at H
        have LMc8 := Aside0.mk c8
        clear c8
        obtain ⟨y174, hy174⟩ : ∃ y_ : List (S28), y_ = (x3_1 ++ [(⟨t172, t173⟩ : S28)]) := ⟨_, rfl⟩
        replace H : (spec_imSlopes.l0 k1 l0 y174 (wrap64 (x4_1 + 1))) = some r := by first | (rw [hy174]; with_reducible exact H) | (have H2_ := (Option.bind_some _ _).symm.trans H; rw [hy174]; with_reducible exact H2_) | (have H2_ := (Option.bind_some _ _).symm.trans H; with_reducible exact H2_) | with_reducible exact H | (rw [hy174]; exact H) | exact H
        have Ny174 := Aside0.mk hy174
        clear hy174
        have H' := Aside0.mk H
        clear H
        try go_wp2
        replace HO_3 := Aside0.mk (Kd.R_drew HO_3.out)
        replace HB := Aside0.mk (below_drew1 HB.out)
        have p170 : 0 ≤ ((ji3) : Int) := da
        have q170 : (ji3) < (l0.length : Int) := da
        obtain ⟨ad170, e170, hx170_0, hx170_1, hx170_2, hx170_3⟩ := at_T68 HR0.out (ji3) p170 q170
        have hw170_3 := hx170_3
        have hw170_2 := hx170_2
        have hw170_1 := hx170_1
        have hw170_0 := hx170_0
        cases e170
        replace hx170_0 := (hc HB hx170_0 :)
        replace hx170_1 := (hc HB hx170_1 :)
        replace hx170_2 := (hc HB hx170_2 :)
        replace hx170_3 := (hc HB hx170_3 :)
        replace p170 := eq_true p170
        replace q170 := eq_true q170
        have p171 : 0 ≤ (x4_1 : Int) := da
        have q171 : x4_1 < (l0.length : Int) := da
        obtain ⟨ad171, e171, hx171_0, hx171_1, hx171_2, hx171_3⟩ := at_T68 HR0.out x4_1 p171 q171
        have hw171_3 := hx171_3
        have hw171_2 := hx171_2
        have hw171_1 := hx171_1
        have hw171_0 := hx171_0
        obtain rfl : ad170 = ad171 := (by injection e171)
        replace hx171_0 := (hc HB hx171_0 :)
        replace hx171_1 := (hc HB hx171_1 :)
        replace hx171_2 := (hc HB hx171_2 :)
        replace hx171_3 := (hc HB hx171_3 :)
        replace p171 := eq_true p171
        replace q171 := eq_true q171
        refine start_ (n := 14) (S := fun w' => w'.cell? (ad170.add (((ji3)).toNat * 4)) = some (.int .i64 ((rd_T68 l0 (ji3)).f0.f0)) ∧ w'.cell? ⟨(ad170.add (((ji3)).toNat * 4)).block, (ad170.add (((ji3)).toNat * 4)).off + 1, none⟩ = some (.int .i64 ((rd_T68 l0 (ji3)).f0.f1)) ∧ w'.cell? ⟨(ad170.add (((ji3)).toNat * 4)).block, (ad170.add (((ji3)).toNat * 4)).off + 2, none⟩ = some (.int .i64 ((rd_T68 l0 (ji3)).f1.f0)) ∧ w'.cell? ⟨(ad170.add (((ji3)).toNat * 4)).block, (ad170.add (((ji3)).toNat * 4)).off + 3, none⟩ = some (.int .i64 ((rd_T68 l0 (ji3)).f1.f1)) ∧ w'.cell? (ad170.add ((x4_1).toNat * 4)) = some (.int .i64 ((rd_T68 l0 x4_1).f0.f0)) ∧ w'.cell? ⟨(ad170.add ((x4_1).toNat * 4)).block, (ad170.add ((x4_1).toNat * 4)).off + 1, none⟩ = some (.int .i64 ((rd_T68 l0 x4_1).f0.f1)) ∧ w'.cell? ⟨(ad170.add ((x4_1).toNat * 4)).block, (ad170.add ((x4_1).toNat * 4)).off + 2, none⟩ = some (.int .i64 ((rd_T68 l0 x4_1).f1.f0)) ∧ w'.cell? ⟨(ad170.add ((x4_1).toNat * 4)).block, (ad170.add ((x4_1).toNat * 4)).off + 3, none⟩ = some (.int .i64 ((rd_T68 l0 x4_1).f1.f1))) (ds := []) (tb 0 14) (by kernel_rfl) rfl rfl ⟨(hc HB hw170_0 :), (hc HB hw170_1 :), (hc HB hw170_2 :), (hc HB hw170_3 :), (hc HB hw171_0 :), (hc HB hw171_1 :), (hc HB hw171_2 :), (hc HB hw171_3 :)⟩ (fun hHeld => ?_); refine with_tabW spec_imSlopes.tab5 spec_imSlopes.bits5 (fun HT_ HW_ => ?_)
        generalize wr.drew = w9 at HO_3 HB hx170_0 hx170_1 hx170_2 hx170_3 hx171_0 hx171_1 hx171_2 hx171_3 hHeld ⊢
        refine pu 0 11 (tb 1 13) ?_
        refine pu 1 12 (tb 2 12) ?_
        refine pu 2 13 (tb 3 11) ?_
        refine pu 3 14 (tb 4 10) ?_
        refine pu 4 15 (tb 5 9) ?_
        refine pu 6 17 #[true, true, true, true, true, false, true, false, false, false, false, false, false, false] ?_
        refine pu 7 18 #[true, true, true, true, true, false, true, true, false, false, false, false, false, false] ?_
        refine pu 8 19 #[true, true, true, true, true, false, true, true, true, false, false, false, false, false] ?_
        refine tk 5 16 (tb 9 5) (hy := by rintro w' ⟨s0, s1, s2, s3, s4, s5, s6, s7⟩; go_simp; with_reducible rfl) (h := ?_)
        refine tk 9 20 (tb 10 4) (hy := by rintro w' ⟨s0, s1, s2, s3, s4, s5, s6, s7⟩; go_simp; with_reducible rfl) (h := ?_)
        refine on 10 21 (tb 11 3) (fun K hK => ?_)
        refine goes_ Try.func84 (by kernel_rfl) rfl #[.agg #[.int .i64 ((rd_T68 l0 (ji3)).f0.f0), .int .i64 ((rd_T68 l0 (ji3)).f0.f1), .int .i64 ((rd_T68 l0 (ji3)).f1.f0), .int .i64 ((rd_T68 l0 (ji3)).f1.f1)], .agg #[.int .i64 ((rd_T68 l0 x4_1).f0.f0), .int .i64 ((rd_T68 l0 x4_1).f0.f1), .int .i64 ((rd_T68 l0 x4_1).f1.f0), .int .i64 ((rd_T68 l0 x4_1).f1.f1)]] (by rfl) rfl rfl (by (try simp only [List.map_toArray, List.map_cons, List.map_nil]); first | done | (simp only [hji3]; rfl) | rfl | (simp only [List.length_drop, List.length_take]; rfl)) ?_
        with_reducible refine (spec_imSlope.calls k1 ((rd_T68 l0 (ji3)).f0.f0) ((rd_T68 l0 (ji3)).f0.f1) ((rd_T68 l0 (ji3)).f1.f0) ((rd_T68 l0 (ji3)).f1.f1) ((rd_T68 l0 x4_1).f0.f0) ((rd_T68 l0 x4_1).f0.f1) ((rd_T68 l0 x4_1).f1.f0) ((rd_T68 l0 x4_1).f1.f1) t172 t173 _ A7.out).mono ?_
        rintro e w10 ⟨rfl, hb⟩
        refine ⟨_, rfl, ?_⟩
        replace HO_3 := Aside0.mk (Kd.R_below (by (with_reducible repeat (first | apply Kd.R_alloc | apply Kd.R_drewN | apply Kd.R_drew)); exact HO_3.out) hb)
        replace HB := Aside0.mk (bs hb)
        (try clear hb)
        (try clear hb2)
        (try clear hk)
        (try clear hi)
        refine hK.out _ _ ⟨(hc HB hw170_0 :), (hc HB hw170_1 :), (hc HB hw170_2 :), (hc HB hw170_3 :), (hc HB hw171_0 :), (hc HB hw171_1 :), (hc HB hw171_2 :), (hc HB hw171_3 :)⟩ (fun hHeld => ?_)
        clear hK K
        refine nm 21 ?_
        refine on 11 22 (tb 12 2) (fun K hK => ?_)
        refine value_ (w1 := ?_) (v := ?_) (by rfl) rfl ?_ ?_
        rotate_left 2
        ·go_simp
         constructor
         ·rfl
         ·rfl
        refine hK.out _ _ ⟨(World.cell?_alloc_lt _ _ _ (World.block_lt_of_cell? _ _ ((hc HB hw170_0 :)))).trans ((hc HB hw170_0 :)), (World.cell?_alloc_lt _ _ _ (World.block_lt_of_cell? _ _ ((hc HB hw170_1 :)))).trans ((hc HB hw170_1 :)), (World.cell?_alloc_lt _ _ _ (World.block_lt_of_cell? _ _ ((hc HB hw170_2 :)))).trans ((hc HB hw170_2 :)), (World.cell?_alloc_lt _ _ _ (World.block_lt_of_cell? _ _ ((hc HB hw170_3 :)))).trans ((hc HB hw170_3 :)), (World.cell?_alloc_lt _ _ _ (World.block_lt_of_cell? _ _ ((hc HB hw171_0 :)))).trans ((hc HB hw171_0 :)), (World.cell?_alloc_lt _ _ _ (World.block_lt_of_cell? _ _ ((hc HB hw171_1 :)))).trans ((hc HB hw171_1 :)), (World.cell?_alloc_lt _ _ _ (World.block_lt_of_cell? _ _ ((hc HB hw171_2 :)))).trans ((hc HB hw171_2 :)), (World.cell?_alloc_lt _ _ _ (World.block_lt_of_cell? _ _ ((hc HB hw171_3 :)))).trans ((hc HB hw171_3 :))⟩ (fun hHeld => ?_)
        clear hK K
        refine nm 22 ?_
        refine on 12 23 (tb 13 1) (fun K hK => ?_)
        refine Kd.R_append_step k28 (w0 := w) w.heap.size (by rfl) (.tmp 11) (.tmp 22) 64 28 (.agg #[(.int .i64 0), (.int .i64 0)]) 16 rfl Try.underlying64 info28 rfl (by decide) (by omega) u3 x3_1 (⟨t172, t173⟩ : S28) [.int .i64 t172, .int .i64 t173] (fun _ => True) (fun _ => False) rfl rfl ?aP (fun _ hk => hk.elim) ?aF ?aO ?aB ?aS ?aL ?_
        (case aP => exact k28_mkM _ _ _ (⟨t172, t173⟩ : S28))
        (case aB => exact bl)
        (case aF => exact (fun _ _ => trivial))
        (case aO => exact (by (with_reducible repeat (first | apply Kd.R_alloc | apply Kd.R_drewN | apply Kd.R_drew)); exact HO_3.out))
        (case aS => exact (below_size bl))
        (case aL => have := LMc8.out; omega)
        intro v175 w11 ho hb hg hat
        rw [← Ny174.out] at ho
        have HO176 := Aside0.mk (ho)
        replace HB := Aside0.mk (hb)
        clear HO_3
        clear ho hb hg hat
        refine hK.out _ _ ⟨(hc HB hw170_0 :), (hc HB hw170_1 :), (hc HB hw170_2 :), (hc HB hw170_3 :), (hc HB hw171_0 :), (hc HB hw171_1 :), (hc HB hw171_2 :), (hc HB hw171_3 :)⟩ (fun hHeld => ?_)
        clear hK K
        refine nm 23 ?_
        refine pu 13 3 (tb 14 0) ?_
        refine done_ (done_of HT_.out (by kernel_rfl)) ?_
        try go_wp2
        go_roundg k1
        case measure => have := HK1.out; omega
        case rel => exact ⟨(y174), (wrap64 (x4_1 + 1)), (by first | rfl | (simp; done) | (simp [*]; done)), H', ⟨by have := HK1.out; omega⟩, ⟨by (with_reducible repeat (first | apply Kd.R_alloc | apply Kd.R_drewN | apply Kd.R_drew)); exact HO176.out⟩, ⟨bl⟩⟩
       ·rw [if_neg c8] at H
        exact absurd H (by simp)
      ·rw [if_neg c6] at H
       exact absurd H (by simp)
     ·rw [if_neg c5] at H
      exact absurd H (by simp)
    ·rw [if_neg c4] at H
     exact absurd H (by simp)
   ·rw [if_neg c2] at H
    have c2b0 : decide (x4_1 < (l0.length : Int)) = false := decide_eq_false c2
    clear c2
    obtain rfl := Option.some.inj H
    go_wp2
    go_ret
    exact ⟨_, by first | rfl | (simp [errW_none, errW_some] <;> rfl) | (simp [*, errW_none, errW_some] <;> rfl), by (with_reducible repeat (first | apply Kd.R_alloc | apply Kd.R_drewN | apply Kd.R_drew)); exact HO_3.out, bl⟩

end Go.Proofs.Ytmecnnnagallnaa.PFnExactLeastSlope
