-- Written by this session's program wip/pp (the kit's print tool with additions) 35421559b90ae4d0a3588c463048766b98c2df88dd9212a6774a882060cdf62d
import Derived.Test.YtmecnnnagallnaaPFnExactCompareWordsx0
import Derived.Test.YtmecnnnagallnaaPFnExactCompareWordsx3
import Derived.Test.YtmecnnnagallnaaPFnExactCompareWordsx4
import Derived.Test.YtmecnnnagallnaaPFnExactCompareWordsx5
namespace Go.Proofs.Ytmecnnnagallnaa.PFnExactCompareWords
open Go.RowKit Go.Proofs.YtmecnnnagallnaaW.PrintWords Go.Proofs.YtmecnnnagallnaaW.PrintLast Go.Proofs.YtmecnnnagallnaaW.PrintMore
attribute [local go_sem] max2_int min2_int max_two min_two max_three min_three max_four min_four   -- for this text's walks alone
set_option linter.unusedVariables false
set_option linter.unusedSimpArgs false

/-! ### spec_imSlopes: function 44 -/
def spec_imSlopes.l0 : Nat → List (S68) → List (S28) → Int → Option ((List (S28)))
 | 0, _, _, _ => none
 | k + 1, x0, x3, x4 => if x4 < (x0.length : Int) then (if 0 ≤ (wrap64 (x4 - 1)) then (if (wrap64 (x4 - 1)) < (x0.length : Int) then (if 0 ≤ x4 then ((spec_imSlope.f k ((rd_T68 x0 (wrap64 (x4 - 1))).f0.f0) ((rd_T68 x0 (wrap64 (x4 - 1))).f0.f1) ((rd_T68 x0 (wrap64 (x4 - 1))).f1.f0) ((rd_T68 x0 (wrap64 (x4 - 1))).f1.f1) ((rd_T68 x0 x4).f0.f0) ((rd_T68 x0 x4).f0.f1) ((rd_T68 x0 x4).f1.f0) ((rd_T68 x0 x4).f1.f1)).bind fun bt203 => (if x3.length < 8796093022208 then (spec_imSlopes.l0 k x0 (x3 ++ [(⟨bt203.1, bt203.2⟩ : S28)]) (wrap64 (x4 + 1))) else (none))) else (none)) else (none)) else (none)) else (some x3)
def spec_imSlopes.f (k : Nat) (l0 : List (S68)) : Option ((List (S28))) := spec_imSlopes.l0 k l0 ([] : List (S28)) 1
def spec_imSlopes.T5 : Bool × List (List Nat × List Nat) := (true, [([], []), ([], []), ([], []), ([2], [2]), ([1, 3], [1, 3]), ([4], [4]), ([], []), ([], []), ([6, 7], [6, 7]), ([8], [8]), ([5, 9], [5, 9]), ([10], [10]), ([0, 11, 10], [0, 11]), ([12, 12, 0, 1, 2, 3, 4, 5, 6, 7, 8, 9, 10, 11, 12], [0, 12])])
def spec_imSlopes.B5 : List Nat := [0, 0, 0, 4, 14, 30, 0, 0, 192, 448, 1022, 2046, 4095, 8191]
theorem spec_imSlopes.tab5 : rtab .any (opsOf Try.f44 5) = spec_imSlopes.T5 := by kernel_rfl
theorem spec_imSlopes.bits5 : waitsOk spec_imSlopes.T5.2 spec_imSlopes.B5 = true := by kernel_rfl
set_option maxHeartbeats 8000000 in
set_option maxRecDepth 100000 in
theorem spec_imSlopes.calls (k : Nat) (A0 : Option Addr) (c0 : Nat) (l0 : List (S68)) (r : List (S28)) (w : World) (hr0 : Kd.C k68 w A0 l0.length l0) (hc0 : l0.length ≤ c0) (h : spec_imSlopes.f k l0 = some r) :
  Calls Try.prog 44 #[.slice A0 l0.length c0] w fun e w' => ∃ v0_ : Value, e = .returned (v0_) ∧ Kd.R k28 28 w' w.heap.size (fun _ => True) v0_ r ∧ Below w.heap.size w w' := by
 have hu68 := Try.underlying68
 have HR0 := Aside0.mk hr0
 have HC0 := Aside0.mk hc0
 clear hr0 hc0
 have HB := Aside0.mk (Below.refl w.heap.size w)
 have H : (spec_imSlopes.l0 k l0 ([] : List (S28)) 1) = some r := h
 clear h
 have H' := Aside0.mk H
 clear H
 go_enter Try.func44, Try.ntmps44
 go_wp2
 go_loopg [3, 4] k (fun kq v3 v4 w' => ∃ (x3_1 : List (S28)) (x4_1 : Int), v4 = .int .i64 x4_1 ∧ Aside0 (spec_imSlopes.l0 kq l0 x3_1 x4_1 = some r) ∧ Aside0 (kq ≤ k) ∧ Aside0 (Kd.R k28 28 w' w.heap.size (fun _ => True) v3 x3_1) ∧ Aside0 (Below w.heap.size w w'))
 case atStart => exact ⟨(([] : List (S28))), (1), rs, H', ⟨Nat.le_refl _⟩, ⟨by first | exact Kd.R_nil _ _ _ _ _ | exact Kd.N_nil _ _ _ _ _ | exact Kd.V_nil _ _ _ _ _ | exact Kd.Q_nil _ _ _ _ _ | exact Kd.S_nil _ _ _ _ _⟩, ⟨bl⟩⟩
 case round =>
  clear H'
  obtain ⟨x3_1, x4_1, rfl, HA, HK1, HO_3, HB⟩ := hrel
  cases gk with
  | zero => exact absurd HA.out (by simp [spec_imSlopes.l0])
  | succ k1 =>
   have H := HA.out
   clear HA
   simp only [spec_imSlopes.l0] at H
   by_cases c2 : x4_1 < (l0.length : Int)
   ·rw [if_pos c2] at H
    have c2b0 : decide (x4_1 < (l0.length : Int)) = true := decide_eq_true c2
    clear c2
    obtain ⟨ji3, hji3⟩ : ∃ j_ : Int, (wrap64 (x4_1 - 1)) = j_ := ⟨_, rfl⟩
    replace H : (if 0 ≤ (ji3) then (if (ji3) < (l0.length : Int) then (if 0 ≤ x4_1 then ((spec_imSlope.f k1 ((rd_T68 l0 (ji3)).f0.f0) ((rd_T68 l0 (ji3)).f0.f1) ((rd_T68 l0 (ji3)).f1.f0) ((rd_T68 l0 (ji3)).f1.f1) ((rd_T68 l0 x4_1).f0.f0) ((rd_T68 l0 x4_1).f0.f1) ((rd_T68 l0 x4_1).f1.f0) ((rd_T68 l0 x4_1).f1.f1)).bind fun bt203 => (if x3_1.length < 8796093022208 then (spec_imSlopes.l0 k1 l0 (x3_1 ++ [(⟨bt203.1, bt203.2⟩ : S28)]) (wrap64 (x4_1 + 1))) else (none))) else (none)) else (none)) else (none)) = some r := by first | (rw [hji3] at H; exact H) | (simp only [hji3] at H ⊢; exact H)
    have hji3w : (IntKind.i64.wrap (x4_1 - 1)) = ji3 := (i64_w _).trans hji3
    by_cases c4 : 0 ≤ (ji3)
    ·rw [if_pos c4] at H
     have c4b0 : decide (0 ≤ (ji3)) = true := decide_eq_true c4
     clear c4
     by_cases c5 : (ji3) < (l0.length : Int)
     ·rw [if_pos c5] at H
      have c5b0 : decide ((ji3) < (l0.length : Int)) = true := decide_eq_true c5
      clear c5
      by_cases c6 : 0 ≤ x4_1
      ·rw [if_pos c6] at H
       have c6b0 : decide (0 ≤ x4_1) = true := decide_eq_true c6
       clear c6
       replace H := Option.bind_eq_some_iff.mp H
       obtain ⟨⟨t203, t204⟩, A70, H⟩ := H
       replace H : (if x3_1.length < 8796093022208 then (spec_imSlopes.l0 k1 l0 (x3_1 ++ [(⟨t203, t204⟩ : S28)]) (wrap64 (x4_1 + 1))) else (none)) = some r := H
       have A7 := Aside0.mk A70
       clear A70
       by_cases c8 : x3_1.length < 8796093022208
       ·rw [if_pos c8] at H
        have LMc8 := Aside0.mk c8
        clear c8
        obtain ⟨y205, hy205⟩ : ∃ y_ : List (S28), y_ = (x3_1 ++ [(⟨t203, t204⟩ : S28)]) := ⟨_, rfl⟩
        replace H : (spec_imSlopes.l0 k1 l0 y205 (wrap64 (x4_1 + 1))) = some r := by first | (rw [hy205]; with_reducible exact H) | (have H2_ := (Option.bind_some _ _).symm.trans H; rw [hy205]; with_reducible exact H2_) | (have H2_ := (Option.bind_some _ _).symm.trans H; with_reducible exact H2_) | with_reducible exact H | (rw [hy205]; exact H) | exact H
        have Ny205 := Aside0.mk hy205
        clear hy205
        have H' := Aside0.mk H
        clear H
        try go_wp2
        replace HO_3 := Aside0.mk (Kd.R_drew HO_3.out)
        replace HB := Aside0.mk (below_drew1 HB.out)
        have p201 : 0 ≤ ((ji3) : Int) := da
        have q201 : (ji3) < (l0.length : Int) := da
        obtain ⟨ad201, e201, hx201_0, hx201_1, hx201_2, hx201_3⟩ := at_T68 HR0.out (ji3) p201 q201
        have hw201_3 := hx201_3
        have hw201_2 := hx201_2
        have hw201_1 := hx201_1
        have hw201_0 := hx201_0
        cases e201
        replace hx201_0 := (hc HB hx201_0 :)
        replace hx201_1 := (hc HB hx201_1 :)
        replace hx201_2 := (hc HB hx201_2 :)
        replace hx201_3 := (hc HB hx201_3 :)
        replace p201 := eq_true p201
        replace q201 := eq_true q201
        have p202 : 0 ≤ (x4_1 : Int) := da
        have q202 : x4_1 < (l0.length : Int) := da
        obtain ⟨ad202, e202, hx202_0, hx202_1, hx202_2, hx202_3⟩ := at_T68 HR0.out x4_1 p202 q202
        have hw202_3 := hx202_3
        have hw202_2 := hx202_2
        have hw202_1 := hx202_1
        have hw202_0 := hx202_0
        obtain rfl : ad201 = ad202 := (by injection e202)
        replace hx202_0 := (hc HB hx202_0 :)
        replace hx202_1 := (hc HB hx202_1 :)
        replace hx202_2 := (hc HB hx202_2 :)
        replace hx202_3 := (hc HB hx202_3 :)
        replace p202 := eq_true p202
        replace q202 := eq_true q202
        refine start_ (n := 14) (S := fun w' => w'.cell? (ad201.add (((ji3)).toNat * 4)) = some (.int .i64 ((rd_T68 l0 (ji3)).f0.f0)) ∧ w'.cell? ⟨(ad201.add (((ji3)).toNat * 4)).block, (ad201.add (((ji3)).toNat * 4)).off + 1, none⟩ = some (.int .i64 ((rd_T68 l0 (ji3)).f0.f1)) ∧ w'.cell? ⟨(ad201.add (((ji3)).toNat * 4)).block, (ad201.add (((ji3)).toNat * 4)).off + 2, none⟩ = some (.int .i64 ((rd_T68 l0 (ji3)).f1.f0)) ∧ w'.cell? ⟨(ad201.add (((ji3)).toNat * 4)).block, (ad201.add (((ji3)).toNat * 4)).off + 3, none⟩ = some (.int .i64 ((rd_T68 l0 (ji3)).f1.f1)) ∧ w'.cell? (ad201.add ((x4_1).toNat * 4)) = some (.int .i64 ((rd_T68 l0 x4_1).f0.f0)) ∧ w'.cell? ⟨(ad201.add ((x4_1).toNat * 4)).block, (ad201.add ((x4_1).toNat * 4)).off + 1, none⟩ = some (.int .i64 ((rd_T68 l0 x4_1).f0.f1)) ∧ w'.cell? ⟨(ad201.add ((x4_1).toNat * 4)).block, (ad201.add ((x4_1).toNat * 4)).off + 2, none⟩ = some (.int .i64 ((rd_T68 l0 x4_1).f1.f0)) ∧ w'.cell? ⟨(ad201.add ((x4_1).toNat * 4)).block, (ad201.add ((x4_1).toNat * 4)).off + 3, none⟩ = some (.int .i64 ((rd_T68 l0 x4_1).f1.f1))) (ds := []) (tb 0 14) (by kernel_rfl) rfl rfl ⟨(hc HB hw201_0 :), (hc HB hw201_1 :), (hc HB hw201_2 :), (hc HB hw201_3 :), (hc HB hw202_0 :), (hc HB hw202_1 :), (hc HB hw202_2 :), (hc HB hw202_3 :)⟩ (fun hHeld => ?_); refine with_tabW spec_imSlopes.tab5 spec_imSlopes.bits5 (fun HT_ HW_ => ?_)
        generalize wr.drew = w9 at HO_3 HB hx201_0 hx201_1 hx201_2 hx201_3 hx202_0 hx202_1 hx202_2 hx202_3 hHeld ⊢
        refine pu 0 11 (tb 1 13) ?_
        refine pu 1 12 (tb 2 12) ?_
        refine pu 2 13 (tb 3 11) ?_
        refine pu 3 14 (tb 4 10) ?_
        refine pu 4 15 (tb 5 9) ?_
        refine pu 6 17 #[true, true, true, true, true, false, true, false, false, false, false, false, false, false] ?_
        refine pu 7 18 #[true, true, true, true, true, false, true, true, false, false, false, false, false, false] ?_
        refine pu 8 19 #[true, true, true, true, true, false, true, true, true, false, false, false, false, false] ?_
        refine tk 5 16 (tb 9 5) (hy := by rintro w' ⟨s0, s1, s2, s3, s4, s5, s6, s7⟩; go_simp; with_reducible rfl) (h := ?_)
        refine tk 9 20 (tb 10 4) (hy := by rintro w' ⟨s0, s1, s2, s3, s4, s5, s6, s7⟩; go_simp; with_reducible rfl) (h := ?_)
        refine on 10 21 (tb 11 3) (fun K hK => ?_)
        refine goes_ Try.func84 (by kernel_rfl) rfl #[.agg #[.int .i64 ((rd_T68 l0 (ji3)).f0.f0), .int .i64 ((rd_T68 l0 (ji3)).f0.f1), .int .i64 ((rd_T68 l0 (ji3)).f1.f0), .int .i64 ((rd_T68 l0 (ji3)).f1.f1)], .agg #[.int .i64 ((rd_T68 l0 x4_1).f0.f0), .int .i64 ((rd_T68 l0 x4_1).f0.f1), .int .i64 ((rd_T68 l0 x4_1).f1.f0), .int .i64 ((rd_T68 l0 x4_1).f1.f1)]] (by rfl) rfl rfl (by (try simp only [List.map_toArray, List.map_cons, List.map_nil]); first | done | (simp only [hji3]; rfl) | rfl | (simp only [List.length_drop, List.length_take]; rfl)) ?_
        with_reducible refine (spec_imSlope.calls k1 ((rd_T68 l0 (ji3)).f0.f0) ((rd_T68 l0 (ji3)).f0.f1) ((rd_T68 l0 (ji3)).f1.f0) ((rd_T68 l0 (ji3)).f1.f1) ((rd_T68 l0 x4_1).f0.f0) ((rd_T68 l0 x4_1).f0.f1) ((rd_T68 l0 x4_1).f1.f0) ((rd_T68 l0 x4_1).f1.f1) t203 t204 _ A7.out).mono ?_
        rintro e w10 ⟨rfl, hb⟩
        refine ⟨_, rfl, ?_⟩
        replace HO_3 := Aside0.mk (Kd.R_below (by (with_reducible repeat (first | apply Kd.R_alloc | apply Kd.R_drewN | apply Kd.R_drew)); exact HO_3.out) hb)
        replace HB := kh hb
        (try clear hb)
        (try clear hb2)
        (try clear hk)
        (try clear hi)
        refine hK.out _ _ ⟨(hc HB hw201_0 :), (hc HB hw201_1 :), (hc HB hw201_2 :), (hc HB hw201_3 :), (hc HB hw202_0 :), (hc HB hw202_1 :), (hc HB hw202_2 :), (hc HB hw202_3 :)⟩ (fun hHeld => ?_)
        clear hK K
        refine nm 21 ?_
        refine on 11 22 (tb 12 2) (fun K hK => ?_)
        refine value_ (w1 := ?_) (v := ?_) (by rfl) rfl ?_ ?_
        rotate_left 2
        ·go_simp
         constructor
         ·rfl
         ·rfl
        refine hK.out _ _ ⟨(World.cell?_alloc_lt _ _ _ (World.block_lt_of_cell? _ _ ((hc HB hw201_0 :)))).trans ((hc HB hw201_0 :)), (World.cell?_alloc_lt _ _ _ (World.block_lt_of_cell? _ _ ((hc HB hw201_1 :)))).trans ((hc HB hw201_1 :)), (World.cell?_alloc_lt _ _ _ (World.block_lt_of_cell? _ _ ((hc HB hw201_2 :)))).trans ((hc HB hw201_2 :)), (World.cell?_alloc_lt _ _ _ (World.block_lt_of_cell? _ _ ((hc HB hw201_3 :)))).trans ((hc HB hw201_3 :)), (World.cell?_alloc_lt _ _ _ (World.block_lt_of_cell? _ _ ((hc HB hw202_0 :)))).trans ((hc HB hw202_0 :)), (World.cell?_alloc_lt _ _ _ (World.block_lt_of_cell? _ _ ((hc HB hw202_1 :)))).trans ((hc HB hw202_1 :)), (World.cell?_alloc_lt _ _ _ (World.block_lt_of_cell? _ _ ((hc HB hw202_2 :)))).trans ((hc HB hw202_2 :)), (World.cell?_alloc_lt _ _ _ (World.block_lt_of_cell? _ _ ((hc HB hw202_3 :)))).trans ((hc HB hw202_3 :))⟩ (fun hHeld => ?_)
        clear hK K
        refine nm 22 ?_
        refine on 12 23 (tb 13 1) (fun K hK => ?_)
        refine Kd.R_append_step k28 (w0 := w) w.heap.size (by rfl) (.tmp 11) (.tmp 22) 64 28 (.agg #[(.int .i64 0), (.int .i64 0)]) 16 rfl Try.underlying64 info28 rfl (by decide) (by omega) u3 x3_1 (⟨t203, t204⟩ : S28) [.int .i64 t203, .int .i64 t204] (fun _ => True) (fun _ => False) rfl rfl ?aP (fun _ hk => hk.elim) ?aF ?aO ?aB ?aS ?aL ?_
        (case aP => exact k28_mkM _ _ _ (⟨t203, t204⟩ : S28))
        (case aB => exact bl)
        (case aF => exact (fun _ _ => trivial))
        (case aO => exact (by (with_reducible repeat (first | apply Kd.R_alloc | apply Kd.R_drewN | apply Kd.R_drew)); exact HO_3.out))
        (case aS => exact (below_size bl))
        (case aL => have := LMc8.out; omega)
        intro v206 w11 ho hb hg hat
        rw [← Ny205.out] at ho
        have HO207 := Aside0.mk (ho)
        replace HB := Aside0.mk (hb)
        clear HO_3
        clear ho hb hg hat
        refine hK.out _ _ ⟨(hc HB hw201_0 :), (hc HB hw201_1 :), (hc HB hw201_2 :), (hc HB hw201_3 :), (hc HB hw202_0 :), (hc HB hw202_1 :), (hc HB hw202_2 :), (hc HB hw202_3 :)⟩ (fun hHeld => ?_)
        clear hK K
        refine nm 23 ?_
        refine pu 13 3 (tb 14 0) ?_
        refine done_ (done_of HT_.out (by kernel_rfl)) ?_
        try go_wp2
        go_roundg k1
        case measure => have := HK1.out; omega
        case rel => exact ⟨(y205), (wrap64 (x4_1 + 1)), rs, H', ⟨by have := HK1.out; omega⟩, ⟨by (with_reducible repeat (first | apply Kd.R_alloc | apply Kd.R_drewN | apply Kd.R_drew)); exact HO207.out⟩, ⟨bl⟩⟩
       ·rw [if_neg c8] at H
        exact absurd H (by simp)
      ·rw [if_neg c6] at H
       exact absurd H (by simp)
     ·rw [if_neg c5] at H
      exact absurd H (by simp)
    ·rw [if_neg c4] at H
     exact absurd H (by simp)
   ·rw [if_neg c2] at H
    have c2b0 : decide (x4_1 < (l0.length : Int)) = false := decide_eq_false c2
    clear c2
    obtain rfl := Option.some.inj H
    go_wp2
    go_ret
    exact ⟨_, rt, by (with_reducible repeat (first | apply Kd.R_alloc | apply Kd.R_drewN | apply Kd.R_drew)); exact HO_3.out, bl⟩

/-! ### spec_woMap: function 79 -/
def spec_woMap.l0 : Nat → List (S28) → Int → Int → Option (Bool)
 | 0, _, _, _ => none
 | k + 1, x9, x10, x11 => if x11 < x10 then (if 0 ≤ x11 then (if x11 < (x9.length : Int) then (if ((rd_T28 x9 x11).f0) = 0 then (some false) else (spec_woMap.l0 k x9 x10 (wrap64 (x11 + 1)))) else (none)) else (none)) else (some true)
def spec_woMap.f (k : Nat) (l0 : List (S68)) : Option (Bool) := (spec_imGood.f k l0).bind fun t208 => (if t208 = true then ((spec_imSlopes.f k l0).bind fun t209 => (spec_woMap.l0 k t209 (t209.length : Int) 0)) else (some false))
set_option maxHeartbeats 8000000 in
set_option maxRecDepth 100000 in
theorem spec_woMap.calls (k : Nat) (A0 : Option Addr) (c0 : Nat) (l0 : List (S68)) (r : Bool) (w : World) (hr0 : Kd.C k68 w A0 l0.length l0) (hc0 : l0.length ≤ c0) (h : spec_woMap.f k l0 = some r) :
  Calls Try.prog 79 #[.slice A0 l0.length c0] w fun e w' => e = .returned (.bool r) ∧ Below w.heap.size w w' := by
 have hu28 := Try.underlying28
 have HR0 := Aside0.mk hr0
 have HC0 := Aside0.mk hc0
 clear hr0 hc0
 have HB := Aside0.mk (Below.refl w.heap.size w)
 have H : ((spec_imGood.f k l0).bind fun t208 => (if t208 = true then ((spec_imSlopes.f k l0).bind fun t209 => (spec_woMap.l0 k t209 (t209.length : Int) 0)) else (some false))) = some r := h
 clear h
 replace H := Option.bind_eq_some_iff.mp H
 obtain ⟨t208, A20, H⟩ := H
 replace H : (if t208 = true then ((spec_imSlopes.f k l0).bind fun t209 => (spec_woMap.l0 k t209 (t209.length : Int) 0)) else (some false)) = some r := H
 have A2 := Aside0.mk A20
 clear A20
 by_cases c3 : t208 = true
 ·subst c3
  have H1 : ((spec_imSlopes.f k l0).bind fun t209 => (spec_woMap.l0 k t209 (t209.length : Int) 0)) = some r := by rw [if_pos rfl] at H; exact H
  clear H
  have H := H1
  clear H1
  replace H := Option.bind_eq_some_iff.mp H
  obtain ⟨t209, A40, H⟩ := H
  replace H : (spec_woMap.l0 k t209 (t209.length : Int) 0) = some r := H
  have A4 := Aside0.mk A40
  clear A40
  have H' := Aside0.mk H
  clear H
  go_enter Try.func79, Try.ntmps79
  go_wp2_with (first | ((with_reducible refine gate_callee (f := 42) rfl ?_); refine gl 6 Try.func42 #[.slice A0 l0.length c0] ?_; (with_reducible refine (spec_imGood.calls k _ _ l0 true _ ?side1 ?side2 A2.out).mono ?_); (case side1 => repeat (first | exact HR0.out | (with_reducible refine Kd.C_alloc ?_ _) | (with_reducible refine Kd.C_drewN ?_ _) | (with_reducible refine Kd.C_drew ?_))); (case side2 => exact HC0.out); rintro e w5 ⟨rfl, hb⟩; refine ⟨_, rfl, ?_⟩; replace HB := kh hb; (try clear hb); (try clear hb2); (try clear hk); (try clear hi)) | ((with_reducible refine gate_callee (f := 44) rfl ?_); refine gl 9 Try.func44 #[.slice A0 l0.length c0] ?_; (with_reducible refine (spec_imSlopes.calls k _ _ l0 t209 _ ?side1 ?side2 A4.out).mono ?_); (case side1 => repeat (first | exact (Kd.C_below HR0.out HB.out) | (with_reducible refine Kd.C_alloc ?_ _) | (with_reducible refine Kd.C_drewN ?_ _) | (with_reducible refine Kd.C_drew ?_))); (case side2 => exact HC0.out); rintro e w6 ⟨v210, rfl, ho0, hb⟩; refine ⟨_, rfl, ?_⟩; have HO211 := Aside0.mk (Kd.R_lower ho0 (below_size bl)); replace HB := kh hb; (try clear hb); (try clear hb2); (try clear hk); (try clear hi); (try clear ho0); obtain ⟨Ao7, co7, eo7⟩ := Kd.R_slice HO211.out; subst eo7))
  go_loopg [11] k (fun kq v11 w' => ∃ (x11_1 : Int), v11 = .int .i64 x11_1 ∧ Aside0 (spec_woMap.l0 kq t209 (t209.length : Int) x11_1 = some r) ∧ Aside0 (kq ≤ k) ∧ Aside0 (Kd.R k28 28 w' w.heap.size (fun _ => True) (.slice Ao7 t209.length co7) t209) ∧ Aside0 (Below w.heap.size w w'))
  case atStart => exact ⟨(0), rs, H', ⟨Nat.le_refl _⟩, ⟨by (with_reducible repeat (first | apply Kd.R_alloc | apply Kd.R_drewN | apply Kd.R_drew)); exact HO211.out⟩, ⟨bl⟩⟩
  case round =>
   clear H'
   try clear p2
   try clear c3
   try clear c4
   try clear c7
   obtain ⟨x11_1, rfl, HA, HK1, HO_9, HB⟩ := hrel
   cases gk with
   | zero => exact absurd HA.out (by simp [spec_woMap.l0])
   | succ k1 =>
    have H := HA.out
    clear HA
    simp only [spec_woMap.l0] at H
    by_cases c8 : x11_1 < (t209.length : Int)
    ·rw [if_pos c8] at H
     have c8b0 : decide (x11_1 < (t209.length : Int)) = true := decide_eq_true c8
     clear c8
     by_cases c9 : 0 ≤ x11_1
     ·rw [if_pos c9] at H
      have c9b0 : decide (0 ≤ x11_1) = true := decide_eq_true c9
      clear c9
      by_cases c10 : x11_1 < (t209.length : Int)
      ·rw [if_pos c10] at H
       have c10b0 : decide (x11_1 < (t209.length : Int)) = true := decide_eq_true c10
       clear c10
       by_cases c11 : ((rd_T28 t209 x11_1).f0) = 0
       ·rw [if_pos c11] at H
        have c11b0 : (((rd_T28 t209 x11_1).f0) == 0) = true := beq_iff_eq.mpr c11
        have c11b1 : (((rd_T28 t209 x11_1).f0) != 0) = false := bne_eq_false_iff_eq.mpr c11
        clear c11
        obtain rfl := Option.some.inj H
        have p212 : 0 ≤ (x11_1 : Int) := da
        have q212 : x11_1 < (t209.length : Int) := da
        obtain ⟨ad212, e212, hx212_0, hx212_1⟩ := at_T28 (Kd.R_reads' HO_9.out).2.2 x11_1 p212 q212
        cases e212
        replace p212 := eq_true p212
        replace q212 := eq_true q212
        go_wp2_with (first | ((with_reducible refine gate_dst (N := 4) rfl ?_); refine bx 4 #[.int .i64 0, .int .i64 0] 28 ?_; intro gb213 hg w12 hbox hb; have BK213 := Aside0.mk (hbox); have GW213 := Aside0.mk (bz hg); have GE213 := GW213; replace HO_9 := Aside0.mk (Kd.R_below (Kd.R_elderB (by (with_reducible repeat (first | apply Kd.R_alloc | apply Kd.R_drewN | apply Kd.R_drew)); exact HO_9.out) gb213 (Nat.le_of_eq hg.symm)) hb); replace HB := kh hb; clear hb hbox hg; obtain ⟨hcz13_0, hcz13_1, hfz13_0, hfz13_1⟩ := b2 BK213))
        go_ret
        exact ⟨rt, bl⟩
       ·rw [if_neg c11] at H
        have c11b0 : (((rd_T28 t209 x11_1).f0) == 0) = false := beq_eq_false_iff_ne.mpr c11
        have c11b1 : (((rd_T28 t209 x11_1).f0) != 0) = true := bne_iff_ne.mpr c11
        have H' := Aside0.mk H
        clear H
        have p212 : 0 ≤ (x11_1 : Int) := da
        have q212 : x11_1 < (t209.length : Int) := da
        obtain ⟨ad212, e212, hx212_0, hx212_1⟩ := at_T28 (Kd.R_reads' HO_9.out).2.2 x11_1 p212 q212
        cases e212
        replace p212 := eq_true p212
        replace q212 := eq_true q212
        go_wp2_with (first | ((with_reducible refine gate_dst (N := 4) rfl ?_); refine bx 4 #[.int .i64 0, .int .i64 0] 28 ?_; intro gb213 hg w14 hbox hb; have BK213 := Aside0.mk (hbox); have GW213 := Aside0.mk (bz hg); have GE213 := GW213; replace HO_9 := Aside0.mk (Kd.R_below (Kd.R_elderB (by (with_reducible repeat (first | apply Kd.R_alloc | apply Kd.R_drewN | apply Kd.R_drew)); exact HO_9.out) gb213 (Nat.le_of_eq hg.symm)) hb); replace HB := kh hb; clear hb hbox hg; obtain ⟨hcz15_0, hcz15_1, hfz15_0, hfz15_1⟩ := b2 BK213))
        go_roundg k1
        case measure => have := HK1.out; omega
        case rel => exact ⟨(wrap64 (x11_1 + 1)), rs, H', ⟨by have := HK1.out; omega⟩, ⟨by (with_reducible repeat (first | apply Kd.R_alloc | apply Kd.R_drewN | apply Kd.R_drew)); exact Kd.R_mono (Kd.R_far (p := ⟨gb213, 1, none⟩) (Kd.R_far (p := ⟨gb213, 0, none⟩) (Kd.R_mono HO_9.out (fun k_ hk => (⟨hk, hk.2⟩ : _ ∧ k_ ≠ gb213))) (fun _ hk => hk.2) (.int .i64 ((rd_T28 t209 x11_1).f0))) (fun _ hk => hk.2) (.int .i64 ((rd_T28 t209 x11_1).f1))) (fun _ hk => trivial)⟩, ⟨bl⟩⟩
      ·rw [if_neg c10] at H
       exact absurd H (by simp)
     ·rw [if_neg c9] at H
      exact absurd H (by simp)
    ·rw [if_neg c8] at H
     have c8b0 : decide (x11_1 < (t209.length : Int)) = false := decide_eq_false c8
     clear c8
     obtain rfl := Option.some.inj H
     go_wp2
     go_ret
     exact ⟨rt, bl⟩
 ·replace c3 := Bool.eq_false_iff.mpr c3
  subst c3
  have H1 : (some false) = some r := by rw [if_neg (show ¬ (false = true) by decide)] at H; exact H
  clear H
  have H := H1
  clear H1
  obtain rfl := Option.some.inj H
  go_enter Try.func79, Try.ntmps79
  go_wp2_with (first | ((with_reducible refine gate_callee (f := 42) rfl ?_); refine gl 6 Try.func42 #[.slice A0 l0.length c0] ?_; (with_reducible refine (spec_imGood.calls k _ _ l0 false _ ?side1 ?side2 A2.out).mono ?_); (case side1 => repeat (first | exact HR0.out | (with_reducible refine Kd.C_alloc ?_ _) | (with_reducible refine Kd.C_drewN ?_ _) | (with_reducible refine Kd.C_drew ?_))); (case side2 => exact HC0.out); rintro e w16 ⟨rfl, hb⟩; refine ⟨_, rfl, ?_⟩; replace HB := kh hb; (try clear hb); (try clear hb2); (try clear hk); (try clear hi)))
  go_ret
  exact ⟨rt, bl⟩

/-! ### spec_l1All: function 99 -/
def spec_l1All.l0 : Nat → Int → Int → List Int → Int → Int → Option (Bool)
 | 0, _, _, _, _, _ => none
 | k + 1, x1, x2, x9, x10, x11 => if x11 < x10 then (if 0 ≤ x11 then (if x11 < (x9.length : Int) then ((spec_l1In.f (rd x9 x11) x1 x2).bind fun t215 => (if t215 = true then (spec_l1All.l0 k x1 x2 x9 x10 (wrap64 (x11 + 1))) else (some false))) else (none)) else (none)) else (some true)
def spec_l1All.f (k : Nat) (l0 : List Int) (a1 : Int) (a2 : Int) : Option (Bool) := spec_l1All.l0 k a1 a2 l0 (l0.length : Int) 0
set_option maxHeartbeats 8000000 in
set_option maxRecDepth 100000 in
theorem spec_l1All.calls (k : Nat) (A0 : Option Addr) (c0 : Nat) (l0 : List Int) (a1 : Int) (a2 : Int) (r : Bool) (w : World) (hr0 : Kd.C (Kd.int .i64) w A0 l0.length l0) (hc0 : l0.length ≤ c0) (h : spec_l1All.f k l0 a1 a2 = some r) :
  Calls Try.prog 99 #[.slice A0 l0.length c0, .int .i64 a1, .int .i64 a2] w fun e w' => e = .returned (.bool r) ∧ Drawn0 w w' := by
 have HR0 := Aside0.mk hr0
 have HC0 := Aside0.mk hc0
 clear hr0 hc0
 have H : (spec_l1All.l0 k a1 a2 l0 (l0.length : Int) 0) = some r := h
 clear h
 have H' := Aside0.mk H
 clear H
 go_enter Try.func99, Try.ntmps99
 go_wp2
 go_loopg [11] k (fun kq v11 w' => ∃ (x11_1 : Int), v11 = .int .i64 x11_1 ∧ Aside0 (spec_l1All.l0 kq a1 a2 l0 (l0.length : Int) x11_1 = some r) ∧ Aside0 (kq ≤ k) ∧ Drawn0 w w')
 case atStart => exact ⟨(0), rs, H', ⟨Nat.le_refl _⟩, by repeat (first | exact Drawn0.refl _ | apply Drawn0.step)⟩
 case round =>
  clear H'
  try clear p2
  obtain ⟨x11_1, rfl, HA, HK1, ⟨m1, rfl⟩⟩ := hrel
  cases gk with
  | zero => exact absurd HA.out (by simp [spec_l1All.l0])
  | succ k1 =>
   have H := HA.out
   clear HA
   simp only [spec_l1All.l0] at H
   by_cases c4 : x11_1 < (l0.length : Int)
   ·rw [if_pos c4] at H
    have c4b0 : decide (x11_1 < (l0.length : Int)) = true := decide_eq_true c4
    clear c4
    by_cases c5 : 0 ≤ x11_1
    ·rw [if_pos c5] at H
     have c5b0 : decide (0 ≤ x11_1) = true := decide_eq_true c5
     clear c5
     by_cases c6 : x11_1 < (l0.length : Int)
     ·rw [if_pos c6] at H
      have c6b0 : decide (x11_1 < (l0.length : Int)) = true := decide_eq_true c6
      clear c6
      replace H := Option.bind_eq_some_iff.mp H
      obtain ⟨t215, A70, H⟩ := H
      replace H : (if t215 = true then (spec_l1All.l0 k1 a1 a2 l0 (l0.length : Int) (wrap64 (x11_1 + 1))) else (some false)) = some r := H
      have A7 := Aside0.mk A70
      clear A70
      by_cases c8 : t215 = true
      ·subst c8
       have H1 : (spec_l1All.l0 k1 a1 a2 l0 (l0.length : Int) (wrap64 (x11_1 + 1))) = some r := by rw [if_pos rfl] at H; exact H
       clear H
       have H := H1
       clear H1
       have H' := Aside0.mk H
       clear H
       have p214 : 0 ≤ (x11_1 : Int) := da
       have q214 : x11_1 < (l0.length : Int) := da
       obtain ⟨ad214, e214, hx214_0⟩ := Kd.at_int HR0.out x11_1 p214 q214
       cases e214
       replace p214 := eq_true p214
       replace q214 := eq_true q214
       go_wp2_with (first | ((with_reducible refine gate_callee (f := 68) rfl ?_); refine gl 18 Try.func68 #[.int .i64 (rd l0 x11_1), .int .i64 a1, .int .i64 a2] ?_; (with_reducible refine (spec_l1In.calls (rd l0 x11_1) a1 a2 true _ A7.out).mono ?_); rintro e w' ⟨rfl, ⟨nd, rfl⟩⟩; refine ⟨_, rfl, ?_⟩))
       go_roundg k1
       case measure => have := HK1.out; omega
       case rel => exact ⟨(wrap64 (x11_1 + 1)), rs, H', ⟨by have := HK1.out; omega⟩, by repeat (first | exact Drawn0.refl _ | apply Drawn0.step)⟩
      ·replace c8 := Bool.eq_false_iff.mpr c8
       subst c8
       have H1 : (some false) = some r := by rw [if_neg (show ¬ (false = true) by decide)] at H; exact H
       clear H
       have H := H1
       clear H1
       obtain rfl := Option.some.inj H
       have p214 : 0 ≤ (x11_1 : Int) := da
       have q214 : x11_1 < (l0.length : Int) := da
       obtain ⟨ad214, e214, hx214_0⟩ := Kd.at_int HR0.out x11_1 p214 q214
       cases e214
       replace p214 := eq_true p214
       replace q214 := eq_true q214
       go_wp2_with (first | ((with_reducible refine gate_callee (f := 68) rfl ?_); refine gl 18 Try.func68 #[.int .i64 (rd l0 x11_1), .int .i64 a1, .int .i64 a2] ?_; (with_reducible refine (spec_l1In.calls (rd l0 x11_1) a1 a2 false _ A7.out).mono ?_); rintro e w' ⟨rfl, ⟨nd, rfl⟩⟩; refine ⟨_, rfl, ?_⟩))
       go_ret
       exact ⟨rs, by repeat (first | exact Drawn0.refl _ | apply Drawn0.step)⟩
     ·rw [if_neg c6] at H
      exact absurd H (by simp)
    ·rw [if_neg c5] at H
     exact absurd H (by simp)
   ·rw [if_neg c4] at H
    have c4b0 : decide (x11_1 < (l0.length : Int)) = false := decide_eq_false c4
    clear c4
    obtain rfl := Option.some.inj H
    go_wp2
    go_ret
    exact ⟨rs, by repeat (first | exact Drawn0.refl _ | apply Drawn0.step)⟩

/-! ### spec_imLaps: function 108 -/
def spec_imLaps.l0 : Nat → List (List Int) → List (S28) → Int → Int → Option ((List (List Int)))
 | 0, _, _, _, _ => none
 | k + 1, x3, x9, x10, x11 => if x11 < x10 then (if 0 ≤ x11 then (if x11 < (x9.length : Int) then ((spec_l1Sign.f ((rd_T28 x9 x11).f0)).bind fun t221 => (if (x3.length : Int) > 0 then (if 0 ≤ (wrap64 ((x3.length : Int) - 1)) then (if (wrap64 ((x3.length : Int) - 1)) < (x3.length : Int) then (if 2 < ((rd_L5 x3 (wrap64 ((x3.length : Int) - 1))).length : Int) then (if (rd (rd_L5 x3 (wrap64 ((x3.length : Int) - 1))) 2) = t221 then (if 1 < ((rd_L5 x3 (wrap64 ((x3.length : Int) - 1))).length : Int) then (spec_imLaps.l0 k (x3.set ((wrap64 ((x3.length : Int) - 1)) : Int).toNat ((rd_L5 x3 (wrap64 ((x3.length : Int) - 1))).set (1 : Int).toNat (wrap64 (x11 + 1)))) x9 x10 (wrap64 (x11 + 1))) else (none)) else (if x3.length < 5864062014805 then (spec_imLaps.l0 k (x3 ++ [(([x11, wrap64 (x11 + 1), t221] : List Int))]) x9 x10 (wrap64 (x11 + 1))) else (none))) else (none)) else (none)) else (none)) else (if x3.length < 5864062014805 then (spec_imLaps.l0 k (x3 ++ [(([x11, wrap64 (x11 + 1), t221] : List Int))]) x9 x10 (wrap64 (x11 + 1))) else (none)))) else (none)) else (none)) else (some x3)
def spec_imLaps.f (k : Nat) (l0 : List (S68)) : Option ((List (List Int))) := (spec_imSlopes.f k l0).bind fun t216 => (spec_imLaps.l0 k ([] : List (List Int)) t216 (t216.length : Int) 0)
set_option maxHeartbeats 8000000 in
set_option maxRecDepth 100000 in
theorem spec_imLaps.calls (k : Nat) (A0 : Option Addr) (c0 : Nat) (l0 : List (S68)) (r : List (List Int)) (w : World) (hr0 : Kd.C k68 w A0 l0.length l0) (hc0 : l0.length ≤ c0) (h : spec_imLaps.f k l0 = some r) :
  Calls Try.prog 108 #[.slice A0 l0.length c0] w fun e w' => ∃ v0_ : Value, e = .returned (v0_) ∧ Kd.S (Kd.slice 3 (Kd.int .i64)) 39 w' w.heap.size (fun _ => True) v0_ r ∧ Below w.heap.size w w' := by
 have hu28 := Try.underlying28
 have HR0 := Aside0.mk hr0
 have HC0 := Aside0.mk hc0
 clear hr0 hc0
 have HB := Aside0.mk (Below.refl w.heap.size w)
 have H : ((spec_imSlopes.f k l0).bind fun t216 => (spec_imLaps.l0 k ([] : List (List Int)) t216 (t216.length : Int) 0)) = some r := h
 clear h
 replace H := Option.bind_eq_some_iff.mp H
 obtain ⟨t216, A20, H⟩ := H
 replace H : (spec_imLaps.l0 k ([] : List (List Int)) t216 (t216.length : Int) 0) = some r := H
 have A2 := Aside0.mk A20
 clear A20
 have H' := Aside0.mk H
 clear H
 go_enter Try.func108, Try.ntmps108
 go_wp2_with (first | ((with_reducible refine gate_callee (f := 44) rfl ?_); refine gl 9 Try.func44 #[.slice A0 l0.length c0] ?_; (with_reducible refine (spec_imSlopes.calls k _ _ l0 t216 _ ?side1 ?side2 A2.out).mono ?_); (case side1 => repeat (first | exact HR0.out | (with_reducible refine Kd.C_alloc ?_ _) | (with_reducible refine Kd.C_drewN ?_ _) | (with_reducible refine Kd.C_drew ?_))); (case side2 => exact HC0.out); rintro e w3 ⟨v217, rfl, ho0, hb⟩; refine ⟨_, rfl, ?_⟩; have HO218 := Aside0.mk (Kd.R_lower ho0 (below_size bl)); replace HB := kh hb; (try clear hb); (try clear hb2); (try clear hk); (try clear hi); (try clear ho0); obtain ⟨Ao4, co4, eo4⟩ := Kd.R_slice HO218.out; subst eo4))
 go_loopg [3, 11] k (fun kq v3 v11 w' => ∃ (x3_1 : List (List Int)) (x11_1 : Int), v11 = .int .i64 x11_1 ∧ Aside0 (spec_imLaps.l0 kq x3_1 t216 (t216.length : Int) x11_1 = some r) ∧ Aside0 (kq ≤ k) ∧ Aside0 (Kd.S (Kd.slice 3 (Kd.int .i64)) 39 w' w.heap.size (fun _ => True) v3 x3_1) ∧ Aside0 (Kd.R k28 28 w' w.heap.size (fun _ => True) (.slice Ao4 t216.length co4) t216) ∧ Aside0 (Below w.heap.size w w'))
 case atStart => exact ⟨(([] : List (List Int))), (0), rs, H', ⟨Nat.le_refl _⟩, ⟨by first | exact Kd.S_nil _ _ _ _ _ | exact Kd.N_nil _ _ _ _ _ | exact Kd.V_nil _ _ _ _ _ | exact Kd.Q_nil _ _ _ _ _ | exact Kd.R_nil _ _ _ _ _⟩, ⟨by (with_reducible repeat (first | apply Kd.R_alloc | apply Kd.R_drewN | apply Kd.R_drew)); exact HO218.out⟩, ⟨bl⟩⟩
 case round =>
  clear H'
  try clear c1
  try clear p2
  try clear c4
  obtain ⟨x3_1, x11_1, rfl, HA, HK1, HO_3, HO_9, HB⟩ := hrel
  cases gk with
  | zero => exact absurd HA.out (by simp [spec_imLaps.l0])
  | succ k1 =>
   have H := HA.out
   clear HA
   simp only [spec_imLaps.l0] at H
   by_cases c5 : x11_1 < (t216.length : Int)
   ·rw [if_pos c5] at H
    have c5b0 : decide (x11_1 < (t216.length : Int)) = true := decide_eq_true c5
    clear c5
    by_cases c6 : 0 ≤ x11_1
    ·rw [if_pos c6] at H
     have c6b0 : decide (0 ≤ x11_1) = true := decide_eq_true c6
     clear c6
     by_cases c7 : x11_1 < (t216.length : Int)
     ·rw [if_pos c7] at H
      have c7b0 : decide (x11_1 < (t216.length : Int)) = true := decide_eq_true c7
      clear c7
      replace H := Option.bind_eq_some_iff.mp H
      obtain ⟨t221, A80, H⟩ := H
      replace H : (if (x3_1.length : Int) > 0 then (if 0 ≤ (wrap64 ((x3_1.length : Int) - 1)) then (if (wrap64 ((x3_1.length : Int) - 1)) < (x3_1.length : Int) then (if 2 < ((rd_L5 x3_1 (wrap64 ((x3_1.length : Int) - 1))).length : Int) then (if (rd (rd_L5 x3_1 (wrap64 ((x3_1.length : Int) - 1))) 2) = t221 then (if 1 < ((rd_L5 x3_1 (wrap64 ((x3_1.length : Int) - 1))).length : Int) then (spec_imLaps.l0 k1 (x3_1.set ((wrap64 ((x3_1.length : Int) - 1)) : Int).toNat ((rd_L5 x3_1 (wrap64 ((x3_1.length : Int) - 1))).set (1 : Int).toNat (wrap64 (x11_1 + 1)))) t216 (t216.length : Int) (wrap64 (x11_1 + 1))) else (none)) else (if x3_1.length < 5864062014805 then (spec_imLaps.l0 k1 (x3_1 ++ [(([x11_1, wrap64 (x11_1 + 1), t221] : List Int))]) t216 (t216.length : Int) (wrap64 (x11_1 + 1))) else (none))) else (none)) else (none)) else (none)) else (if x3_1.length < 5864062014805 then (spec_imLaps.l0 k1 (x3_1 ++ [(([x11_1, wrap64 (x11_1 + 1), t221] : List Int))]) t216 (t216.length : Int) (wrap64 (x11_1 + 1))) else (none))) = some r := H
      have A8 := Aside0.mk A80
      clear A80
      by_cases c9 : (x3_1.length : Int) > 0
      ·rw [if_pos c9] at H
       have c9b0 : decide (0 < (x3_1.length : Int)) = true := decide_eq_true c9
       have c9b1 : decide (0 < x3_1.length) = true := decide_eq_true (by omega)
       clear c9
       obtain ⟨ji10, hji10⟩ : ∃ j_ : Int, (wrap64 ((x3_1.length : Int) - 1)) = j_ := ⟨_, rfl⟩
       replace H : (if 0 ≤ (ji10) then (if (ji10) < (x3_1.length : Int) then (if 2 < ((rd_L5 x3_1 (ji10)).length : Int) then (if (rd (rd_L5 x3_1 (ji10)) 2) = t221 then (if 1 < ((rd_L5 x3_1 (ji10)).length : Int) then (spec_imLaps.l0 k1 (x3_1.set ((ji10) : Int).toNat ((rd_L5 x3_1 (ji10)).set (1 : Int).toNat (wrap64 (x11_1 + 1)))) t216 (t216.length : Int) (wrap64 (x11_1 + 1))) else (none)) else (if x3_1.length < 5864062014805 then (spec_imLaps.l0 k1 (x3_1 ++ [(([x11_1, wrap64 (x11_1 + 1), t221] : List Int))]) t216 (t216.length : Int) (wrap64 (x11_1 + 1))) else (none))) else (none)) else (none)) else (none)) = some r := by first | (rw [hji10] at H; exact H) | (simp only [hji10] at H ⊢; exact H)
       (try rw [hji10] at A8)
       have hji10w : (IntKind.i64.wrap ((x3_1.length : Int) - 1)) = ji10 := (i64_w _).trans hji10
       by_cases c11 : 0 ≤ (ji10)
       ·rw [if_pos c11] at H
        have c11b0 : decide (0 ≤ (ji10)) = true := decide_eq_true c11
        clear c11
        by_cases c12 : (ji10) < (x3_1.length : Int)
        ·rw [if_pos c12] at H
         have c12b0 : decide ((ji10) < (x3_1.length : Int)) = true := decide_eq_true c12
         clear c12
         by_cases c13 : 2 < ((rd_L5 x3_1 (ji10)).length : Int)
         ·rw [if_pos c13] at H
          have c13b0 : decide (2 < ((rd_L5 x3_1 (ji10)).length : Int)) = true := decide_eq_true c13
          have c13b1 : decide (2 < (rd_L5 x3_1 (ji10)).length) = true := decide_eq_true (by omega)
          clear c13
          by_cases c14 : (rd (rd_L5 x3_1 (ji10)) 2) = t221
          ·rw [if_pos c14] at H
           have c14b0 : ((rd (rd_L5 x3_1 (ji10)) 2) == t221) = true := beq_iff_eq.mpr c14
           have c14b1 : ((rd (rd_L5 x3_1 (ji10)) 2) != t221) = false := bne_eq_false_iff_eq.mpr c14
           clear c14
           by_cases c15 : 1 < ((rd_L5 x3_1 (ji10)).length : Int)
           ·rw [if_pos c15] at H
            have c15b0 : decide (1 < ((rd_L5 x3_1 (ji10)).length : Int)) = true := decide_eq_true c15
            have c15b1 : decide (1 < (rd_L5 x3_1 (ji10)).length) = true := decide_eq_true (by omega)
            clear c15
            obtain ⟨y225, hy225⟩ : ∃ y_ : List Int, y_ = ((rd_L5 x3_1 (ji10)).set (1 : Int).toNat (wrap64 (x11_1 + 1))) := ⟨_, rfl⟩
            replace H : (spec_imLaps.l0 k1 (x3_1.set ((ji10) : Int).toNat y225) t216 (t216.length : Int) (wrap64 (x11_1 + 1))) = some r := by first | (rw [hy225]; with_reducible exact H) | (have H2_ := (Option.bind_some _ _).symm.trans H; rw [hy225]; with_reducible exact H2_) | (have H2_ := (Option.bind_some _ _).symm.trans H; with_reducible exact H2_) | with_reducible exact H | (rw [hy225]; exact H) | exact H
            have Ny225 := Aside0.mk hy225
            clear hy225
            obtain ⟨y227, hy227⟩ : ∃ y_ : List (List Int), y_ = (x3_1.set ((ji10) : Int).toNat y225) := ⟨_, rfl⟩
            replace H : (spec_imLaps.l0 k1 y227 t216 (t216.length : Int) (wrap64 (x11_1 + 1))) = some r := by first | (rw [hy227]; with_reducible exact H) | (have H2_ := (Option.bind_some _ _).symm.trans H; rw [hy227]; with_reducible exact H2_) | (have H2_ := (Option.bind_some _ _).symm.trans H; with_reducible exact H2_) | with_reducible exact H | (rw [hy227]; exact H) | exact H
            have Ny227 := Aside0.mk hy227
            clear hy227
            have H' := Aside0.mk H
            clear H
            have p219 : 0 ≤ (x11_1 : Int) := da
            have q219 : x11_1 < (t216.length : Int) := da
            obtain ⟨ad219, e219, hx219_0, hx219_1⟩ := at_T28 (Kd.R_reads' HO_9.out).2.2 x11_1 p219 q219
            cases e219
            replace p219 := eq_true p219
            replace q219 := eq_true q219
            go_wp2_with (first | ((with_reducible refine gate_dst (N := 5) rfl ?_); refine bx 5 #[.int .i64 0, .int .i64 0] 28 ?_; intro gb220 hg w17 hbox hb; have BK220 := Aside0.mk (hbox); have GW220 := Aside0.mk (bz hg); have GE220 := GW220; replace HO_3 := Aside0.mk (Kd.S_below (by (with_reducible repeat (first | apply Kd.S_alloc | apply Kd.S_drewN | apply Kd.S_drew)); exact HO_3.out) hb); replace HO_9 := Aside0.mk (Kd.R_below (Kd.R_elderB (by (with_reducible repeat (first | apply Kd.R_alloc | apply Kd.R_drewN | apply Kd.R_drew)); exact HO_9.out) gb220 (Nat.le_of_eq hg.symm)) hb); replace HB := kh hb; clear hb hbox hg; obtain ⟨hcz18_0, hcz18_1, hfz18_0, hfz18_1⟩ := b2 BK220) | ((with_reducible refine gate_store (t := 28) (p := 5) rfl ?_); refine store_event (t := 28) (p := 5) (v := ?vo_w19) (w1 := ((w17.setCell ⟨gb220, 0, none⟩ (.int .i64 ((rd_T28 t216 x11_1).f0))).setCell ⟨gb220, 1, none⟩ (.int .i64 ((rd_T28 t216 x11_1).f1)))) ?hg ?ho ?hn ?hr ?_; (case ho => rfl); (case hg => rfl); (case hn => rfl); (case hr => first | (go_simp; done) | (go_simp; rfl)); intro w19 hw; have n0_ : Aside0 (Kd.S (Kd.slice 3 (Kd.int .i64)) 39 w19 w.heap.size (fun _ => True) u3 x3_1) := ⟨(by rw [hw]; exact (by (with_reducible repeat (first | apply Kd.S_alloc | apply Kd.S_drewN | apply Kd.S_drew)); exact Kd.S_mono (Kd.S_far (p := ⟨gb220, 1, none⟩) (Kd.S_far (p := ⟨gb220, 0, none⟩) (Kd.S_types HO_3.out BK220.out (by decide)) (fun _ hk => hk.2) (.int .i64 ((rd_T28 t216 x11_1).f0))) (fun _ hk => hk.2) (.int .i64 ((rd_T28 t216 x11_1).f1))) (fun _ hk => trivial)))⟩; have n1_ : Aside0 (Kd.R k28 28 w19 w.heap.size (fun k_ => k_ ≠ gb220) (.slice (some ad219) t216.length co4) t216) := ⟨(by rw [hw]; exact (by (with_reducible repeat (first | apply Kd.R_alloc | apply Kd.R_drewN | apply Kd.R_drew)); exact Kd.R_mono (Kd.R_far (p := ⟨gb220, 1, none⟩) (Kd.R_far (p := ⟨gb220, 0, none⟩) (Kd.R_mono HO_9.out (fun k_ hk => (⟨hk, hk.2⟩ : _ ∧ k_ ≠ gb220))) (fun _ hk => hk.2) (.int .i64 ((rd_T28 t216 x11_1).f0))) (fun _ hk => hk.2) (.int .i64 ((rd_T28 t216 x11_1).f1))) (fun _ hk => hk.1.2)))⟩; have n2_ : Aside0 (w19.heap[gb220]? = some (.cells #[.int .i64 ((rd_T28 t216 x11_1).f0), .int .i64 ((rd_T28 t216 x11_1).f1)] 28 (0, 0))) := ⟨(by rw [hw]; exact (by (with_reducible repeat (first | refine blk_drewN ?_ _ | refine blk_drew ?_ | refine blk_alloc ?_ _)); refine blk_put (cs := #[.int .i64 ((rd_T28 t216 x11_1).f0), .int .i64 0]) ?_ 1 _ rfl; (with_reducible repeat (first | refine blk_drewN ?_ _ | refine blk_drew ?_ | refine blk_alloc ?_ _)); refine blk_put (cs := #[.int .i64 0, .int .i64 0]) ?_ 0 _ rfl; (with_reducible repeat (first | refine blk_drewN ?_ _ | refine blk_drew ?_ | refine blk_alloc ?_ _)); exact BK220.out))⟩; have n3_ : Aside0 (Below w.heap.size w w19) := ⟨(by rw [hw]; exact bl)⟩; clear hw; clear HO_3; clear HO_9; clear BK220; clear HB; have HO_3 := n0_; have HO_9 := n1_; have BK220 := n2_; have HB := n3_; clear n0_ n1_ n2_ n3_; obtain ⟨hcz20_0, hcz20_1, hfz20_0, hfz20_1⟩ := b2 BK220) | ((with_reducible refine gate_callee (f := 85) rfl ?_); refine gl 18 Try.func85 #[.int .i64 ((rd_T28 t216 x11_1).f0)] ?_; (with_reducible refine (spec_l1Sign.calls ((rd_T28 t216 x11_1).f0) t221 _ A8.out).mono ?_); rintro e w' ⟨rfl, ⟨nd, rfl⟩⟩; refine ⟨_, rfl, ?_⟩; (try (rw [drewN_self w19]; generalize hq_ : World.drewN w19 _ = w19; have n0_ : Aside0 (Kd.S (Kd.slice 3 (Kd.int .i64)) 39 w19 w.heap.size (fun _ => True) u3 x3_1) := ⟨by rw [← hq_]; exact (by (with_reducible repeat (first | apply Kd.S_alloc | apply Kd.S_drewN | apply Kd.S_drew)); exact HO_3.out)⟩; have n1_ : Aside0 (Kd.R k28 28 w19 w.heap.size (fun k_ => k_ ≠ gb220) (.slice (some ad219) t216.length co4) t216) := ⟨by rw [← hq_]; exact (by (with_reducible repeat (first | apply Kd.R_alloc | apply Kd.R_drewN | apply Kd.R_drew)); exact HO_9.out)⟩; have n2_ : Aside0 (w19.heap[gb220]? = some (.cells #[.int .i64 ((rd_T28 t216 x11_1).f0), .int .i64 ((rd_T28 t216 x11_1).f1)] 28 (0, 0))) := ⟨by rw [← hq_]; exact (bo gb220)⟩; have n3_ : Aside0 (Below w.heap.size w w19) := ⟨by rw [← hq_]; exact bl⟩; clear HO_3 HO_9 BK220 HB hq_; have HO_3 := n0_; have HO_9 := n1_; have BK220 := n2_; have HB := n3_; clear n0_ n1_ n2_ n3_)); obtain ⟨Ao21, co21, eo21⟩ := Kd.S_slice HO_3.out; subst eo21; have p222 : 0 ≤ ((ji10) : Int) := da; have q222 : (ji10) < (x3_1.length : Int) := da; obtain ⟨ad222, A222_0, c222_0, e222, hx222_0, hl222_0, hi222_0⟩ := at_L5 (Kd.S_reads' HO_3.out).2.2 (ji10) p222 q222; cases e222; obtain ⟨ce222, hce222, hMe222, hcc222⟩ := Kd.S_get HO_3.out [] (ji10) p222 (by first | exact q222 | exact da | (have e_ := (Kd.S_reads' HO_3.out).1; omega)); obtain ⟨ve222_0, rfl, ge222_0⟩ := hMe222; have hv222_0 := hcc222 0 _ rfl; rw [Nat.add_zero, show ((Kd.slice 3 (Kd.int .i64))).sz = 1 from rfl, Nat.mul_one] at hv222_0; replace hv222_0 := Option.some.inj (hv222_0.symm.trans hx222_0); rw [hv222_0] at ge222_0; have HL222_0 := Aside0.mk (show Kd.R (Kd.int .i64) 3 _ _ _ _ (rd_L5 x3_1 (ji10)) from ge222_0); clear hv222_0 ge222_0; have HX222_0 := Aside0.mk hx222_0; clear hcc222 hce222; have HR222_0 := Aside0.mk hi222_0; have HC222_0 := Aside0.mk hl222_0; clear hi222_0 hl222_0; replace p222 := eq_true p222; replace q222 := eq_true q222; have p223 : 0 ≤ (2 : Int) := (by omega); have q223 : 2 < ((rd_L5 x3_1 (ji10)).length : Int) := da; obtain ⟨ad223, e223, hx223_0⟩ := Kd.at_int (by repeat (first | (with_reducible exact HR222_0.out) | (with_reducible refine Kd.C_alloc ?_ _) | (with_reducible refine Kd.C_drewN ?_ _) | (with_reducible refine Kd.C_drew ?_) | exact HR222_0.out)) 2 p223 q223; cases e223; (try simp only [show (2 : Int).toNat = 2 from rfl, Nat.reduceMul, Nat.reduceEqDiff, Go.Addr.add, ↓reduceIte] at hx223_0); have qi223 : (2 < (rd_L5 x3_1 (ji10)).length) = True := eq_true (by omega); (try rw [show ((2 : Int)).toNat = 2 from rfl] at hx223_0); replace p223 := eq_true p223; replace q223 := eq_true q223; have p224 : 0 ≤ ((ji10) : Int) := da; have q224 : (ji10) < (x3_1.length : Int) := da; obtain ⟨ad224, A224_0, c224_0, e224, hx224_0, hl224_0, hi224_0⟩ := at_L5 (Kd.S_reads' HO_3.out).2.2 (ji10) p224 q224; obtain rfl : ad222 = ad224 := (by injection e224); obtain ⟨ce224, hce224, hMe224, hcc224⟩ := Kd.S_get HO_3.out [] (ji10) p224 (by first | exact q224 | exact da | (have e_ := (Kd.S_reads' HO_3.out).1; omega)); obtain ⟨ve224_0, rfl, ge224_0⟩ := hMe224; have hv224_0 := hcc224 0 _ rfl; rw [Nat.add_zero, show ((Kd.slice 3 (Kd.int .i64))).sz = 1 from rfl, Nat.mul_one] at hv224_0; replace hv224_0 := Option.some.inj (hv224_0.symm.trans hx224_0); rw [hv224_0] at ge224_0; have HL224_0 := Aside0.mk (show Kd.R (Kd.int .i64) 3 _ _ _ _ (rd_L5 x3_1 (ji10)) from ge224_0); clear hv224_0 ge224_0; have HX224_0 := Aside0.mk hx224_0; clear hcc224 hce224; have HR224_0 := Aside0.mk hi224_0; have HC224_0 := Aside0.mk hl224_0; clear hi224_0 hl224_0; replace p224 := eq_true p224; replace q224 := eq_true q224; have ea_ := Option.some.inj (hx222_0.symm.trans hx224_0); injection ea_ with ea_ en_ ec_; subst ea_; subst ec_; clear en_; have p16 : 0 ≤ (1 : Int) := (by omega); have q16 : (1 : Int) < (((rd_L5 x3_1 (ji10)).length : Int) : Int) := da; have qi16 : (1 < (rd_L5 x3_1 (ji10)).length) = True := eq_true (by omega); obtain ⟨go16, co16, eo16, gb16, gl16, cl16, HG16⟩ := Kd.R_form HL224_0.out (by omega); (first | cases eo16 | (injection eo16 with ea_ en_ ec_; (first | subst ea_ | (injection ea_ with ea_; subst ea_)); subst ec_; clear en_)); have GB16 := Aside0.mk gb16; have GG16 := Aside0.mk HG16; clear gb16 gl16 HG16; (first | simp only [add_plain] at hx223_0 | skip); obtain ⟨hx16_0, hf16_0⟩ := Kd.R_celln 0 HL224_0.out (1 : Int) p16 q16; (try rw [show ((1 : Int)).toNat = 1 from rfl] at hx16_0); (try simp only [Nat.reduceMul, Nat.zero_mul, Nat.zero_add, Nat.reduceAdd] at hx16_0); (try rw [show ((1 : Int)).toNat = 1 from rfl] at hf16_0); (try simp only [Nat.reduceMul, Nat.zero_mul, Nat.zero_add, Nat.reduceAdd] at hf16_0); replace p16 := eq_true p16; replace q16 := eq_true q16; have hq22 : ((ji10) : Int) < (x3_1.length : Int) := (by have h_ : ((ji10) : Int) < ((x3_1.length : Int) : Int) := da; first | exact h_ | (have e_ := (Kd.S_reads' HO_3.out).1; omega) | simpa only [List.length_set, List.length_set] using h_); obtain ⟨oki22, ce22, hcl22, hM22, hcc22, hok22, hbk22⟩ := Kd.S_borrow HO_3.out [] ((ji10) : Int) (da) hq22; obtain ⟨ve22_0, rfl, ge22_0⟩ := hM22; have hv22 := hcc22 0 _ rfl; rw [Nat.add_zero, show ((Kd.slice 3 (Kd.int .i64))).sz = 1 from rfl, Nat.mul_one] at hv22; replace hv22 := Option.some.inj (hv22.symm.trans HX224_0.out); subst hv22; clear hcc22 hcl22; replace ge22_0 := (show Kd.R (Kd.int .i64) 3 _ _ _ _ (rd_L5 x3_1 (ji10)) from ge22_0); have HP22 := Kd.R_putg ge22_0 (1 : Int) (wrap64 (x11_1 + 1))) | ((with_reducible refine gate_store (t := 3) (p := 41) rfl ?_); refine store_event (t := 3) (p := 41) (v := ?vo_w23) (w1 := (w19.setCell ⟨go16, 1, none⟩ (.int .i64 (wrap64 (x11_1 + 1))))) ?hg ?ho ?hn ?hr ?_; (case ho => rfl); (case hg => rfl); (case hn => rfl); (case hr => first | (go_simp; done) | (go_simp; rfl)); intro w23 hw; have hg : w19.grownBy w23 (some go16) := (by rw [hw]; exact HP22.2); have hz_ : Kd.R (Kd.int .i64) 3 w23 w.heap.size oki22 (.slice (some ⟨go16, 0, none⟩) (rd_L5 x3_1 (ji10)).length c222_0) y225 := (by rw [hw, Ny225.out]; exact HP22.1); have hp_ : Kd.S (Kd.slice 3 (Kd.int .i64)) 39 w23 w.heap.size (fun _ => True) (.slice (some ad222) x3_1.length co21) y227 := (by rw [Ny227.out]; exact hbk22 hg (fun k_ e_ => by injection e_ with e_; subst e_; exact ge22_0.1 _ rfl) (Kd.M_row hz_)); have hm_ := Kd.R_mono hz_ hok22; clear HP22 hbk22; have HL240 := Aside0.mk (hm_); have HC226 := Aside0.mk ((Kd.R_reads' hm_).2.1); replace HO_3 := Aside0.mk (hp_); replace HO_9 := Aside0.mk (Kd.R_over' (v := (.slice (some ⟨go16, 0, none⟩) (rd_L5 x3_1 (ji10)).length c222_0)) (by (with_reducible repeat (first | apply Kd.R_alloc | apply Kd.R_drewN | apply Kd.R_drew)); exact HO_9.out) (Kd.R_typed HL224_0.out) (by decide) hg); replace BK220 := Aside0.mk (blk_grown (g := gb220) (o := .cells #[.int .i64 ((rd_T28 t216 x11_1).f0), .int .i64 ((rd_T28 t216 x11_1).f1)] 28 (0, 0)) (bo gb220) hg (Kd.R_ne HL224_0.out BK220.out (by decide))); replace HB := Aside0.mk ((by rw [hw]; exact below_set (HB.out) GB16.out : Below w.heap.size w w23)); clear HL222_0 HL224_0; clear hg hw hp_ hz_ hm_ hok22))
            go_roundg k1
            case measure => have := HK1.out; omega
            case rel => exact ⟨(y227), (wrap64 (x11_1 + 1)), rs, H', ⟨by have := HK1.out; omega⟩, ⟨by (with_reducible repeat (first | apply Kd.S_alloc | apply Kd.S_drewN | apply Kd.S_drew)); exact HO_3.out⟩, ⟨by (with_reducible repeat (first | apply Kd.R_alloc | apply Kd.R_drewN | apply Kd.R_drew)); exact Kd.R_mono HO_9.out (fun _ hk => trivial)⟩, ⟨bl⟩⟩
           ·rw [if_neg c15] at H
            exact absurd H (by simp)
          ·rw [if_neg c14] at H
           have c14b0 : ((rd (rd_L5 x3_1 (ji10)) 2) == t221) = false := beq_eq_false_iff_ne.mpr c14
           have c14b1 : ((rd (rd_L5 x3_1 (ji10)) 2) != t221) = true := bne_iff_ne.mpr c14
           obtain ⟨y228, hy228⟩ : ∃ y_ : List Int, y_ = (([x11_1, wrap64 (x11_1 + 1), t221] : List Int)) := ⟨_, rfl⟩
           replace H : (if x3_1.length < 5864062014805 then (spec_imLaps.l0 k1 (x3_1 ++ [y228]) t216 (t216.length : Int) (wrap64 (x11_1 + 1))) else (none)) = some r := by first | (rw [hy228]; with_reducible exact H) | (have H2_ := (Option.bind_some _ _).symm.trans H; rw [hy228]; with_reducible exact H2_) | (have H2_ := (Option.bind_some _ _).symm.trans H; with_reducible exact H2_) | with_reducible exact H | (rw [hy228]; exact H) | exact H
           have Ny228 := Aside0.mk hy228
           clear hy228
           by_cases c24 : x3_1.length < 5864062014805
           ·rw [if_pos c24] at H
            have LMc24 := Aside0.mk c24
            clear c24
            obtain ⟨y231, hy231⟩ : ∃ y_ : List (List Int), y_ = (x3_1 ++ [y228]) := ⟨_, rfl⟩
            replace H : (spec_imLaps.l0 k1 y231 t216 (t216.length : Int) (wrap64 (x11_1 + 1))) = some r := by first | (rw [hy231]; with_reducible exact H) | (have H2_ := (Option.bind_some _ _).symm.trans H; rw [hy231]; with_reducible exact H2_) | (have H2_ := (Option.bind_some _ _).symm.trans H; with_reducible exact H2_) | with_reducible exact H | (rw [hy231]; exact H) | exact H
            have Ny231 := Aside0.mk hy231
            clear hy231
            have H' := Aside0.mk H
            clear H
            have p219 : 0 ≤ (x11_1 : Int) := da
            have q219 : x11_1 < (t216.length : Int) := da
            obtain ⟨ad219, e219, hx219_0, hx219_1⟩ := at_T28 (Kd.R_reads' HO_9.out).2.2 x11_1 p219 q219
            cases e219
            replace p219 := eq_true p219
            replace q219 := eq_true q219
            go_wp2_with (first | ((with_reducible refine gate_dst (N := 5) rfl ?_); refine bx 5 #[.int .i64 0, .int .i64 0] 28 ?_; intro gb220 hg w25 hbox hb; have BK220 := Aside0.mk (hbox); have GW220 := Aside0.mk (bz hg); have GE220 := GW220; replace HO_3 := Aside0.mk (Kd.S_below (by (with_reducible repeat (first | apply Kd.S_alloc | apply Kd.S_drewN | apply Kd.S_drew)); exact HO_3.out) hb); replace HO_9 := Aside0.mk (Kd.R_below (Kd.R_elderB (by (with_reducible repeat (first | apply Kd.R_alloc | apply Kd.R_drewN | apply Kd.R_drew)); exact HO_9.out) gb220 (Nat.le_of_eq hg.symm)) hb); replace HB := kh hb; clear hb hbox hg; obtain ⟨hcz26_0, hcz26_1, hfz26_0, hfz26_1⟩ := b2 BK220) | ((with_reducible refine gate_store (t := 28) (p := 5) rfl ?_); refine store_event (t := 28) (p := 5) (v := ?vo_w27) (w1 := ((w25.setCell ⟨gb220, 0, none⟩ (.int .i64 ((rd_T28 t216 x11_1).f0))).setCell ⟨gb220, 1, none⟩ (.int .i64 ((rd_T28 t216 x11_1).f1)))) ?hg ?ho ?hn ?hr ?_; (case ho => rfl); (case hg => rfl); (case hn => rfl); (case hr => first | (go_simp; done) | (go_simp; rfl)); intro w27 hw; have n0_ : Aside0 (Kd.S (Kd.slice 3 (Kd.int .i64)) 39 w27 w.heap.size (fun _ => True) u3 x3_1) := ⟨(by rw [hw]; exact (by (with_reducible repeat (first | apply Kd.S_alloc | apply Kd.S_drewN | apply Kd.S_drew)); exact Kd.S_mono (Kd.S_far (p := ⟨gb220, 1, none⟩) (Kd.S_far (p := ⟨gb220, 0, none⟩) (Kd.S_types HO_3.out BK220.out (by decide)) (fun _ hk => hk.2) (.int .i64 ((rd_T28 t216 x11_1).f0))) (fun _ hk => hk.2) (.int .i64 ((rd_T28 t216 x11_1).f1))) (fun _ hk => trivial)))⟩; have n1_ : Aside0 (Kd.R k28 28 w27 w.heap.size (fun k_ => k_ ≠ gb220) (.slice (some ad219) t216.length co4) t216) := ⟨(by rw [hw]; exact (by (with_reducible repeat (first | apply Kd.R_alloc | apply Kd.R_drewN | apply Kd.R_drew)); exact Kd.R_mono (Kd.R_far (p := ⟨gb220, 1, none⟩) (Kd.R_far (p := ⟨gb220, 0, none⟩) (Kd.R_mono HO_9.out (fun k_ hk => (⟨hk, hk.2⟩ : _ ∧ k_ ≠ gb220))) (fun _ hk => hk.2) (.int .i64 ((rd_T28 t216 x11_1).f0))) (fun _ hk => hk.2) (.int .i64 ((rd_T28 t216 x11_1).f1))) (fun _ hk => hk.1.2)))⟩; have n2_ : Aside0 (w27.heap[gb220]? = some (.cells #[.int .i64 ((rd_T28 t216 x11_1).f0), .int .i64 ((rd_T28 t216 x11_1).f1)] 28 (0, 0))) := ⟨(by rw [hw]; exact (by (with_reducible repeat (first | refine blk_drewN ?_ _ | refine blk_drew ?_ | refine blk_alloc ?_ _)); refine blk_put (cs := #[.int .i64 ((rd_T28 t216 x11_1).f0), .int .i64 0]) ?_ 1 _ rfl; (with_reducible repeat (first | refine blk_drewN ?_ _ | refine blk_drew ?_ | refine blk_alloc ?_ _)); refine blk_put (cs := #[.int .i64 0, .int .i64 0]) ?_ 0 _ rfl; (with_reducible repeat (first | refine blk_drewN ?_ _ | refine blk_drew ?_ | refine blk_alloc ?_ _)); exact BK220.out))⟩; have n3_ : Aside0 (Below w.heap.size w w27) := ⟨(by rw [hw]; exact bl)⟩; clear hw; clear HO_3; clear HO_9; clear BK220; clear HB; have HO_3 := n0_; have HO_9 := n1_; have BK220 := n2_; have HB := n3_; clear n0_ n1_ n2_ n3_; obtain ⟨hcz28_0, hcz28_1, hfz28_0, hfz28_1⟩ := b2 BK220) | ((with_reducible refine gate_callee (f := 85) rfl ?_); refine gl 18 Try.func85 #[.int .i64 ((rd_T28 t216 x11_1).f0)] ?_; (with_reducible refine (spec_l1Sign.calls ((rd_T28 t216 x11_1).f0) t221 _ A8.out).mono ?_); rintro e w' ⟨rfl, ⟨nd, rfl⟩⟩; refine ⟨_, rfl, ?_⟩; obtain ⟨Ao29, co29, eo29⟩ := Kd.S_slice HO_3.out; subst eo29; have p222 : 0 ≤ ((ji10) : Int) := da; have q222 : (ji10) < (x3_1.length : Int) := da; obtain ⟨ad222, A222_0, c222_0, e222, hx222_0, hl222_0, hi222_0⟩ := at_L5 (Kd.S_reads' HO_3.out).2.2 (ji10) p222 q222; cases e222; obtain ⟨ce222, hce222, hMe222, hcc222⟩ := Kd.S_get HO_3.out [] (ji10) p222 (by first | exact q222 | exact da | (have e_ := (Kd.S_reads' HO_3.out).1; omega)); obtain ⟨ve222_0, rfl, ge222_0⟩ := hMe222; have hv222_0 := hcc222 0 _ rfl; rw [Nat.add_zero, show ((Kd.slice 3 (Kd.int .i64))).sz = 1 from rfl, Nat.mul_one] at hv222_0; replace hv222_0 := Option.some.inj (hv222_0.symm.trans hx222_0); rw [hv222_0] at ge222_0; have HL222_0 := Aside0.mk (show Kd.R (Kd.int .i64) 3 _ _ _ _ (rd_L5 x3_1 (ji10)) from ge222_0); clear hv222_0 ge222_0; have HX222_0 := Aside0.mk hx222_0; clear hcc222 hce222; have HR222_0 := Aside0.mk hi222_0; have HC222_0 := Aside0.mk hl222_0; clear hi222_0 hl222_0; replace p222 := eq_true p222; replace q222 := eq_true q222; have p223 : 0 ≤ (2 : Int) := (by omega); have q223 : 2 < ((rd_L5 x3_1 (ji10)).length : Int) := da; obtain ⟨ad223, e223, hx223_0⟩ := Kd.at_int (by repeat (first | (with_reducible exact HR222_0.out) | (with_reducible refine Kd.C_alloc ?_ _) | (with_reducible refine Kd.C_drewN ?_ _) | (with_reducible refine Kd.C_drew ?_) | exact HR222_0.out)) 2 p223 q223; cases e223; (try simp only [show (2 : Int).toNat = 2 from rfl, Nat.reduceMul, Nat.reduceEqDiff, Go.Addr.add, ↓reduceIte] at hx223_0); have qi223 : (2 < (rd_L5 x3_1 (ji10)).length) = True := eq_true (by omega); (try rw [show ((2 : Int)).toNat = 2 from rfl] at hx223_0); replace p223 := eq_true p223; replace q223 := eq_true q223) | ((with_reducible refine gate_dst (N := 47) rfl ?_); refine Kd.R_lit (Kd.int .i64) _ 3 ?hg (N := 47) ?hd (xs := ([x11_1, wrap64 (x11_1 + 1), t221] : List Int)) (inner := [.int .i64 x11_1, .int .i64 (wrap64 (x11_1 + 1)), .int .i64 t221]) (ok := fun _ => True) (okp := fun _ => True) ?hr ?hp (fun _ hk => hk) trivial (Below.refl _ _) (Nat.le_refl _) (by simp) ?_; (case hd => rfl); (case hg => rfl); (case hr => first | (go_simp; done) | (go_simp; rfl)); (case hp => exact (Reps.one (show Kd.M (Kd.int .i64) _ _ _ x11_1 [.int .i64 x11_1] from rfl) (Reps.one (show Kd.M (Kd.int .i64) _ _ _ (wrap64 (x11_1 + 1)) [.int .i64 (wrap64 (x11_1 + 1))] from rfl) (Reps.one (show Kd.M (Kd.int .i64) _ _ _ t221 [.int .i64 t221] from rfl) (Reps.none _ _))))); intro v229 w30 ho31 hb hg_ hnew_; clear hg_ hnew_; (first | rw [← Ny228.out] at ho31 | (simp only [Int.reduceToNat] at ho31; rw [← Ny228.out] at ho31)); have HO230 := Aside0.mk (Kd.R_lower (Kd.R_new' ho31 (Kd.R_lt (by (with_reducible repeat (first | apply Kd.R_alloc | apply Kd.R_drewN | apply Kd.R_drew)); exact HL222_0.out))) (below_size bl)); replace HO_3 := Aside0.mk (Kd.S_elder' (by (with_reducible repeat (first | apply Kd.S_alloc | apply Kd.S_drewN | apply Kd.S_drew)); exact HO_3.out) (Kd.R_base ho31) hb); replace HO_9 := Aside0.mk (Kd.R_below (by (with_reducible repeat (first | apply Kd.R_alloc | apply Kd.R_drewN | apply Kd.R_drew)); exact HO_9.out) hb); replace HL222_0 := Aside0.mk (Kd.R_elder' (by (with_reducible repeat (first | apply Kd.R_alloc | apply Kd.R_drewN | apply Kd.R_drew)); exact HL222_0.out) (Kd.R_base ho31) hb); replace BK220 := kb BK220 hb; replace HR222_0 := Aside0.mk (Kd.C_below (by repeat (first | (with_reducible exact HR222_0.out) | (with_reducible refine Kd.C_alloc ?_ _) | (with_reducible refine Kd.C_drewN ?_ _) | (with_reducible refine Kd.C_drew ?_) | exact HR222_0.out)) hb); replace HX222_0 := Aside0.mk (pw_cell_below hb HX222_0.out); replace HB := kh hb; clear hb ho31; obtain ⟨Ao33, co33, eo33⟩ := Kd.R_slice HO230.out; subst eo33) | ((with_reducible refine gate_builtin (b := .append) (xs := #[.tmp 42, .tmp 48]) rfl ?_); at_builtin; refine Kd.S_append (Kd.slice 3 (Kd.int .i64)) (w0 := w) w.heap.size rfl (.tmp 42) (.tmp 48) 103 39 (.slice none 0 0) 24 rfl Try.underlying103 info39 rfl (by decide) (by omega) (.slice (some ad222) x3_1.length co29) x3_1 y228 [.slice Ao33 y228.length co33] (fun _ => True) (fun k_ => some k_ = (.slice Ao33 y228.length co33 : Value).ownBlock) rfl rfl ?aP (fun k_ hk_ => ((Kd.R_mono (ok' := fun k_ => ((fun _ => True)) k_ ∧ some k_ ≠ (.slice (some ad222) x3_1.length co29 : Value).ownBlock) (Kd.R_apart' (HO230.out) (Kd.S_typed HO_3.out) (by decide)) (fun k_ hk => ⟨trivial, hk.2⟩))).1 k_ hk_.symm) ?aF ?aO ?aB ?aS ?aL ?_; (case aP => exact Kd.M_row (Kd.R_mono (Kd.R_tight rfl (Kd.R_mono (ok' := fun k_ => ((fun _ => True)) k_ ∧ some k_ ≠ (.slice (some ad222) x3_1.length co29 : Value).ownBlock) (Kd.R_apart' (HO230.out) (Kd.S_typed HO_3.out) (by decide)) (fun k_ hk => ⟨trivial, hk.2⟩))) (fun _ h_ => h_))); (case aB => exact bl); (case aF => exact (fun _ _ => trivial)); (case aO => exact (by (with_reducible repeat (first | apply Kd.S_alloc | apply Kd.S_drewN | apply Kd.S_drew)); exact Kd.S_mono HO_3.out (fun k_ hk => ⟨trivial, fun e_ => hk.2 e_⟩))); (case aS => exact (below_size bl)); (case aL => have := LMc24.out; omega); intro v232 w32 ho hb hg hat; rw [← Ny231.out] at ho; have HO233 := Aside0.mk (ho); replace HO_9 := Aside0.mk (Kd.R_over' (by (with_reducible repeat (first | apply Kd.R_alloc | apply Kd.R_drewN | apply Kd.R_drew)); exact HO_9.out) (Kd.S_typed (by (with_reducible repeat (first | apply Kd.S_alloc | apply Kd.S_drewN | apply Kd.S_drew)); exact HO_3.out)) (by decide) hg); replace BK220 := Aside0.mk (blk_grown (g := gb220) (o := .cells #[.int .i64 ((rd_T28 t216 x11_1).f0), .int .i64 ((rd_T28 t216 x11_1).f1)] 28 (0, 0)) (bo gb220) hg (Kd.S_ne HO_3.out BK220.out (by decide))); replace HL222_0 := Aside0.mk (Kd.R_after (ok := (fun k_ => some k_ ≠ (.slice Ao33 y228.length co33 : Value).ownBlock)) (by (with_reducible repeat (first | apply Kd.R_alloc | apply Kd.R_drewN | apply Kd.R_drew)); exact Kd.R_mono HL222_0.out (fun _ hk => ⟨hk.2, hk.1.2⟩)) hg hat); replace HB := Aside0.mk (hb); clear HO_3 HO230; clear ho hb hg hat))
            go_roundg k1
            case measure => have := HK1.out; omega
            case rel => exact ⟨(y231), (wrap64 (x11_1 + 1)), rs, H', ⟨by have := HK1.out; omega⟩, ⟨by (with_reducible repeat (first | apply Kd.S_alloc | apply Kd.S_drewN | apply Kd.S_drew)); exact HO233.out⟩, ⟨by (with_reducible repeat (first | apply Kd.R_alloc | apply Kd.R_drewN | apply Kd.R_drew)); exact Kd.R_mono HO_9.out (fun _ hk => trivial)⟩, ⟨bl⟩⟩
           ·rw [if_neg c24] at H
            exact absurd H (by simp)
         ·rw [if_neg c13] at H
          exact absurd H (by simp)
        ·rw [if_neg c12] at H
         exact absurd H (by simp)
       ·rw [if_neg c11] at H
        exact absurd H (by simp)
      ·rw [if_neg c9] at H
       have c9b0 : decide (0 < (x3_1.length : Int)) = false := decide_eq_false c9
       have c9b1 : decide (0 < x3_1.length) = false := decide_eq_false (by omega)
       clear c9
       obtain ⟨y234, hy234⟩ : ∃ y_ : List Int, y_ = (([x11_1, wrap64 (x11_1 + 1), t221] : List Int)) := ⟨_, rfl⟩
       replace H : (if x3_1.length < 5864062014805 then (spec_imLaps.l0 k1 (x3_1 ++ [y234]) t216 (t216.length : Int) (wrap64 (x11_1 + 1))) else (none)) = some r := by first | (rw [hy234]; with_reducible exact H) | (have H2_ := (Option.bind_some _ _).symm.trans H; rw [hy234]; with_reducible exact H2_) | (have H2_ := (Option.bind_some _ _).symm.trans H; with_reducible exact H2_) | with_reducible exact H | (rw [hy234]; exact H) | exact H
       have Ny234 := Aside0.mk hy234
       clear hy234
       by_cases c34 : x3_1.length < 5864062014805
       ·rw [if_pos c34] at H
        have LMc34 := Aside0.mk c34
        clear c34
        obtain ⟨y237, hy237⟩ : ∃ y_ : List (List Int), y_ = (x3_1 ++ [y234]) := ⟨_, rfl⟩
        replace H : (spec_imLaps.l0 k1 y237 t216 (t216.length : Int) (wrap64 (x11_1 + 1))) = some r := by first | (rw [hy237]; with_reducible exact H) | (have H2_ := (Option.bind_some _ _).symm.trans H; rw [hy237]; with_reducible exact H2_) | (have H2_ := (Option.bind_some _ _).symm.trans H; with_reducible exact H2_) | with_reducible exact H | (rw [hy237]; exact H) | exact H
        have Ny237 := Aside0.mk hy237
        clear hy237
        have H' := Aside0.mk H
        clear H
        have p219 : 0 ≤ (x11_1 : Int) := da
        have q219 : x11_1 < (t216.length : Int) := da
        obtain ⟨ad219, e219, hx219_0, hx219_1⟩ := at_T28 (Kd.R_reads' HO_9.out).2.2 x11_1 p219 q219
        cases e219
        replace p219 := eq_true p219
        replace q219 := eq_true q219
        go_wp2_with (first | ((with_reducible refine gate_dst (N := 5) rfl ?_); refine bx 5 #[.int .i64 0, .int .i64 0] 28 ?_; intro gb220 hg w35 hbox hb; have BK220 := Aside0.mk (hbox); have GW220 := Aside0.mk (bz hg); have GE220 := GW220; replace HO_3 := Aside0.mk (Kd.S_below (by (with_reducible repeat (first | apply Kd.S_alloc | apply Kd.S_drewN | apply Kd.S_drew)); exact HO_3.out) hb); replace HO_9 := Aside0.mk (Kd.R_below (Kd.R_elderB (by (with_reducible repeat (first | apply Kd.R_alloc | apply Kd.R_drewN | apply Kd.R_drew)); exact HO_9.out) gb220 (Nat.le_of_eq hg.symm)) hb); replace HB := kh hb; clear hb hbox hg; obtain ⟨hcz36_0, hcz36_1, hfz36_0, hfz36_1⟩ := b2 BK220) | ((with_reducible refine gate_callee (f := 85) rfl ?_); refine gl 18 Try.func85 #[.int .i64 ((rd_T28 t216 x11_1).f0)] ?_; (with_reducible refine (spec_l1Sign.calls ((rd_T28 t216 x11_1).f0) t221 _ A8.out).mono ?_); rintro e w' ⟨rfl, ⟨nd, rfl⟩⟩; refine ⟨_, rfl, ?_⟩; obtain ⟨Ao37, co37, eo37⟩ := Kd.S_slice HO_3.out; subst eo37) | ((with_reducible refine gate_dst (N := 47) rfl ?_); refine Kd.R_lit (Kd.int .i64) _ 3 ?hg (N := 47) ?hd (xs := ([x11_1, wrap64 (x11_1 + 1), t221] : List Int)) (inner := [.int .i64 x11_1, .int .i64 (wrap64 (x11_1 + 1)), .int .i64 t221]) (ok := fun _ => True) (okp := fun _ => True) ?hr ?hp (fun _ hk => hk) trivial (Below.refl _ _) (Nat.le_refl _) (by simp) ?_; (case hd => rfl); (case hg => rfl); (case hr => first | (go_simp; done) | (go_simp; rfl)); (case hp => exact (Reps.one (show Kd.M (Kd.int .i64) _ _ _ x11_1 [.int .i64 x11_1] from rfl) (Reps.one (show Kd.M (Kd.int .i64) _ _ _ (wrap64 (x11_1 + 1)) [.int .i64 (wrap64 (x11_1 + 1))] from rfl) (Reps.one (show Kd.M (Kd.int .i64) _ _ _ t221 [.int .i64 t221] from rfl) (Reps.none _ _))))); intro v235 w38 ho39 hb hg_ hnew_; clear hg_ hnew_; (first | rw [← Ny234.out] at ho39 | (simp only [Int.reduceToNat] at ho39; rw [← Ny234.out] at ho39)); have HO236 := Aside0.mk (Kd.R_lower ho39 (below_size bl)); replace HO_3 := Aside0.mk (Kd.S_elder' (by (with_reducible repeat (first | apply Kd.S_alloc | apply Kd.S_drewN | apply Kd.S_drew)); exact (Kd.S_mono (Kd.S_far (p := ⟨gb220, 1, none⟩) (Kd.S_far (p := ⟨gb220, 0, none⟩) (Kd.S_types HO_3.out BK220.out (by decide)) (fun _ hk => hk.2) (.int .i64 ((rd_T28 t216 x11_1).f0))) (fun _ hk => hk.2) (.int .i64 ((rd_T28 t216 x11_1).f1))) (fun _ h_ => h_.1))) (Kd.R_base ho39) hb); replace HO_9 := Aside0.mk (Kd.R_below (by (with_reducible repeat (first | apply Kd.R_alloc | apply Kd.R_drewN | apply Kd.R_drew)); exact (Kd.R_mono (Kd.R_far (p := ⟨gb220, 1, none⟩) (Kd.R_far (p := ⟨gb220, 0, none⟩) (Kd.R_mono HO_9.out (fun k_ hk => (⟨hk, hk.2⟩ : _ ∧ k_ ≠ gb220))) (fun _ hk => hk.2) (.int .i64 ((rd_T28 t216 x11_1).f0))) (fun _ hk => hk.2) (.int .i64 ((rd_T28 t216 x11_1).f1))) (fun _ h_ => h_.1))) hb); replace BK220 := Aside0.mk (blk_below (g := gb220) (o := .cells #[.int .i64 ((rd_T28 t216 x11_1).f0), .int .i64 ((rd_T28 t216 x11_1).f1)] 28 (0, 0)) (by (with_reducible repeat (first | refine blk_drewN ?_ _ | refine blk_drew ?_ | refine blk_alloc ?_ _)); refine blk_put (cs := #[.int .i64 ((rd_T28 t216 x11_1).f0), .int .i64 0]) ?_ 1 _ rfl; (with_reducible repeat (first | refine blk_drewN ?_ _ | refine blk_drew ?_ | refine blk_alloc ?_ _)); refine blk_put (cs := #[.int .i64 0, .int .i64 0]) ?_ 0 _ rfl; (with_reducible repeat (first | refine blk_drewN ?_ _ | refine blk_drew ?_ | refine blk_alloc ?_ _)); exact BK220.out) hb); replace HB := kh hb; clear hb ho39; obtain ⟨Ao41, co41, eo41⟩ := Kd.R_slice HO236.out; subst eo41) | ((with_reducible refine gate_builtin (b := .append) (xs := #[.tmp 42, .tmp 48]) rfl ?_); at_builtin; refine Kd.S_append (Kd.slice 3 (Kd.int .i64)) (w0 := w) w.heap.size rfl (.tmp 42) (.tmp 48) 103 39 (.slice none 0 0) 24 rfl Try.underlying103 info39 rfl (by decide) (by omega) (.slice Ao37 x3_1.length co37) x3_1 y234 [.slice Ao41 y234.length co41] (fun _ => True) (fun k_ => some k_ = (.slice Ao41 y234.length co41 : Value).ownBlock) rfl rfl ?aP (fun k_ hk_ => ((Kd.R_mono (ok' := fun k_ => ((fun _ => True)) k_ ∧ some k_ ≠ (.slice Ao37 x3_1.length co37 : Value).ownBlock) (Kd.R_apart' (HO236.out) (Kd.S_typed HO_3.out) (by decide)) (fun k_ hk => ⟨trivial, hk.2⟩))).1 k_ hk_.symm) ?aF ?aO ?aB ?aS ?aL ?_; (case aP => exact Kd.M_row (Kd.R_mono (Kd.R_tight rfl (Kd.R_mono (ok' := fun k_ => ((fun _ => True)) k_ ∧ some k_ ≠ (.slice Ao37 x3_1.length co37 : Value).ownBlock) (Kd.R_apart' (HO236.out) (Kd.S_typed HO_3.out) (by decide)) (fun k_ hk => ⟨trivial, hk.2⟩))) (fun _ h_ => h_))); (case aB => exact bl); (case aF => exact (fun _ _ => trivial)); (case aO => exact (by (with_reducible repeat (first | apply Kd.S_alloc | apply Kd.S_drewN | apply Kd.S_drew)); exact Kd.S_mono HO_3.out (fun k_ hk => ⟨trivial, fun e_ => hk.2 e_⟩))); (case aS => exact (below_size bl)); (case aL => have := LMc34.out; omega); intro v238 w40 ho hb hg hat; rw [← Ny237.out] at ho; have HO239 := Aside0.mk (ho); replace HO_9 := Aside0.mk (Kd.R_over' (by (with_reducible repeat (first | apply Kd.R_alloc | apply Kd.R_drewN | apply Kd.R_drew)); exact HO_9.out) (Kd.S_typed (by (with_reducible repeat (first | apply Kd.S_alloc | apply Kd.S_drewN | apply Kd.S_drew)); exact HO_3.out)) (by decide) hg); replace BK220 := Aside0.mk (blk_grown (g := gb220) (o := .cells #[.int .i64 ((rd_T28 t216 x11_1).f0), .int .i64 ((rd_T28 t216 x11_1).f1)] 28 (0, 0)) (bo gb220) hg (Kd.S_ne HO_3.out BK220.out (by decide))); replace HB := Aside0.mk (hb); clear HO_3 HO236; clear ho hb hg hat))
        go_roundg k1
        case measure => have := HK1.out; omega
        case rel => exact ⟨(y237), (wrap64 (x11_1 + 1)), rs, H', ⟨by have := HK1.out; omega⟩, ⟨by (with_reducible repeat (first | apply Kd.S_alloc | apply Kd.S_drewN | apply Kd.S_drew)); exact HO239.out⟩, ⟨by (with_reducible repeat (first | apply Kd.R_alloc | apply Kd.R_drewN | apply Kd.R_drew)); exact Kd.R_mono HO_9.out (fun _ hk => trivial)⟩, ⟨bl⟩⟩
       ·rw [if_neg c34] at H
        exact absurd H (by simp)
     ·rw [if_neg c7] at H
      exact absurd H (by simp)
    ·rw [if_neg c6] at H
     exact absurd H (by simp)
   ·rw [if_neg c5] at H
    have c5b0 : decide (x11_1 < (t216.length : Int)) = false := decide_eq_false c5
    clear c5
    obtain rfl := Option.some.inj H
    go_wp2
    go_ret
    exact ⟨_, rt, by (with_reducible repeat (first | apply Kd.S_alloc | apply Kd.S_drewN | apply Kd.S_drew)); exact HO_3.out, bl⟩

/-! ### spec_woGood: function 60 -/
def spec_woGood.f (k : Nat) (l0 : List (S68)) (l1 : List Int) : Option (Bool) := (spec_woMap.f k l0).bind fun t241 => (if t241 = true then (if (l1.length : Int) ≤ 20 then ((spec_imLaps.f k l0).bind fun t242 => ((spec_l1All.f k l1 0 (wrap64 ((t242.length : Int) - 1))).bind fun t245 => (some t245))) else (some false)) else (some false))
set_option maxHeartbeats 8000000 in
set_option maxRecDepth 100000 in
theorem spec_woGood.calls (k : Nat) (A0 : Option Addr) (c0 : Nat) (l0 : List (S68)) (A1 : Option Addr) (c1 : Nat) (l1 : List Int) (r : Bool) (w : World) (hr0 : Kd.C k68 w A0 l0.length l0) (hc0 : l0.length ≤ c0) (hr1 : Kd.C (Kd.int .i64) w A1 l1.length l1) (hc1 : l1.length ≤ c1) (h : spec_woGood.f k l0 l1 = some r) :
  Calls Try.prog 60 #[.slice A0 l0.length c0, .slice A1 l1.length c1] w fun e w' => e = .returned (.bool r) ∧ Below w.heap.size w w' := by
 have HR0 := Aside0.mk hr0
 have HC0 := Aside0.mk hc0
 clear hr0 hc0
 have HR1 := Aside0.mk hr1
 have HC1 := Aside0.mk hc1
 clear hr1 hc1
 have HB := Aside0.mk (Below.refl w.heap.size w)
 have H : ((spec_woMap.f k l0).bind fun t241 => (if t241 = true then (if (l1.length : Int) ≤ 20 then ((spec_imLaps.f k l0).bind fun t242 => ((spec_l1All.f k l1 0 (wrap64 ((t242.length : Int) - 1))).bind fun t245 => (some t245))) else (some false)) else (some false))) = some r := h
 clear h
 replace H := Option.bind_eq_some_iff.mp H
 obtain ⟨t241, A30, H⟩ := H
 replace H : (if t241 = true then (if (l1.length : Int) ≤ 20 then ((spec_imLaps.f k l0).bind fun t242 => ((spec_l1All.f k l1 0 (wrap64 ((t242.length : Int) - 1))).bind fun t245 => (some t245))) else (some false)) else (some false)) = some r := H
 have A3 := Aside0.mk A30
 clear A30
 by_cases c4 : t241 = true
 ·subst c4
  have H1 : (if (l1.length : Int) ≤ 20 then ((spec_imLaps.f k l0).bind fun t242 => ((spec_l1All.f k l1 0 (wrap64 ((t242.length : Int) - 1))).bind fun t245 => (some t245))) else (some false)) = some r := by rw [if_pos rfl] at H; exact H
  clear H
  have H := H1
  clear H1
  by_cases c5 : (l1.length : Int) ≤ 20
  ·rw [if_pos c5] at H
   have c5b0 : decide ((l1.length : Int) ≤ 20) = true := decide_eq_true c5
   have c5b1 : decide (l1.length ≤ 20) = true := decide_eq_true (by omega)
   clear c5
   replace H := Option.bind_eq_some_iff.mp H
   obtain ⟨t242, A60, H⟩ := H
   replace H : ((spec_l1All.f k l1 0 (wrap64 ((t242.length : Int) - 1))).bind fun t245 => (some t245)) = some r := H
   have A6 := Aside0.mk A60
   clear A60
   replace H := Option.bind_eq_some_iff.mp H
   obtain ⟨t245, A70, H⟩ := H
   replace H : (some t245) = some r := H
   have A7 := Aside0.mk A70
   clear A70
   obtain rfl := Option.some.inj H
   go_enter Try.func60, Try.ntmps60
   go_wp2_with (first | ((with_reducible refine gate_callee (f := 79) rfl ?_); refine gl 6 Try.func79 #[.slice A0 l0.length c0] ?_; (with_reducible refine (spec_woMap.calls k _ _ l0 true _ ?side1 ?side2 A3.out).mono ?_); (case side1 => repeat (first | exact HR0.out | (with_reducible refine Kd.C_alloc ?_ _) | (with_reducible refine Kd.C_drewN ?_ _) | (with_reducible refine Kd.C_drew ?_))); (case side2 => exact HC0.out); rintro e w8 ⟨rfl, hb⟩; refine ⟨_, rfl, ?_⟩; replace HB := kh hb; (try clear hb); (try clear hb2); (try clear hk); (try clear hi)) | (go_at_call 108; (with_reducible refine (spec_imLaps.calls k _ _ l0 t242 _ ?side1 ?side2 A6.out).mono ?_); (case side1 => repeat (first | exact (Kd.C_below HR0.out HB.out) | (with_reducible refine Kd.C_alloc ?_ _) | (with_reducible refine Kd.C_drewN ?_ _) | (with_reducible refine Kd.C_drew ?_))); (case side2 => exact HC0.out); rintro e w9 ⟨v243, rfl, ho0, hb⟩; have HO244 := Aside0.mk (Kd.S_lower ho0 (below_size bl)); replace HB := kh hb; (try clear hb); (try clear hb2); (try clear hk); (try clear hi); (try clear ho0); obtain ⟨Ao10, co10, eo10⟩ := Kd.S_slice HO244.out; subst eo10) | (go_at_call 99; (with_reducible refine (spec_l1All.calls k _ _ l1 0 (wrap64 ((t242.length : Int) - 1)) t245 _ ?side1 ?side2 A7.out).mono ?_); (case side1 => repeat (first | exact (Kd.C_below HR1.out HB.out) | (with_reducible refine Kd.C_alloc ?_ _) | (with_reducible refine Kd.C_drewN ?_ _) | (with_reducible refine Kd.C_drew ?_))); (case side2 => exact HC1.out); rintro e w' ⟨rfl, ⟨nd, rfl⟩⟩))
   go_ret
   exact ⟨rt, bl⟩
  ·rw [if_neg c5] at H
   have c5b0 : decide ((l1.length : Int) ≤ 20) = false := decide_eq_false c5
   have c5b1 : decide (l1.length ≤ 20) = false := decide_eq_false (by omega)
   clear c5
   obtain rfl := Option.some.inj H
   go_enter Try.func60, Try.ntmps60
   go_wp2_with (first | ((with_reducible refine gate_callee (f := 79) rfl ?_); refine gl 6 Try.func79 #[.slice A0 l0.length c0] ?_; (with_reducible refine (spec_woMap.calls k _ _ l0 true _ ?side1 ?side2 A3.out).mono ?_); (case side1 => repeat (first | exact HR0.out | (with_reducible refine Kd.C_alloc ?_ _) | (with_reducible refine Kd.C_drewN ?_ _) | (with_reducible refine Kd.C_drew ?_))); (case side2 => exact HC0.out); rintro e w11 ⟨rfl, hb⟩; refine ⟨_, rfl, ?_⟩; replace HB := kh hb; (try clear hb); (try clear hb2); (try clear hk); (try clear hi)))
   go_ret
   exact ⟨rt, bl⟩
 ·replace c4 := Bool.eq_false_iff.mpr c4
  subst c4
  have H1 : (some false) = some r := by rw [if_neg (show ¬ (false = true) by decide)] at H; exact H
  clear H
  have H := H1
  clear H1
  obtain rfl := Option.some.inj H
  go_enter Try.func60, Try.ntmps60
  go_wp2_with (first | ((with_reducible refine gate_callee (f := 79) rfl ?_); refine gl 6 Try.func79 #[.slice A0 l0.length c0] ?_; (with_reducible refine (spec_woMap.calls k _ _ l0 false _ ?side1 ?side2 A3.out).mono ?_); (case side1 => repeat (first | exact HR0.out | (with_reducible refine Kd.C_alloc ?_ _) | (with_reducible refine Kd.C_drewN ?_ _) | (with_reducible refine Kd.C_drew ?_))); (case side2 => exact HC0.out); rintro e w12 ⟨rfl, hb⟩; refine ⟨_, rfl, ?_⟩; replace HB := kh hb; (try clear hb); (try clear hb2); (try clear hk); (try clear hi)))
  go_ret
  exact ⟨rt, bl⟩

end Go.Proofs.Ytmecnnnagallnaa.PFnExactCompareWords
