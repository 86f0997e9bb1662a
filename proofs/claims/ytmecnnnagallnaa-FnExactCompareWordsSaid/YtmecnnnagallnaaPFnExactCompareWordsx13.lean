-- Written by this session's program wip/pp (the kit's print tool with additions) 35421559b90ae4d0a3588c463048766b98c2df88dd9212a6774a882060cdf62d
import Derived.Test.YtmecnnnagallnaaPFnExactCompareWordsx0
import Derived.Test.YtmecnnnagallnaaPFnExactCompareWordsx7
import Derived.Test.YtmecnnnagallnaaPFnExactCompareWordsx12
namespace Go.Proofs.Ytmecnnnagallnaa.PFnExactCompareWords
open Go.RowKit Go.Proofs.YtmecnnnagallnaaW.PrintWords Go.Proofs.YtmecnnnagallnaaW.PrintLast Go.Proofs.YtmecnnnagallnaaW.PrintMore
attribute [local go_sem] max2_int min2_int max_two min_two max_three min_three max_four min_four   -- for this text's walks alone
set_option linter.unusedVariables false
set_option linter.unusedSimpArgs false

/-! ### impl_laps: function 111 -/
def impl_laps.l0 : Nat → List (List Int) → List (S28) → Int → Int → Option ((List (List Int)))
 | 0, _, _, _, _ => none
 | k + 1, x3, x8, x9, x10 => if x10 < x9 then (if 0 ≤ x10 then (if x10 < (x8.length : Int) then (if (wrap64 ((x3.length : Int) - 1)) ≥ 0 then (if 0 ≤ (wrap64 ((x3.length : Int) - 1)) then (if (wrap64 ((x3.length : Int) - 1)) < (x3.length : Int) then (if 2 < ((rd_L5 x3 (wrap64 ((x3.length : Int) - 1))).length : Int) then ((impl_sign.f ((rd_T28 x8 x10).f0) ((rd_T28 x8 x10).f1)).bind fun t406 => (if (rd (rd_L5 x3 (wrap64 ((x3.length : Int) - 1))) 2) = t406 then (if 1 < ((rd_L5 x3 (wrap64 ((x3.length : Int) - 1))).length : Int) then (impl_laps.l0 k (x3.set ((wrap64 ((x3.length : Int) - 1)) : Int).toNat ((rd_L5 x3 (wrap64 ((x3.length : Int) - 1))).set (1 : Int).toNat (wrap64 (x10 + 1)))) x8 x9 (wrap64 (x10 + 1))) else (none)) else ((impl_sign.f ((rd_T28 x8 x10).f0) ((rd_T28 x8 x10).f1)).bind fun t411 => (if x3.length < 5864062014805 then (impl_laps.l0 k (x3 ++ [(([x10, wrap64 (x10 + 1), t411] : List Int))]) x8 x9 (wrap64 (x10 + 1))) else (none))))) else (none)) else (none)) else (none)) else ((impl_sign.f ((rd_T28 x8 x10).f0) ((rd_T28 x8 x10).f1)).bind fun t418 => (if x3.length < 5864062014805 then (impl_laps.l0 k (x3 ++ [(([x10, wrap64 (x10 + 1), t418] : List Int))]) x8 x9 (wrap64 (x10 + 1))) else (none)))) else (none)) else (none)) else (some x3)
def impl_laps.f (k : Nat) (l0 : List (S68)) : Option ((List (List Int))) := (impl_slopes.f k l0).bind fun t399 => (impl_laps.l0 k ([] : List (List Int)) t399 (t399.length : Int) 0)
def impl_laps.T6 : Bool × List (List Nat × List Nat) := (true, [([], []), ([0], [0]), ([1], [1]), ([2], [2]), ([2], [2]), ([3, 4, 2], [2, 3, 4]), ([5, 2], [2, 5]), ([6, 2], [2, 6]), ([7, 2], [2, 7]), ([2], [2]), ([9, 2, 2], [2, 9]), ([8, 10, 2], [2, 8, 10]), ([2, 11], [2, 11])])
def impl_laps.B6 : List Nat := [0, 1, 3, 7, 7, 31, 63, 127, 255, 7, 519, 2047, 4095]
theorem impl_laps.tab6 : rtab .any (opsOf Try.f111 6) = impl_laps.T6 := by kernel_rfl
theorem impl_laps.bits6 : waitsOk impl_laps.T6.2 impl_laps.B6 = true := by kernel_rfl
set_option maxHeartbeats 8000000 in
set_option maxRecDepth 100000 in
theorem impl_laps.calls (k : Nat) (A0 : Option Addr) (c0 : Nat) (l0 : List (S68)) (r : List (List Int)) (w : World) (hr0 : Kd.C k68 w A0 l0.length l0) (hc0 : l0.length ≤ c0) (h : impl_laps.f k l0 = some r) :
  Calls Try.prog 111 #[.slice A0 l0.length c0] w fun e w' => ∃ v0_ : Value, e = .returned (v0_) ∧ Kd.S (Kd.slice 3 (Kd.int .i64)) 39 w' w.heap.size (fun _ => True) v0_ r ∧ Below w.heap.size w w' := by
 have hu28 := Try.underlying28
 have HR0 := Aside0.mk hr0
 have HC0 := Aside0.mk hc0
 clear hr0 hc0
 have HB := Aside0.mk (Below.refl w.heap.size w)
 have H : ((impl_slopes.f k l0).bind fun t399 => (impl_laps.l0 k ([] : List (List Int)) t399 (t399.length : Int) 0)) = some r := h
 clear h
 replace H := Option.bind_eq_some_iff.mp H
 obtain ⟨t399, A20, H⟩ := H
 replace H : (impl_laps.l0 k ([] : List (List Int)) t399 (t399.length : Int) 0) = some r := H
 have A2 := Aside0.mk A20
 clear A20
 have H' := Aside0.mk H
 clear H
 go_enter Try.func111, Try.ntmps111
 go_wp2_with (first | ((with_reducible refine gate_callee (f := 50) rfl ?_); refine gl 8 Try.func50 #[.slice A0 l0.length c0] ?_; (with_reducible refine (impl_slopes.calls k _ _ l0 t399 _ ?side1 ?side2 A2.out).mono ?_); (case side1 => repeat (first | exact HR0.out | (with_reducible refine Kd.C_alloc ?_ _) | (with_reducible refine Kd.C_drewN ?_ _) | (with_reducible refine Kd.C_drew ?_))); (case side2 => exact HC0.out); rintro e w3 ⟨v400, rfl, ho0, hb⟩; refine ⟨_, rfl, ?_⟩; have HO401 := Aside0.mk (Kd.R_lower ho0 (below_size bl)); replace HB := kh hb; (try clear hb); (try clear hb2); (try clear hk); (try clear hi); (try clear ho0); obtain ⟨Ao4, co4, eo4⟩ := Kd.R_slice HO401.out; subst eo4))
 go_loopg [3, 10] k (fun kq v3 v10 w' => ∃ (x3_1 : List (List Int)) (x10_1 : Int), v10 = .int .i64 x10_1 ∧ Aside0 (impl_laps.l0 kq x3_1 t399 (t399.length : Int) x10_1 = some r) ∧ Aside0 (kq ≤ k) ∧ Aside0 (Kd.S (Kd.slice 3 (Kd.int .i64)) 39 w' w.heap.size (fun _ => True) v3 x3_1) ∧ Aside0 (Kd.R k28 28 w' w.heap.size (fun _ => True) (.slice Ao4 t399.length co4) t399) ∧ Aside0 (Below w.heap.size w w'))
 case atStart => exact ⟨(([] : List (List Int))), (0), rs, H', ⟨Nat.le_refl _⟩, ⟨by first | exact Kd.S_nil _ _ _ _ _ | exact Kd.N_nil _ _ _ _ _ | exact Kd.V_nil _ _ _ _ _ | exact Kd.Q_nil _ _ _ _ _ | exact Kd.R_nil _ _ _ _ _⟩, ⟨by (with_reducible repeat (first | apply Kd.R_alloc | apply Kd.R_drewN | apply Kd.R_drew)); exact HO401.out⟩, ⟨bl⟩⟩
 case round =>
  clear H'
  try clear c1
  try clear p2
  obtain ⟨x3_1, x10_1, rfl, HA, HK1, HO_3, HO_8, HB⟩ := hrel
  cases gk with
  | zero => exact absurd HA.out (by simp [impl_laps.l0])
  | succ k1 =>
   have H := HA.out
   clear HA
   simp only [impl_laps.l0] at H
   by_cases c5 : x10_1 < (t399.length : Int)
   ·rw [if_pos c5] at H
    have c5b0 : decide (x10_1 < (t399.length : Int)) = true := decide_eq_true c5
    clear c5
    by_cases c6 : 0 ≤ x10_1
    ·rw [if_pos c6] at H
     have c6b0 : decide (0 ≤ x10_1) = true := decide_eq_true c6
     clear c6
     by_cases c7 : x10_1 < (t399.length : Int)
     ·rw [if_pos c7] at H
      have c7b0 : decide (x10_1 < (t399.length : Int)) = true := decide_eq_true c7
      clear c7
      by_cases c8 : (wrap64 ((x3_1.length : Int) - 1)) ≥ 0
      ·rw [if_pos c8] at H
       have c8b0 : decide (0 ≤ (wrap64 ((x3_1.length : Int) - 1))) = true := decide_eq_true c8
       clear c8
       obtain ⟨ji9, hji9⟩ : ∃ j_ : Int, (wrap64 ((x3_1.length : Int) - 1)) = j_ := ⟨_, rfl⟩
       replace H : (if 0 ≤ (ji9) then (if (ji9) < (x3_1.length : Int) then (if 2 < ((rd_L5 x3_1 (ji9)).length : Int) then ((impl_sign.f ((rd_T28 t399 x10_1).f0) ((rd_T28 t399 x10_1).f1)).bind fun t406 => (if (rd (rd_L5 x3_1 (ji9)) 2) = t406 then (if 1 < ((rd_L5 x3_1 (ji9)).length : Int) then (impl_laps.l0 k1 (x3_1.set ((ji9) : Int).toNat ((rd_L5 x3_1 (ji9)).set (1 : Int).toNat (wrap64 (x10_1 + 1)))) t399 (t399.length : Int) (wrap64 (x10_1 + 1))) else (none)) else ((impl_sign.f ((rd_T28 t399 x10_1).f0) ((rd_T28 t399 x10_1).f1)).bind fun t411 => (if x3_1.length < 5864062014805 then (impl_laps.l0 k1 (x3_1 ++ [(([x10_1, wrap64 (x10_1 + 1), t411] : List Int))]) t399 (t399.length : Int) (wrap64 (x10_1 + 1))) else (none))))) else (none)) else (none)) else (none)) = some r := by first | (rw [hji9] at H; exact H) | (simp only [hji9] at H ⊢; exact H)
       (try rw [hji9] at c8b0)
       have hji9w : (IntKind.i64.wrap ((x3_1.length : Int) - 1)) = ji9 := (i64_w _).trans hji9
       by_cases c10 : 0 ≤ (ji9)
       ·rw [if_pos c10] at H
        have c10b0 : decide (0 ≤ (ji9)) = true := decide_eq_true c10
        clear c10
        by_cases c11 : (ji9) < (x3_1.length : Int)
        ·rw [if_pos c11] at H
         have c11b0 : decide ((ji9) < (x3_1.length : Int)) = true := decide_eq_true c11
         clear c11
         by_cases c12 : 2 < ((rd_L5 x3_1 (ji9)).length : Int)
         ·rw [if_pos c12] at H
          have c12b0 : decide (2 < ((rd_L5 x3_1 (ji9)).length : Int)) = true := decide_eq_true c12
          have c12b1 : decide (2 < (rd_L5 x3_1 (ji9)).length) = true := decide_eq_true (by omega)
          clear c12
          replace H := Option.bind_eq_some_iff.mp H
          obtain ⟨t406, A130, H⟩ := H
          replace H : (if (rd (rd_L5 x3_1 (ji9)) 2) = t406 then (if 1 < ((rd_L5 x3_1 (ji9)).length : Int) then (impl_laps.l0 k1 (x3_1.set ((ji9) : Int).toNat ((rd_L5 x3_1 (ji9)).set (1 : Int).toNat (wrap64 (x10_1 + 1)))) t399 (t399.length : Int) (wrap64 (x10_1 + 1))) else (none)) else ((impl_sign.f ((rd_T28 t399 x10_1).f0) ((rd_T28 t399 x10_1).f1)).bind fun t411 => (if x3_1.length < 5864062014805 then (impl_laps.l0 k1 (x3_1 ++ [(([x10_1, wrap64 (x10_1 + 1), t411] : List Int))]) t399 (t399.length : Int) (wrap64 (x10_1 + 1))) else (none)))) = some r := H
          have A13 := Aside0.mk A130
          clear A130
          by_cases c14 : (rd (rd_L5 x3_1 (ji9)) 2) = t406
          ·rw [if_pos c14] at H
           have c14b0 : ((rd (rd_L5 x3_1 (ji9)) 2) == t406) = true := beq_iff_eq.mpr c14
           have c14b1 : ((rd (rd_L5 x3_1 (ji9)) 2) != t406) = false := bne_eq_false_iff_eq.mpr c14
           clear c14
           by_cases c15 : 1 < ((rd_L5 x3_1 (ji9)).length : Int)
           ·rw [if_pos c15] at H
            have c15b0 : decide (1 < ((rd_L5 x3_1 (ji9)).length : Int)) = true := decide_eq_true c15
            have c15b1 : decide (1 < (rd_L5 x3_1 (ji9)).length) = true := decide_eq_true (by omega)
            clear c15
            obtain ⟨y408, hy408⟩ : ∃ y_ : List Int, y_ = ((rd_L5 x3_1 (ji9)).set (1 : Int).toNat (wrap64 (x10_1 + 1))) := ⟨_, rfl⟩
            replace H : (impl_laps.l0 k1 (x3_1.set ((ji9) : Int).toNat y408) t399 (t399.length : Int) (wrap64 (x10_1 + 1))) = some r := by first | (rw [hy408]; with_reducible exact H) | (have H2_ := (Option.bind_some _ _).symm.trans H; rw [hy408]; with_reducible exact H2_) | (have H2_ := (Option.bind_some _ _).symm.trans H; with_reducible exact H2_) | with_reducible exact H | (rw [hy408]; exact H) | exact H
            have Ny408 := Aside0.mk hy408
            clear hy408
            obtain ⟨y410, hy410⟩ : ∃ y_ : List (List Int), y_ = (x3_1.set ((ji9) : Int).toNat y408) := ⟨_, rfl⟩
            replace H : (impl_laps.l0 k1 y410 t399 (t399.length : Int) (wrap64 (x10_1 + 1))) = some r := by first | (rw [hy410]; with_reducible exact H) | (have H2_ := (Option.bind_some _ _).symm.trans H; rw [hy410]; with_reducible exact H2_) | (have H2_ := (Option.bind_some _ _).symm.trans H; with_reducible exact H2_) | with_reducible exact H | (rw [hy410]; exact H) | exact H
            have Ny410 := Aside0.mk hy410
            clear hy410
            have H' := Aside0.mk H
            clear H
            have p402 : 0 ≤ (x10_1 : Int) := da
            have q402 : x10_1 < (t399.length : Int) := da
            obtain ⟨ad402, e402, hx402_0, hx402_1⟩ := at_T28 (Kd.R_reads' HO_8.out).2.2 x10_1 p402 q402
            cases e402
            replace p402 := eq_true p402
            replace q402 := eq_true q402
            try go_wp2_with (first | ((with_reducible refine gate_dst (N := 5) rfl ?_); refine bx 5 #[.int .i64 0, .int .i64 0] 28 ?_; intro gb403 hg w17 hbox hb; have BK403 := Aside0.mk (hbox); have GW403 := Aside0.mk (bz hg); have GE403 := GW403; replace HO_3 := Aside0.mk (Kd.S_below (by (with_reducible repeat (first | apply Kd.S_alloc | apply Kd.S_drewN | apply Kd.S_drew)); exact HO_3.out) hb); replace HO_8 := Aside0.mk (Kd.R_below (Kd.R_elderB (by (with_reducible repeat (first | apply Kd.R_alloc | apply Kd.R_drewN | apply Kd.R_drew)); exact HO_8.out) gb403 (Nat.le_of_eq hg.symm)) hb); replace HB := kh hb; clear hb hbox hg; obtain ⟨hcz18_0, hcz18_1, hfz18_0, hfz18_1⟩ := b2 BK403; obtain ⟨Ao19, co19, eo19⟩ := Kd.S_slice HO_3.out; subst eo19))
            have n0_ : Aside0 (Kd.S (Kd.slice 3 (Kd.int .i64)) 39 ((w17.setCell ⟨gb403, 0, none⟩ (.int .i64 ((rd_T28 t399 x10_1).f0))).setCell ⟨gb403, 1, none⟩ (.int .i64 ((rd_T28 t399 x10_1).f1))) w.heap.size (fun _ => True) (.slice Ao19 x3_1.length co19) x3_1) := ⟨by (with_reducible repeat (first | apply Kd.S_alloc | apply Kd.S_drewN | apply Kd.S_drew)); exact Kd.S_mono (Kd.S_far (p := ⟨gb403, 1, none⟩) (Kd.S_far (p := ⟨gb403, 0, none⟩) (Kd.S_types HO_3.out BK403.out (by decide)) (fun _ hk => hk.2) (.int .i64 ((rd_T28 t399 x10_1).f0))) (fun _ hk => hk.2) (.int .i64 ((rd_T28 t399 x10_1).f1))) (fun _ hk => trivial)⟩
            have n1_ : Aside0 (Kd.R k28 28 ((w17.setCell ⟨gb403, 0, none⟩ (.int .i64 ((rd_T28 t399 x10_1).f0))).setCell ⟨gb403, 1, none⟩ (.int .i64 ((rd_T28 t399 x10_1).f1))) w.heap.size (fun k_ => k_ ≠ gb403) (.slice (some ad402) t399.length co4) t399) := ⟨by (with_reducible repeat (first | apply Kd.R_alloc | apply Kd.R_drewN | apply Kd.R_drew)); exact Kd.R_mono (Kd.R_far (p := ⟨gb403, 1, none⟩) (Kd.R_far (p := ⟨gb403, 0, none⟩) (Kd.R_mono HO_8.out (fun k_ hk => (⟨hk, hk.2⟩ : _ ∧ k_ ≠ gb403))) (fun _ hk => hk.2) (.int .i64 ((rd_T28 t399 x10_1).f0))) (fun _ hk => hk.2) (.int .i64 ((rd_T28 t399 x10_1).f1))) (fun _ hk => hk.1.2)⟩
            have n2_ : Aside0 (((w17.setCell ⟨gb403, 0, none⟩ (.int .i64 ((rd_T28 t399 x10_1).f0))).setCell ⟨gb403, 1, none⟩ (.int .i64 ((rd_T28 t399 x10_1).f1))).heap[gb403]? = some (.cells #[.int .i64 ((rd_T28 t399 x10_1).f0), .int .i64 ((rd_T28 t399 x10_1).f1)] 28 (0, 0))) := ⟨by (with_reducible repeat (first | refine blk_drewN ?_ _ | refine blk_drew ?_ | refine blk_alloc ?_ _)); refine blk_put (cs := #[.int .i64 ((rd_T28 t399 x10_1).f0), .int .i64 0]) ?_ 1 _ rfl; (with_reducible repeat (first | refine blk_drewN ?_ _ | refine blk_drew ?_ | refine blk_alloc ?_ _)); refine blk_put (cs := #[.int .i64 0, .int .i64 0]) ?_ 0 _ rfl; (with_reducible repeat (first | refine blk_drewN ?_ _ | refine blk_drew ?_ | refine blk_alloc ?_ _)); exact BK403.out⟩
            have n3_ : Aside0 (Below w.heap.size w ((w17.setCell ⟨gb403, 0, none⟩ (.int .i64 ((rd_T28 t399 x10_1).f0))).setCell ⟨gb403, 1, none⟩ (.int .i64 ((rd_T28 t399 x10_1).f1)))) := ⟨bl⟩
            (try clear HO_3)
            (try clear HO_8)
            (try clear BK403)
            (try clear HB)
            generalize ((w17.setCell ⟨gb403, 0, none⟩ (.int .i64 ((rd_T28 t399 x10_1).f0))).setCell ⟨gb403, 1, none⟩ (.int .i64 ((rd_T28 t399 x10_1).f1))) = w20 at n0_ n1_ n2_ n3_ ⊢
            have HO_3 := n0_
            have HO_8 := n1_
            have BK403 := n2_
            have HB := n3_
            clear n0_ n1_ n2_ n3_
            replace HO_3 := Aside0.mk (Kd.S_drew HO_3.out)
            replace HO_8 := Aside0.mk (Kd.R_drew HO_8.out)
            replace BK403 := Aside0.mk (blk_drew BK403.out)
            replace HB := Aside0.mk (below_drew1 HB.out)
            have p404 : 0 ≤ ((ji9) : Int) := da
            have q404 : (ji9) < (x3_1.length : Int) := da
            obtain ⟨ad404, A404_0, c404_0, e404, hx404_0, hl404_0, hi404_0⟩ := at_L5 (Kd.S_reads' HO_3.out).2.2 (ji9) p404 q404
            cases e404
            obtain ⟨ce404, hce404, hMe404, hcc404⟩ := Kd.S_get HO_3.out [] (ji9) p404 (by first | exact q404 | exact da | (have e_ := (Kd.S_reads' HO_3.out).1; omega))
            obtain ⟨ve404_0, rfl, ge404_0⟩ := hMe404
            have hv404_0 := hcc404 0 _ rfl
            rw [Nat.add_zero, show ((Kd.slice 3 (Kd.int .i64))).sz = 1 from rfl, Nat.mul_one] at hv404_0
            replace hv404_0 := Option.some.inj (hv404_0.symm.trans hx404_0)
            rw [hv404_0] at ge404_0
            have HL404_0 := Aside0.mk (show Kd.R (Kd.int .i64) 3 _ _ _ _ (rd_L5 x3_1 (ji9)) from ge404_0)
            clear hv404_0 ge404_0
            have HX404_0 := Aside0.mk hx404_0
            clear hcc404 hce404
            have HR404_0 := Aside0.mk hi404_0
            have HC404_0 := Aside0.mk hl404_0
            clear hi404_0 hl404_0
            replace p404 := eq_true p404
            replace q404 := eq_true q404
            have p405 : 0 ≤ (2 : Int) := (by omega)
            have q405 : 2 < ((rd_L5 x3_1 (ji9)).length : Int) := da
            obtain ⟨ad405, e405, hx405_0⟩ := Kd.at_int (by repeat (first | (with_reducible exact HR404_0.out) | (with_reducible refine Kd.C_alloc ?_ _) | (with_reducible refine Kd.C_drewN ?_ _) | (with_reducible refine Kd.C_drew ?_) | exact HR404_0.out)) 2 p405 q405
            cases e405
            (try simp only [show (2 : Int).toNat = 2 from rfl, Nat.reduceMul, Nat.reduceEqDiff, Go.Addr.add, ↓reduceIte] at hx405_0)
            have qi405 : (2 < (rd_L5 x3_1 (ji9)).length) = True := eq_true (by omega)
            (try rw [show ((2 : Int)).toNat = 2 from rfl] at hx405_0)
            replace p405 := eq_true p405
            replace q405 := eq_true q405
            refine start_ (n := 13) (S := fun w' => w'.cell? ⟨gb403, 0, none⟩ = some (.int .i64 ((rd_T28 t399 x10_1).f0)) ∧ w'.cell? ⟨gb403, 1, none⟩ = some (.int .i64 ((rd_T28 t399 x10_1).f1)) ∧ w'.cell? (ad404.add ((ji9)).toNat) = some (.slice (some ad405) (rd_L5 x3_1 (ji9)).length c404_0) ∧ w'.cell? ⟨ad405.block, ad405.off + 2, none⟩ = some (.int .i64 (rd (rd_L5 x3_1 (ji9)) 2))) (ds := []) (tb 0 13) (by kernel_rfl) rfl rfl ⟨(blk_cell BK403.out 0).trans rfl, (blk_cell BK403.out 1).trans rfl, hx404_0, hx405_0⟩ (fun hHeld => ?_); refine with_tabW impl_laps.tab6 impl_laps.bits6 (fun HT_ HW_ => ?_)
            generalize w20.drew = w21 at HO_3 HO_8 BK403 HB HL404_0 HR404_0 HX404_0 hx404_0 hx405_0 hHeld ⊢
            refine pu 0 18 (tb 1 12) ?_
            refine pu 1 19 (tb 2 11) ?_
            refine pu 2 20 (tb 3 10) ?_
            refine pu 3 21 (tb 4 9) ?_
            refine pu 4 22 (tb 5 8) ?_
            refine pu 5 23 (tb 6 7) ?_
            refine tk 6 24 (tb 7 6) (hy := by rintro w' ⟨s0, s1, s2, s3⟩; go_simp; with_reducible rfl) (h := ?_)
            refine pu 7 25 (tb 8 5) ?_
            refine tk 8 26 (tb 9 4) (hy := by rintro w' ⟨s0, s1, s2, s3⟩; go_simp; with_reducible rfl) (h := ?_)
            refine tk 9 27 (tb 10 3) (hy := by rintro w' ⟨s0, s1, s2, s3⟩; go_simp; with_reducible rfl) (h := ?_)
            refine on 10 28 (tb 11 2) (fun K hK => ?_)
            refine gs Try.func132 #[.agg #[.int .i64 ((rd_T28 t399 x10_1).f0), .int .i64 ((rd_T28 t399 x10_1).f1)]] ?_
            with_reducible refine (impl_sign.calls ((rd_T28 t399 x10_1).f0) ((rd_T28 t399 x10_1).f1) t406 _ A13.out).mono ?_
            rintro e w22 ⟨rfl, hb⟩
            have HS2_ := (hb.cell (World.block_lt_of_cell? _ _ (hHeld.2.2.1))).trans (hHeld.2.2.1)
            have HS3_ := (hb.cell (World.block_lt_of_cell? _ _ (hHeld.2.2.2))).trans (hHeld.2.2.2)
            refine ⟨_, rfl, ?_⟩
            replace HO_3 := Aside0.mk (Kd.S_below (by (with_reducible repeat (first | apply Kd.S_alloc | apply Kd.S_drewN | apply Kd.S_drew)); exact HO_3.out) hb)
            replace HO_8 := Aside0.mk (Kd.R_below (by (with_reducible repeat (first | apply Kd.R_alloc | apply Kd.R_drewN | apply Kd.R_drew)); exact HO_8.out) hb)
            replace HL404_0 := Aside0.mk (Kd.R_below (by (with_reducible repeat (first | apply Kd.R_alloc | apply Kd.R_drewN | apply Kd.R_drew)); exact HL404_0.out) hb)
            replace BK403 := kb BK403 hb
            replace HR404_0 := Aside0.mk (Kd.C_below (by repeat (first | (with_reducible exact HR404_0.out) | (with_reducible refine Kd.C_alloc ?_ _) | (with_reducible refine Kd.C_drewN ?_ _) | (with_reducible refine Kd.C_drew ?_) | exact HR404_0.out)) hb)
            replace HX404_0 := Aside0.mk (pw_cell_below hb HX404_0.out)
            replace HB := kh hb
            (try clear hb)
            (try clear hb2)
            (try clear hk)
            (try clear hi)
            refine hK.out _ _ ⟨(blk_cell BK403.out 0).trans rfl, (blk_cell BK403.out 1).trans rfl, HS2_, HS3_⟩ (fun hHeld => ?_)
            clear hK K
            refine nm 28 ?_
            refine pu 11 29 (tb 12 1) ?_
            refine pu 12 30 (tb 13 0) ?_
            refine done_ (done_of HT_.out (by kernel_rfl)) ?_
            have p407 : 0 ≤ ((ji9) : Int) := da
            have q407 : (ji9) < (x3_1.length : Int) := da
            obtain ⟨ad407, A407_0, c407_0, e407, hx407_0, hl407_0, hi407_0⟩ := at_L5 (Kd.S_reads' HO_3.out).2.2 (ji9) p407 q407
            obtain rfl : ad404 = ad407 := (by injection e407)
            obtain ⟨ce407, hce407, hMe407, hcc407⟩ := Kd.S_get HO_3.out [] (ji9) p407 (by first | exact q407 | exact da | (have e_ := (Kd.S_reads' HO_3.out).1; omega))
            obtain ⟨ve407_0, rfl, ge407_0⟩ := hMe407
            have hv407_0 := hcc407 0 _ rfl
            rw [Nat.add_zero, show ((Kd.slice 3 (Kd.int .i64))).sz = 1 from rfl, Nat.mul_one] at hv407_0
            replace hv407_0 := Option.some.inj (hv407_0.symm.trans hx407_0)
            rw [hv407_0] at ge407_0
            have HL407_0 := Aside0.mk (show Kd.R (Kd.int .i64) 3 _ _ _ _ (rd_L5 x3_1 (ji9)) from ge407_0)
            clear hv407_0 ge407_0
            have HX407_0 := Aside0.mk hx407_0
            clear hcc407 hce407
            have HR407_0 := Aside0.mk hi407_0
            have HC407_0 := Aside0.mk hl407_0
            clear hi407_0 hl407_0
            replace p407 := eq_true p407
            replace q407 := eq_true q407
            have e_ := Option.some.inj (HX404_0.out.symm.trans hx407_0)
            injection e_ with ea_ en_ ec_
            subst ec_
            subst ea_
            clear en_
            have p16 : 0 ≤ (1 : Int) := (by omega)
            have q16 : (1 : Int) < (((rd_L5 x3_1 (ji9)).length : Int) : Int) := da
            have qi16 : (1 < (rd_L5 x3_1 (ji9)).length) = True := eq_true (by omega)
            obtain ⟨go16, co16, eo16, gb16, gl16, cl16, HG16⟩ := Kd.R_form HL407_0.out (by omega)
            (first | cases eo16 | (injection eo16 with ea_ en_ ec_; (first | subst ea_ | (injection ea_ with ea_; subst ea_)); subst ec_; clear en_))
            have GB16 := Aside0.mk gb16
            have GG16 := Aside0.mk HG16
            clear gb16 gl16 HG16
            (first | simp only [add_plain] at hx405_0 | skip)
            obtain ⟨hx16_0, hf16_0⟩ := Kd.R_celln 0 HL407_0.out (1 : Int) p16 q16
            (try rw [show ((1 : Int)).toNat = 1 from rfl] at hx16_0)
            (try simp only [Nat.reduceMul, Nat.zero_mul, Nat.zero_add, Nat.reduceAdd] at hx16_0)
            (try rw [show ((1 : Int)).toNat = 1 from rfl] at hf16_0)
            (try simp only [Nat.reduceMul, Nat.zero_mul, Nat.zero_add, Nat.reduceAdd] at hf16_0)
            replace p16 := eq_true p16
            replace q16 := eq_true q16
            have hq23 : ((ji9) : Int) < (x3_1.length : Int) := (by have h_ : ((ji9) : Int) < ((x3_1.length : Int) : Int) := da; first | exact h_ | (have e_ := (Kd.S_reads' HO_3.out).1; omega) | simpa only [List.length_set, List.length_set] using h_)
            obtain ⟨oki23, ce23, hcl23, hM23, hcc23, hok23, hbk23⟩ := Kd.S_borrow HO_3.out [] ((ji9) : Int) (da) hq23
            obtain ⟨ve23_0, rfl, ge23_0⟩ := hM23
            have hv23 := hcc23 0 _ rfl
            rw [Nat.add_zero, show ((Kd.slice 3 (Kd.int .i64))).sz = 1 from rfl, Nat.mul_one] at hv23
            replace hv23 := Option.some.inj (hv23.symm.trans HX407_0.out)
            subst hv23
            clear hcc23 hcl23
            replace ge23_0 := (show Kd.R (Kd.int .i64) 3 _ _ _ _ (rd_L5 x3_1 (ji9)) from ge23_0)
            have HP23 := Kd.R_putg ge23_0 (1 : Int) (wrap64 (x10_1 + 1))
            try go_wp2_with (first | ((with_reducible refine gate_store (t := 3) (p := 37) rfl ?_); refine store_event (t := 3) (p := 37) (v := ?vo_w24) (w1 := (w22.setCell ⟨go16, 1, none⟩ (.int .i64 (wrap64 (x10_1 + 1))))) ?hg ?ho ?hn ?hr ?_; (case ho => rfl); (case hg => rfl); (case hn => rfl); (case hr => first | (go_simp; done) | (go_simp; rfl)); intro w24 hw; have hg : w22.grownBy w24 (some go16) := (by rw [hw]; exact HP23.2); have hz_ : Kd.R (Kd.int .i64) 3 w24 w.heap.size oki23 (.slice (some ⟨go16, 0, none⟩) (rd_L5 x3_1 (ji9)).length c404_0) y408 := (by rw [hw, Ny408.out]; exact HP23.1); have hp_ : Kd.S (Kd.slice 3 (Kd.int .i64)) 39 w24 w.heap.size (fun _ => True) (.slice (some ad404) x3_1.length co19) y410 := (by rw [Ny410.out]; exact hbk23 hg (fun k_ e_ => by injection e_ with e_; subst e_; exact ge23_0.1 _ rfl) (Kd.M_row hz_)); have hm_ := Kd.R_mono hz_ hok23; clear HP23 hbk23; have HL425 := Aside0.mk (hm_); have HC409 := Aside0.mk ((Kd.R_reads' hm_).2.1); replace HO_3 := Aside0.mk (hp_); replace HO_8 := Aside0.mk (Kd.R_over' (v := (.slice (some ⟨go16, 0, none⟩) (rd_L5 x3_1 (ji9)).length c404_0)) (by (with_reducible repeat (first | apply Kd.R_alloc | apply Kd.R_drewN | apply Kd.R_drew)); exact HO_8.out) (Kd.R_typed HL407_0.out) (by decide) hg); replace BK403 := Aside0.mk (blk_grown (g := gb403) (o := .cells #[.int .i64 ((rd_T28 t399 x10_1).f0), .int .i64 ((rd_T28 t399 x10_1).f1)] 28 (0, 0)) (bo gb403) hg (Kd.R_ne HL407_0.out BK403.out (by decide))); replace HB := Aside0.mk ((by rw [hw]; exact below_set (HB.out) GB16.out : Below w.heap.size w w24)); clear HL404_0 HL407_0; clear hg hw hp_ hz_ hm_ hok23))
            go_roundg k1
            case measure => have := HK1.out; omega
            case rel => exact ⟨(y410), (wrap64 (x10_1 + 1)), rs, H', ⟨by have := HK1.out; omega⟩, ⟨by (with_reducible repeat (first | apply Kd.S_alloc | apply Kd.S_drewN | apply Kd.S_drew)); exact HO_3.out⟩, ⟨by (with_reducible repeat (first | apply Kd.R_alloc | apply Kd.R_drewN | apply Kd.R_drew)); exact Kd.R_mono HO_8.out (fun _ hk => trivial)⟩, ⟨bl⟩⟩
           ·rw [if_neg c15] at H
            exact absurd H (by simp)
          ·rw [if_neg c14] at H
           have c14b0 : ((rd (rd_L5 x3_1 (ji9)) 2) == t406) = false := beq_eq_false_iff_ne.mpr c14
           have c14b1 : ((rd (rd_L5 x3_1 (ji9)) 2) != t406) = true := bne_iff_ne.mpr c14
           replace H := Option.bind_eq_some_iff.mp H
           obtain ⟨t411, A250, H⟩ := H
           replace H : (if x3_1.length < 5864062014805 then (impl_laps.l0 k1 (x3_1 ++ [(([x10_1, wrap64 (x10_1 + 1), t411] : List Int))]) t399 (t399.length : Int) (wrap64 (x10_1 + 1))) else (none)) = some r := H
           have A25 := Aside0.mk A250
           clear A250
           obtain ⟨y412, hy412⟩ : ∃ y_ : List Int, y_ = (([x10_1, wrap64 (x10_1 + 1), t411] : List Int)) := ⟨_, rfl⟩
           replace H : (if x3_1.length < 5864062014805 then (impl_laps.l0 k1 (x3_1 ++ [y412]) t399 (t399.length : Int) (wrap64 (x10_1 + 1))) else (none)) = some r := by first | (rw [hy412]; with_reducible exact H) | (have H2_ := (Option.bind_some _ _).symm.trans H; rw [hy412]; with_reducible exact H2_) | (have H2_ := (Option.bind_some _ _).symm.trans H; with_reducible exact H2_) | with_reducible exact H | (rw [hy412]; exact H) | exact H
           have Ny412 := Aside0.mk hy412
           clear hy412
           by_cases c26 : x3_1.length < 5864062014805
           ·rw [if_pos c26] at H
            have LMc26 := Aside0.mk c26
            clear c26
            obtain ⟨y415, hy415⟩ : ∃ y_ : List (List Int), y_ = (x3_1 ++ [y412]) := ⟨_, rfl⟩
            replace H : (impl_laps.l0 k1 y415 t399 (t399.length : Int) (wrap64 (x10_1 + 1))) = some r := by first | (rw [hy415]; with_reducible exact H) | (have H2_ := (Option.bind_some _ _).symm.trans H; rw [hy415]; with_reducible exact H2_) | (have H2_ := (Option.bind_some _ _).symm.trans H; with_reducible exact H2_) | with_reducible exact H | (rw [hy415]; exact H) | exact H
            have Ny415 := Aside0.mk hy415
            clear hy415
            have H' := Aside0.mk H
            clear H
            have p402 : 0 ≤ (x10_1 : Int) := da
            have q402 : x10_1 < (t399.length : Int) := da
            obtain ⟨ad402, e402, hx402_0, hx402_1⟩ := at_T28 (Kd.R_reads' HO_8.out).2.2 x10_1 p402 q402
            cases e402
            replace p402 := eq_true p402
            replace q402 := eq_true q402
            try go_wp2_with (first | ((with_reducible refine gate_dst (N := 5) rfl ?_); refine bx 5 #[.int .i64 0, .int .i64 0] 28 ?_; intro gb403 hg w27 hbox hb; have BK403 := Aside0.mk (hbox); have GW403 := Aside0.mk (bz hg); have GE403 := GW403; replace HO_3 := Aside0.mk (Kd.S_below (by (with_reducible repeat (first | apply Kd.S_alloc | apply Kd.S_drewN | apply Kd.S_drew)); exact HO_3.out) hb); replace HO_8 := Aside0.mk (Kd.R_below (Kd.R_elderB (by (with_reducible repeat (first | apply Kd.R_alloc | apply Kd.R_drewN | apply Kd.R_drew)); exact HO_8.out) gb403 (Nat.le_of_eq hg.symm)) hb); replace HB := kh hb; clear hb hbox hg; obtain ⟨hcz28_0, hcz28_1, hfz28_0, hfz28_1⟩ := b2 BK403; obtain ⟨Ao29, co29, eo29⟩ := Kd.S_slice HO_3.out; subst eo29))
            have n0_ : Aside0 (Kd.S (Kd.slice 3 (Kd.int .i64)) 39 ((w27.setCell ⟨gb403, 0, none⟩ (.int .i64 ((rd_T28 t399 x10_1).f0))).setCell ⟨gb403, 1, none⟩ (.int .i64 ((rd_T28 t399 x10_1).f1))) w.heap.size (fun _ => True) (.slice Ao29 x3_1.length co29) x3_1) := ⟨by (with_reducible repeat (first | apply Kd.S_alloc | apply Kd.S_drewN | apply Kd.S_drew)); exact Kd.S_mono (Kd.S_far (p := ⟨gb403, 1, none⟩) (Kd.S_far (p := ⟨gb403, 0, none⟩) (Kd.S_types HO_3.out BK403.out (by decide)) (fun _ hk => hk.2) (.int .i64 ((rd_T28 t399 x10_1).f0))) (fun _ hk => hk.2) (.int .i64 ((rd_T28 t399 x10_1).f1))) (fun _ hk => trivial)⟩
            have n1_ : Aside0 (Kd.R k28 28 ((w27.setCell ⟨gb403, 0, none⟩ (.int .i64 ((rd_T28 t399 x10_1).f0))).setCell ⟨gb403, 1, none⟩ (.int .i64 ((rd_T28 t399 x10_1).f1))) w.heap.size (fun k_ => k_ ≠ gb403) (.slice (some ad402) t399.length co4) t399) := ⟨by (with_reducible repeat (first | apply Kd.R_alloc | apply Kd.R_drewN | apply Kd.R_drew)); exact Kd.R_mono (Kd.R_far (p := ⟨gb403, 1, none⟩) (Kd.R_far (p := ⟨gb403, 0, none⟩) (Kd.R_mono HO_8.out (fun k_ hk => (⟨hk, hk.2⟩ : _ ∧ k_ ≠ gb403))) (fun _ hk => hk.2) (.int .i64 ((rd_T28 t399 x10_1).f0))) (fun _ hk => hk.2) (.int .i64 ((rd_T28 t399 x10_1).f1))) (fun _ hk => hk.1.2)⟩
            have n2_ : Aside0 (((w27.setCell ⟨gb403, 0, none⟩ (.int .i64 ((rd_T28 t399 x10_1).f0))).setCell ⟨gb403, 1, none⟩ (.int .i64 ((rd_T28 t399 x10_1).f1))).heap[gb403]? = some (.cells #[.int .i64 ((rd_T28 t399 x10_1).f0), .int .i64 ((rd_T28 t399 x10_1).f1)] 28 (0, 0))) := ⟨by (with_reducible repeat (first | refine blk_drewN ?_ _ | refine blk_drew ?_ | refine blk_alloc ?_ _)); refine blk_put (cs := #[.int .i64 ((rd_T28 t399 x10_1).f0), .int .i64 0]) ?_ 1 _ rfl; (with_reducible repeat (first | refine blk_drewN ?_ _ | refine blk_drew ?_ | refine blk_alloc ?_ _)); refine blk_put (cs := #[.int .i64 0, .int .i64 0]) ?_ 0 _ rfl; (with_reducible repeat (first | refine blk_drewN ?_ _ | refine blk_drew ?_ | refine blk_alloc ?_ _)); exact BK403.out⟩
            have n3_ : Aside0 (Below w.heap.size w ((w27.setCell ⟨gb403, 0, none⟩ (.int .i64 ((rd_T28 t399 x10_1).f0))).setCell ⟨gb403, 1, none⟩ (.int .i64 ((rd_T28 t399 x10_1).f1)))) := ⟨bl⟩
            (try clear HO_3)
            (try clear HO_8)
            (try clear BK403)
            (try clear HB)
            generalize ((w27.setCell ⟨gb403, 0, none⟩ (.int .i64 ((rd_T28 t399 x10_1).f0))).setCell ⟨gb403, 1, none⟩ (.int .i64 ((rd_T28 t399 x10_1).f1))) = w30 at n0_ n1_ n2_ n3_ ⊢
            have HO_3 := n0_
            have HO_8 := n1_
            have BK403 := n2_
            have HB := n3_
            clear n0_ n1_ n2_ n3_
            replace HO_3 := Aside0.mk (Kd.S_drew HO_3.out)
            replace HO_8 := Aside0.mk (Kd.R_drew HO_8.out)
            replace BK403 := Aside0.mk (blk_drew BK403.out)
            replace HB := Aside0.mk (below_drew1 HB.out)
            have p404 : 0 ≤ ((ji9) : Int) := da
            have q404 : (ji9) < (x3_1.length : Int) := da
            obtain ⟨ad404, A404_0, c404_0, e404, hx404_0, hl404_0, hi404_0⟩ := at_L5 (Kd.S_reads' HO_3.out).2.2 (ji9) p404 q404
            cases e404
            obtain ⟨ce404, hce404, hMe404, hcc404⟩ := Kd.S_get HO_3.out [] (ji9) p404 (by first | exact q404 | exact da | (have e_ := (Kd.S_reads' HO_3.out).1; omega))
            obtain ⟨ve404_0, rfl, ge404_0⟩ := hMe404
            have hv404_0 := hcc404 0 _ rfl
            rw [Nat.add_zero, show ((Kd.slice 3 (Kd.int .i64))).sz = 1 from rfl, Nat.mul_one] at hv404_0
            replace hv404_0 := Option.some.inj (hv404_0.symm.trans hx404_0)
            rw [hv404_0] at ge404_0
            have HL404_0 := Aside0.mk (show Kd.R (Kd.int .i64) 3 _ _ _ _ (rd_L5 x3_1 (ji9)) from ge404_0)
            clear hv404_0 ge404_0
            have HX404_0 := Aside0.mk hx404_0
            clear hcc404 hce404
            have HR404_0 := Aside0.mk hi404_0
            have HC404_0 := Aside0.mk hl404_0
            clear hi404_0 hl404_0
            replace p404 := eq_true p404
            replace q404 := eq_true q404
            have p405 : 0 ≤ (2 : Int) := (by omega)
            have q405 : 2 < ((rd_L5 x3_1 (ji9)).length : Int) := da
            obtain ⟨ad405, e405, hx405_0⟩ := Kd.at_int (by repeat (first | (with_reducible exact HR404_0.out) | (with_reducible refine Kd.C_alloc ?_ _) | (with_reducible refine Kd.C_drewN ?_ _) | (with_reducible refine Kd.C_drew ?_) | exact HR404_0.out)) 2 p405 q405
            cases e405
            (try simp only [show (2 : Int).toNat = 2 from rfl, Nat.reduceMul, Nat.reduceEqDiff, Go.Addr.add, ↓reduceIte] at hx405_0)
            have qi405 : (2 < (rd_L5 x3_1 (ji9)).length) = True := eq_true (by omega)
            (try rw [show ((2 : Int)).toNat = 2 from rfl] at hx405_0)
            replace p405 := eq_true p405
            replace q405 := eq_true q405
            refine start_ (n := 13) (S := fun w' => w'.cell? ⟨gb403, 0, none⟩ = some (.int .i64 ((rd_T28 t399 x10_1).f0)) ∧ w'.cell? ⟨gb403, 1, none⟩ = some (.int .i64 ((rd_T28 t399 x10_1).f1)) ∧ w'.cell? (ad404.add ((ji9)).toNat) = some (.slice (some ad405) (rd_L5 x3_1 (ji9)).length c404_0) ∧ w'.cell? ⟨ad405.block, ad405.off + 2, none⟩ = some (.int .i64 (rd (rd_L5 x3_1 (ji9)) 2))) (ds := []) (tb 0 13) (by kernel_rfl) rfl rfl ⟨(blk_cell BK403.out 0).trans rfl, (blk_cell BK403.out 1).trans rfl, hx404_0, hx405_0⟩ (fun hHeld => ?_); refine with_tabW impl_laps.tab6 impl_laps.bits6 (fun HT_ HW_ => ?_)
            generalize w30.drew = w31 at HO_3 HO_8 BK403 HB HL404_0 HR404_0 HX404_0 hx404_0 hx405_0 hHeld ⊢
            refine pu 0 18 (tb 1 12) ?_
            refine pu 1 19 (tb 2 11) ?_
            refine pu 2 20 (tb 3 10) ?_
            refine pu 3 21 (tb 4 9) ?_
            refine pu 4 22 (tb 5 8) ?_
            refine pu 5 23 (tb 6 7) ?_
            refine tk 6 24 (tb 7 6) (hy := by rintro w' ⟨s0, s1, s2, s3⟩; go_simp; with_reducible rfl) (h := ?_)
            refine pu 7 25 (tb 8 5) ?_
            refine tk 8 26 (tb 9 4) (hy := by rintro w' ⟨s0, s1, s2, s3⟩; go_simp; with_reducible rfl) (h := ?_)
            refine tk 9 27 (tb 10 3) (hy := by rintro w' ⟨s0, s1, s2, s3⟩; go_simp; with_reducible rfl) (h := ?_)
            refine on 10 28 (tb 11 2) (fun K hK => ?_)
            refine gs Try.func132 #[.agg #[.int .i64 ((rd_T28 t399 x10_1).f0), .int .i64 ((rd_T28 t399 x10_1).f1)]] ?_
            with_reducible refine (impl_sign.calls ((rd_T28 t399 x10_1).f0) ((rd_T28 t399 x10_1).f1) t406 _ A13.out).mono ?_
            rintro e w32 ⟨rfl, hb⟩
            have HS2_ := (hb.cell (World.block_lt_of_cell? _ _ (hHeld.2.2.1))).trans (hHeld.2.2.1)
            have HS3_ := (hb.cell (World.block_lt_of_cell? _ _ (hHeld.2.2.2))).trans (hHeld.2.2.2)
            refine ⟨_, rfl, ?_⟩
            replace HO_3 := Aside0.mk (Kd.S_below (by (with_reducible repeat (first | apply Kd.S_alloc | apply Kd.S_drewN | apply Kd.S_drew)); exact HO_3.out) hb)
            replace HO_8 := Aside0.mk (Kd.R_below (by (with_reducible repeat (first | apply Kd.R_alloc | apply Kd.R_drewN | apply Kd.R_drew)); exact HO_8.out) hb)
            replace HL404_0 := Aside0.mk (Kd.R_below (by (with_reducible repeat (first | apply Kd.R_alloc | apply Kd.R_drewN | apply Kd.R_drew)); exact HL404_0.out) hb)
            replace BK403 := kb BK403 hb
            replace HR404_0 := Aside0.mk (Kd.C_below (by repeat (first | (with_reducible exact HR404_0.out) | (with_reducible refine Kd.C_alloc ?_ _) | (with_reducible refine Kd.C_drewN ?_ _) | (with_reducible refine Kd.C_drew ?_) | exact HR404_0.out)) hb)
            replace HX404_0 := Aside0.mk (pw_cell_below hb HX404_0.out)
            replace HB := kh hb
            (try clear hb)
            (try clear hb2)
            (try clear hk)
            (try clear hi)
            refine hK.out _ _ ⟨(blk_cell BK403.out 0).trans rfl, (blk_cell BK403.out 1).trans rfl, HS2_, HS3_⟩ (fun hHeld => ?_)
            clear hK K
            refine nm 28 ?_
            refine pu 11 29 (tb 12 1) ?_
            refine pu 12 30 (tb 13 0) ?_
            refine done_ (done_of HT_.out (by kernel_rfl)) ?_
            obtain ⟨hcz33_0, hcz33_1, hfz33_0, hfz33_1⟩ := b2 BK403
            try go_wp2_with (first | ((with_reducible refine gate_callee (f := 132) rfl ?_); refine gl 43 Try.func132 #[.agg #[.int .i64 ((rd_T28 t399 x10_1).f0), .int .i64 ((rd_T28 t399 x10_1).f1)]] ?_; (with_reducible refine (impl_sign.calls ((rd_T28 t399 x10_1).f0) ((rd_T28 t399 x10_1).f1) t411 _ A25.out).mono ?_); rintro e w34 ⟨rfl, hb⟩; refine ⟨_, rfl, ?_⟩; replace HO_3 := Aside0.mk (Kd.S_below (by (with_reducible repeat (first | apply Kd.S_alloc | apply Kd.S_drewN | apply Kd.S_drew)); exact HO_3.out) hb); replace HO_8 := Aside0.mk (Kd.R_below (by (with_reducible repeat (first | apply Kd.R_alloc | apply Kd.R_drewN | apply Kd.R_drew)); exact HO_8.out) hb); replace HL404_0 := Aside0.mk (Kd.R_below (by (with_reducible repeat (first | apply Kd.R_alloc | apply Kd.R_drewN | apply Kd.R_drew)); exact HL404_0.out) hb); replace BK403 := kb BK403 hb; replace HR404_0 := Aside0.mk (Kd.C_below (by repeat (first | (with_reducible exact HR404_0.out) | (with_reducible refine Kd.C_alloc ?_ _) | (with_reducible refine Kd.C_drewN ?_ _) | (with_reducible refine Kd.C_drew ?_) | exact HR404_0.out)) hb); replace HX404_0 := Aside0.mk (pw_cell_below hb HX404_0.out); replace HB := kh hb; (try clear hb); (try clear hb2); (try clear hk); (try clear hi)) | ((with_reducible refine gate_dst (N := 44) rfl ?_); refine Kd.R_lit (Kd.int .i64) _ 3 ?hg (N := 44) ?hd (xs := ([x10_1, wrap64 (x10_1 + 1), t411] : List Int)) (inner := [.int .i64 x10_1, .int .i64 (wrap64 (x10_1 + 1)), .int .i64 t411]) (ok := fun _ => True) (okp := fun _ => True) ?hr ?hp (fun _ hk => hk) trivial (Below.refl _ _) (Nat.le_refl _) (by simp) ?_; (case hd => rfl); (case hg => rfl); (case hr => first | (go_simp; done) | (go_simp; rfl)); (case hp => exact (Reps.one (show Kd.M (Kd.int .i64) _ _ _ x10_1 [.int .i64 x10_1] from rfl) (Reps.one (show Kd.M (Kd.int .i64) _ _ _ (wrap64 (x10_1 + 1)) [.int .i64 (wrap64 (x10_1 + 1))] from rfl) (Reps.one (show Kd.M (Kd.int .i64) _ _ _ t411 [.int .i64 t411] from rfl) (Reps.none _ _))))); intro v413 w35 ho36 hb hg_ hnew_; clear hg_ hnew_; (first | rw [← Ny412.out] at ho36 | (simp only [Int.reduceToNat] at ho36; rw [← Ny412.out] at ho36)); have HO414 := Aside0.mk (Kd.R_lower (Kd.R_new' ho36 (Kd.R_lt (by (with_reducible repeat (first | apply Kd.R_alloc | apply Kd.R_drewN | apply Kd.R_drew)); exact HL404_0.out))) (below_size bl)); replace HO_3 := Aside0.mk (Kd.S_elder' (by (with_reducible repeat (first | apply Kd.S_alloc | apply Kd.S_drewN | apply Kd.S_drew)); exact HO_3.out) (Kd.R_base ho36) hb); replace HO_8 := Aside0.mk (Kd.R_below (by (with_reducible repeat (first | apply Kd.R_alloc | apply Kd.R_drewN | apply Kd.R_drew)); exact HO_8.out) hb); replace HL404_0 := Aside0.mk (Kd.R_elder' (by (with_reducible repeat (first | apply Kd.R_alloc | apply Kd.R_drewN | apply Kd.R_drew)); exact HL404_0.out) (Kd.R_base ho36) hb); replace BK403 := kb BK403 hb; replace HR404_0 := Aside0.mk (Kd.C_below (by repeat (first | (with_reducible exact HR404_0.out) | (with_reducible refine Kd.C_alloc ?_ _) | (with_reducible refine Kd.C_drewN ?_ _) | (with_reducible refine Kd.C_drew ?_) | exact HR404_0.out)) hb); replace HX404_0 := Aside0.mk (pw_cell_below hb HX404_0.out); replace HB := kh hb; clear hb ho36; obtain ⟨Ao38, co38, eo38⟩ := Kd.R_slice HO414.out; subst eo38) | ((with_reducible refine gate_builtin (b := .append) (xs := #[.tmp 38, .tmp 45]) rfl ?_); at_builtin; refine Kd.S_append (Kd.slice 3 (Kd.int .i64)) (w0 := w) w.heap.size rfl (.tmp 38) (.tmp 45) 103 39 (.slice none 0 0) 24 rfl Try.underlying103 info39 rfl (by decide) (by omega) (.slice (some ad404) x3_1.length co29) x3_1 y412 [.slice Ao38 y412.length co38] (fun _ => True) (fun k_ => some k_ = (.slice Ao38 y412.length co38 : Value).ownBlock) rfl rfl ?aP (fun k_ hk_ => ((Kd.R_mono (ok' := fun k_ => ((fun _ => True)) k_ ∧ some k_ ≠ (.slice (some ad404) x3_1.length co29 : Value).ownBlock) (Kd.R_apart' (HO414.out) (Kd.S_typed HO_3.out) (by decide)) (fun k_ hk => ⟨trivial, hk.2⟩))).1 k_ hk_.symm) ?aF ?aO ?aB ?aS ?aL ?_; (case aP => exact Kd.M_row (Kd.R_mono (Kd.R_tight rfl (Kd.R_mono (ok' := fun k_ => ((fun _ => True)) k_ ∧ some k_ ≠ (.slice (some ad404) x3_1.length co29 : Value).ownBlock) (Kd.R_apart' (HO414.out) (Kd.S_typed HO_3.out) (by decide)) (fun k_ hk => ⟨trivial, hk.2⟩))) (fun _ h_ => h_))); (case aB => exact bl); (case aF => exact (fun _ _ => trivial)); (case aO => exact (by (with_reducible repeat (first | apply Kd.S_alloc | apply Kd.S_drewN | apply Kd.S_drew)); exact Kd.S_mono HO_3.out (fun k_ hk => ⟨trivial, fun e_ => hk.2 e_⟩))); (case aS => exact (below_size bl)); (case aL => have := LMc26.out; omega); intro v416 w37 ho hb hg hat; rw [← Ny415.out] at ho; have HO417 := Aside0.mk (ho); replace HO_8 := Aside0.mk (Kd.R_over' (by (with_reducible repeat (first | apply Kd.R_alloc | apply Kd.R_drewN | apply Kd.R_drew)); exact HO_8.out) (Kd.S_typed (by (with_reducible repeat (first | apply Kd.S_alloc | apply Kd.S_drewN | apply Kd.S_drew)); exact HO_3.out)) (by decide) hg); replace BK403 := Aside0.mk (blk_grown (g := gb403) (o := .cells #[.int .i64 ((rd_T28 t399 x10_1).f0), .int .i64 ((rd_T28 t399 x10_1).f1)] 28 (0, 0)) (bo gb403) hg (Kd.S_ne HO_3.out BK403.out (by decide))); replace HL404_0 := Aside0.mk (Kd.R_after (ok := (fun k_ => some k_ ≠ (.slice Ao38 y412.length co38 : Value).ownBlock)) (by (with_reducible repeat (first | apply Kd.R_alloc | apply Kd.R_drewN | apply Kd.R_drew)); exact Kd.R_mono HL404_0.out (fun _ hk => ⟨hk.2, hk.1.2⟩)) hg hat); replace HB := Aside0.mk (hb); clear HO_3 HO414; clear ho hb hg hat))
            go_roundg k1
            case measure => have := HK1.out; omega
            case rel => exact ⟨(y415), (wrap64 (x10_1 + 1)), rs, H', ⟨by have := HK1.out; omega⟩, ⟨by (with_reducible repeat (first | apply Kd.S_alloc | apply Kd.S_drewN | apply Kd.S_drew)); exact HO417.out⟩, ⟨by (with_reducible repeat (first | apply Kd.R_alloc | apply Kd.R_drewN | apply Kd.R_drew)); exact Kd.R_mono HO_8.out (fun _ hk => trivial)⟩, ⟨bl⟩⟩
           ·rw [if_neg c26] at H
            exact absurd H (by simp)
         ·rw [if_neg c12] at H
          exact absurd H (by simp)
        ·rw [if_neg c11] at H
         exact absurd H (by simp)
       ·rw [if_neg c10] at H
        exact absurd H (by simp)
      ·rw [if_neg c8] at H
       have c8b0 : decide (0 ≤ (wrap64 ((x3_1.length : Int) - 1))) = false := decide_eq_false c8
       clear c8
       replace H := Option.bind_eq_some_iff.mp H
       obtain ⟨t418, A390, H⟩ := H
       replace H : (if x3_1.length < 5864062014805 then (impl_laps.l0 k1 (x3_1 ++ [(([x10_1, wrap64 (x10_1 + 1), t418] : List Int))]) t399 (t399.length : Int) (wrap64 (x10_1 + 1))) else (none)) = some r := H
       have A39 := Aside0.mk A390
       clear A390
       obtain ⟨y419, hy419⟩ : ∃ y_ : List Int, y_ = (([x10_1, wrap64 (x10_1 + 1), t418] : List Int)) := ⟨_, rfl⟩
       replace H : (if x3_1.length < 5864062014805 then (impl_laps.l0 k1 (x3_1 ++ [y419]) t399 (t399.length : Int) (wrap64 (x10_1 + 1))) else (none)) = some r := by first | (rw [hy419]; with_reducible exact H) | (have H2_ := (Option.bind_some _ _).symm.trans H; rw [hy419]; with_reducible exact H2_) | (have H2_ := (Option.bind_some _ _).symm.trans H; with_reducible exact H2_) | with_reducible exact H | (rw [hy419]; exact H) | exact H
       have Ny419 := Aside0.mk hy419
       clear hy419
       by_cases c40 : x3_1.length < 5864062014805
       ·rw [if_pos c40] at H
        have LMc40 := Aside0.mk c40
        clear c40
        obtain ⟨y422, hy422⟩ : ∃ y_ : List (List Int), y_ = (x3_1 ++ [y419]) := ⟨_, rfl⟩
        replace H : (impl_laps.l0 k1 y422 t399 (t399.length : Int) (wrap64 (x10_1 + 1))) = some r := by first | (rw [hy422]; with_reducible exact H) | (have H2_ := (Option.bind_some _ _).symm.trans H; rw [hy422]; with_reducible exact H2_) | (have H2_ := (Option.bind_some _ _).symm.trans H; with_reducible exact H2_) | with_reducible exact H | (rw [hy422]; exact H) | exact H
        have Ny422 := Aside0.mk hy422
        clear hy422
        have H' := Aside0.mk H
        clear H
        have p402 : 0 ≤ (x10_1 : Int) := da
        have q402 : x10_1 < (t399.length : Int) := da
        obtain ⟨ad402, e402, hx402_0, hx402_1⟩ := at_T28 (Kd.R_reads' HO_8.out).2.2 x10_1 p402 q402
        cases e402
        replace p402 := eq_true p402
        replace q402 := eq_true q402
        try go_wp2_with (first | ((with_reducible refine gate_dst (N := 5) rfl ?_); refine bx 5 #[.int .i64 0, .int .i64 0] 28 ?_; intro gb403 hg w41 hbox hb; have BK403 := Aside0.mk (hbox); have GW403 := Aside0.mk (bz hg); have GE403 := GW403; replace HO_3 := Aside0.mk (Kd.S_below (by (with_reducible repeat (first | apply Kd.S_alloc | apply Kd.S_drewN | apply Kd.S_drew)); exact HO_3.out) hb); replace HO_8 := Aside0.mk (Kd.R_below (Kd.R_elderB (by (with_reducible repeat (first | apply Kd.R_alloc | apply Kd.R_drewN | apply Kd.R_drew)); exact HO_8.out) gb403 (Nat.le_of_eq hg.symm)) hb); replace HB := kh hb; clear hb hbox hg; obtain ⟨hcz42_0, hcz42_1, hfz42_0, hfz42_1⟩ := b2 BK403; obtain ⟨Ao43, co43, eo43⟩ := Kd.S_slice HO_3.out; subst eo43))
        have n0_ : Aside0 (Kd.S (Kd.slice 3 (Kd.int .i64)) 39 ((w41.setCell ⟨gb403, 0, none⟩ (.int .i64 ((rd_T28 t399 x10_1).f0))).setCell ⟨gb403, 1, none⟩ (.int .i64 ((rd_T28 t399 x10_1).f1))) w.heap.size (fun _ => True) (.slice Ao43 x3_1.length co43) x3_1) := ⟨by (with_reducible repeat (first | apply Kd.S_alloc | apply Kd.S_drewN | apply Kd.S_drew)); exact Kd.S_mono (Kd.S_far (p := ⟨gb403, 1, none⟩) (Kd.S_far (p := ⟨gb403, 0, none⟩) (Kd.S_types HO_3.out BK403.out (by decide)) (fun _ hk => hk.2) (.int .i64 ((rd_T28 t399 x10_1).f0))) (fun _ hk => hk.2) (.int .i64 ((rd_T28 t399 x10_1).f1))) (fun _ hk => trivial)⟩
        have n1_ : Aside0 (Kd.R k28 28 ((w41.setCell ⟨gb403, 0, none⟩ (.int .i64 ((rd_T28 t399 x10_1).f0))).setCell ⟨gb403, 1, none⟩ (.int .i64 ((rd_T28 t399 x10_1).f1))) w.heap.size (fun k_ => k_ ≠ gb403) (.slice (some ad402) t399.length co4) t399) := ⟨by (with_reducible repeat (first | apply Kd.R_alloc | apply Kd.R_drewN | apply Kd.R_drew)); exact Kd.R_mono (Kd.R_far (p := ⟨gb403, 1, none⟩) (Kd.R_far (p := ⟨gb403, 0, none⟩) (Kd.R_mono HO_8.out (fun k_ hk => (⟨hk, hk.2⟩ : _ ∧ k_ ≠ gb403))) (fun _ hk => hk.2) (.int .i64 ((rd_T28 t399 x10_1).f0))) (fun _ hk => hk.2) (.int .i64 ((rd_T28 t399 x10_1).f1))) (fun _ hk => hk.1.2)⟩
        have n2_ : Aside0 (((w41.setCell ⟨gb403, 0, none⟩ (.int .i64 ((rd_T28 t399 x10_1).f0))).setCell ⟨gb403, 1, none⟩ (.int .i64 ((rd_T28 t399 x10_1).f1))).heap[gb403]? = some (.cells #[.int .i64 ((rd_T28 t399 x10_1).f0), .int .i64 ((rd_T28 t399 x10_1).f1)] 28 (0, 0))) := ⟨by (with_reducible repeat (first | refine blk_drewN ?_ _ | refine blk_drew ?_ | refine blk_alloc ?_ _)); refine blk_put (cs := #[.int .i64 ((rd_T28 t399 x10_1).f0), .int .i64 0]) ?_ 1 _ rfl; (with_reducible repeat (first | refine blk_drewN ?_ _ | refine blk_drew ?_ | refine blk_alloc ?_ _)); refine blk_put (cs := #[.int .i64 0, .int .i64 0]) ?_ 0 _ rfl; (with_reducible repeat (first | refine blk_drewN ?_ _ | refine blk_drew ?_ | refine blk_alloc ?_ _)); exact BK403.out⟩
        have n3_ : Aside0 (Below w.heap.size w ((w41.setCell ⟨gb403, 0, none⟩ (.int .i64 ((rd_T28 t399 x10_1).f0))).setCell ⟨gb403, 1, none⟩ (.int .i64 ((rd_T28 t399 x10_1).f1)))) := ⟨bl⟩
        (try clear HO_3)
        (try clear HO_8)
        (try clear BK403)
        (try clear HB)
        generalize ((w41.setCell ⟨gb403, 0, none⟩ (.int .i64 ((rd_T28 t399 x10_1).f0))).setCell ⟨gb403, 1, none⟩ (.int .i64 ((rd_T28 t399 x10_1).f1))) = w44 at n0_ n1_ n2_ n3_ ⊢
        have HO_3 := n0_
        have HO_8 := n1_
        have BK403 := n2_
        have HB := n3_
        clear n0_ n1_ n2_ n3_
        replace HO_3 := Aside0.mk (Kd.S_drew HO_3.out)
        replace HO_8 := Aside0.mk (Kd.R_drew HO_8.out)
        replace BK403 := Aside0.mk (blk_drew BK403.out)
        replace HB := Aside0.mk (below_drew1 HB.out)
        refine start_ (n := 13) (S := fun w' => True) (ds := []) (tb 0 13) (by kernel_rfl) rfl rfl trivial (fun hHeld => ?_); refine with_tabW impl_laps.tab6 impl_laps.bits6 (fun HT_ HW_ => ?_)
        generalize w44.drew = w45 at HO_3 HO_8 BK403 HB hHeld ⊢
        refine pu 0 18 (tb 1 12) ?_
        refine pu 1 19 (tb 2 11) ?_
        refine pu 2 20 (tb 3 10) ?_
        refine sk 3 21 (tb 4 9) ?_
        refine sk 4 22 (tb 5 8) ?_
        refine sk 5 23 (tb 6 7) ?_
        refine sk 6 24 (tb 7 6) ?_
        refine sk 7 25 (tb 8 5) ?_
        refine sk 8 26 (tb 9 4) ?_
        refine sk 9 27 (tb 10 3) ?_
        refine sk 10 28 (tb 11 2) ?_
        refine sk 11 29 (tb 12 1) ?_
        refine pu 12 30 (tb 13 0) ?_
        refine done_ (done_of HT_.out (by kernel_rfl)) ?_
        obtain ⟨hcz46_0, hcz46_1, hfz46_0, hfz46_1⟩ := b2 BK403
        try go_wp2_with (first | ((with_reducible refine gate_callee (f := 132) rfl ?_); refine gl 43 Try.func132 #[.agg #[.int .i64 ((rd_T28 t399 x10_1).f0), .int .i64 ((rd_T28 t399 x10_1).f1)]] ?_; (with_reducible refine (impl_sign.calls ((rd_T28 t399 x10_1).f0) ((rd_T28 t399 x10_1).f1) t418 _ A39.out).mono ?_); rintro e w47 ⟨rfl, hb⟩; refine ⟨_, rfl, ?_⟩; replace HO_3 := Aside0.mk (Kd.S_below (by (with_reducible repeat (first | apply Kd.S_alloc | apply Kd.S_drewN | apply Kd.S_drew)); exact HO_3.out) hb); replace HO_8 := Aside0.mk (Kd.R_below (by (with_reducible repeat (first | apply Kd.R_alloc | apply Kd.R_drewN | apply Kd.R_drew)); exact HO_8.out) hb); replace BK403 := kb BK403 hb; replace HB := kh hb; (try clear hb); (try clear hb2); (try clear hk); (try clear hi)) | ((with_reducible refine gate_dst (N := 44) rfl ?_); refine Kd.R_lit (Kd.int .i64) _ 3 ?hg (N := 44) ?hd (xs := ([x10_1, wrap64 (x10_1 + 1), t418] : List Int)) (inner := [.int .i64 x10_1, .int .i64 (wrap64 (x10_1 + 1)), .int .i64 t418]) (ok := fun _ => True) (okp := fun _ => True) ?hr ?hp (fun _ hk => hk) trivial (Below.refl _ _) (Nat.le_refl _) (by simp) ?_; (case hd => rfl); (case hg => rfl); (case hr => first | (go_simp; done) | (go_simp; rfl)); (case hp => exact (Reps.one (show Kd.M (Kd.int .i64) _ _ _ x10_1 [.int .i64 x10_1] from rfl) (Reps.one (show Kd.M (Kd.int .i64) _ _ _ (wrap64 (x10_1 + 1)) [.int .i64 (wrap64 (x10_1 + 1))] from rfl) (Reps.one (show Kd.M (Kd.int .i64) _ _ _ t418 [.int .i64 t418] from rfl) (Reps.none _ _))))); intro v420 w48 ho49 hb hg_ hnew_; clear hg_ hnew_; (first | rw [← Ny419.out] at ho49 | (simp only [Int.reduceToNat] at ho49; rw [← Ny419.out] at ho49)); have HO421 := Aside0.mk (Kd.R_lower ho49 (below_size bl)); replace HO_3 := Aside0.mk (Kd.S_elder' (by (with_reducible repeat (first | apply Kd.S_alloc | apply Kd.S_drewN | apply Kd.S_drew)); exact HO_3.out) (Kd.R_base ho49) hb); replace HO_8 := Aside0.mk (Kd.R_below (by (with_reducible repeat (first | apply Kd.R_alloc | apply Kd.R_drewN | apply Kd.R_drew)); exact HO_8.out) hb); replace BK403 := kb BK403 hb; replace HB := kh hb; clear hb ho49; obtain ⟨Ao51, co51, eo51⟩ := Kd.R_slice HO421.out; subst eo51) | ((with_reducible refine gate_builtin (b := .append) (xs := #[.tmp 38, .tmp 45]) rfl ?_); at_builtin; refine Kd.S_append (Kd.slice 3 (Kd.int .i64)) (w0 := w) w.heap.size rfl (.tmp 38) (.tmp 45) 103 39 (.slice none 0 0) 24 rfl Try.underlying103 info39 rfl (by decide) (by omega) (.slice Ao43 x3_1.length co43) x3_1 y419 [.slice Ao51 y419.length co51] (fun _ => True) (fun k_ => some k_ = (.slice Ao51 y419.length co51 : Value).ownBlock) rfl rfl ?aP (fun k_ hk_ => ((Kd.R_mono (ok' := fun k_ => ((fun _ => True)) k_ ∧ some k_ ≠ (.slice Ao43 x3_1.length co43 : Value).ownBlock) (Kd.R_apart' (HO421.out) (Kd.S_typed HO_3.out) (by decide)) (fun k_ hk => ⟨trivial, hk.2⟩))).1 k_ hk_.symm) ?aF ?aO ?aB ?aS ?aL ?_; (case aP => exact Kd.M_row (Kd.R_mono (Kd.R_tight rfl (Kd.R_mono (ok' := fun k_ => ((fun _ => True)) k_ ∧ some k_ ≠ (.slice Ao43 x3_1.length co43 : Value).ownBlock) (Kd.R_apart' (HO421.out) (Kd.S_typed HO_3.out) (by decide)) (fun k_ hk => ⟨trivial, hk.2⟩))) (fun _ h_ => h_))); (case aB => exact bl); (case aF => exact (fun _ _ => trivial)); (case aO => exact (by (with_reducible repeat (first | apply Kd.S_alloc | apply Kd.S_drewN | apply Kd.S_drew)); exact Kd.S_mono HO_3.out (fun k_ hk => ⟨trivial, fun e_ => hk.2 e_⟩))); (case aS => exact (below_size bl)); (case aL => have := LMc40.out; omega); intro v423 w50 ho hb hg hat; rw [← Ny422.out] at ho; have HO424 := Aside0.mk (ho); replace HO_8 := Aside0.mk (Kd.R_over' (by (with_reducible repeat (first | apply Kd.R_alloc | apply Kd.R_drewN | apply Kd.R_drew)); exact HO_8.out) (Kd.S_typed (by (with_reducible repeat (first | apply Kd.S_alloc | apply Kd.S_drewN | apply Kd.S_drew)); exact HO_3.out)) (by decide) hg); replace BK403 := Aside0.mk (blk_grown (g := gb403) (o := .cells #[.int .i64 ((rd_T28 t399 x10_1).f0), .int .i64 ((rd_T28 t399 x10_1).f1)] 28 (0, 0)) (bo gb403) hg (Kd.S_ne HO_3.out BK403.out (by decide))); replace HB := Aside0.mk (hb); clear HO_3 HO421; clear ho hb hg hat))
        go_roundg k1
        case measure => have := HK1.out; omega
        case rel => exact ⟨(y422), (wrap64 (x10_1 + 1)), rs, H', ⟨by have := HK1.out; omega⟩, ⟨by (with_reducible repeat (first | apply Kd.S_alloc | apply Kd.S_drewN | apply Kd.S_drew)); exact HO424.out⟩, ⟨by (with_reducible repeat (first | apply Kd.R_alloc | apply Kd.R_drewN | apply Kd.R_drew)); exact Kd.R_mono HO_8.out (fun _ hk => trivial)⟩, ⟨bl⟩⟩
       ·rw [if_neg c40] at H
        exact absurd H (by simp)
     ·rw [if_neg c7] at H
      exact absurd H (by simp)
    ·rw [if_neg c6] at H
     exact absurd H (by simp)
   ·rw [if_neg c5] at H
    have c5b0 : decide (x10_1 < (t399.length : Int)) = false := decide_eq_false c5
    clear c5
    obtain rfl := Option.some.inj H
    go_wp2
    go_ret
    exact ⟨_, rt, by (with_reducible repeat (first | apply Kd.S_alloc | apply Kd.S_drewN | apply Kd.S_drew)); exact HO_3.out, bl⟩

-- NOT PRINTED: function 112 (impl_isLapWord_1)

/-! ### impl_isLapWord_1_with: function 112 -/
def impl_isLapWord_1_with.f (a0 : Int) (l1 : List Int) : Option (Bool) := if 0 < (l1.length : Int) then ((impl_within.f a0 0 (wrap64 ((rd l1 0) - 1))).bind fun t427 => (some (!t427))) else (none)
set_option maxHeartbeats 8000000 in
set_option maxRecDepth 100000 in
theorem impl_isLapWord_1_with.calls (a0 : Int) (A1 : Option Addr) (c1 : Nat) (l1 : List Int) (r : Bool) (w : World) (hr1 : Kd.C (Kd.int .i64) w A1 l1.length l1) (hc1 : l1.length ≤ c1) (h : impl_isLapWord_1_with.f a0 l1 = some r) :
  Calls Try.prog 112 #[.int .i64 a0, .pointer A1] w fun e w' => e = .returned (.bool r) ∧ Drawn0 w w' := by
 have HR1 := Aside0.mk hr1
 have HC1 := Aside0.mk hc1
 clear hr1 hc1
 have H : (if 0 < (l1.length : Int) then ((impl_within.f a0 0 (wrap64 ((rd l1 0) - 1))).bind fun t427 => (some (!t427))) else (none)) = some r := h
 clear h
 by_cases c3 : 0 < (l1.length : Int)
 ·rw [if_pos c3] at H
  have c3b0 : decide (0 < (l1.length : Int)) = true := decide_eq_true c3
  have c3b1 : decide (0 < l1.length) = true := decide_eq_true (by omega)
  clear c3
  replace H := Option.bind_eq_some_iff.mp H
  obtain ⟨t427, A40, H⟩ := H
  replace H : (some (!t427)) = some r := H
  have A4 := Aside0.mk A40
  clear A40
  obtain rfl := Option.some.inj H
  have p426 : 0 ≤ (0 : Int) := (by omega)
  have q426 : 0 < (l1.length : Int) := da
  obtain ⟨ad426, e426, hx426_0⟩ := Kd.at_int HR1.out 0 p426 q426
  cases e426
  have qi426 : (0 < l1.length) = True := eq_true (by omega)
  (try rw [show ((0 : Int)).toNat = 0 from rfl] at hx426_0)
  (try rw [Addr.add_zero'] at hx426_0)
  replace p426 := eq_true p426
  replace q426 := eq_true q426
  go_enter Try.func112, Try.ntmps112
  go_wp2_with (first | ((with_reducible refine gate_callee (f := 72) rfl ?_); refine gl 7 Try.func72 #[.int .i64 a0, .int .i64 0, .int .i64 (wrap64 ((rd l1 0) - 1))] ?_; (with_reducible refine (impl_within.calls a0 0 (wrap64 ((rd l1 0) - 1)) t427 _ A4.out).mono ?_); rintro e w' ⟨rfl, ⟨nd, rfl⟩⟩; refine ⟨_, rfl, ?_⟩))
  go_ret
  exact ⟨rs, by repeat (first | exact Drawn0.refl _ | apply Drawn0.step)⟩
 ·rw [if_neg c3] at H
  exact absurd H (by simp)

end Go.Proofs.Ytmecnnnagallnaa.PFnExactCompareWords
