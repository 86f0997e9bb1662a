-- Written by this session's program wip/pp (the kit's print tool with additions) 35421559b90ae4d0a3588c463048766b98c2df88dd9212a6774a882060cdf62d
import Derived.Test.YtannadjfkaghjaaPFnExactIsRepellingx0
import Derived.Test.YtannadjfkaghjaaPFnExactIsRepellingx2
namespace Go.Proofs.Ytannadjfkaghjaa.PFnExactIsRepelling
open Go.RowKit Go.Proofs.YtannadjfkaghjaaW.PrintWords Go.Proofs.YtannadjfkaghjaaW.PrintLast Go.Proofs.YtannadjfkaghjaaW.PrintMore
attribute [local go_sem] max2_int min2_int max_two min_two max_three min_three max_four min_four   -- for this text's walks alone
set_option linter.unusedVariables false
set_option linter.unusedSimpArgs false

/-! ### spec_imGood: function 90 -/
def spec_imGood.l0 : Nat → List (S73) → List (S73) → Int → Int → Option (Bool)
 | 0, _, _, _, _ => none
 | k + 1, x0, x9, x10, x11 => if x11 < x10 then (if 0 ≤ x11 then (if x11 < (x9.length : Int) then ((spec_imCoord.f k ((rd_T73 x9 x11).f0.f0) ((rd_T73 x9 x11).f0.f1)).bind fun t119 => (if t119 = true then ((spec_imCoord.f k ((rd_T73 x9 x11).f1.f0) ((rd_T73 x9 x11).f1.f1)).bind fun t120 => (if t120 = true then (if x11 > 0 then (if 0 ≤ (wrap64 (x11 - 1)) then (if (wrap64 (x11 - 1)) < (x0.length : Int) then ((spec_raCmp.f ((rd_T73 x0 (wrap64 (x11 - 1))).f0.f0) ((rd_T73 x0 (wrap64 (x11 - 1))).f0.f1) ((rd_T73 x9 x11).f0.f0) ((rd_T73 x9 x11).f0.f1)).bind fun t122 => (if t122 ≥ 0 then (some false) else (spec_imGood.l0 k x0 x9 x10 (wrap64 (x11 + 1))))) else (none)) else (none)) else (spec_imGood.l0 k x0 x9 x10 (wrap64 (x11 + 1)))) else (some false))) else (some false))) else (none)) else (none)) else (if 0 < (x0.length : Int) then ((spec_raInt.f 0).bind fun bt124 => ((spec_raCmp.f ((rd_T73 x0 0).f0.f0) ((rd_T73 x0 0).f0.f1) bt124.1 bt124.2).bind fun t126 => (if t126 = 0 then (if 0 ≤ (wrap64 ((x0.length : Int) - 1)) then (if (wrap64 ((x0.length : Int) - 1)) < (x0.length : Int) then ((spec_raInt.f 1).bind fun bt128 => ((spec_raCmp.f ((rd_T73 x0 (wrap64 ((x0.length : Int) - 1))).f0.f0) ((rd_T73 x0 (wrap64 ((x0.length : Int) - 1))).f0.f1) bt128.1 bt128.2).bind fun t130 => (some (t130 == 0)))) else (none)) else (none)) else (some false)))) else (none))
def spec_imGood.f (k : Nat) (l0 : List (S73)) : Option (Bool) := (spec_l1In.f (l0.length : Int) 2 12).bind fun t116 => (if t116 = true then (spec_imGood.l0 k l0 l0 (l0.length : Int) 0) else (some false))
def spec_imGood.T6 : Bool × List (List Nat × List Nat) := (true, [([], []), ([0], [0]), ([1], [1]), ([2], [2]), ([3, 2], [3]), ([4], [4]), ([5, 4], [4, 5]), ([6, 4, 4], [4, 6]), ([7, 4], [4, 7]), ([4, 8], [4, 8]), ([9, 7], [9]), ([10], [10]), ([11, 10], [10, 11]), ([12, 10, 10], [10, 12]), ([13], [13]), ([13], [13]), ([15, 13], [13, 15]), ([14, 16, 13], [13, 14, 16]), ([17, 13], [13, 17]), ([18, 13], [13, 18]), ([13], [13]), ([20, 13], [13, 20]), ([19, 21, 13, 13], [13, 19, 21]), ([22, 13], [13, 22]), ([13, 23, 10], [10, 13, 23]), ([10, 24], [10, 24])])
def spec_imGood.B6 : List Nat := [0, 1, 3, 7, 15, 31, 63, 127, 255, 511, 1023, 2047, 4095, 8191, 16383, 16383, 49151, 131071, 262143, 524287, 16383, 1064959, 4194303, 8388607, 16777215, 33554431]
theorem spec_imGood.tab6 : rtab .any (opsOf Try.f90 6) = spec_imGood.T6 := by kernel_rfl
theorem spec_imGood.bits6 : waitsOk spec_imGood.T6.2 spec_imGood.B6 = true := by kernel_rfl
def spec_imGood.T9 : Bool × List (List Nat × List Nat) := (true, [([], []), ([0], [0]), ([1], [1]), ([2], [2]), ([], []), ([3, 4, 4], [3, 4]), ([5], [5]), ([6, 5], [6]), ([7], [7]), ([7], [7]), ([9, 7], [7, 9]), ([10, 7], [7, 10]), ([8, 11, 7], [7, 8, 11]), ([12, 7], [7, 12]), ([13, 7], [7, 13]), ([7, 7], [7]), ([14, 15, 15, 7], [7, 14, 15]), ([16, 7], [7, 16]), ([7, 17], [7, 17]), ([18, 16, 0, 1, 2, 3, 4, 5, 6, 7, 8, 9, 10, 11, 12, 13, 14, 15, 16, 17, 18], [18])])
def spec_imGood.B9 : List Nat := [0, 1, 3, 7, 0, 31, 63, 127, 255, 255, 767, 1791, 4095, 8191, 16383, 255, 65535, 131071, 262143, 524287]
theorem spec_imGood.tab9 : rtab .any (opsOf Try.f90 9) = spec_imGood.T9 := by kernel_rfl
theorem spec_imGood.bits9 : waitsOk spec_imGood.T9.2 spec_imGood.B9 = true := by kernel_rfl
set_option maxHeartbeats 8000000 in
set_option maxRecDepth 100000 in
theorem spec_imGood.calls (k : Nat) (A0 : Option Addr) (c0 : Nat) (l0 : List (S73)) (r : Bool) (w : World) (hr0 : Kd.C k73 w A0 l0.length l0) (hc0 : l0.length ≤ c0) (h : spec_imGood.f k l0 = some r) :
  Calls Try.prog 90 #[.slice A0 l0.length c0] w fun e w' => e = .returned (.bool r) ∧ Below w.heap.size w w' := by
 have hu73 := Try.underlying73
 have hu53 := Try.underlying53
 have HR0 := Aside0.mk hr0
 have HC0 := Aside0.mk hc0
 clear hr0 hc0
 have HB := Aside0.mk (Below.refl w.heap.size w)
 have H : ((spec_l1In.f (l0.length : Int) 2 12).bind fun t116 => (if t116 = true then (spec_imGood.l0 k l0 l0 (l0.length : Int) 0) else (some false))) = some r := h
 clear h
 replace H := Option.bind_eq_some_iff.mp H
 obtain ⟨t116, A20, H⟩ := H
 replace H : (if t116 = true then (spec_imGood.l0 k l0 l0 (l0.length : Int) 0) else (some false)) = some r := H
 have A2 := Aside0.mk A20
 clear A20
 by_cases c3 : t116 = true
 ·subst c3
  have H1 : (spec_imGood.l0 k l0 l0 (l0.length : Int) 0) = some r := by rw [if_pos rfl] at H; exact H
  clear H
  have H := H1
  clear H1
  have H' := Aside0.mk H
  clear H
  go_enter Try.func90, Try.ntmps90
  go_wp2_with (first | ((with_reducible refine gate_callee (f := 52) rfl ?_); refine gl 7 Try.func52 #[.int .i64 (l0.length : Int), .int .i64 2, .int .i64 12] ?_; (with_reducible refine (spec_l1In.calls (l0.length : Int) 2 12 true _ A2.out).mono ?_); rintro e w' ⟨rfl, ⟨nd, rfl⟩⟩; refine ⟨_, rfl, ?_⟩))
  go_loopg [11] k (fun kq v11 w' => ∃ (x11_1 : Int), v11 = .int .i64 x11_1 ∧ Aside0 (spec_imGood.l0 kq l0 l0 (l0.length : Int) x11_1 = some r) ∧ Aside0 (kq ≤ k) ∧ Aside0 (Below w.heap.size w w'))
  case atStart => exact ⟨(0), rs, H', ⟨Nat.le_refl _⟩, ⟨bl⟩⟩
  case round =>
   clear H'
   try clear p2
   try clear c3
   obtain ⟨x11_1, rfl, HA, HK1, HB⟩ := hrel
   cases gk with
   | zero => exact absurd HA.out (by simp [spec_imGood.l0])
   | succ k1 =>
    have H := HA.out
    clear HA
    simp only [spec_imGood.l0] at H
    by_cases c4 : x11_1 < (l0.length : Int)
    ·rw [if_pos c4] at H
     have c4b0 : decide (x11_1 < (l0.length : Int)) = true := decide_eq_true c4
     clear c4
     by_cases c5 : 0 ≤ x11_1
     ·rw [if_pos c5] at H
      have c5b0 : decide (0 ≤ x11_1) = true := decide_eq_true c5
      clear c5
      by_cases c6 : x11_1 < (l0.length : Int)
      ·rw [if_pos c6] at H
       have c6b0 : decide (x11_1 < (l0.length : Int)) = true := decide_eq_true c6
       clear c6
       replace H := Option.bind_eq_some_iff.mp H
       obtain ⟨t119, A70, H⟩ := H
       replace H : (if t119 = true then ((spec_imCoord.f k1 ((rd_T73 l0 x11_1).f1.f0) ((rd_T73 l0 x11_1).f1.f1)).bind fun t120 => (if t120 = true then (if x11_1 > 0 then (if 0 ≤ (wrap64 (x11_1 - 1)) then (if (wrap64 (x11_1 - 1)) < (l0.length : Int) then ((spec_raCmp.f ((rd_T73 l0 (wrap64 (x11_1 - 1))).f0.f0) ((rd_T73 l0 (wrap64 (x11_1 - 1))).f0.f1) ((rd_T73 l0 x11_1).f0.f0) ((rd_T73 l0 x11_1).f0.f1)).bind fun t122 => (if t122 ≥ 0 then (some false) else (spec_imGood.l0 k1 l0 l0 (l0.length : Int) (wrap64 (x11_1 + 1))))) else (none)) else (none)) else (spec_imGood.l0 k1 l0 l0 (l0.length : Int) (wrap64 (x11_1 + 1)))) else (some false))) else (some false)) = some r := H
       have A7 := Aside0.mk A70
       clear A70
       by_cases c8 : t119 = true
       ·subst c8
        have H1 : ((spec_imCoord.f k1 ((rd_T73 l0 x11_1).f1.f0) ((rd_T73 l0 x11_1).f1.f1)).bind fun t120 => (if t120 = true then (if x11_1 > 0 then (if 0 ≤ (wrap64 (x11_1 - 1)) then (if (wrap64 (x11_1 - 1)) < (l0.length : Int) then ((spec_raCmp.f ((rd_T73 l0 (wrap64 (x11_1 - 1))).f0.f0) ((rd_T73 l0 (wrap64 (x11_1 - 1))).f0.f1) ((rd_T73 l0 x11_1).f0.f0) ((rd_T73 l0 x11_1).f0.f1)).bind fun t122 => (if t122 ≥ 0 then (some false) else (spec_imGood.l0 k1 l0 l0 (l0.length : Int) (wrap64 (x11_1 + 1))))) else (none)) else (none)) else (spec_imGood.l0 k1 l0 l0 (l0.length : Int) (wrap64 (x11_1 + 1)))) else (some false))) = some r := by rw [if_pos rfl] at H; exact H
        clear H
        have H := H1
        clear H1
        replace H := Option.bind_eq_some_iff.mp H
        obtain ⟨t120, A90, H⟩ := H
        replace H : (if t120 = true then (if x11_1 > 0 then (if 0 ≤ (wrap64 (x11_1 - 1)) then (if (wrap64 (x11_1 - 1)) < (l0.length : Int) then ((spec_raCmp.f ((rd_T73 l0 (wrap64 (x11_1 - 1))).f0.f0) ((rd_T73 l0 (wrap64 (x11_1 - 1))).f0.f1) ((rd_T73 l0 x11_1).f0.f0) ((rd_T73 l0 x11_1).f0.f1)).bind fun t122 => (if t122 ≥ 0 then (some false) else (spec_imGood.l0 k1 l0 l0 (l0.length : Int) (wrap64 (x11_1 + 1))))) else (none)) else (none)) else (spec_imGood.l0 k1 l0 l0 (l0.length : Int) (wrap64 (x11_1 + 1)))) else (some false)) = some r := H
        have A9 := Aside0.mk A90
        clear A90
        by_cases c10 : t120 = true
        ·subst c10
         have H1 : (if x11_1 > 0 then (if 0 ≤ (wrap64 (x11_1 - 1)) then (if (wrap64 (x11_1 - 1)) < (l0.length : Int) then ((spec_raCmp.f ((rd_T73 l0 (wrap64 (x11_1 - 1))).f0.f0) ((rd_T73 l0 (wrap64 (x11_1 - 1))).f0.f1) ((rd_T73 l0 x11_1).f0.f0) ((rd_T73 l0 x11_1).f0.f1)).bind fun t122 => (if t122 ≥ 0 then (some false) else (spec_imGood.l0 k1 l0 l0 (l0.length : Int) (wrap64 (x11_1 + 1))))) else (none)) else (none)) else (spec_imGood.l0 k1 l0 l0 (l0.length : Int) (wrap64 (x11_1 + 1)))) = some r := by rw [if_pos rfl] at H; exact H
         clear H
         have H := H1
         clear H1
         by_cases c11 : x11_1 > 0
         ·rw [if_pos c11] at H
          have c11b0 : decide (0 < x11_1) = true := decide_eq_true c11
          clear c11
          obtain ⟨ji12, hji12⟩ : ∃ j_ : Int, (wrap64 (x11_1 - 1)) = j_ := ⟨_, rfl⟩
          replace H : (if 0 ≤ (ji12) then (if (ji12) < (l0.length : Int) then ((spec_raCmp.f ((rd_T73 l0 (ji12)).f0.f0) ((rd_T73 l0 (ji12)).f0.f1) ((rd_T73 l0 x11_1).f0.f0) ((rd_T73 l0 x11_1).f0.f1)).bind fun t122 => (if t122 ≥ 0 then (some false) else (spec_imGood.l0 k1 l0 l0 (l0.length : Int) (wrap64 (x11_1 + 1))))) else (none)) else (none)) = some r := by first | (rw [hji12] at H; exact H) | (simp only [hji12] at H ⊢; exact H)
          (try rw [hji12] at A7)
          (try rw [hji12] at A9)
          have hji12w : (IntKind.i64.wrap (x11_1 - 1)) = ji12 := (i64_w _).trans hji12
          by_cases c13 : 0 ≤ (ji12)
          ·rw [if_pos c13] at H
           have c13b0 : decide (0 ≤ (ji12)) = true := decide_eq_true c13
           clear c13
           by_cases c14 : (ji12) < (l0.length : Int)
           ·rw [if_pos c14] at H
            have c14b0 : decide ((ji12) < (l0.length : Int)) = true := decide_eq_true c14
            clear c14
            replace H := Option.bind_eq_some_iff.mp H
            obtain ⟨t122, A150, H⟩ := H
            replace H : (if t122 ≥ 0 then (some false) else (spec_imGood.l0 k1 l0 l0 (l0.length : Int) (wrap64 (x11_1 + 1)))) = some r := H
            have A15 := Aside0.mk A150
            clear A150
            by_cases c16 : t122 ≥ 0
            ·rw [if_pos c16] at H
             have c16b0 : decide (0 ≤ t122) = true := decide_eq_true c16
             clear c16
             obtain rfl := Option.some.inj H
             have p117 : 0 ≤ (x11_1 : Int) := da
             have q117 : x11_1 < (l0.length : Int) := da
             obtain ⟨ad117, e117, hx117_0, hx117_1, hx117_2, hx117_3⟩ := at_T73 HR0.out x11_1 p117 q117
             cases e117
             replace hx117_0 := (hc HB hx117_0 :)
             replace hx117_1 := (hc HB hx117_1 :)
             replace hx117_2 := (hc HB hx117_2 :)
             replace hx117_3 := (hc HB hx117_3 :)
             replace p117 := eq_true p117
             replace q117 := eq_true q117
             try go_wp2_with (first | ((with_reducible refine gate_dst (N := 4) rfl ?_); (try (refine gate_guard (by rfl) ?_; dsimp only)); refine bx 4 #[.int .i64 0, .int .i64 0, .int .i64 0, .int .i64 0] 73 ?_; intro gb118 hg w17 hbox hb; have BK118 := Aside0.mk (hbox); have GW118 := Aside0.mk (bz hg); have GE118 := GW118; replace HB := kh hb; clear hb hbox hg; obtain ⟨hcz18_0, hcz18_1, hcz18_2, hcz18_3, hfz18_0, hfz18_1, hfz18_2, hfz18_3⟩ := b4 BK118))
             have n0_ : Aside0 (((((w17.setCell ⟨gb118, 0, none⟩ (.int .i64 ((rd_T73 l0 x11_1).f0.f0))).setCell ⟨gb118, 1, none⟩ (.int .i64 ((rd_T73 l0 x11_1).f0.f1))).setCell ⟨gb118, 2, none⟩ (.int .i64 ((rd_T73 l0 x11_1).f1.f0))).setCell ⟨gb118, 3, none⟩ (.int .i64 ((rd_T73 l0 x11_1).f1.f1))).heap[gb118]? = some (.cells #[.int .i64 ((rd_T73 l0 x11_1).f0.f0), .int .i64 ((rd_T73 l0 x11_1).f0.f1), .int .i64 ((rd_T73 l0 x11_1).f1.f0), .int .i64 ((rd_T73 l0 x11_1).f1.f1)] 73 (0, 0))) := ⟨by (with_reducible repeat (first | refine blk_drewN ?_ _ | refine blk_drew ?_ | refine blk_alloc ?_ _)); refine blk_put (cs := #[.int .i64 ((rd_T73 l0 x11_1).f0.f0), .int .i64 ((rd_T73 l0 x11_1).f0.f1), .int .i64 ((rd_T73 l0 x11_1).f1.f0), .int .i64 0]) ?_ 3 _ rfl; (with_reducible repeat (first | refine blk_drewN ?_ _ | refine blk_drew ?_ | refine blk_alloc ?_ _)); refine blk_put (cs := #[.int .i64 ((rd_T73 l0 x11_1).f0.f0), .int .i64 ((rd_T73 l0 x11_1).f0.f1), .int .i64 0, .int .i64 0]) ?_ 2 _ rfl; (with_reducible repeat (first | refine blk_drewN ?_ _ | refine blk_drew ?_ | refine blk_alloc ?_ _)); refine blk_put (cs := #[.int .i64 ((rd_T73 l0 x11_1).f0.f0), .int .i64 0, .int .i64 0, .int .i64 0]) ?_ 1 _ rfl; (with_reducible repeat (first | refine blk_drewN ?_ _ | refine blk_drew ?_ | refine blk_alloc ?_ _)); refine blk_put (cs := #[.int .i64 0, .int .i64 0, .int .i64 0, .int .i64 0]) ?_ 0 _ rfl; (with_reducible repeat (first | refine blk_drewN ?_ _ | refine blk_drew ?_ | refine blk_alloc ?_ _)); exact BK118.out⟩
             have n1_ : Aside0 (Below w.heap.size w ((((w17.setCell ⟨gb118, 0, none⟩ (.int .i64 ((rd_T73 l0 x11_1).f0.f0))).setCell ⟨gb118, 1, none⟩ (.int .i64 ((rd_T73 l0 x11_1).f0.f1))).setCell ⟨gb118, 2, none⟩ (.int .i64 ((rd_T73 l0 x11_1).f1.f0))).setCell ⟨gb118, 3, none⟩ (.int .i64 ((rd_T73 l0 x11_1).f1.f1)))) := ⟨bl⟩
             (try clear BK118)
             (try clear HB)
             generalize ((((w17.setCell ⟨gb118, 0, none⟩ (.int .i64 ((rd_T73 l0 x11_1).f0.f0))).setCell ⟨gb118, 1, none⟩ (.int .i64 ((rd_T73 l0 x11_1).f0.f1))).setCell ⟨gb118, 2, none⟩ (.int .i64 ((rd_T73 l0 x11_1).f1.f0))).setCell ⟨gb118, 3, none⟩ (.int .i64 ((rd_T73 l0 x11_1).f1.f1))) = w19 at n0_ n1_ ⊢
             have BK118 := n0_
             have HB := n1_
             clear n0_ n1_
             replace BK118 := Aside0.mk (blk_drew BK118.out)
             replace HB := Aside0.mk (below_drew1 HB.out)
             have p121 : 0 ≤ ((ji12) : Int) := da
             have q121 : (ji12) < (l0.length : Int) := da
             obtain ⟨ad121, e121, hx121_0, hx121_1, hx121_2, hx121_3⟩ := at_T73 HR0.out (ji12) p121 q121
             have hw121_3 := hx121_3
             have hw121_2 := hx121_2
             have hw121_1 := hx121_1
             have hw121_0 := hx121_0
             obtain rfl : ad117 = ad121 := (by injection e121)
             replace hx121_0 := (hc HB hx121_0 :)
             replace hx121_1 := (hc HB hx121_1 :)
             replace hx121_2 := (hc HB hx121_2 :)
             replace hx121_3 := (hc HB hx121_3 :)
             replace p121 := eq_true p121
             replace q121 := eq_true q121
             refine start_ (n := 26) (S := fun w' => w'.cell? ⟨gb118, 0, none⟩ = some (.int .i64 ((rd_T73 l0 x11_1).f0.f0)) ∧ w'.cell? ⟨gb118, 1, none⟩ = some (.int .i64 ((rd_T73 l0 x11_1).f0.f1)) ∧ w'.cell? ⟨gb118, 2, none⟩ = some (.int .i64 ((rd_T73 l0 x11_1).f1.f0)) ∧ w'.cell? ⟨gb118, 3, none⟩ = some (.int .i64 ((rd_T73 l0 x11_1).f1.f1)) ∧ w'.cell? (ad117.add (((ji12)).toNat * 4)) = some (.int .i64 ((rd_T73 l0 (ji12)).f0.f0)) ∧ w'.cell? ⟨(ad117.add (((ji12)).toNat * 4)).block, (ad117.add (((ji12)).toNat * 4)).off + 1, none⟩ = some (.int .i64 ((rd_T73 l0 (ji12)).f0.f1)) ∧ w'.cell? ⟨(ad117.add (((ji12)).toNat * 4)).block, (ad117.add (((ji12)).toNat * 4)).off + 2, none⟩ = some (.int .i64 ((rd_T73 l0 (ji12)).f1.f0)) ∧ w'.cell? ⟨(ad117.add (((ji12)).toNat * 4)).block, (ad117.add (((ji12)).toNat * 4)).off + 3, none⟩ = some (.int .i64 ((rd_T73 l0 (ji12)).f1.f1))) (ds := []) (tb 0 26) (by kernel_rfl) rfl rfl ⟨(blk_cell BK118.out 0).trans rfl, (blk_cell BK118.out 1).trans rfl, (blk_cell BK118.out 2).trans rfl, (blk_cell BK118.out 3).trans rfl, (hc HB hw121_0 :), (hc HB hw121_1 :), (hc HB hw121_2 :), (hc HB hw121_3 :)⟩ (fun hHeld => ?_); refine with_tabW spec_imGood.tab6 spec_imGood.bits6 (fun HT_ HW_ => ?_)
             generalize w19.drew = w20 at BK118 HB hx121_0 hx121_1 hx121_2 hx121_3 hHeld ⊢
             refine pu 0 16 (tb 1 25) ?_
             refine tk 1 17 (tb 2 24) (hy := by rintro w' ⟨s0, s1, s2, s3, s4, s5, s6, s7⟩; go_simp; with_reducible rfl) (h := ?_)
             refine on 2 18 (tb 3 23) (fun K hK => ?_)
             refine gs Try.func104 #[.agg #[.int .i64 ((rd_T73 l0 x11_1).f0.f0), .int .i64 ((rd_T73 l0 x11_1).f0.f1)]] ?_
             with_reducible refine (spec_imCoord.calls k1 ((rd_T73 l0 x11_1).f0.f0) ((rd_T73 l0 x11_1).f0.f1) true _ A7.out).mono ?_
             rintro e w21 ⟨rfl, hb⟩
             refine ⟨_, rfl, ?_⟩
             replace BK118 := kb BK118 hb
             replace HB := kh hb
             (try clear hb)
             (try clear hb2)
             (try clear hk)
             (try clear hi)
             refine hK.out _ _ ⟨(blk_cell BK118.out 0).trans rfl, (blk_cell BK118.out 1).trans rfl, (blk_cell BK118.out 2).trans rfl, (blk_cell BK118.out 3).trans rfl, (hc HB hw121_0 :), (hc HB hw121_1 :), (hc HB hw121_2 :), (hc HB hw121_3 :)⟩ (fun hHeld => ?_)
             clear hK K
             refine nm 18 ?_
             refine pu 3 19 (tb 4 22) ?_
             refine pu 4 20 (tb 5 21) ?_
             refine pu 5 21 (tb 6 20) ?_
             refine tk 6 22 (tb 7 19) (hy := by rintro w' ⟨s0, s1, s2, s3, s4, s5, s6, s7⟩; go_simp; with_reducible rfl) (h := ?_)
             refine on 7 23 (tb 8 18) (fun K hK => ?_)
             refine gs Try.func104 #[.agg #[.int .i64 ((rd_T73 l0 x11_1).f1.f0), .int .i64 ((rd_T73 l0 x11_1).f1.f1)]] ?_
             with_reducible refine (spec_imCoord.calls k1 ((rd_T73 l0 x11_1).f1.f0) ((rd_T73 l0 x11_1).f1.f1) true _ A9.out).mono ?_
             rintro e w22 ⟨rfl, hb⟩
             refine ⟨_, rfl, ?_⟩
             replace BK118 := kb BK118 hb
             replace HB := kh hb
             (try clear hb)
             (try clear hb2)
             (try clear hk)
             (try clear hi)
             refine hK.out _ _ ⟨(blk_cell BK118.out 0).trans rfl, (blk_cell BK118.out 1).trans rfl, (blk_cell BK118.out 2).trans rfl, (blk_cell BK118.out 3).trans rfl, (hc HB hw121_0 :), (hc HB hw121_1 :), (hc HB hw121_2 :), (hc HB hw121_3 :)⟩ (fun hHeld => ?_)
             clear hK K
             refine nm 23 ?_
             refine pu 8 24 (tb 9 17) ?_
             refine pu 9 25 (tb 10 16) ?_
             refine pu 10 26 (tb 11 15) ?_
             refine pu 11 27 (tb 12 14) ?_
             refine pu 12 28 (tb 13 13) ?_
             refine pu 13 29 (tb 14 12) ?_
             refine pu 14 30 (tb 15 11) ?_
             refine pu 15 31 (tb 16 10) ?_
             refine pu 16 32 (tb 17 9) ?_
             refine pu 17 33 (tb 18 8) ?_
             refine pu 18 34 (tb 19 7) ?_
             refine pu 20 36 #[true, true, true, true, true, true, true, true, true, true, true, true, true, true, true, true, true, true, true, false, true, false, false, false, false, false] ?_
             refine tk 19 35 (tb 21 5) (hy := by rintro w' ⟨s0, s1, s2, s3, s4, s5, s6, s7⟩; go_simp; with_reducible rfl) (h := ?_)
             refine tk 21 37 (tb 22 4) (hy := by rintro w' ⟨s0, s1, s2, s3, s4, s5, s6, s7⟩; go_simp; with_reducible rfl) (h := ?_)
             refine on 22 38 (tb 23 3) (fun K hK => ?_)
             refine goes_ Try.func105 (by kernel_rfl) rfl #[.agg #[.int .i64 ((rd_T73 l0 (ji12)).f0.f0), .int .i64 ((rd_T73 l0 (ji12)).f0.f1)], .agg #[.int .i64 ((rd_T73 l0 x11_1).f0.f0), .int .i64 ((rd_T73 l0 x11_1).f0.f1)]] (by rfl) rfl rfl (by (try simp only [List.map_toArray, List.map_cons, List.map_nil]); first | done | (simp only [hji12]; rfl) | rfl | (simp only [List.length_drop, List.length_take]; rfl)) ?_
             with_reducible refine (spec_raCmp.calls ((rd_T73 l0 (ji12)).f0.f0) ((rd_T73 l0 (ji12)).f0.f1) ((rd_T73 l0 x11_1).f0.f0) ((rd_T73 l0 x11_1).f0.f1) t122 _ A15.out).mono ?_
             rintro e w23 ⟨rfl, hb⟩
             refine ⟨_, rfl, ?_⟩
             replace BK118 := kb BK118 hb
             replace HB := kh hb
             (try clear hb)
             (try clear hb2)
             (try clear hk)
             (try clear hi)
             refine hK.out _ _ ⟨(blk_cell BK118.out 0).trans rfl, (blk_cell BK118.out 1).trans rfl, (blk_cell BK118.out 2).trans rfl, (blk_cell BK118.out 3).trans rfl, (hc HB hw121_0 :), (hc HB hw121_1 :), (hc HB hw121_2 :), (hc HB hw121_3 :)⟩ (fun hHeld => ?_)
             clear hK K
             refine nm 38 ?_
             refine pu 23 39 (tb 24 2) ?_
             refine pu 24 40 (tb 25 1) ?_
             refine pu 25 41 (tb 26 0) ?_
             refine done_ (done_of HT_.out (by kernel_rfl)) ?_
             try go_wp2
             go_ret
             exact ⟨by first | rfl | (simp [errW_none, errW_some] <;> rfl) | (simp only [← hji12]; first | rfl | (simp [errW_none, errW_some] <;> rfl)) | (simp [*, errW_none, errW_some] <;> rfl), bl⟩
            ·rw [if_neg c16] at H
             have c16b0 : decide (0 ≤ t122) = false := decide_eq_false c16
             clear c16
             have H' := Aside0.mk H
             clear H
             have p117 : 0 ≤ (x11_1 : Int) := da
             have q117 : x11_1 < (l0.length : Int) := da
             obtain ⟨ad117, e117, hx117_0, hx117_1, hx117_2, hx117_3⟩ := at_T73 HR0.out x11_1 p117 q117
             cases e117
             replace hx117_0 := (hc HB hx117_0 :)
             replace hx117_1 := (hc HB hx117_1 :)
             replace hx117_2 := (hc HB hx117_2 :)
             replace hx117_3 := (hc HB hx117_3 :)
             replace p117 := eq_true p117
             replace q117 := eq_true q117
             try go_wp2_with (first | ((with_reducible refine gate_dst (N := 4) rfl ?_); (try (refine gate_guard (by rfl) ?_; dsimp only)); refine bx 4 #[.int .i64 0, .int .i64 0, .int .i64 0, .int .i64 0] 73 ?_; intro gb118 hg w24 hbox hb; have BK118 := Aside0.mk (hbox); have GW118 := Aside0.mk (bz hg); have GE118 := GW118; replace HB := kh hb; clear hb hbox hg; obtain ⟨hcz25_0, hcz25_1, hcz25_2, hcz25_3, hfz25_0, hfz25_1, hfz25_2, hfz25_3⟩ := b4 BK118))
             have n0_ : Aside0 (((((w24.setCell ⟨gb118, 0, none⟩ (.int .i64 ((rd_T73 l0 x11_1).f0.f0))).setCell ⟨gb118, 1, none⟩ (.int .i64 ((rd_T73 l0 x11_1).f0.f1))).setCell ⟨gb118, 2, none⟩ (.int .i64 ((rd_T73 l0 x11_1).f1.f0))).setCell ⟨gb118, 3, none⟩ (.int .i64 ((rd_T73 l0 x11_1).f1.f1))).heap[gb118]? = some (.cells #[.int .i64 ((rd_T73 l0 x11_1).f0.f0), .int .i64 ((rd_T73 l0 x11_1).f0.f1), .int .i64 ((rd_T73 l0 x11_1).f1.f0), .int .i64 ((rd_T73 l0 x11_1).f1.f1)] 73 (0, 0))) := ⟨by (with_reducible repeat (first | refine blk_drewN ?_ _ | refine blk_drew ?_ | refine blk_alloc ?_ _)); refine blk_put (cs := #[.int .i64 ((rd_T73 l0 x11_1).f0.f0), .int .i64 ((rd_T73 l0 x11_1).f0.f1), .int .i64 ((rd_T73 l0 x11_1).f1.f0), .int .i64 0]) ?_ 3 _ rfl; (with_reducible repeat (first | refine blk_drewN ?_ _ | refine blk_drew ?_ | refine blk_alloc ?_ _)); refine blk_put (cs := #[.int .i64 ((rd_T73 l0 x11_1).f0.f0), .int .i64 ((rd_T73 l0 x11_1).f0.f1), .int .i64 0, .int .i64 0]) ?_ 2 _ rfl; (with_reducible repeat (first | refine blk_drewN ?_ _ | refine blk_drew ?_ | refine blk_alloc ?_ _)); refine blk_put (cs := #[.int .i64 ((rd_T73 l0 x11_1).f0.f0), .int .i64 0, .int .i64 0, .int .i64 0]) ?_ 1 _ rfl; (with_reducible repeat (first | refine blk_drewN ?_ _ | refine blk_drew ?_ | refine blk_alloc ?_ _)); refine blk_put (cs := #[.int .i64 0, .int .i64 0, .int .i64 0, .int .i64 0]) ?_ 0 _ rfl; (with_reducible repeat (first | refine blk_drewN ?_ _ | refine blk_drew ?_ | refine blk_alloc ?_ _)); exact BK118.out⟩
             have n1_ : Aside0 (Below w.heap.size w ((((w24.setCell ⟨gb118, 0, none⟩ (.int .i64 ((rd_T73 l0 x11_1).f0.f0))).setCell ⟨gb118, 1, none⟩ (.int .i64 ((rd_T73 l0 x11_1).f0.f1))).setCell ⟨gb118, 2, none⟩ (.int .i64 ((rd_T73 l0 x11_1).f1.f0))).setCell ⟨gb118, 3, none⟩ (.int .i64 ((rd_T73 l0 x11_1).f1.f1)))) := ⟨bl⟩
             (try clear BK118)
             (try clear HB)
             generalize ((((w24.setCell ⟨gb118, 0, none⟩ (.int .i64 ((rd_T73 l0 x11_1).f0.f0))).setCell ⟨gb118, 1, none⟩ (.int .i64 ((rd_T73 l0 x11_1).f0.f1))).setCell ⟨gb118, 2, none⟩ (.int .i64 ((rd_T73 l0 x11_1).f1.f0))).setCell ⟨gb118, 3, none⟩ (.int .i64 ((rd_T73 l0 x11_1).f1.f1))) = w26 at n0_ n1_ ⊢
             have BK118 := n0_
             have HB := n1_
             clear n0_ n1_
             replace BK118 := Aside0.mk (blk_drew BK118.out)
             replace HB := Aside0.mk (below_drew1 HB.out)
             have p121 : 0 ≤ ((ji12) : Int) := da
             have q121 : (ji12) < (l0.length : Int) := da
             obtain ⟨ad121, e121, hx121_0, hx121_1, hx121_2, hx121_3⟩ := at_T73 HR0.out (ji12) p121 q121
             have hw121_3 := hx121_3
             have hw121_2 := hx121_2
             have hw121_1 := hx121_1
             have hw121_0 := hx121_0
             obtain rfl : ad117 = ad121 := (by injection e121)
             replace hx121_0 := (hc HB hx121_0 :)
             replace hx121_1 := (hc HB hx121_1 :)
             replace hx121_2 := (hc HB hx121_2 :)
             replace hx121_3 := (hc HB hx121_3 :)
             replace p121 := eq_true p121
             replace q121 := eq_true q121
             refine start_ (n := 26) (S := fun w' => w'.cell? ⟨gb118, 0, none⟩ = some (.int .i64 ((rd_T73 l0 x11_1).f0.f0)) ∧ w'.cell? ⟨gb118, 1, none⟩ = some (.int .i64 ((rd_T73 l0 x11_1).f0.f1)) ∧ w'.cell? ⟨gb118, 2, none⟩ = some (.int .i64 ((rd_T73 l0 x11_1).f1.f0)) ∧ w'.cell? ⟨gb118, 3, none⟩ = some (.int .i64 ((rd_T73 l0 x11_1).f1.f1)) ∧ w'.cell? (ad117.add (((ji12)).toNat * 4)) = some (.int .i64 ((rd_T73 l0 (ji12)).f0.f0)) ∧ w'.cell? ⟨(ad117.add (((ji12)).toNat * 4)).block, (ad117.add (((ji12)).toNat * 4)).off + 1, none⟩ = some (.int .i64 ((rd_T73 l0 (ji12)).f0.f1)) ∧ w'.cell? ⟨(ad117.add (((ji12)).toNat * 4)).block, (ad117.add (((ji12)).toNat * 4)).off + 2, none⟩ = some (.int .i64 ((rd_T73 l0 (ji12)).f1.f0)) ∧ w'.cell? ⟨(ad117.add (((ji12)).toNat * 4)).block, (ad117.add (((ji12)).toNat * 4)).off + 3, none⟩ = some (.int .i64 ((rd_T73 l0 (ji12)).f1.f1))) (ds := []) (tb 0 26) (by kernel_rfl) rfl rfl ⟨(blk_cell BK118.out 0).trans rfl, (blk_cell BK118.out 1).trans rfl, (blk_cell BK118.out 2).trans rfl, (blk_cell BK118.out 3).trans rfl, (hc HB hw121_0 :), (hc HB hw121_1 :), (hc HB hw121_2 :), (hc HB hw121_3 :)⟩ (fun hHeld => ?_); refine with_tabW spec_imGood.tab6 spec_imGood.bits6 (fun HT_ HW_ => ?_)
             generalize w26.drew = w27 at BK118 HB hx121_0 hx121_1 hx121_2 hx121_3 hHeld ⊢
             refine pu 0 16 (tb 1 25) ?_
             refine tk 1 17 (tb 2 24) (hy := by rintro w' ⟨s0, s1, s2, s3, s4, s5, s6, s7⟩; go_simp; with_reducible rfl) (h := ?_)
             refine on 2 18 (tb 3 23) (fun K hK => ?_)
             refine gs Try.func104 #[.agg #[.int .i64 ((rd_T73 l0 x11_1).f0.f0), .int .i64 ((rd_T73 l0 x11_1).f0.f1)]] ?_
             with_reducible refine (spec_imCoord.calls k1 ((rd_T73 l0 x11_1).f0.f0) ((rd_T73 l0 x11_1).f0.f1) true _ A7.out).mono ?_
             rintro e w28 ⟨rfl, hb⟩
             refine ⟨_, rfl, ?_⟩
             replace BK118 := kb BK118 hb
             replace HB := kh hb
             (try clear hb)
             (try clear hb2)
             (try clear hk)
             (try clear hi)
             refine hK.out _ _ ⟨(blk_cell BK118.out 0).trans rfl, (blk_cell BK118.out 1).trans rfl, (blk_cell BK118.out 2).trans rfl, (blk_cell BK118.out 3).trans rfl, (hc HB hw121_0 :), (hc HB hw121_1 :), (hc HB hw121_2 :), (hc HB hw121_3 :)⟩ (fun hHeld => ?_)
             clear hK K
             refine nm 18 ?_
             refine pu 3 19 (tb 4 22) ?_
             refine pu 4 20 (tb 5 21) ?_
             refine pu 5 21 (tb 6 20) ?_
             refine tk 6 22 (tb 7 19) (hy := by rintro w' ⟨s0, s1, s2, s3, s4, s5, s6, s7⟩; go_simp; with_reducible rfl) (h := ?_)
             refine on 7 23 (tb 8 18) (fun K hK => ?_)
             refine gs Try.func104 #[.agg #[.int .i64 ((rd_T73 l0 x11_1).f1.f0), .int .i64 ((rd_T73 l0 x11_1).f1.f1)]] ?_
             with_reducible refine (spec_imCoord.calls k1 ((rd_T73 l0 x11_1).f1.f0) ((rd_T73 l0 x11_1).f1.f1) true _ A9.out).mono ?_
             rintro e w29 ⟨rfl, hb⟩
             refine ⟨_, rfl, ?_⟩
             replace BK118 := kb BK118 hb
             replace HB := kh hb
             (try clear hb)
             (try clear hb2)
             (try clear hk)
             (try clear hi)
             refine hK.out _ _ ⟨(blk_cell BK118.out 0).trans rfl, (blk_cell BK118.out 1).trans rfl, (blk_cell BK118.out 2).trans rfl, (blk_cell BK118.out 3).trans rfl, (hc HB hw121_0 :), (hc HB hw121_1 :), (hc HB hw121_2 :), (hc HB hw121_3 :)⟩ (fun hHeld => ?_)
             clear hK K
             refine nm 23 ?_
             refine pu 8 24 (tb 9 17) ?_
             refine pu 9 25 (tb 10 16) ?_
             refine pu 10 26 (tb 11 15) ?_
             refine pu 11 27 (tb 12 14) ?_
             refine pu 12 28 (tb 13 13) ?_
             refine pu 13 29 (tb 14 12) ?_
             refine pu 14 30 (tb 15 11) ?_
             refine pu 15 31 (tb 16 10) ?_
             refine pu 16 32 (tb 17 9) ?_
             refine pu 17 33 (tb 18 8) ?_
             refine pu 18 34 (tb 19 7) ?_
             refine pu 20 36 #[true, true, true, true, true, true, true, true, true, true, true, true, true, true, true, true, true, true, true, false, true, false, false, false, false, false] ?_
             refine tk 19 35 (tb 21 5) (hy := by rintro w' ⟨s0, s1, s2, s3, s4, s5, s6, s7⟩; go_simp; with_reducible rfl) (h := ?_)
             refine tk 21 37 (tb 22 4) (hy := by rintro w' ⟨s0, s1, s2, s3, s4, s5, s6, s7⟩; go_simp; with_reducible rfl) (h := ?_)
             refine on 22 38 (tb 23 3) (fun K hK => ?_)
             refine goes_ Try.func105 (by kernel_rfl) rfl #[.agg #[.int .i64 ((rd_T73 l0 (ji12)).f0.f0), .int .i64 ((rd_T73 l0 (ji12)).f0.f1)], .agg #[.int .i64 ((rd_T73 l0 x11_1).f0.f0), .int .i64 ((rd_T73 l0 x11_1).f0.f1)]] (by rfl) rfl rfl (by (try simp only [List.map_toArray, List.map_cons, List.map_nil]); first | done | (simp only [hji12]; rfl) | rfl | (simp only [List.length_drop, List.length_take]; rfl)) ?_
             with_reducible refine (spec_raCmp.calls ((rd_T73 l0 (ji12)).f0.f0) ((rd_T73 l0 (ji12)).f0.f1) ((rd_T73 l0 x11_1).f0.f0) ((rd_T73 l0 x11_1).f0.f1) t122 _ A15.out).mono ?_
             rintro e w30 ⟨rfl, hb⟩
             refine ⟨_, rfl, ?_⟩
             replace BK118 := kb BK118 hb
             replace HB := kh hb
             (try clear hb)
             (try clear hb2)
             (try clear hk)
             (try clear hi)
             refine hK.out _ _ ⟨(blk_cell BK118.out 0).trans rfl, (blk_cell BK118.out 1).trans rfl, (blk_cell BK118.out 2).trans rfl, (blk_cell BK118.out 3).trans rfl, (hc HB hw121_0 :), (hc HB hw121_1 :), (hc HB hw121_2 :), (hc HB hw121_3 :)⟩ (fun hHeld => ?_)
             clear hK K
             refine nm 38 ?_
             refine pu 23 39 (tb 24 2) ?_
             refine pu 24 40 (tb 25 1) ?_
             refine pu 25 41 (tb 26 0) ?_
             refine done_ (done_of HT_.out (by kernel_rfl)) ?_
             try go_wp2
             go_roundg k1
             case measure => have := HK1.out; omega
             case rel => exact ⟨(wrap64 (x11_1 + 1)), rs, H', ⟨by have := HK1.out; omega⟩, ⟨bl⟩⟩
           ·rw [if_neg c14] at H
            exact absurd H (by simp)
          ·rw [if_neg c13] at H
           exact absurd H (by simp)
         ·rw [if_neg c11] at H
          have c11b0 : decide (0 < x11_1) = false := decide_eq_false c11
          clear c11
          have H' := Aside0.mk H
          clear H
          have p117 : 0 ≤ (x11_1 : Int) := da
          have q117 : x11_1 < (l0.length : Int) := da
          obtain ⟨ad117, e117, hx117_0, hx117_1, hx117_2, hx117_3⟩ := at_T73 HR0.out x11_1 p117 q117
          cases e117
          replace hx117_0 := (hc HB hx117_0 :)
          replace hx117_1 := (hc HB hx117_1 :)
          replace hx117_2 := (hc HB hx117_2 :)
          replace hx117_3 := (hc HB hx117_3 :)
          replace p117 := eq_true p117
          replace q117 := eq_true q117
          try go_wp2_with (first | ((with_reducible refine gate_dst (N := 4) rfl ?_); (try (refine gate_guard (by rfl) ?_; dsimp only)); refine bx 4 #[.int .i64 0, .int .i64 0, .int .i64 0, .int .i64 0] 73 ?_; intro gb118 hg w31 hbox hb; have BK118 := Aside0.mk (hbox); have GW118 := Aside0.mk (bz hg); have GE118 := GW118; replace HB := kh hb; clear hb hbox hg; obtain ⟨hcz32_0, hcz32_1, hcz32_2, hcz32_3, hfz32_0, hfz32_1, hfz32_2, hfz32_3⟩ := b4 BK118))
          have n0_ : Aside0 (((((w31.setCell ⟨gb118, 0, none⟩ (.int .i64 ((rd_T73 l0 x11_1).f0.f0))).setCell ⟨gb118, 1, none⟩ (.int .i64 ((rd_T73 l0 x11_1).f0.f1))).setCell ⟨gb118, 2, none⟩ (.int .i64 ((rd_T73 l0 x11_1).f1.f0))).setCell ⟨gb118, 3, none⟩ (.int .i64 ((rd_T73 l0 x11_1).f1.f1))).heap[gb118]? = some (.cells #[.int .i64 ((rd_T73 l0 x11_1).f0.f0), .int .i64 ((rd_T73 l0 x11_1).f0.f1), .int .i64 ((rd_T73 l0 x11_1).f1.f0), .int .i64 ((rd_T73 l0 x11_1).f1.f1)] 73 (0, 0))) := ⟨by (with_reducible repeat (first | refine blk_drewN ?_ _ | refine blk_drew ?_ | refine blk_alloc ?_ _)); refine blk_put (cs := #[.int .i64 ((rd_T73 l0 x11_1).f0.f0), .int .i64 ((rd_T73 l0 x11_1).f0.f1), .int .i64 ((rd_T73 l0 x11_1).f1.f0), .int .i64 0]) ?_ 3 _ rfl; (with_reducible repeat (first | refine blk_drewN ?_ _ | refine blk_drew ?_ | refine blk_alloc ?_ _)); refine blk_put (cs := #[.int .i64 ((rd_T73 l0 x11_1).f0.f0), .int .i64 ((rd_T73 l0 x11_1).f0.f1), .int .i64 0, .int .i64 0]) ?_ 2 _ rfl; (with_reducible repeat (first | refine blk_drewN ?_ _ | refine blk_drew ?_ | refine blk_alloc ?_ _)); refine blk_put (cs := #[.int .i64 ((rd_T73 l0 x11_1).f0.f0), .int .i64 0, .int .i64 0, .int .i64 0]) ?_ 1 _ rfl; (with_reducible repeat (first | refine blk_drewN ?_ _ | refine blk_drew ?_ | refine blk_alloc ?_ _)); refine blk_put (cs := #[.int .i64 0, .int .i64 0, .int .i64 0, .int .i64 0]) ?_ 0 _ rfl; (with_reducible repeat (first | refine blk_drewN ?_ _ | refine blk_drew ?_ | refine blk_alloc ?_ _)); exact BK118.out⟩
          have n1_ : Aside0 (Below w.heap.size w ((((w31.setCell ⟨gb118, 0, none⟩ (.int .i64 ((rd_T73 l0 x11_1).f0.f0))).setCell ⟨gb118, 1, none⟩ (.int .i64 ((rd_T73 l0 x11_1).f0.f1))).setCell ⟨gb118, 2, none⟩ (.int .i64 ((rd_T73 l0 x11_1).f1.f0))).setCell ⟨gb118, 3, none⟩ (.int .i64 ((rd_T73 l0 x11_1).f1.f1)))) := ⟨bl⟩
          (try clear BK118)
          (try clear HB)
          generalize ((((w31.setCell ⟨gb118, 0, none⟩ (.int .i64 ((rd_T73 l0 x11_1).f0.f0))).setCell ⟨gb118, 1, none⟩ (.int .i64 ((rd_T73 l0 x11_1).f0.f1))).setCell ⟨gb118, 2, none⟩ (.int .i64 ((rd_T73 l0 x11_1).f1.f0))).setCell ⟨gb118, 3, none⟩ (.int .i64 ((rd_T73 l0 x11_1).f1.f1))) = w33 at n0_ n1_ ⊢
          have BK118 := n0_
          have HB := n1_
          clear n0_ n1_
          replace BK118 := Aside0.mk (blk_drew BK118.out)
          replace HB := Aside0.mk (below_drew1 HB.out)
          refine start_ (n := 26) (S := fun w' => w'.cell? ⟨gb118, 0, none⟩ = some (.int .i64 ((rd_T73 l0 x11_1).f0.f0)) ∧ w'.cell? ⟨gb118, 1, none⟩ = some (.int .i64 ((rd_T73 l0 x11_1).f0.f1)) ∧ w'.cell? ⟨gb118, 2, none⟩ = some (.int .i64 ((rd_T73 l0 x11_1).f1.f0)) ∧ w'.cell? ⟨gb118, 3, none⟩ = some (.int .i64 ((rd_T73 l0 x11_1).f1.f1))) (ds := []) (tb 0 26) (by kernel_rfl) rfl rfl ⟨(blk_cell BK118.out 0).trans rfl, (blk_cell BK118.out 1).trans rfl, (blk_cell BK118.out 2).trans rfl, (blk_cell BK118.out 3).trans rfl⟩ (fun hHeld => ?_); refine with_tabW spec_imGood.tab6 spec_imGood.bits6 (fun HT_ HW_ => ?_)
          generalize w33.drew = w34 at BK118 HB hHeld ⊢
          refine pu 0 16 (tb 1 25) ?_
          refine tk 1 17 (tb 2 24) (hy := by rintro w' ⟨s0, s1, s2, s3⟩; go_simp; with_reducible rfl) (h := ?_)
          refine on 2 18 (tb 3 23) (fun K hK => ?_)
          refine gs Try.func104 #[.agg #[.int .i64 ((rd_T73 l0 x11_1).f0.f0), .int .i64 ((rd_T73 l0 x11_1).f0.f1)]] ?_
          with_reducible refine (spec_imCoord.calls k1 ((rd_T73 l0 x11_1).f0.f0) ((rd_T73 l0 x11_1).f0.f1) true _ A7.out).mono ?_
          rintro e w35 ⟨rfl, hb⟩
          refine ⟨_, rfl, ?_⟩
          replace BK118 := kb BK118 hb
          replace HB := kh hb
          (try clear hb)
          (try clear hb2)
          (try clear hk)
          (try clear hi)
          refine hK.out _ _ ⟨(blk_cell BK118.out 0).trans rfl, (blk_cell BK118.out 1).trans rfl, (blk_cell BK118.out 2).trans rfl, (blk_cell BK118.out 3).trans rfl⟩ (fun hHeld => ?_)
          clear hK K
          refine nm 18 ?_
          refine pu 3 19 (tb 4 22) ?_
          refine pu 4 20 (tb 5 21) ?_
          refine pu 5 21 (tb 6 20) ?_
          refine tk 6 22 (tb 7 19) (hy := by rintro w' ⟨s0, s1, s2, s3⟩; go_simp; with_reducible rfl) (h := ?_)
          refine on 7 23 (tb 8 18) (fun K hK => ?_)
          refine gs Try.func104 #[.agg #[.int .i64 ((rd_T73 l0 x11_1).f1.f0), .int .i64 ((rd_T73 l0 x11_1).f1.f1)]] ?_
          with_reducible refine (spec_imCoord.calls k1 ((rd_T73 l0 x11_1).f1.f0) ((rd_T73 l0 x11_1).f1.f1) true _ A9.out).mono ?_
          rintro e w36 ⟨rfl, hb⟩
          refine ⟨_, rfl, ?_⟩
          replace BK118 := kb BK118 hb
          replace HB := kh hb
          (try clear hb)
          (try clear hb2)
          (try clear hk)
          (try clear hi)
          refine hK.out _ _ ⟨(blk_cell BK118.out 0).trans rfl, (blk_cell BK118.out 1).trans rfl, (blk_cell BK118.out 2).trans rfl, (blk_cell BK118.out 3).trans rfl⟩ (fun hHeld => ?_)
          clear hK K
          refine nm 23 ?_
          refine pu 8 24 (tb 9 17) ?_
          refine pu 9 25 (tb 10 16) ?_
          refine pu 10 26 (tb 11 15) ?_
          refine pu 11 27 (tb 12 14) ?_
          refine pu 12 28 (tb 13 13) ?_
          refine pu 13 29 (tb 14 12) ?_
          refine sk 14 30 (tb 15 11) ?_
          refine sk 15 31 (tb 16 10) ?_
          refine sk 16 32 (tb 17 9) ?_
          refine sk 17 33 (tb 18 8) ?_
          refine sk 18 34 (tb 19 7) ?_
          refine sk 19 35 (tb 20 6) ?_
          refine sk 20 36 (tb 21 5) ?_
          refine sk 21 37 (tb 22 4) ?_
          refine sk 22 38 (tb 23 3) ?_
          refine sk 23 39 (tb 24 2) ?_
          refine pu 24 40 (tb 25 1) ?_
          refine pu 25 41 (tb 26 0) ?_
          refine done_ (done_of HT_.out (by kernel_rfl)) ?_
          try go_wp2
          go_roundg k1
          case measure => have := HK1.out; omega
          case rel => exact ⟨(wrap64 (x11_1 + 1)), rs, H', ⟨by have := HK1.out; omega⟩, ⟨bl⟩⟩
        ·replace c10 := Bool.eq_false_iff.mpr c10
         subst c10
         have H1 : (some false) = some r := by rw [if_neg (show ¬ (false = true) by decide)] at H; exact H
         clear H
         have H := H1
         clear H1
         obtain rfl := Option.some.inj H
         have p117 : 0 ≤ (x11_1 : Int) := da
         have q117 : x11_1 < (l0.length : Int) := da
         obtain ⟨ad117, e117, hx117_0, hx117_1, hx117_2, hx117_3⟩ := at_T73 HR0.out x11_1 p117 q117
         cases e117
         replace hx117_0 := (hc HB hx117_0 :)
         replace hx117_1 := (hc HB hx117_1 :)
         replace hx117_2 := (hc HB hx117_2 :)
         replace hx117_3 := (hc HB hx117_3 :)
         replace p117 := eq_true p117
         replace q117 := eq_true q117
         try go_wp2_with (first | ((with_reducible refine gate_dst (N := 4) rfl ?_); (try (refine gate_guard (by rfl) ?_; dsimp only)); refine bx 4 #[.int .i64 0, .int .i64 0, .int .i64 0, .int .i64 0] 73 ?_; intro gb118 hg w37 hbox hb; have BK118 := Aside0.mk (hbox); have GW118 := Aside0.mk (bz hg); have GE118 := GW118; replace HB := kh hb; clear hb hbox hg; obtain ⟨hcz38_0, hcz38_1, hcz38_2, hcz38_3, hfz38_0, hfz38_1, hfz38_2, hfz38_3⟩ := b4 BK118))
         have n0_ : Aside0 (((((w37.setCell ⟨gb118, 0, none⟩ (.int .i64 ((rd_T73 l0 x11_1).f0.f0))).setCell ⟨gb118, 1, none⟩ (.int .i64 ((rd_T73 l0 x11_1).f0.f1))).setCell ⟨gb118, 2, none⟩ (.int .i64 ((rd_T73 l0 x11_1).f1.f0))).setCell ⟨gb118, 3, none⟩ (.int .i64 ((rd_T73 l0 x11_1).f1.f1))).heap[gb118]? = some (.cells #[.int .i64 ((rd_T73 l0 x11_1).f0.f0), .int .i64 ((rd_T73 l0 x11_1).f0.f1), .int .i64 ((rd_T73 l0 x11_1).f1.f0), .int .i64 ((rd_T73 l0 x11_1).f1.f1)] 73 (0, 0))) := ⟨by (with_reducible repeat (first | refine blk_drewN ?_ _ | refine blk_drew ?_ | refine blk_alloc ?_ _)); refine blk_put (cs := #[.int .i64 ((rd_T73 l0 x11_1).f0.f0), .int .i64 ((rd_T73 l0 x11_1).f0.f1), .int .i64 ((rd_T73 l0 x11_1).f1.f0), .int .i64 0]) ?_ 3 _ rfl; (with_reducible repeat (first | refine blk_drewN ?_ _ | refine blk_drew ?_ | refine blk_alloc ?_ _)); refine blk_put (cs := #[.int .i64 ((rd_T73 l0 x11_1).f0.f0), .int .i64 ((rd_T73 l0 x11_1).f0.f1), .int .i64 0, .int .i64 0]) ?_ 2 _ rfl; (with_reducible repeat (first | refine blk_drewN ?_ _ | refine blk_drew ?_ | refine blk_alloc ?_ _)); refine blk_put (cs := #[.int .i64 ((rd_T73 l0 x11_1).f0.f0), .int .i64 0, .int .i64 0, .int .i64 0]) ?_ 1 _ rfl; (with_reducible repeat (first | refine blk_drewN ?_ _ | refine blk_drew ?_ | refine blk_alloc ?_ _)); refine blk_put (cs := #[.int .i64 0, .int .i64 0, .int .i64 0, .int .i64 0]) ?_ 0 _ rfl; (with_reducible repeat (first | refine blk_drewN ?_ _ | refine blk_drew ?_ | refine blk_alloc ?_ _)); exact BK118.out⟩
         have n1_ : Aside0 (Below w.heap.size w ((((w37.setCell ⟨gb118, 0, none⟩ (.int .i64 ((rd_T73 l0 x11_1).f0.f0))).setCell ⟨gb118, 1, none⟩ (.int .i64 ((rd_T73 l0 x11_1).f0.f1))).setCell ⟨gb118, 2, none⟩ (.int .i64 ((rd_T73 l0 x11_1).f1.f0))).setCell ⟨gb118, 3, none⟩ (.int .i64 ((rd_T73 l0 x11_1).f1.f1)))) := ⟨bl⟩
         (try clear BK118)
         (try clear HB)
         generalize ((((w37.setCell ⟨gb118, 0, none⟩ (.int .i64 ((rd_T73 l0 x11_1).f0.f0))).setCell ⟨gb118, 1, none⟩ (.int .i64 ((rd_T73 l0 x11_1).f0.f1))).setCell ⟨gb118, 2, none⟩ (.int .i64 ((rd_T73 l0 x11_1).f1.f0))).setCell ⟨gb118, 3, none⟩ (.int .i64 ((rd_T73 l0 x11_1).f1.f1))) = w39 at n0_ n1_ ⊢
         have BK118 := n0_
         have HB := n1_
         clear n0_ n1_
         replace BK118 := Aside0.mk (blk_drew BK118.out)
         replace HB := Aside0.mk (below_drew1 HB.out)
         refine start_ (n := 26) (S := fun w' => w'.cell? ⟨gb118, 0, none⟩ = some (.int .i64 ((rd_T73 l0 x11_1).f0.f0)) ∧ w'.cell? ⟨gb118, 1, none⟩ = some (.int .i64 ((rd_T73 l0 x11_1).f0.f1)) ∧ w'.cell? ⟨gb118, 2, none⟩ = some (.int .i64 ((rd_T73 l0 x11_1).f1.f0)) ∧ w'.cell? ⟨gb118, 3, none⟩ = some (.int .i64 ((rd_T73 l0 x11_1).f1.f1))) (ds := []) (tb 0 26) (by kernel_rfl) rfl rfl ⟨(blk_cell BK118.out 0).trans rfl, (blk_cell BK118.out 1).trans rfl, (blk_cell BK118.out 2).trans rfl, (blk_cell BK118.out 3).trans rfl⟩ (fun hHeld => ?_); refine with_tabW spec_imGood.tab6 spec_imGood.bits6 (fun HT_ HW_ => ?_)
         generalize w39.drew = w40 at BK118 HB hHeld ⊢
         refine pu 0 16 (tb 1 25) ?_
         refine tk 1 17 (tb 2 24) (hy := by rintro w' ⟨s0, s1, s2, s3⟩; go_simp; with_reducible rfl) (h := ?_)
         refine on 2 18 (tb 3 23) (fun K hK => ?_)
         refine gs Try.func104 #[.agg #[.int .i64 ((rd_T73 l0 x11_1).f0.f0), .int .i64 ((rd_T73 l0 x11_1).f0.f1)]] ?_
         with_reducible refine (spec_imCoord.calls k1 ((rd_T73 l0 x11_1).f0.f0) ((rd_T73 l0 x11_1).f0.f1) true _ A7.out).mono ?_
         rintro e w41 ⟨rfl, hb⟩
         refine ⟨_, rfl, ?_⟩
         replace BK118 := kb BK118 hb
         replace HB := kh hb
         (try clear hb)
         (try clear hb2)
         (try clear hk)
         (try clear hi)
         refine hK.out _ _ ⟨(blk_cell BK118.out 0).trans rfl, (blk_cell BK118.out 1).trans rfl, (blk_cell BK118.out 2).trans rfl, (blk_cell BK118.out 3).trans rfl⟩ (fun hHeld => ?_)
         clear hK K
         refine nm 18 ?_
         refine pu 3 19 (tb 4 22) ?_
         refine pu 4 20 (tb 5 21) ?_
         refine pu 5 21 (tb 6 20) ?_
         refine tk 6 22 (tb 7 19) (hy := by rintro w' ⟨s0, s1, s2, s3⟩; go_simp; with_reducible rfl) (h := ?_)
         refine on 7 23 (tb 8 18) (fun K hK => ?_)
         refine gs Try.func104 #[.agg #[.int .i64 ((rd_T73 l0 x11_1).f1.f0), .int .i64 ((rd_T73 l0 x11_1).f1.f1)]] ?_
         with_reducible refine (spec_imCoord.calls k1 ((rd_T73 l0 x11_1).f1.f0) ((rd_T73 l0 x11_1).f1.f1) false _ A9.out).mono ?_
         rintro e w42 ⟨rfl, hb⟩
         refine ⟨_, rfl, ?_⟩
         replace BK118 := kb BK118 hb
         replace HB := kh hb
         (try clear hb)
         (try clear hb2)
         (try clear hk)
         (try clear hi)
         refine hK.out _ _ ⟨(blk_cell BK118.out 0).trans rfl, (blk_cell BK118.out 1).trans rfl, (blk_cell BK118.out 2).trans rfl, (blk_cell BK118.out 3).trans rfl⟩ (fun hHeld => ?_)
         clear hK K
         refine nm 23 ?_
         refine pu 8 24 (tb 9 17) ?_
         refine pu 9 25 (tb 10 16) ?_
         refine pu 10 26 (tb 11 15) ?_
         refine sk 11 27 (tb 12 14) ?_
         refine sk 12 28 (tb 13 13) ?_
         refine sk 13 29 (tb 14 12) ?_
         refine sk 14 30 (tb 15 11) ?_
         refine sk 15 31 (tb 16 10) ?_
         refine sk 16 32 (tb 17 9) ?_
         refine sk 17 33 (tb 18 8) ?_
         refine sk 18 34 (tb 19 7) ?_
         refine sk 19 35 (tb 20 6) ?_
         refine sk 20 36 (tb 21 5) ?_
         refine sk 21 37 (tb 22 4) ?_
         refine sk 22 38 (tb 23 3) ?_
         refine sk 23 39 (tb 24 2) ?_
         refine sk 24 40 (tb 25 1) ?_
         refine pu 25 41 (tb 26 0) ?_
         refine done_ (done_of HT_.out (by kernel_rfl)) ?_
         try go_wp2
         go_ret
         exact ⟨rt, bl⟩
       ·replace c8 := Bool.eq_false_iff.mpr c8
        subst c8
        have H1 : (some false) = some r := by rw [if_neg (show ¬ (false = true) by decide)] at H; exact H
        clear H
        have H := H1
        clear H1
        obtain rfl := Option.some.inj H
        have p117 : 0 ≤ (x11_1 : Int) := da
        have q117 : x11_1 < (l0.length : Int) := da
        obtain ⟨ad117, e117, hx117_0, hx117_1, hx117_2, hx117_3⟩ := at_T73 HR0.out x11_1 p117 q117
        cases e117
        replace hx117_0 := (hc HB hx117_0 :)
        replace hx117_1 := (hc HB hx117_1 :)
        replace hx117_2 := (hc HB hx117_2 :)
        replace hx117_3 := (hc HB hx117_3 :)
        replace p117 := eq_true p117
        replace q117 := eq_true q117
        try go_wp2_with (first | ((with_reducible refine gate_dst (N := 4) rfl ?_); (try (refine gate_guard (by rfl) ?_; dsimp only)); refine bx 4 #[.int .i64 0, .int .i64 0, .int .i64 0, .int .i64 0] 73 ?_; intro gb118 hg w43 hbox hb; have BK118 := Aside0.mk (hbox); have GW118 := Aside0.mk (bz hg); have GE118 := GW118; replace HB := kh hb; clear hb hbox hg; obtain ⟨hcz44_0, hcz44_1, hcz44_2, hcz44_3, hfz44_0, hfz44_1, hfz44_2, hfz44_3⟩ := b4 BK118))
        have n0_ : Aside0 (((((w43.setCell ⟨gb118, 0, none⟩ (.int .i64 ((rd_T73 l0 x11_1).f0.f0))).setCell ⟨gb118, 1, none⟩ (.int .i64 ((rd_T73 l0 x11_1).f0.f1))).setCell ⟨gb118, 2, none⟩ (.int .i64 ((rd_T73 l0 x11_1).f1.f0))).setCell ⟨gb118, 3, none⟩ (.int .i64 ((rd_T73 l0 x11_1).f1.f1))).heap[gb118]? = some (.cells #[.int .i64 ((rd_T73 l0 x11_1).f0.f0), .int .i64 ((rd_T73 l0 x11_1).f0.f1), .int .i64 ((rd_T73 l0 x11_1).f1.f0), .int .i64 ((rd_T73 l0 x11_1).f1.f1)] 73 (0, 0))) := ⟨by (with_reducible repeat (first | refine blk_drewN ?_ _ | refine blk_drew ?_ | refine blk_alloc ?_ _)); refine blk_put (cs := #[.int .i64 ((rd_T73 l0 x11_1).f0.f0), .int .i64 ((rd_T73 l0 x11_1).f0.f1), .int .i64 ((rd_T73 l0 x11_1).f1.f0), .int .i64 0]) ?_ 3 _ rfl; (with_reducible repeat (first | refine blk_drewN ?_ _ | refine blk_drew ?_ | refine blk_alloc ?_ _)); refine blk_put (cs := #[.int .i64 ((rd_T73 l0 x11_1).f0.f0), .int .i64 ((rd_T73 l0 x11_1).f0.f1), .int .i64 0, .int .i64 0]) ?_ 2 _ rfl; (with_reducible repeat (first | refine blk_drewN ?_ _ | refine blk_drew ?_ | refine blk_alloc ?_ _)); refine blk_put (cs := #[.int .i64 ((rd_T73 l0 x11_1).f0.f0), .int .i64 0, .int .i64 0, .int .i64 0]) ?_ 1 _ rfl; (with_reducible repeat (first | refine blk_drewN ?_ _ | refine blk_drew ?_ | refine blk_alloc ?_ _)); refine blk_put (cs := #[.int .i64 0, .int .i64 0, .int .i64 0, .int .i64 0]) ?_ 0 _ rfl; (with_reducible repeat (first | refine blk_drewN ?_ _ | refine blk_drew ?_ | refine blk_alloc ?_ _)); exact BK118.out⟩
        have n1_ : Aside0 (Below w.heap.size w ((((w43.setCell ⟨gb118, 0, none⟩ (.int .i64 ((rd_T73 l0 x11_1).f0.f0))).setCell ⟨gb118, 1, none⟩ (.int .i64 ((rd_T73 l0 x11_1).f0.f1))).setCell ⟨gb118, 2, none⟩ (.int .i64 ((rd_T73 l0 x11_1).f1.f0))).setCell ⟨gb118, 3, none⟩ (.int .i64 ((rd_T73 l0 x11_1).f1.f1)))) := ⟨bl⟩
        (try clear BK118)
        (try clear HB)
        generalize ((((w43.setCell ⟨gb118, 0, none⟩ (.int .i64 ((rd_T73 l0 x11_1).f0.f0))).setCell ⟨gb118, 1, none⟩ (.int .i64 ((rd_T73 l0 x11_1).f0.f1))).setCell ⟨gb118, 2, none⟩ (.int .i64 ((rd_T73 l0 x11_1).f1.f0))).setCell ⟨gb118, 3, none⟩ (.int .i64 ((rd_T73 l0 x11_1).f1.f1))) = w45 at n0_ n1_ ⊢
        have BK118 := n0_
        have HB := n1_
        clear n0_ n1_
        replace BK118 := Aside0.mk (blk_drew BK118.out)
        replace HB := Aside0.mk (below_drew1 HB.out)
        refine start_ (n := 26) (S := fun w' => w'.cell? ⟨gb118, 0, none⟩ = some (.int .i64 ((rd_T73 l0 x11_1).f0.f0)) ∧ w'.cell? ⟨gb118, 1, none⟩ = some (.int .i64 ((rd_T73 l0 x11_1).f0.f1)) ∧ w'.cell? ⟨gb118, 2, none⟩ = some (.int .i64 ((rd_T73 l0 x11_1).f1.f0)) ∧ w'.cell? ⟨gb118, 3, none⟩ = some (.int .i64 ((rd_T73 l0 x11_1).f1.f1))) (ds := []) (tb 0 26) (by kernel_rfl) rfl rfl ⟨(blk_cell BK118.out 0).trans rfl, (blk_cell BK118.out 1).trans rfl, (blk_cell BK118.out 2).trans rfl, (blk_cell BK118.out 3).trans rfl⟩ (fun hHeld => ?_); refine with_tabW spec_imGood.tab6 spec_imGood.bits6 (fun HT_ HW_ => ?_)
        generalize w45.drew = w46 at BK118 HB hHeld ⊢
        refine pu 0 16 (tb 1 25) ?_
        refine tk 1 17 (tb 2 24) (hy := by rintro w' ⟨s0, s1, s2, s3⟩; go_simp; with_reducible rfl) (h := ?_)
        refine on 2 18 (tb 3 23) (fun K hK => ?_)
        refine gs Try.func104 #[.agg #[.int .i64 ((rd_T73 l0 x11_1).f0.f0), .int .i64 ((rd_T73 l0 x11_1).f0.f1)]] ?_
        with_reducible refine (spec_imCoord.calls k1 ((rd_T73 l0 x11_1).f0.f0) ((rd_T73 l0 x11_1).f0.f1) false _ A7.out).mono ?_
        rintro e w47 ⟨rfl, hb⟩
        refine ⟨_, rfl, ?_⟩
        replace BK118 := kb BK118 hb
        replace HB := kh hb
        (try clear hb)
        (try clear hb2)
        (try clear hk)
        (try clear hi)
        refine hK.out _ _ ⟨(blk_cell BK118.out 0).trans rfl, (blk_cell BK118.out 1).trans rfl, (blk_cell BK118.out 2).trans rfl, (blk_cell BK118.out 3).trans rfl⟩ (fun hHeld => ?_)
        clear hK K
        refine nm 18 ?_
        refine pu 3 19 (tb 4 22) ?_
        refine pu 4 20 (tb 5 21) ?_
        refine sk 5 21 (tb 6 20) ?_
        refine sk 6 22 (tb 7 19) ?_
        refine sk 7 23 (tb 8 18) ?_
        refine sk 8 24 (tb 9 17) ?_
        refine pu 9 25 (tb 10 16) ?_
        refine pu 10 26 (tb 11 15) ?_
        refine sk 11 27 (tb 12 14) ?_
        refine sk 12 28 (tb 13 13) ?_
        refine sk 13 29 (tb 14 12) ?_
        refine sk 14 30 (tb 15 11) ?_
        refine sk 15 31 (tb 16 10) ?_
        refine sk 16 32 (tb 17 9) ?_
        refine sk 17 33 (tb 18 8) ?_
        refine sk 18 34 (tb 19 7) ?_
        refine sk 19 35 (tb 20 6) ?_
        refine sk 20 36 (tb 21 5) ?_
        refine sk 21 37 (tb 22 4) ?_
        refine sk 22 38 (tb 23 3) ?_
        refine sk 23 39 (tb 24 2) ?_
        refine sk 24 40 (tb 25 1) ?_
        refine pu 25 41 (tb 26 0) ?_
        refine done_ (done_of HT_.out (by kernel_rfl)) ?_
        try go_wp2
        go_ret
        exact ⟨rt, bl⟩
      ·rw [if_neg c6] at H
       exact absurd H (by simp)
     ·rw [if_neg c5] at H
      exact absurd H (by simp)
    ·rw [if_neg c4] at H
     have c4b0 : decide (x11_1 < (l0.length : Int)) = false := decide_eq_false c4
     clear c4
     by_cases c48 : 0 < (l0.length : Int)
     ·rw [if_pos c48] at H
      have c48b0 : decide (0 < (l0.length : Int)) = true := decide_eq_true c48
      have c48b1 : decide (0 < l0.length) = true := decide_eq_true (by omega)
      clear c48
      replace H := Option.bind_eq_some_iff.mp H
      obtain ⟨⟨t124, t125⟩, A490, H⟩ := H
      replace H : ((spec_raCmp.f ((rd_T73 l0 0).f0.f0) ((rd_T73 l0 0).f0.f1) t124 t125).bind fun t126 => (if t126 = 0 then (if 0 ≤ (wrap64 ((l0.length : Int) - 1)) then (if (wrap64 ((l0.length : Int) - 1)) < (l0.length : Int) then ((spec_raInt.f 1).bind fun bt128 => ((spec_raCmp.f ((rd_T73 l0 (wrap64 ((l0.length : Int) - 1))).f0.f0) ((rd_T73 l0 (wrap64 ((l0.length : Int) - 1))).f0.f1) bt128.1 bt128.2).bind fun t130 => (some (t130 == 0)))) else (none)) else (none)) else (some false))) = some r := H
      have A49 := Aside0.mk A490
      clear A490
      replace H := Option.bind_eq_some_iff.mp H
      obtain ⟨t126, A500, H⟩ := H
      replace H : (if t126 = 0 then (if 0 ≤ (wrap64 ((l0.length : Int) - 1)) then (if (wrap64 ((l0.length : Int) - 1)) < (l0.length : Int) then ((spec_raInt.f 1).bind fun bt128 => ((spec_raCmp.f ((rd_T73 l0 (wrap64 ((l0.length : Int) - 1))).f0.f0) ((rd_T73 l0 (wrap64 ((l0.length : Int) - 1))).f0.f1) bt128.1 bt128.2).bind fun t130 => (some (t130 == 0)))) else (none)) else (none)) else (some false)) = some r := H
      have A50 := Aside0.mk A500
      clear A500
      by_cases c51 : t126 = 0
      ·rw [if_pos c51] at H
       have c51b0 : (t126 == 0) = true := beq_iff_eq.mpr c51
       have c51b1 : (t126 != 0) = false := bne_eq_false_iff_eq.mpr c51
       clear c51
       obtain ⟨ji52, hji52⟩ : ∃ j_ : Int, (wrap64 ((l0.length : Int) - 1)) = j_ := ⟨_, rfl⟩
       replace H : (if 0 ≤ (ji52) then (if (ji52) < (l0.length : Int) then ((spec_raInt.f 1).bind fun bt128 => ((spec_raCmp.f ((rd_T73 l0 (ji52)).f0.f0) ((rd_T73 l0 (ji52)).f0.f1) bt128.1 bt128.2).bind fun t130 => (some (t130 == 0)))) else (none)) else (none)) = some r := by first | (rw [hji52] at H; exact H) | (simp only [hji52] at H ⊢; exact H)
       (try rw [hji52] at A49)
       (try rw [hji52] at A50)
       have hji52w : (IntKind.i64.wrap ((l0.length : Int) - 1)) = ji52 := (i64_w _).trans hji52
       by_cases c53 : 0 ≤ (ji52)
       ·rw [if_pos c53] at H
        have c53b0 : decide (0 ≤ (ji52)) = true := decide_eq_true c53
        clear c53
        by_cases c54 : (ji52) < (l0.length : Int)
        ·rw [if_pos c54] at H
         have c54b0 : decide ((ji52) < (l0.length : Int)) = true := decide_eq_true c54
         clear c54
         replace H := Option.bind_eq_some_iff.mp H
         obtain ⟨⟨t128, t129⟩, A550, H⟩ := H
         replace H : ((spec_raCmp.f ((rd_T73 l0 (ji52)).f0.f0) ((rd_T73 l0 (ji52)).f0.f1) t128 t129).bind fun t130 => (some (t130 == 0))) = some r := H
         have A55 := Aside0.mk A550
         clear A550
         replace H := Option.bind_eq_some_iff.mp H
         obtain ⟨t130, A560, H⟩ := H
         replace H : (some (t130 == 0)) = some r := H
         have A56 := Aside0.mk A560
         clear A560
         obtain rfl := Option.some.inj H
         try go_wp2
         replace HB := Aside0.mk (below_drew1 HB.out)
         have p123 : 0 ≤ (0 : Int) := (by omega)
         have q123 : 0 < (l0.length : Int) := da
         obtain ⟨ad123, e123, hx123_0, hx123_1, hx123_2, hx123_3⟩ := at_T73 HR0.out 0 p123 q123
         have hw123_3 := hx123_3
         (try rw [show ((0 : Int)).toNat = 0 from rfl] at hw123_3)
         (try rw [show 0 * 4 = 0 from rfl] at hw123_3)
         (try rw [Addr.add_zero'] at hw123_3)
         have hw123_2 := hx123_2
         (try rw [show ((0 : Int)).toNat = 0 from rfl] at hw123_2)
         (try rw [show 0 * 4 = 0 from rfl] at hw123_2)
         (try rw [Addr.add_zero'] at hw123_2)
         have hw123_1 := hx123_1
         (try rw [show ((0 : Int)).toNat = 0 from rfl] at hw123_1)
         (try rw [show 0 * 4 = 0 from rfl] at hw123_1)
         (try rw [Addr.add_zero'] at hw123_1)
         have hw123_0 := hx123_0
         (try rw [show ((0 : Int)).toNat = 0 from rfl] at hw123_0)
         (try rw [show 0 * 4 = 0 from rfl] at hw123_0)
         (try rw [Addr.add_zero'] at hw123_0)
         cases e123
         have qi123 : (0 < l0.length) = True := eq_true (by omega)
         (try rw [show ((0 : Int)).toNat = 0 from rfl] at hx123_0)
         (try rw [show 0 * 4 = 0 from rfl] at hx123_0)
         (try rw [Addr.add_zero'] at hx123_0)
         (try rw [show ((0 : Int)).toNat = 0 from rfl] at hx123_1)
         (try rw [show 0 * 4 = 0 from rfl] at hx123_1)
         (try rw [Addr.add_zero'] at hx123_1)
         (try rw [show ((0 : Int)).toNat = 0 from rfl] at hx123_2)
         (try rw [show 0 * 4 = 0 from rfl] at hx123_2)
         (try rw [Addr.add_zero'] at hx123_2)
         (try rw [show ((0 : Int)).toNat = 0 from rfl] at hx123_3)
         (try rw [show 0 * 4 = 0 from rfl] at hx123_3)
         (try rw [Addr.add_zero'] at hx123_3)
         replace hx123_0 := (hc HB hx123_0 :)
         replace hx123_1 := (hc HB hx123_1 :)
         replace hx123_2 := (hc HB hx123_2 :)
         replace hx123_3 := (hc HB hx123_3 :)
         replace p123 := eq_true p123
         replace q123 := eq_true q123
         have p127 : 0 ≤ ((ji52) : Int) := da
         have q127 : (ji52) < (l0.length : Int) := da
         obtain ⟨ad127, e127, hx127_0, hx127_1, hx127_2, hx127_3⟩ := at_T73 HR0.out (ji52) p127 q127
         have hw127_3 := hx127_3
         have hw127_2 := hx127_2
         have hw127_1 := hx127_1
         have hw127_0 := hx127_0
         obtain rfl : ad123 = ad127 := (by injection e127)
         replace hx127_0 := (hc HB hx127_0 :)
         replace hx127_1 := (hc HB hx127_1 :)
         replace hx127_2 := (hc HB hx127_2 :)
         replace hx127_3 := (hc HB hx127_3 :)
         replace p127 := eq_true p127
         replace q127 := eq_true q127
         refine start_ (n := 20) (S := fun w' => w'.cell? ad123 = some (.int .i64 ((rd_T73 l0 0).f0.f0)) ∧ w'.cell? ⟨ad123.block, ad123.off + 1, none⟩ = some (.int .i64 ((rd_T73 l0 0).f0.f1)) ∧ w'.cell? ⟨ad123.block, ad123.off + 2, none⟩ = some (.int .i64 ((rd_T73 l0 0).f1.f0)) ∧ w'.cell? ⟨ad123.block, ad123.off + 3, none⟩ = some (.int .i64 ((rd_T73 l0 0).f1.f1)) ∧ w'.cell? (ad123.add (((ji52)).toNat * 4)) = some (.int .i64 ((rd_T73 l0 (ji52)).f0.f0)) ∧ w'.cell? ⟨(ad123.add (((ji52)).toNat * 4)).block, (ad123.add (((ji52)).toNat * 4)).off + 1, none⟩ = some (.int .i64 ((rd_T73 l0 (ji52)).f0.f1)) ∧ w'.cell? ⟨(ad123.add (((ji52)).toNat * 4)).block, (ad123.add (((ji52)).toNat * 4)).off + 2, none⟩ = some (.int .i64 ((rd_T73 l0 (ji52)).f1.f0)) ∧ w'.cell? ⟨(ad123.add (((ji52)).toNat * 4)).block, (ad123.add (((ji52)).toNat * 4)).off + 3, none⟩ = some (.int .i64 ((rd_T73 l0 (ji52)).f1.f1))) (ds := []) (tb 0 20) (by kernel_rfl) rfl rfl ⟨(hc HB hw123_0 :), (hc HB hw123_1 :), (hc HB hw123_2 :), (hc HB hw123_3 :), (hc HB hw127_0 :), (hc HB hw127_1 :), (hc HB hw127_2 :), (hc HB hw127_3 :)⟩ (fun hHeld => ?_); refine with_tabW spec_imGood.tab9 spec_imGood.bits9 (fun HT_ HW_ => ?_)
         generalize wr.drew = w57 at HB hx123_0 hx123_1 hx123_2 hx123_3 hx127_0 hx127_1 hx127_2 hx127_3 hHeld ⊢
         refine pu 0 43 (tb 1 19) ?_
         refine pu 1 44 (tb 2 18) ?_
         refine pu 2 45 (tb 3 17) ?_
         refine tk 3 46 (tb 4 16) (hy := by rintro w' ⟨s0, s1, s2, s3, s4, s5, s6, s7⟩; go_simp; with_reducible rfl) (h := ?_)
         refine on 4 47 (tb 5 15) (fun K hK => ?_)
         refine gs Try.func80 #[.int .i64 0] ?_
         with_reducible refine (spec_raInt.calls 0 t124 t125 _ A49.out).mono ?_
         rintro e w58 ⟨rfl, hb⟩
         refine ⟨_, rfl, ?_⟩
         replace HB := kh hb
         (try clear hb)
         (try clear hb2)
         (try clear hk)
         (try clear hi)
         refine hK.out _ _ ⟨(hc HB hw123_0 :), (hc HB hw123_1 :), (hc HB hw123_2 :), (hc HB hw123_3 :), (hc HB hw127_0 :), (hc HB hw127_1 :), (hc HB hw127_2 :), (hc HB hw127_3 :)⟩ (fun hHeld => ?_)
         clear hK K
         refine nm 47 ?_
         refine on 5 48 (tb 6 14) (fun K hK => ?_)
         refine gs Try.func105 #[.agg #[.int .i64 ((rd_T73 l0 0).f0.f0), .int .i64 ((rd_T73 l0 0).f0.f1)], .agg #[.int .i64 t124, .int .i64 t125]] ?_
         with_reducible refine (spec_raCmp.calls ((rd_T73 l0 0).f0.f0) ((rd_T73 l0 0).f0.f1) t124 t125 t126 _ A50.out).mono ?_
         rintro e w59 ⟨rfl, hb⟩
         refine ⟨_, rfl, ?_⟩
         replace HB := kh hb
         (try clear hb)
         (try clear hb2)
         (try clear hk)
         (try clear hi)
         refine hK.out _ _ ⟨(hc HB hw123_0 :), (hc HB hw123_1 :), (hc HB hw123_2 :), (hc HB hw123_3 :), (hc HB hw127_0 :), (hc HB hw127_1 :), (hc HB hw127_2 :), (hc HB hw127_3 :)⟩ (fun hHeld => ?_)
         clear hK K
         refine nm 48 ?_
         refine pu 6 49 (tb 7 13) ?_
         refine pu 7 50 (tb 8 12) ?_
         refine pu 8 51 (tb 9 11) ?_
         refine pu 9 52 (tb 10 10) ?_
         refine pu 10 53 (tb 11 9) ?_
         refine pu 11 54 (tb 12 8) ?_
         refine pu 12 55 (tb 13 7) ?_
         refine pu 13 56 (tb 14 6) ?_
         refine tk 14 57 (tb 15 5) (hy := by rintro w' ⟨s0, s1, s2, s3, s4, s5, s6, s7⟩; go_simp; with_reducible rfl) (h := ?_)
         refine on 15 58 (tb 16 4) (fun K hK => ?_)
         refine gs Try.func80 #[.int .i64 1] ?_
         with_reducible refine (spec_raInt.calls 1 t128 t129 _ A55.out).mono ?_
         rintro e w60 ⟨rfl, hb⟩
         refine ⟨_, rfl, ?_⟩
         replace HB := kh hb
         (try clear hb)
         (try clear hb2)
         (try clear hk)
         (try clear hi)
         refine hK.out _ _ ⟨(hc HB hw123_0 :), (hc HB hw123_1 :), (hc HB hw123_2 :), (hc HB hw123_3 :), (hc HB hw127_0 :), (hc HB hw127_1 :), (hc HB hw127_2 :), (hc HB hw127_3 :)⟩ (fun hHeld => ?_)
         clear hK K
         refine nm 58 ?_
         refine on 16 59 (tb 17 3) (fun K hK => ?_)
         refine goes_ Try.func105 (by kernel_rfl) rfl #[.agg #[.int .i64 ((rd_T73 l0 (ji52)).f0.f0), .int .i64 ((rd_T73 l0 (ji52)).f0.f1)], .agg #[.int .i64 t128, .int .i64 t129]] (by rfl) rfl rfl (by (try simp only [List.map_toArray, List.map_cons, List.map_nil]); first | done | (simp only [hji52]; rfl) | rfl | (simp only [List.length_drop, List.length_take]; rfl)) ?_
         with_reducible refine (spec_raCmp.calls ((rd_T73 l0 (ji52)).f0.f0) ((rd_T73 l0 (ji52)).f0.f1) t128 t129 t130 _ A56.out).mono ?_
         rintro e w61 ⟨rfl, hb⟩
         refine ⟨_, rfl, ?_⟩
         replace HB := kh hb
         (try clear hb)
         (try clear hb2)
         (try clear hk)
         (try clear hi)
         refine hK.out _ _ ⟨(hc HB hw123_0 :), (hc HB hw123_1 :), (hc HB hw123_2 :), (hc HB hw123_3 :), (hc HB hw127_0 :), (hc HB hw127_1 :), (hc HB hw127_2 :), (hc HB hw127_3 :)⟩ (fun hHeld => ?_)
         clear hK K
         refine nm 59 ?_
         refine pu 17 60 (tb 18 2) ?_
         refine pu 18 61 (tb 19 1) ?_
         refine pu 19 2 (tb 20 0) ?_
         refine done_ (done_of HT_.out (by kernel_rfl)) ?_
         try go_wp2
         go_ret
         exact ⟨by first | rfl | (simp [errW_none, errW_some] <;> rfl) | (simp only [← hji52]; first | rfl | (simp [errW_none, errW_some] <;> rfl)) | (simp [*, errW_none, errW_some] <;> rfl), bl⟩
        ·rw [if_neg c54] at H
         exact absurd H (by simp)
       ·rw [if_neg c53] at H
        exact absurd H (by simp)
      ·rw [if_neg c51] at H
       have c51b0 : (t126 == 0) = false := beq_eq_false_iff_ne.mpr c51
       have c51b1 : (t126 != 0) = true := bne_iff_ne.mpr c51
       obtain rfl := Option.some.inj H
       try go_wp2
       replace HB := Aside0.mk (below_drew1 HB.out)
       have p123 : 0 ≤ (0 : Int) := (by omega)
       have q123 : 0 < (l0.length : Int) := da
       obtain ⟨ad123, e123, hx123_0, hx123_1, hx123_2, hx123_3⟩ := at_T73 HR0.out 0 p123 q123
       have hw123_3 := hx123_3
       (try rw [show ((0 : Int)).toNat = 0 from rfl] at hw123_3)
       (try rw [show 0 * 4 = 0 from rfl] at hw123_3)
       (try rw [Addr.add_zero'] at hw123_3)
       have hw123_2 := hx123_2
       (try rw [show ((0 : Int)).toNat = 0 from rfl] at hw123_2)
       (try rw [show 0 * 4 = 0 from rfl] at hw123_2)
       (try rw [Addr.add_zero'] at hw123_2)
       have hw123_1 := hx123_1
       (try rw [show ((0 : Int)).toNat = 0 from rfl] at hw123_1)
       (try rw [show 0 * 4 = 0 from rfl] at hw123_1)
       (try rw [Addr.add_zero'] at hw123_1)
       have hw123_0 := hx123_0
       (try rw [show ((0 : Int)).toNat = 0 from rfl] at hw123_0)
       (try rw [show 0 * 4 = 0 from rfl] at hw123_0)
       (try rw [Addr.add_zero'] at hw123_0)
       cases e123
       have qi123 : (0 < l0.length) = True := eq_true (by omega)
       (try rw [show ((0 : Int)).toNat = 0 from rfl] at hx123_0)
       (try rw [show 0 * 4 = 0 from rfl] at hx123_0)
       (try rw [Addr.add_zero'] at hx123_0)
       (try rw [show ((0 : Int)).toNat = 0 from rfl] at hx123_1)
       (try rw [show 0 * 4 = 0 from rfl] at hx123_1)
       (try rw [Addr.add_zero'] at hx123_1)
       (try rw [show ((0 : Int)).toNat = 0 from rfl] at hx123_2)
       (try rw [show 0 * 4 = 0 from rfl] at hx123_2)
       (try rw [Addr.add_zero'] at hx123_2)
       (try rw [show ((0 : Int)).toNat = 0 from rfl] at hx123_3)
       (try rw [show 0 * 4 = 0 from rfl] at hx123_3)
       (try rw [Addr.add_zero'] at hx123_3)
       replace hx123_0 := (hc HB hx123_0 :)
       replace hx123_1 := (hc HB hx123_1 :)
       replace hx123_2 := (hc HB hx123_2 :)
       replace hx123_3 := (hc HB hx123_3 :)
       replace p123 := eq_true p123
       replace q123 := eq_true q123
       refine start_ (n := 20) (S := fun w' => w'.cell? ad123 = some (.int .i64 ((rd_T73 l0 0).f0.f0)) ∧ w'.cell? ⟨ad123.block, ad123.off + 1, none⟩ = some (.int .i64 ((rd_T73 l0 0).f0.f1)) ∧ w'.cell? ⟨ad123.block, ad123.off + 2, none⟩ = some (.int .i64 ((rd_T73 l0 0).f1.f0)) ∧ w'.cell? ⟨ad123.block, ad123.off + 3, none⟩ = some (.int .i64 ((rd_T73 l0 0).f1.f1))) (ds := []) (tb 0 20) (by kernel_rfl) rfl rfl ⟨(hc HB hw123_0 :), (hc HB hw123_1 :), (hc HB hw123_2 :), (hc HB hw123_3 :)⟩ (fun hHeld => ?_); refine with_tabW spec_imGood.tab9 spec_imGood.bits9 (fun HT_ HW_ => ?_)
       generalize wr.drew = w62 at HB hx123_0 hx123_1 hx123_2 hx123_3 hHeld ⊢
       refine pu 0 43 (tb 1 19) ?_
       refine pu 1 44 (tb 2 18) ?_
       refine pu 2 45 (tb 3 17) ?_
       refine tk 3 46 (tb 4 16) (hy := by rintro w' ⟨s0, s1, s2, s3⟩; go_simp; with_reducible rfl) (h := ?_)
       refine on 4 47 (tb 5 15) (fun K hK => ?_)
       refine gs Try.func80 #[.int .i64 0] ?_
       with_reducible refine (spec_raInt.calls 0 t124 t125 _ A49.out).mono ?_
       rintro e w63 ⟨rfl, hb⟩
       refine ⟨_, rfl, ?_⟩
       replace HB := kh hb
       (try clear hb)
       (try clear hb2)
       (try clear hk)
       (try clear hi)
       refine hK.out _ _ ⟨(hc HB hw123_0 :), (hc HB hw123_1 :), (hc HB hw123_2 :), (hc HB hw123_3 :)⟩ (fun hHeld => ?_)
       clear hK K
       refine nm 47 ?_
       refine on 5 48 (tb 6 14) (fun K hK => ?_)
       refine gs Try.func105 #[.agg #[.int .i64 ((rd_T73 l0 0).f0.f0), .int .i64 ((rd_T73 l0 0).f0.f1)], .agg #[.int .i64 t124, .int .i64 t125]] ?_
       with_reducible refine (spec_raCmp.calls ((rd_T73 l0 0).f0.f0) ((rd_T73 l0 0).f0.f1) t124 t125 t126 _ A50.out).mono ?_
       rintro e w64 ⟨rfl, hb⟩
       refine ⟨_, rfl, ?_⟩
       replace HB := kh hb
       (try clear hb)
       (try clear hb2)
       (try clear hk)
       (try clear hi)
       refine hK.out _ _ ⟨(hc HB hw123_0 :), (hc HB hw123_1 :), (hc HB hw123_2 :), (hc HB hw123_3 :)⟩ (fun hHeld => ?_)
       clear hK K
       refine nm 48 ?_
       refine pu 6 49 (tb 7 13) ?_
       refine pu 7 50 (tb 8 12) ?_
       refine sk 8 51 (tb 9 11) ?_
       refine sk 9 52 (tb 10 10) ?_
       refine sk 10 53 (tb 11 9) ?_
       refine sk 11 54 (tb 12 8) ?_
       refine sk 12 55 (tb 13 7) ?_
       refine sk 13 56 (tb 14 6) ?_
       refine sk 14 57 (tb 15 5) ?_
       refine sk 15 58 (tb 16 4) ?_
       refine sk 16 59 (tb 17 3) ?_
       refine sk 17 60 (tb 18 2) ?_
       refine pu 18 61 (tb 19 1) ?_
       refine pu 19 2 (tb 20 0) ?_
       refine done_ (done_of HT_.out (by kernel_rfl)) ?_
       try go_wp2
       go_ret
       exact ⟨rt, bl⟩
     ·rw [if_neg c48] at H
      exact absurd H (by simp)
 ·replace c3 := Bool.eq_false_iff.mpr c3
  subst c3
  have H1 : (some false) = some r := by rw [if_neg (show ¬ (false = true) by decide)] at H; exact H
  clear H
  have H := H1
  clear H1
  obtain rfl := Option.some.inj H
  go_enter Try.func90, Try.ntmps90
  go_wp2_with (first | ((with_reducible refine gate_callee (f := 52) rfl ?_); refine gl 7 Try.func52 #[.int .i64 (l0.length : Int), .int .i64 2, .int .i64 12] ?_; (with_reducible refine (spec_l1In.calls (l0.length : Int) 2 12 false _ A2.out).mono ?_); rintro e w' ⟨rfl, ⟨nd, rfl⟩⟩; refine ⟨_, rfl, ?_⟩))
  go_ret
  exact ⟨rt, bl⟩

end Go.Proofs.Ytannadjfkaghjaa.PFnExactIsRepelling
