-- Written by this session's program wip/pp (the kit's print tool with additions) 35421559b90ae4d0a3588c463048766b98c2df88dd9212a6774a882060cdf62d
import Derived.Test.YtcbbkeojoichnaaPFnExactSortPeriodsx0
import Derived.Test.YtcbbkeojoichnaaPFnExactSortPeriodsx1
namespace Go.Proofs.Ytcbbkeojoichnaa.PFnExactSortPeriods
open Go.RowKit Go.Proofs.YtcbbkeojoichnaaW.PrintWords Go.Proofs.YtcbbkeojoichnaaW.PrintLast Go.Proofs.YtcbbkeojoichnaaW.PrintMore
attribute [local go_sem] max2_int min2_int max_two min_two max_three min_three max_four min_four   -- for this text's walks alone
set_option linter.unusedVariables false
set_option linter.unusedSimpArgs false

/-! ### spec_skSort: function 42 -/
mutual
def spec_skSort.l0 : Nat → List Int → List Int → Int → Int → Option (List Int)
 | 0, _, _, _, _ => none
 | k + 1, x3, x7, x8, x9 => if x9 < x8 then (if 0 ≤ x9 then (if x9 < (x7.length : Int) then ((spec_l1Has.f k x3 (rd x7 x9)).bind fun t117 => (if t117 = true then (spec_skSort.l0 k x3 x7 x8 (wrap64 (x9 + 1))) else (spec_skSort.l1 k x3 (rd x7 x9) (x3.length : Int) x7 x8 x9))) else (none)) else (none)) else (some x3)
def spec_skSort.l1 : Nat → List Int → Int → Int → List Int → Int → Int → Option (List Int)
 | 0, _, _, _, _, _, _ => none
 | k + 1, x3, x5, x6, x7, x8, x9 => if x6 > 0 then (if 0 ≤ (wrap64 (x6 - 1)) then (if (wrap64 (x6 - 1)) < (x3.length : Int) then ((spec_skBefore.f k x5 (rd x3 (wrap64 (x6 - 1)))).bind fun t119 => (if t119 = true then (spec_skSort.l1 k x3 x5 (wrap64 (x6 - 1)) x7 x8 x9) else (if 0 ≤ x6 then (if x6 ≤ (x3.length : Int) then ((spec_l1Own.f (x3.take (x6 : Int).toNat)).bind fun t124 => ((some (([x5] : List Int) : List Int)).bind fun y127 => (if t124.length + y127.length < 17592186044416 then ((some (t124 ++ y127 : List Int)).bind fun y130 => ((some (x3.drop (x6 : Int).toNat : List Int)).bind fun y133 => (if y130.length + y133.length < 17592186044416 then (spec_skSort.l0 k (y130 ++ y133) x7 x8 (wrap64 (x9 + 1))) else (none)))) else (none)))) else (none)) else (none)))) else (none)) else (none)) else (if 0 ≤ x6 then (if x6 ≤ (x3.length : Int) then ((spec_l1Own.f (x3.take (x6 : Int).toNat)).bind fun t144 => ((some (([x5] : List Int) : List Int)).bind fun y147 => (if t144.length + y147.length < 17592186044416 then ((some (t144 ++ y147 : List Int)).bind fun y150 => ((some (x3.drop (x6 : Int).toNat : List Int)).bind fun y153 => (if y150.length + y153.length < 17592186044416 then (spec_skSort.l0 k (y150 ++ y153) x7 x8 (wrap64 (x9 + 1))) else (none)))) else (none)))) else (none)) else (none))
end
def spec_skSort.f (k : Nat) (l0 : List Int) : Option (List Int) := spec_skSort.l0 k ([] : List Int) l0 (l0.length : Int) 0
def spec_skSort.T9 : Bool × List (List Nat × List Nat) := (true, [([], []), ([], []), ([0, 1], [0, 1]), ([2], [2]), ([], []), ([4], [4]), ([3, 5, 3], [3, 5]), ([], []), ([], []), ([7, 8], [7, 8]), ([6, 9, 6], [6, 9]), ([10, 10, 0, 1, 2, 3, 4, 5, 6, 7, 8, 9, 10], [0, 7, 10])])
def spec_skSort.B9 : List Nat := [0, 0, 3, 7, 0, 16, 63, 0, 0, 384, 1023, 2047]
theorem spec_skSort.tab9 : rtab .any (opsOf Try.f42 9) = spec_skSort.T9 := by kernel_rfl
theorem spec_skSort.bits9 : waitsOk spec_skSort.T9.2 spec_skSort.B9 = true := by kernel_rfl
set_option maxHeartbeats 8000000 in
set_option maxRecDepth 100000 in
theorem spec_skSort.calls (k : Nat) (A0 : Option Addr) (c0 : Nat) (l0 : List Int) (r : List Int) (w : World) (hr0 : Kd.C (Kd.int .i64) w A0 l0.length l0) (hc0 : l0.length ≤ c0) (h : spec_skSort.f k l0 = some r) :
  Calls Try.prog 42 #[.slice A0 l0.length c0] w fun e w' => ∃ v0_ : Value, e = .returned (v0_) ∧ Kd.R (Kd.int .i64) 3 w' w.heap.size (fun _ => True) v0_ r ∧ Below w.heap.size w w' := by
 have HR0 := Aside0.mk hr0
 have HC0 := Aside0.mk hc0
 clear hr0 hc0
 have HB := Aside0.mk (Below.refl w.heap.size w)
 have H : (spec_skSort.l0 k ([] : List Int) l0 (l0.length : Int) 0) = some r := h
 clear h
 have H' := Aside0.mk H
 clear H
 go_enter Try.func42, Try.ntmps42
 go_wp2
 go_loopg [3, 9] k (fun kq v3 v9 w' => ∃ (x3_1 : List Int) (x9_1 : Int), v9 = .int .i64 x9_1 ∧ Aside0 (spec_skSort.l0 kq x3_1 l0 (l0.length : Int) x9_1 = some r) ∧ Aside0 (kq ≤ k) ∧ Aside0 (Kd.R (Kd.int .i64) 3 w' w.heap.size (fun _ => True) v3 x3_1) ∧ Aside0 (Below w.heap.size w w'))
 case atStart => exact ⟨(([] : List Int)), (0), rs, H', ⟨Nat.le_refl _⟩, ⟨by first | exact Kd.R_nil _ _ _ _ _ | exact Kd.N_nil _ _ _ _ _ | exact Kd.V_nil _ _ _ _ _ | exact Kd.Q_nil _ _ _ _ _ | exact Kd.S_nil _ _ _ _ _⟩, ⟨bl⟩⟩
 case round =>
  clear H'
  obtain ⟨x3_1, x9_1, rfl, HA, HK1, HO_3, HB⟩ := hrel
  cases gk with
  | zero => exact absurd HA.out (by simp [spec_skSort.l0])
  | succ k1 =>
   have H := HA.out
   clear HA
   simp only [spec_skSort.l0] at H
   by_cases c2 : x9_1 < (l0.length : Int)
   ·rw [if_pos c2] at H
    have c2b0 : decide (x9_1 < (l0.length : Int)) = true := decide_eq_true c2
    clear c2
    by_cases c3 : 0 ≤ x9_1
    ·rw [if_pos c3] at H
     have c3b0 : decide (0 ≤ x9_1) = true := decide_eq_true c3
     clear c3
     by_cases c4 : x9_1 < (l0.length : Int)
     ·rw [if_pos c4] at H
      have c4b0 : decide (x9_1 < (l0.length : Int)) = true := decide_eq_true c4
      clear c4
      replace H := Option.bind_eq_some_iff.mp H
      obtain ⟨t117, A50, H⟩ := H
      replace H : (if t117 = true then (spec_skSort.l0 k1 x3_1 l0 (l0.length : Int) (wrap64 (x9_1 + 1))) else (spec_skSort.l1 k1 x3_1 (rd l0 x9_1) (x3_1.length : Int) l0 (l0.length : Int) x9_1)) = some r := H
      have A5 := Aside0.mk A50
      clear A50
      by_cases c6 : t117 = true
      ·subst c6
       have H1 : (spec_skSort.l0 k1 x3_1 l0 (l0.length : Int) (wrap64 (x9_1 + 1))) = some r := by rw [if_pos rfl] at H; exact H
       clear H
       have H := H1
       clear H1
       have H' := Aside0.mk H
       clear H
       have p116 : 0 ≤ (x9_1 : Int) := da
       have q116 : x9_1 < (l0.length : Int) := da
       obtain ⟨ad116, e116, hx116_0⟩ := Kd.at_int HR0.out x9_1 p116 q116
       cases e116
       replace hx116_0 := (hc HB hx116_0 :)
       replace p116 := eq_true p116
       replace q116 := eq_true q116
       obtain ⟨Ao7, co7, eo7⟩ := Kd.R_slice HO_3.out
       subst eo7
       go_wp2_with (first | ((with_reducible refine gate_callee (f := 63) rfl ?_); refine gl 15 Try.func63 #[.slice Ao7 x3_1.length co7, .int .i64 (rd l0 x9_1)] ?_; (with_reducible refine (spec_l1Has.calls k1 _ _ x3_1 (rd l0 x9_1) true _ ?side1 ?side2 A5.out).mono ?_); (case side1 => repeat (first | exact (Kd.R_reads' HO_3.out).2.2 | (with_reducible refine Kd.C_alloc ?_ _) | (with_reducible refine Kd.C_drewN ?_ _) | (with_reducible refine Kd.C_drew ?_))); (case side2 => exact (Kd.R_reads' HO_3.out).2.1); rintro e w' ⟨rfl, ⟨nd, rfl⟩⟩; refine ⟨_, rfl, ?_⟩))
       go_roundg k1
       case measure => have := HK1.out; omega
       case rel => exact ⟨(x3_1), (wrap64 (x9_1 + 1)), rs, H', ⟨by have := HK1.out; omega⟩, ⟨by (with_reducible repeat (first | apply Kd.R_alloc | apply Kd.R_drewN | apply Kd.R_drew)); exact HO_3.out⟩, ⟨bl⟩⟩
      ·replace c6 := Bool.eq_false_iff.mpr c6
       subst c6
       have H1 : (spec_skSort.l1 k1 x3_1 (rd l0 x9_1) (x3_1.length : Int) l0 (l0.length : Int) x9_1) = some r := by rw [if_neg (show ¬ (false = true) by decide)] at H; exact H
       clear H
       have H := H1
       clear H1
       have H' := Aside0.mk H
       clear H
       have p116 : 0 ≤ (x9_1 : Int) := da
       have q116 : x9_1 < (l0.length : Int) := da
       obtain ⟨ad116, e116, hx116_0⟩ := Kd.at_int HR0.out x9_1 p116 q116
       cases e116
       replace hx116_0 := (hc HB hx116_0 :)
       replace p116 := eq_true p116
       replace q116 := eq_true q116
       obtain ⟨Ao8, co8, eo8⟩ := Kd.R_slice HO_3.out
       subst eo8
       go_wp2_with (first | ((with_reducible refine gate_callee (f := 63) rfl ?_); refine gl 15 Try.func63 #[.slice Ao8 x3_1.length co8, .int .i64 (rd l0 x9_1)] ?_; (with_reducible refine (spec_l1Has.calls k1 _ _ x3_1 (rd l0 x9_1) false _ ?side1 ?side2 A5.out).mono ?_); (case side1 => repeat (first | exact (Kd.R_reads' HO_3.out).2.2 | (with_reducible refine Kd.C_alloc ?_ _) | (with_reducible refine Kd.C_drewN ?_ _) | (with_reducible refine Kd.C_drew ?_))); (case side2 => exact (Kd.R_reads' HO_3.out).2.1); rintro e w' ⟨rfl, ⟨nd, rfl⟩⟩; refine ⟨_, rfl, ?_⟩))
       go_loopg [6] k1 (fun kq v6 w' => ∃ (x6_2 : Int), v6 = .int .i64 x6_2 ∧ Aside0 (spec_skSort.l1 kq x3_1 (rd l0 x9_1) x6_2 l0 (l0.length : Int) x9_1 = some r) ∧ Aside0 (kq ≤ k1) ∧ Aside0 (Kd.R (Kd.int .i64) 3 w' w.heap.size (fun _ => True) (.slice Ao8 x3_1.length co8) x3_1) ∧ Aside0 (Below w.heap.size w w'))
       case atStart => exact ⟨((x3_1.length : Int)), rs, H', ⟨Nat.le_refl _⟩, ⟨by (with_reducible repeat (first | apply Kd.R_alloc | apply Kd.R_drewN | apply Kd.R_drew)); exact HO_3.out⟩, ⟨bl⟩⟩
       case round =>
        clear H'
        try clear p1
        try clear q1
        try clear hx1
        try clear c2
        try clear c2b0
        try clear p2
        try clear c3
        try clear c3b0
        try clear c4
        try clear c4b0
        try clear c6
        try clear p6
        try clear hx116_0
        try clear p116
        try clear q116
        obtain ⟨x6_2, rfl, HA, HK2, HO_3, HB⟩ := hrel
        cases gk with
        | zero => exact absurd HA.out (by simp [spec_skSort.l1])
        | succ k2 =>
         have H := HA.out
         clear HA
         simp only [spec_skSort.l1] at H
         by_cases c9 : x6_2 > 0
         ·rw [if_pos c9] at H
          have c9b0 : decide (0 < x6_2) = true := decide_eq_true c9
          clear c9
          obtain ⟨ji10, hji10⟩ : ∃ j_ : Int, (wrap64 (x6_2 - 1)) = j_ := ⟨_, rfl⟩
          replace H : (if 0 ≤ (ji10) then (if (ji10) < (x3_1.length : Int) then ((spec_skBefore.f k2 (rd l0 x9_1) (rd x3_1 (ji10))).bind fun t119 => (if t119 = true then (spec_skSort.l1 k2 x3_1 (rd l0 x9_1) ji10 l0 (l0.length : Int) x9_1) else (if 0 ≤ x6_2 then (if x6_2 ≤ (x3_1.length : Int) then ((spec_l1Own.f (x3_1.take (x6_2 : Int).toNat)).bind fun t124 => ((some (([(rd l0 x9_1)] : List Int) : List Int)).bind fun y127 => (if t124.length + y127.length < 17592186044416 then ((some (t124 ++ y127 : List Int)).bind fun y130 => ((some (x3_1.drop (x6_2 : Int).toNat : List Int)).bind fun y133 => (if y130.length + y133.length < 17592186044416 then (spec_skSort.l0 k2 (y130 ++ y133) l0 (l0.length : Int) (wrap64 (x9_1 + 1))) else (none)))) else (none)))) else (none)) else (none)))) else (none)) else (none)) = some r := by first | (rw [hji10] at H; exact H) | (simp only [hji10] at H ⊢; exact H)
          have hji10w : (IntKind.i64.wrap (x6_2 - 1)) = ji10 := (i64_w _).trans hji10
          by_cases c11 : 0 ≤ (ji10)
          ·rw [if_pos c11] at H
           have c11b0 : decide (0 ≤ (ji10)) = true := decide_eq_true c11
           clear c11
           by_cases c12 : (ji10) < (x3_1.length : Int)
           ·rw [if_pos c12] at H
            have c12b0 : decide ((ji10) < (x3_1.length : Int)) = true := decide_eq_true c12
            clear c12
            replace H := Option.bind_eq_some_iff.mp H
            obtain ⟨t119, A130, H⟩ := H
            replace H : (if t119 = true then (spec_skSort.l1 k2 x3_1 (rd l0 x9_1) ji10 l0 (l0.length : Int) x9_1) else (if 0 ≤ x6_2 then (if x6_2 ≤ (x3_1.length : Int) then ((spec_l1Own.f (x3_1.take (x6_2 : Int).toNat)).bind fun t124 => ((some (([(rd l0 x9_1)] : List Int) : List Int)).bind fun y127 => (if t124.length + y127.length < 17592186044416 then ((some (t124 ++ y127 : List Int)).bind fun y130 => ((some (x3_1.drop (x6_2 : Int).toNat : List Int)).bind fun y133 => (if y130.length + y133.length < 17592186044416 then (spec_skSort.l0 k2 (y130 ++ y133) l0 (l0.length : Int) (wrap64 (x9_1 + 1))) else (none)))) else (none)))) else (none)) else (none))) = some r := H
            have A13 := Aside0.mk A130
            clear A130
            by_cases c14 : t119 = true
            ·subst c14
             have H1 : (spec_skSort.l1 k2 x3_1 (rd l0 x9_1) ji10 l0 (l0.length : Int) x9_1) = some r := by rw [if_pos rfl] at H; exact H
             clear H
             have H := H1
             clear H1
             have H' := Aside0.mk H
             clear H
             have p118 : 0 ≤ ((ji10) : Int) := da
             have q118 : (ji10) < (x3_1.length : Int) := da
             obtain ⟨ad118, e118, hx118_0⟩ := Kd.at_int (Kd.R_reads' HO_3.out).2.2 (ji10) p118 q118
             cases e118
             replace p118 := eq_true p118
             replace q118 := eq_true q118
             go_wp2_with (first | (go_at_call 70; (with_reducible refine (spec_skBefore.calls k2 (rd l0 x9_1) (rd x3_1 (ji10)) true _ A13.out).mono ?_); rintro e w' ⟨rfl, ⟨nd, rfl⟩⟩))
             go_roundg k2
             case measure => have := HK1.out; have := HK2.out; omega
             case rel => exact ⟨(ji10), (by first | rfl | (simp; done) | (simp only [← hji10] <;> (first | rfl | simp)) | (simp [*]; done)), H', ⟨by have := HK1.out; have := HK2.out; omega⟩, ⟨by (with_reducible repeat (first | apply Kd.R_alloc | apply Kd.R_drewN | apply Kd.R_drew)); exact HO_3.out⟩, ⟨bl⟩⟩
            ·replace c14 := Bool.eq_false_iff.mpr c14
             subst c14
             have H1 : (if 0 ≤ x6_2 then (if x6_2 ≤ (x3_1.length : Int) then ((spec_l1Own.f (x3_1.take (x6_2 : Int).toNat)).bind fun t124 => ((some (([(rd l0 x9_1)] : List Int) : List Int)).bind fun y127 => (if t124.length + y127.length < 17592186044416 then ((some (t124 ++ y127 : List Int)).bind fun y130 => ((some (x3_1.drop (x6_2 : Int).toNat : List Int)).bind fun y133 => (if y130.length + y133.length < 17592186044416 then (spec_skSort.l0 k2 (y130 ++ y133) l0 (l0.length : Int) (wrap64 (x9_1 + 1))) else (none)))) else (none)))) else (none)) else (none)) = some r := by rw [if_neg (show ¬ (false = true) by decide)] at H; exact H
             clear H
             have H := H1
             clear H1
             by_cases c15 : 0 ≤ x6_2
             ·rw [if_pos c15] at H
              have c15b0 := eq_true c15
              have c15b1 : decide (0 ≤ x6_2) = true := decide_eq_true c15
              clear c15
              by_cases c16 : x6_2 ≤ (x3_1.length : Int)
              ·rw [if_pos c16] at H
               have c16b0 := eq_true c16
               have c16b1 : decide (x6_2 ≤ (x3_1.length : Int)) = true := decide_eq_true c16
               clear c16
               obtain ⟨y120, hy120⟩ : ∃ y_ : List Int, y_ = (x3_1.take (x6_2 : Int).toNat) := ⟨_, rfl⟩
               replace H : ((spec_l1Own.f y120).bind fun t124 => ((some (([(rd l0 x9_1)] : List Int) : List Int)).bind fun y127 => (if t124.length + y127.length < 17592186044416 then ((some (t124 ++ y127 : List Int)).bind fun y130 => ((some (x3_1.drop (x6_2 : Int).toNat : List Int)).bind fun y133 => (if y130.length + y133.length < 17592186044416 then (spec_skSort.l0 k2 (y130 ++ y133) l0 (l0.length : Int) (wrap64 (x9_1 + 1))) else (none)))) else (none)))) = some r := by first | (rw [hy120]; with_reducible exact H) | (have H2_ := (Option.bind_some _ _).symm.trans H; rw [hy120]; with_reducible exact H2_) | (have H2_ := (Option.bind_some _ _).symm.trans H; with_reducible exact H2_) | with_reducible exact H | (rw [hy120]; exact H) | exact H
               have Ny120 := Aside0.mk hy120
               clear hy120
               replace H := Option.bind_eq_some_iff.mp H
               obtain ⟨t124, A170, H⟩ := H
               replace H : ((some (([(rd l0 x9_1)] : List Int) : List Int)).bind fun y127 => (if t124.length + y127.length < 17592186044416 then ((some (t124 ++ y127 : List Int)).bind fun y130 => ((some (x3_1.drop (x6_2 : Int).toNat : List Int)).bind fun y133 => (if y130.length + y133.length < 17592186044416 then (spec_skSort.l0 k2 (y130 ++ y133) l0 (l0.length : Int) (wrap64 (x9_1 + 1))) else (none)))) else (none))) = some r := H
               have A17 := Aside0.mk A170
               clear A170
               obtain ⟨y127, hy127⟩ : ∃ y_ : List Int, y_ = (([(rd l0 x9_1)] : List Int)) := ⟨_, rfl⟩
               replace H : (if t124.length + y127.length < 17592186044416 then ((some (t124 ++ y127 : List Int)).bind fun y130 => ((some (x3_1.drop (x6_2 : Int).toNat : List Int)).bind fun y133 => (if y130.length + y133.length < 17592186044416 then (spec_skSort.l0 k2 (y130 ++ y133) l0 (l0.length : Int) (wrap64 (x9_1 + 1))) else (none)))) else (none)) = some r := by first | (rw [hy127]; with_reducible exact H) | (have H2_ := (Option.bind_some _ _).symm.trans H; rw [hy127]; with_reducible exact H2_) | (have H2_ := (Option.bind_some _ _).symm.trans H; with_reducible exact H2_) | with_reducible exact H | (rw [hy127]; exact H) | exact H
               have Ny127 := Aside0.mk hy127
               clear hy127
               by_cases c18 : t124.length + y127.length < 17592186044416
               ·rw [if_pos c18] at H
                have LMc18 := Aside0.mk c18
                clear c18
                obtain ⟨y130, hy130⟩ : ∃ y_ : List Int, y_ = (t124 ++ y127) := ⟨_, rfl⟩
                replace H : ((some (x3_1.drop (x6_2 : Int).toNat : List Int)).bind fun y133 => (if y130.length + y133.length < 17592186044416 then (spec_skSort.l0 k2 (y130 ++ y133) l0 (l0.length : Int) (wrap64 (x9_1 + 1))) else (none))) = some r := by first | (rw [hy130]; with_reducible exact H) | (have H2_ := (Option.bind_some _ _).symm.trans H; rw [hy130]; with_reducible exact H2_) | (have H2_ := (Option.bind_some _ _).symm.trans H; with_reducible exact H2_) | with_reducible exact H | (rw [hy130]; exact H) | exact H
                have Ny130 := Aside0.mk hy130
                clear hy130
                have c19b0 := eq_true (da : 0 ≤ x6_2)
                have c20b0 := eq_true (da : x6_2 ≤ (x3_1.length : Int))
                obtain ⟨y133, hy133⟩ : ∃ y_ : List Int, y_ = (x3_1.drop (x6_2 : Int).toNat) := ⟨_, rfl⟩
                replace H : (if y130.length + y133.length < 17592186044416 then (spec_skSort.l0 k2 (y130 ++ y133) l0 (l0.length : Int) (wrap64 (x9_1 + 1))) else (none)) = some r := by first | (rw [hy133]; with_reducible exact H) | (have H2_ := (Option.bind_some _ _).symm.trans H; rw [hy133]; with_reducible exact H2_) | (have H2_ := (Option.bind_some _ _).symm.trans H; with_reducible exact H2_) | with_reducible exact H | (rw [hy133]; exact H) | exact H
                have Ny133 := Aside0.mk hy133
                clear hy133
                by_cases c21 : y130.length + y133.length < 17592186044416
                ·rw [if_pos c21] at H
                 have LMc21 := Aside0.mk c21
                 clear c21
                 obtain ⟨y137, hy137⟩ : ∃ y_ : List Int, y_ = (y130 ++ y133) := ⟨_, rfl⟩
                 replace H : (spec_skSort.l0 k2 y137 l0 (l0.length : Int) (wrap64 (x9_1 + 1))) = some r := by first | (rw [hy137]; with_reducible exact H) | (have H2_ := (Option.bind_some _ _).symm.trans H; rw [hy137]; with_reducible exact H2_) | (have H2_ := (Option.bind_some _ _).symm.trans H; with_reducible exact H2_) | with_reducible exact H | (rw [hy137]; exact H) | exact H
                 have Ny137 := Aside0.mk hy137
                 clear hy137
                 have H' := Aside0.mk H
                 clear H
                 have p118 : 0 ≤ ((ji10) : Int) := da
                 have q118 : (ji10) < (x3_1.length : Int) := da
                 obtain ⟨ad118, e118, hx118_0⟩ := Kd.at_int (Kd.R_reads' HO_3.out).2.2 (ji10) p118 q118
                 cases e118
                 replace p118 := eq_true p118
                 replace q118 := eq_true q118
                 try go_wp2_with (first | (go_at_call 70; (with_reducible refine (spec_skBefore.calls k2 (rd l0 x9_1) (rd x3_1 (ji10)) false _ A13.out).mono ?_); rintro e w' ⟨rfl, ⟨nd, rfl⟩⟩))
                 (try (rw [drewN_self wr]; generalize hq_ : World.drewN wr _ = wr; have n0_ : Aside0 (Kd.R (Kd.int .i64) 3 wr w.heap.size (fun _ => True) (.slice (some ad118) x3_1.length co8) x3_1) := ⟨by rw [← hq_]; exact (by (with_reducible repeat (first | apply Kd.R_alloc | apply Kd.R_drewN | apply Kd.R_drew)); exact HO_3.out)⟩; have n1_ : Aside0 (Below w.heap.size w wr) := ⟨by rw [← hq_]; exact bl⟩; clear HO_3 HB hq_; have HO_3 := n0_; have HB := n1_; clear n0_ n1_))
                 replace HO_3 := Aside0.mk (Kd.R_drew HO_3.out)
                 replace HB := Aside0.mk (below_drew1 HB.out)
                 have q23 : (x6_2 : Int) ≤ ((x3_1.length : Int) : Int) := da
                 obtain ⟨i023, hi023, _, hsz23, _⟩ := info_parts info3
                 have hroom23 : x3_1.length ≤ co8 := (Kd.R_reads' HO_3.out).2.1
                 have hC23 : Kd.C (Kd.int .i64) _ (some ad118) x3_1.length x3_1 := (Kd.R_reads' HO_3.out).2.2
                 have hcut23 := cut_to (P := Try.prog) 28 3 .i64 Try.underlying28 hi023 (some ad118) x3_1.length co8 x6_2 (da) q23 hroom23
                 have hr23 := Kd.C_take (m := (x6_2 : Int).toNat) hC23 (by omega)
                 have hy23 : y120.length = (x6_2 : Int).toNat := (by rw [Ny120.out, List.length_take]; omega)
                 rw [← Ny120.out] at hr23
                 rw [← hy23] at hcut23
                 have HR123 := Aside0.mk hr23
                 have HC123 := Aside0.mk (show y120.length ≤ co8 from by omega)
                 clear hr23 hC23 hroom23 hi023 hsz23
                 have KY23 := Aside0.mk hy23
                 clear hy23
                 have KL23 := Aside0.mk (show (x6_2 : Int).toNat ≤ x3_1.length from by omega)
                 replace q23 := eq_true q23
                 have q24 : (x6_2 : Int) ≤ ((x3_1.length : Int) : Int) := da
                 obtain ⟨i024, hi024, _, hsz24, _⟩ := info_parts info3
                 have hroom24 : x3_1.length ≤ co8 := (Kd.R_reads' HO_3.out).2.1
                 have hC24 : Kd.C (Kd.int .i64) _ (some ad118) x3_1.length x3_1 := (Kd.R_reads' HO_3.out).2.2
                 have q024 : (0 : Int) ≤ (x6_2 : Int) := da
                 have hcut24 := cut_from (P := Try.prog) 28 3 .i64 Try.underlying28 hi024 1 hsz24 (some ad118) x3_1.length co8 x6_2 q024 q24
                 have hr24 := Kd.C_drop (m := (x6_2 : Int).toNat) (c := co8) hC24 (by omega) hroom24
                 obtain ⟨A24, hA24⟩ : ∃ A1, A1 = (if co8 = (x6_2 : Int).toNat then (some ad118) else ((some ad118) : Option Addr).map (·.add ((x6_2 : Int).toNat * 1))) := ⟨_, rfl⟩
                 obtain ⟨c24, hc24⟩ : ∃ c1, c1 = co8 - (x6_2 : Int).toNat := ⟨_, rfl⟩
                 have hy24 : y133.length = x3_1.length - (x6_2 : Int).toNat := (by rw [Ny133.out, List.length_drop] <;> omega)
                 rw [show (x3_1).drop (x6_2 : Int).toNat = y133 from Ny133.out.symm] at hr24
                 replace hr24 : Kd.C (Kd.int .i64) _ A24 y133.length y133 := (by rw [hA24]; exact hr24)
                 rw [← hy24, ← hA24, ← hc24] at hcut24
                 have HR136 := Aside0.mk hr24
                 have HC136 := Aside0.mk (show y133.length ≤ c24 from by rw [hy24, hc24]; exact Nat.sub_le_sub_right hroom24 _)
                 clear hr24 hC24 hroom24 hi024 hsz24 hc24
                 have KY24 := Aside0.mk hy24
                 have KA24 := Aside0.mk hA24
                 clear hy24 hA24
                 have KL24 := Aside0.mk (show (x6_2 : Int).toNat ≤ x3_1.length from by omega)
                 replace q24 := eq_true q24
                 refine start_ (n := 12) (S := fun w' => True) (ds := []) (tb 0 12) (by kernel_rfl) rfl rfl trivial (fun hHeld => ?_); refine with_tabW spec_skSort.tab9 spec_skSort.bits9 (fun HT_ HW_ => ?_)
                 generalize wr.drew = w22 at HO_3 HB HR123 HR136 hHeld ⊢
                 refine pu 0 31 (tb 1 11) ?_
                 refine pu 1 32 (tb 2 10) ?_
                 refine pu 2 33 (tb 3 9) ?_
                 refine pu 4 35 #[true, true, true, false, true, false, false, false, false, false, false, false] ?_
                 refine pu 7 38 #[true, true, true, false, true, false, false, true, false, false, false, false] ?_
                 refine pu 8 39 #[true, true, true, false, true, false, false, true, true, false, false, false] ?_
                 refine pu 9 40 #[true, true, true, false, true, false, false, true, true, true, false, false] ?_
                 refine join_ (σ := Value × Value) 3 #[true, true, true, true, true, true, false, true, true, true, false, false] (fun s_ => [(34, s_.1), (36, s_.2)]) (fun s_ w' => (Kd.R (Kd.int .i64) 3 w' w.heap.size (fun k_ => some k_ ≠ (s_.2 : Value).ownBlock ∧ some k_ ≠ (.slice (some ad118) x3_1.length co8 : Value).ownBlock) s_.1 t124) ∧ (Kd.R (Kd.int .i64) 3 w' w.heap.size (fun k_ => some k_ ≠ (s_.1 : Value).ownBlock ∧ some k_ ≠ (.slice (some ad118) x3_1.length co8 : Value).ownBlock) s_.2 y127) ∧ (Kd.R (Kd.int .i64) 3 w' w.heap.size (fun k_ => some k_ ≠ (s_.1 : Value).ownBlock ∧ some k_ ≠ (s_.2 : Value).ownBlock) (.slice (some ad118) x3_1.length co8) x3_1) ∧ (Below w.heap.size w w')) ?_ ?_
                 rotate_left
                 ·intro hCont
                  refine two_ (i := 3) (j := 5) (Ni := some 34) (Nj := some 36) #[true, true, true, true, true, false, false, true, true, true, false, false] #[true, true, true, false, true, true, false, true, true, true, false, false] rfl rfl rfl rfl (two_of HT_.out (by kernel_rfl)) (by decide) (by decide) (fun K hK => ?_) (fun K hK => ?_)
                  ·skip
                   refine gs Try.func77 #[.slice (some ad118) y120.length co8] ?_
                   with_reducible refine (spec_l1Own.calls _ _ y120 t124 _ ?side1 ?side2 A17.out).mono ?_
                   (case side1 => repeat (first | exact (by repeat (first | (with_reducible exact HR123.out) | (with_reducible refine Kd.C_alloc ?_ _) | (with_reducible refine Kd.C_drewN ?_ _) | (with_reducible refine Kd.C_drew ?_) | exact HR123.out)) | (with_reducible refine Kd.C_alloc ?_ _) | (with_reducible refine Kd.C_drewN ?_ _) | (with_reducible refine Kd.C_drew ?_)))
                   (case side2 => exact HC123.out)
                   rintro e w25 ⟨v125, rfl, ho0, hb⟩
                   refine ⟨_, rfl, ?_⟩
                   have HO126 := Aside0.mk (Kd.R_lower (Kd.R_new' ho0 (Kd.R_lt (by (with_reducible repeat (first | apply Kd.R_alloc | apply Kd.R_drewN | apply Kd.R_drew)); exact HO_3.out))) (below_size bl))
                   replace HO_3 := Aside0.mk (Kd.R_elder' (by (with_reducible repeat (first | apply Kd.R_alloc | apply Kd.R_drewN | apply Kd.R_drew)); exact HO_3.out) (Kd.R_base ho0) hb)
                   replace HR123 := Aside0.mk (Kd.C_below (by repeat (first | (with_reducible exact HR123.out) | (with_reducible refine Kd.C_alloc ?_ _) | (with_reducible refine Kd.C_drewN ?_ _) | (with_reducible refine Kd.C_drew ?_) | exact HR123.out)) hb)
                   replace HR136 := Aside0.mk (Kd.C_below (by repeat (first | (with_reducible exact HR136.out) | (with_reducible refine Kd.C_alloc ?_ _) | (with_reducible refine Kd.C_drewN ?_ _) | (with_reducible refine Kd.C_drew ?_) | exact HR136.out)) hb)
                   replace HB := kh hb
                   (try clear hb)
                   (try clear hb2)
                   (try clear hk)
                   (try clear hi)
                   (try clear ho0)
                   refine hK.out _ _ trivial (fun hHeld => ?_)
                   clear hK K
                   refine nm 34 ?_
                   refine on 5 36 #[true, true, true, true, true, true, false, true, true, true, false, false] (fun K hK => ?_)
                   refine Kd.R_lit_step (Kd.int .i64) _ 3 ?hg (N := 36) ?hd (xs := ([(rd l0 x9_1)] : List Int)) (inner := [.int .i64 (rd l0 x9_1)]) (ok := fun _ => True) (okp := fun _ => True) ?hr ?hp (fun _ hk => hk) trivial (Below.refl _ _) (Nat.le_refl _) (by simp) ?_; (case hd => rfl); (case hg => rfl); (case hr => first | (go_simp; done) | (go_simp; rfl)); (case hp => exact (Reps.one (show Kd.M (Kd.int .i64) _ _ _ (rd l0 x9_1) [.int .i64 (rd l0 x9_1)] from rfl) (Reps.none _ _)))
                   intro v128 w26 ho27 hb hg_ hnew_
                   clear hg_ hnew_
                   (first | rw [← Ny127.out] at ho27 | (simp only [Int.reduceToNat] at ho27; rw [← Ny127.out] at ho27))
                   have HO129 := Aside0.mk (Kd.R_lower (Kd.R_new' (Kd.R_new' ho27 (Kd.R_lt (by (with_reducible repeat (first | apply Kd.R_alloc | apply Kd.R_drewN | apply Kd.R_drew)); exact HO_3.out))) (Kd.R_lt (by (with_reducible repeat (first | apply Kd.R_alloc | apply Kd.R_drewN | apply Kd.R_drew)); exact HO126.out))) (below_size bl))
                   replace HO_3 := Aside0.mk (Kd.R_elder' (by (with_reducible repeat (first | apply Kd.R_alloc | apply Kd.R_drewN | apply Kd.R_drew)); exact HO_3.out) (Kd.R_base ho27) hb)
                   replace HO126 := Aside0.mk (Kd.R_elder' (by (with_reducible repeat (first | apply Kd.R_alloc | apply Kd.R_drewN | apply Kd.R_drew)); exact HO126.out) (Kd.R_base ho27) hb)
                   replace HR123 := Aside0.mk (Kd.C_below (by repeat (first | (with_reducible exact HR123.out) | (with_reducible refine Kd.C_alloc ?_ _) | (with_reducible refine Kd.C_drewN ?_ _) | (with_reducible refine Kd.C_drew ?_) | exact HR123.out)) hb)
                   replace HR136 := Aside0.mk (Kd.C_below (by repeat (first | (with_reducible exact HR136.out) | (with_reducible refine Kd.C_alloc ?_ _) | (with_reducible refine Kd.C_drewN ?_ _) | (with_reducible refine Kd.C_drew ?_) | exact HR136.out)) hb)
                   replace HB := kh hb
                   clear hb ho27
                   refine hK.out _ _ trivial (fun hHeld => ?_)
                   clear hK K
                   refine nm 36 ?_
                   exact norm_ (by simp only [putAll, Act.put, List.setIfInBounds_toArray, List.set_cons_zero, List.set_cons_succ]) (hCont (v125, v128) _ ⟨(by (with_reducible repeat (first | apply Kd.R_alloc | apply Kd.R_drewN | apply Kd.R_drew)); exact Kd.R_mono HO126.out (fun _ hk => ⟨hk.2, hk.1.2⟩)), (by (with_reducible repeat (first | apply Kd.R_alloc | apply Kd.R_drewN | apply Kd.R_drew)); exact Kd.R_mono HO129.out (fun _ hk => ⟨hk.2, hk.1.2⟩)), (by (with_reducible repeat (first | apply Kd.R_alloc | apply Kd.R_drewN | apply Kd.R_drew)); exact Kd.R_mono HO_3.out (fun _ hk => ⟨hk.1.2, hk.2⟩)), bl⟩)
                  ·skip
                   refine Kd.R_lit_step (Kd.int .i64) _ 3 ?hg (N := 36) ?hd (xs := ([(rd l0 x9_1)] : List Int)) (inner := [.int .i64 (rd l0 x9_1)]) (ok := fun _ => True) (okp := fun _ => True) ?hr ?hp (fun _ hk => hk) trivial (Below.refl _ _) (Nat.le_refl _) (by simp) ?_; (case hd => rfl); (case hg => rfl); (case hr => first | (go_simp; done) | (go_simp; rfl)); (case hp => exact (Reps.one (show Kd.M (Kd.int .i64) _ _ _ (rd l0 x9_1) [.int .i64 (rd l0 x9_1)] from rfl) (Reps.none _ _)))
                   intro v128 w25 ho26 hb hg_ hnew_
                   clear hg_ hnew_
                   (first | rw [← Ny127.out] at ho26 | (simp only [Int.reduceToNat] at ho26; rw [← Ny127.out] at ho26))
                   have HO129 := Aside0.mk (Kd.R_lower (Kd.R_new' ho26 (Kd.R_lt (by (with_reducible repeat (first | apply Kd.R_alloc | apply Kd.R_drewN | apply Kd.R_drew)); exact HO_3.out))) (below_size bl))
                   replace HO_3 := Aside0.mk (Kd.R_elder' (by (with_reducible repeat (first | apply Kd.R_alloc | apply Kd.R_drewN | apply Kd.R_drew)); exact HO_3.out) (Kd.R_base ho26) hb)
                   replace HR123 := Aside0.mk (Kd.C_below (by repeat (first | (with_reducible exact HR123.out) | (with_reducible refine Kd.C_alloc ?_ _) | (with_reducible refine Kd.C_drewN ?_ _) | (with_reducible refine Kd.C_drew ?_) | exact HR123.out)) hb)
                   replace HR136 := Aside0.mk (Kd.C_below (by repeat (first | (with_reducible exact HR136.out) | (with_reducible refine Kd.C_alloc ?_ _) | (with_reducible refine Kd.C_drewN ?_ _) | (with_reducible refine Kd.C_drew ?_) | exact HR136.out)) hb)
                   replace HB := kh hb
                   clear hb ho26
                   refine hK.out _ _ trivial (fun hHeld => ?_)
                   clear hK K
                   refine nm 36 ?_
                   refine on 3 34 #[true, true, true, true, true, true, false, true, true, true, false, false] (fun K hK => ?_)
                   refine gs Try.func77 #[.slice (some ad118) y120.length co8] ?_
                   with_reducible refine (spec_l1Own.calls _ _ y120 t124 _ ?side1 ?side2 A17.out).mono ?_
                   (case side1 => repeat (first | exact (by repeat (first | (with_reducible exact HR123.out) | (with_reducible refine Kd.C_alloc ?_ _) | (with_reducible refine Kd.C_drewN ?_ _) | (with_reducible refine Kd.C_drew ?_) | exact HR123.out)) | (with_reducible refine Kd.C_alloc ?_ _) | (with_reducible refine Kd.C_drewN ?_ _) | (with_reducible refine Kd.C_drew ?_)))
                   (case side2 => exact HC123.out)
                   rintro e w27 ⟨v125, rfl, ho0, hb⟩
                   refine ⟨_, rfl, ?_⟩
                   have HO126 := Aside0.mk (Kd.R_lower (Kd.R_new' (Kd.R_new' ho0 (Kd.R_lt (by (with_reducible repeat (first | apply Kd.R_alloc | apply Kd.R_drewN | apply Kd.R_drew)); exact HO_3.out))) (Kd.R_lt (by (with_reducible repeat (first | apply Kd.R_alloc | apply Kd.R_drewN | apply Kd.R_drew)); exact HO129.out))) (below_size bl))
                   replace HO_3 := Aside0.mk (Kd.R_elder' (by (with_reducible repeat (first | apply Kd.R_alloc | apply Kd.R_drewN | apply Kd.R_drew)); exact HO_3.out) (Kd.R_base ho0) hb)
                   replace HO129 := Aside0.mk (Kd.R_elder' (by (with_reducible repeat (first | apply Kd.R_alloc | apply Kd.R_drewN | apply Kd.R_drew)); exact HO129.out) (Kd.R_base ho0) hb)
                   replace HR123 := Aside0.mk (Kd.C_below (by repeat (first | (with_reducible exact HR123.out) | (with_reducible refine Kd.C_alloc ?_ _) | (with_reducible refine Kd.C_drewN ?_ _) | (with_reducible refine Kd.C_drew ?_) | exact HR123.out)) hb)
                   replace HR136 := Aside0.mk (Kd.C_below (by repeat (first | (with_reducible exact HR136.out) | (with_reducible refine Kd.C_alloc ?_ _) | (with_reducible refine Kd.C_drewN ?_ _) | (with_reducible refine Kd.C_drew ?_) | exact HR136.out)) hb)
                   replace HB := kh hb
                   (try clear hb)
                   (try clear hb2)
                   (try clear hk)
                   (try clear hi)
                   (try clear ho0)
                   refine hK.out _ _ trivial (fun hHeld => ?_)
                   clear hK K
                   refine nm 34 ?_
                   exact norm_ (by simp only [putAll, Act.put, List.setIfInBounds_toArray, List.set_cons_zero, List.set_cons_succ]) (hCont (v125, v128) _ ⟨(by (with_reducible repeat (first | apply Kd.R_alloc | apply Kd.R_drewN | apply Kd.R_drew)); exact Kd.R_mono HO126.out (fun _ hk => ⟨hk.2, hk.1.2⟩)), (by (with_reducible repeat (first | apply Kd.R_alloc | apply Kd.R_drewN | apply Kd.R_drew)); exact Kd.R_mono HO129.out (fun _ hk => ⟨hk.2, hk.1.2⟩)), (by (with_reducible repeat (first | apply Kd.R_alloc | apply Kd.R_drewN | apply Kd.R_drew)); exact Kd.R_mono HO_3.out (fun _ hk => ⟨hk.2, hk.1.2⟩)), bl⟩)
                 rintro ⟨v125, v128⟩ w28 ⟨h0_, h1_, h2_, h3_⟩
                 have n0_ : Aside0 (Kd.R (Kd.int .i64) 3 w28 w.heap.size (fun k_ => some k_ ≠ (v128 : Value).ownBlock ∧ some k_ ≠ (.slice (some ad118) x3_1.length co8 : Value).ownBlock) v125 t124) := ⟨h0_⟩
                 have n1_ : Aside0 (Kd.R (Kd.int .i64) 3 w28 w.heap.size (fun k_ => some k_ ≠ (v125 : Value).ownBlock ∧ some k_ ≠ (.slice (some ad118) x3_1.length co8 : Value).ownBlock) v128 y127) := ⟨h1_⟩
                 have n2_ : Aside0 (Kd.R (Kd.int .i64) 3 w28 w.heap.size (fun k_ => some k_ ≠ (v125 : Value).ownBlock ∧ some k_ ≠ (v128 : Value).ownBlock) (.slice (some ad118) x3_1.length co8) x3_1) := ⟨h2_⟩
                 have n3_ : Aside0 (Below w.heap.size w w28) := ⟨h3_⟩
                 clear HO_3
                 clear HB
                 clear h0_ h1_ h2_ h3_
                 have HO126 := n0_
                 have HO129 := n1_
                 have HO_3 := n2_
                 have HB := n3_
                 clear n0_ n1_ n2_ n3_
                 have hHeld := trivial
                 have HR123 := Aside0.mk (show Kd.C (Kd.int .i64) w28 (some ad118) y120.length y120 from by rw [Ny120.out]; exact Kd.C_take (m := (x6_2 : Int).toNat) ((Kd.R_reads' HO_3.out).2.2) KL23.out)
                 have HR136 := Aside0.mk (show Kd.C (Kd.int .i64) w28 A24 y133.length y133 from by rw [Ny133.out, KA24.out]; exact Kd.C_drop (m := (x6_2 : Int).toNat) (c := co8) ((Kd.R_reads' HO_3.out).2.2) KL24.out ((Kd.R_reads' HO_3.out).2.1))
                 obtain ⟨Ao30, co30, eo30⟩ := Kd.R_slice HO129.out
                 (first | subst eo30 | (injection eo30 with f1_ f2_ f3_; have f4_ := f1_.symm; have f5_ := f3_.symm; clear f1_ f2_ f3_; subst f4_; subst f5_))
                 refine norm_ (a' := ?_) ?_ ?_
                 rotate_left
                 ·simp only [putAll, Act.put, List.setIfInBounds_toArray, List.set_cons_zero, List.set_cons_succ]
                  rfl
                 refine on 6 37 (tb 10 2) (fun K hK => ?_)
                 refine Kd.R_append_rows_step (Kd.int .i64) (w0 := w) w.heap.size (by rfl) (.tmp 34) (.tmp 36) 28 3 (.int .i64 0) 8 rfl Try.underlying28 info3 rfl (by decide) (by omega) v125 t124 y127 _ _ _ (fun k_ => some k_ ≠ (.slice (some ad118) x3_1.length co8 : Value).ownBlock ∧ some k_ ≠ (.slice Ao30 y127.length co30 : Value).ownBlock) (fun _ => False) rfl rfl ?aO ?aR (fun _ _ h => h) (fun _ h => h.elim) ?aF ?aB ?aS ?aL ?_
                 (case aR => repeat (first | exact (Kd.R_reads' HO129.out).2.2 | (with_reducible refine Kd.C_alloc ?_ _) | (with_reducible refine Kd.C_drewN ?_ _) | (with_reducible refine Kd.C_drew ?_)))
                 (case aB => exact bl)
                 (case aF => exact (fun k_ hk => ⟨Kd.fresh' (Kd.R_lt (by (with_reducible repeat (first | apply Kd.R_alloc | apply Kd.R_drewN | apply Kd.R_drew)); exact HO_3.out)) k_ hk, Kd.fresh' (Kd.R_lt (by (with_reducible repeat (first | apply Kd.R_alloc | apply Kd.R_drewN | apply Kd.R_drew)); exact HO129.out)) k_ hk⟩))
                 (case aO => exact (by (with_reducible repeat (first | apply Kd.R_alloc | apply Kd.R_drewN | apply Kd.R_drew)); exact Kd.R_mono HO126.out (fun _ hk => ⟨hk.2, hk.1⟩)))
                 (case aS => exact (below_size bl))
                 (case aL => have := LMc18.out; omega)
                 intro v131 w29 ho hb hg hat
                 rw [← Ny130.out] at ho
                 have HO132 := Aside0.mk (ho)
                 replace HO129 := Aside0.mk (Kd.R_after (ok := (fun k_ => some k_ ≠ (.slice (some ad118) x3_1.length co8 : Value).ownBlock)) (by (with_reducible repeat (first | apply Kd.R_alloc | apply Kd.R_drewN | apply Kd.R_drew)); exact Kd.R_mono HO129.out (fun _ hk => ⟨hk.2, hk.1⟩)) hg hat)
                 replace HB := Aside0.mk (hb)
                 replace HR123 := Aside0.mk ((show Kd.C (Kd.int .i64) w29 (some ad118) y120.length y120 from by rw [Ny120.out]; exact Kd.C_take (m := (x6_2 : Int).toNat) ((Kd.R_reads' (Kd.R_after (ok := (fun k_ => some k_ ≠ (.slice Ao30 y127.length co30 : Value).ownBlock)) (by (with_reducible repeat (first | apply Kd.R_alloc | apply Kd.R_drewN | apply Kd.R_drew)); exact Kd.R_mono HO_3.out (fun _ hk => ⟨hk.2, hk.1⟩)) hg hat)).2.2) KL23.out))
                 replace HR136 := Aside0.mk ((show Kd.C (Kd.int .i64) w29 A24 y133.length y133 from by rw [Ny133.out, KA24.out]; exact Kd.C_drop (m := (x6_2 : Int).toNat) (c := co8) ((Kd.R_reads' (Kd.R_after (ok := (fun k_ => some k_ ≠ (.slice Ao30 y127.length co30 : Value).ownBlock)) (by (with_reducible repeat (first | apply Kd.R_alloc | apply Kd.R_drewN | apply Kd.R_drew)); exact Kd.R_mono HO_3.out (fun _ hk => ⟨hk.2, hk.1⟩)) hg hat)).2.2) KL24.out ((Kd.R_reads' (Kd.R_after (ok := (fun k_ => some k_ ≠ (.slice Ao30 y127.length co30 : Value).ownBlock)) (by (with_reducible repeat (first | apply Kd.R_alloc | apply Kd.R_drewN | apply Kd.R_drew)); exact Kd.R_mono HO_3.out (fun _ hk => ⟨hk.2, hk.1⟩)) hg hat)).2.1)))
                 replace HO_3 := Aside0.mk (Kd.R_after (ok := (fun k_ => some k_ ≠ (.slice Ao30 y127.length co30 : Value).ownBlock)) (by (with_reducible repeat (first | apply Kd.R_alloc | apply Kd.R_drewN | apply Kd.R_drew)); exact Kd.R_mono HO_3.out (fun _ hk => ⟨hk.2, hk.1⟩)) hg hat)
                 clear HO126
                 clear ho hb hg hat
                 refine hK.out _ _ trivial (fun hHeld => ?_)
                 clear hK K
                 refine nm 37 ?_
                 refine on 10 41 (tb 11 1) (fun K hK => ?_)
                 refine Kd.R_append_rows_step (Kd.int .i64) (w0 := w) w.heap.size (by rfl) (.tmp 37) (.tmp 40) 28 3 (.int .i64 0) 8 rfl Try.underlying28 info3 rfl (by decide) (by omega) v131 y130 y133 _ _ _ (fun k_ => some k_ ≠ (.slice (some ad118) x3_1.length co8 : Value).ownBlock ∧ some k_ ≠ (.slice Ao30 y127.length co30 : Value).ownBlock) (fun _ => False) rfl rfl ?aO ?aR (fun _ _ h => h) (fun _ h => h.elim) ?aF ?aB ?aS ?aL ?_
                 (case aR => repeat (first | exact (by repeat (first | (with_reducible exact HR136.out) | (with_reducible refine Kd.C_alloc ?_ _) | (with_reducible refine Kd.C_drewN ?_ _) | (with_reducible refine Kd.C_drew ?_) | exact HR136.out)) | (with_reducible refine Kd.C_alloc ?_ _) | (with_reducible refine Kd.C_drewN ?_ _) | (with_reducible refine Kd.C_drew ?_)))
                 (case aB => exact bl)
                 (case aF => exact (fun k_ hk => ⟨Kd.fresh' (Kd.R_lt (by (with_reducible repeat (first | apply Kd.R_alloc | apply Kd.R_drewN | apply Kd.R_drew)); exact HO_3.out)) k_ hk, Kd.fresh' (Kd.R_lt (by (with_reducible repeat (first | apply Kd.R_alloc | apply Kd.R_drewN | apply Kd.R_drew)); exact HO129.out)) k_ hk⟩))
                 (case aO => exact (by (with_reducible repeat (first | apply Kd.R_alloc | apply Kd.R_drewN | apply Kd.R_drew)); exact HO132.out))
                 (case aS => exact (below_size bl))
                 (case aL => have := LMc21.out; omega)
                 intro v138 w31 ho hb hg hat
                 rw [← Ny137.out] at ho
                 have HO139 := Aside0.mk (ho)
                 replace HO129 := Aside0.mk (Kd.R_after (ok := (fun k_ => some k_ ≠ (.slice (some ad118) x3_1.length co8 : Value).ownBlock)) (by (with_reducible repeat (first | apply Kd.R_alloc | apply Kd.R_drewN | apply Kd.R_drew)); exact HO129.out) hg hat)
                 replace HB := Aside0.mk (hb)
                 replace HR123 := Aside0.mk ((show Kd.C (Kd.int .i64) w31 (some ad118) y120.length y120 from by rw [Ny120.out]; exact Kd.C_take (m := (x6_2 : Int).toNat) ((Kd.R_reads' (Kd.R_after (ok := (fun k_ => some k_ ≠ (.slice Ao30 y127.length co30 : Value).ownBlock)) (by (with_reducible repeat (first | apply Kd.R_alloc | apply Kd.R_drewN | apply Kd.R_drew)); exact HO_3.out) hg hat)).2.2) KL23.out))
                 replace HR136 := Aside0.mk ((show Kd.C (Kd.int .i64) w31 A24 y133.length y133 from by rw [Ny133.out, KA24.out]; exact Kd.C_drop (m := (x6_2 : Int).toNat) (c := co8) ((Kd.R_reads' (Kd.R_after (ok := (fun k_ => some k_ ≠ (.slice Ao30 y127.length co30 : Value).ownBlock)) (by (with_reducible repeat (first | apply Kd.R_alloc | apply Kd.R_drewN | apply Kd.R_drew)); exact HO_3.out) hg hat)).2.2) KL24.out ((Kd.R_reads' (Kd.R_after (ok := (fun k_ => some k_ ≠ (.slice Ao30 y127.length co30 : Value).ownBlock)) (by (with_reducible repeat (first | apply Kd.R_alloc | apply Kd.R_drewN | apply Kd.R_drew)); exact HO_3.out) hg hat)).2.1)))
                 replace HO_3 := Aside0.mk (Kd.R_after (ok := (fun k_ => some k_ ≠ (.slice Ao30 y127.length co30 : Value).ownBlock)) (by (with_reducible repeat (first | apply Kd.R_alloc | apply Kd.R_drewN | apply Kd.R_drew)); exact HO_3.out) hg hat)
                 clear HO132
                 clear ho hb hg hat
                 refine hK.out _ _ trivial (fun hHeld => ?_)
                 clear hK K
                 refine nm 41 ?_
                 refine pu 11 3 (tb 12 0) ?_
                 refine done_ (done_of HT_.out (by kernel_rfl)) ?_
                 try go_wp2
                 go_roundg k2
                 case measure => have := HK1.out; have := HK2.out; omega
                 case rel => exact ⟨(y137), (wrap64 (x9_1 + 1)), rs, H', ⟨by have := HK1.out; have := HK2.out; omega⟩, ⟨by (with_reducible repeat (first | apply Kd.R_alloc | apply Kd.R_drewN | apply Kd.R_drew)); exact Kd.R_mono HO139.out (fun _ hk => trivial)⟩, ⟨bl⟩⟩
                ·rw [if_neg c21] at H
                 exact absurd H (by simp)
               ·rw [if_neg c18] at H
                exact absurd H (by simp)
              ·rw [if_neg c16] at H
               exact absurd H (by simp)
             ·rw [if_neg c15] at H
              exact absurd H (by simp)
           ·rw [if_neg c12] at H
            exact absurd H (by simp)
          ·rw [if_neg c11] at H
           exact absurd H (by simp)
         ·rw [if_neg c9] at H
          have c9b0 : decide (0 < x6_2) = false := decide_eq_false c9
          clear c9
          by_cases c32 : 0 ≤ x6_2
          ·rw [if_pos c32] at H
           have c32b0 := eq_true c32
           have c32b1 : decide (0 ≤ x6_2) = true := decide_eq_true c32
           clear c32
           by_cases c33 : x6_2 ≤ (x3_1.length : Int)
           ·rw [if_pos c33] at H
            have c33b0 := eq_true c33
            have c33b1 : decide (x6_2 ≤ (x3_1.length : Int)) = true := decide_eq_true c33
            clear c33
            obtain ⟨y140, hy140⟩ : ∃ y_ : List Int, y_ = (x3_1.take (x6_2 : Int).toNat) := ⟨_, rfl⟩
            replace H : ((spec_l1Own.f y140).bind fun t144 => ((some (([(rd l0 x9_1)] : List Int) : List Int)).bind fun y147 => (if t144.length + y147.length < 17592186044416 then ((some (t144 ++ y147 : List Int)).bind fun y150 => ((some (x3_1.drop (x6_2 : Int).toNat : List Int)).bind fun y153 => (if y150.length + y153.length < 17592186044416 then (spec_skSort.l0 k2 (y150 ++ y153) l0 (l0.length : Int) (wrap64 (x9_1 + 1))) else (none)))) else (none)))) = some r := by first | (rw [hy140]; with_reducible exact H) | (have H2_ := (Option.bind_some _ _).symm.trans H; rw [hy140]; with_reducible exact H2_) | (have H2_ := (Option.bind_some _ _).symm.trans H; with_reducible exact H2_) | with_reducible exact H | (rw [hy140]; exact H) | exact H
            have Ny140 := Aside0.mk hy140
            clear hy140
            replace H := Option.bind_eq_some_iff.mp H
            obtain ⟨t144, A340, H⟩ := H
            replace H : ((some (([(rd l0 x9_1)] : List Int) : List Int)).bind fun y147 => (if t144.length + y147.length < 17592186044416 then ((some (t144 ++ y147 : List Int)).bind fun y150 => ((some (x3_1.drop (x6_2 : Int).toNat : List Int)).bind fun y153 => (if y150.length + y153.length < 17592186044416 then (spec_skSort.l0 k2 (y150 ++ y153) l0 (l0.length : Int) (wrap64 (x9_1 + 1))) else (none)))) else (none))) = some r := H
            have A34 := Aside0.mk A340
            clear A340
            obtain ⟨y147, hy147⟩ : ∃ y_ : List Int, y_ = (([(rd l0 x9_1)] : List Int)) := ⟨_, rfl⟩
            replace H : (if t144.length + y147.length < 17592186044416 then ((some (t144 ++ y147 : List Int)).bind fun y150 => ((some (x3_1.drop (x6_2 : Int).toNat : List Int)).bind fun y153 => (if y150.length + y153.length < 17592186044416 then (spec_skSort.l0 k2 (y150 ++ y153) l0 (l0.length : Int) (wrap64 (x9_1 + 1))) else (none)))) else (none)) = some r := by first | (rw [hy147]; with_reducible exact H) | (have H2_ := (Option.bind_some _ _).symm.trans H; rw [hy147]; with_reducible exact H2_) | (have H2_ := (Option.bind_some _ _).symm.trans H; with_reducible exact H2_) | with_reducible exact H | (rw [hy147]; exact H) | exact H
            have Ny147 := Aside0.mk hy147
            clear hy147
            by_cases c35 : t144.length + y147.length < 17592186044416
            ·rw [if_pos c35] at H
             have LMc35 := Aside0.mk c35
             clear c35
             obtain ⟨y150, hy150⟩ : ∃ y_ : List Int, y_ = (t144 ++ y147) := ⟨_, rfl⟩
             replace H : ((some (x3_1.drop (x6_2 : Int).toNat : List Int)).bind fun y153 => (if y150.length + y153.length < 17592186044416 then (spec_skSort.l0 k2 (y150 ++ y153) l0 (l0.length : Int) (wrap64 (x9_1 + 1))) else (none))) = some r := by first | (rw [hy150]; with_reducible exact H) | (have H2_ := (Option.bind_some _ _).symm.trans H; rw [hy150]; with_reducible exact H2_) | (have H2_ := (Option.bind_some _ _).symm.trans H; with_reducible exact H2_) | with_reducible exact H | (rw [hy150]; exact H) | exact H
             have Ny150 := Aside0.mk hy150
             clear hy150
             have c36b0 := eq_true (da : 0 ≤ x6_2)
             have c37b0 := eq_true (da : x6_2 ≤ (x3_1.length : Int))
             obtain ⟨y153, hy153⟩ : ∃ y_ : List Int, y_ = (x3_1.drop (x6_2 : Int).toNat) := ⟨_, rfl⟩
             replace H : (if y150.length + y153.length < 17592186044416 then (spec_skSort.l0 k2 (y150 ++ y153) l0 (l0.length : Int) (wrap64 (x9_1 + 1))) else (none)) = some r := by first | (rw [hy153]; with_reducible exact H) | (have H2_ := (Option.bind_some _ _).symm.trans H; rw [hy153]; with_reducible exact H2_) | (have H2_ := (Option.bind_some _ _).symm.trans H; with_reducible exact H2_) | with_reducible exact H | (rw [hy153]; exact H) | exact H
             have Ny153 := Aside0.mk hy153
             clear hy153
             by_cases c38 : y150.length + y153.length < 17592186044416
             ·rw [if_pos c38] at H
              have LMc38 := Aside0.mk c38
              clear c38
              obtain ⟨y157, hy157⟩ : ∃ y_ : List Int, y_ = (y150 ++ y153) := ⟨_, rfl⟩
              replace H : (spec_skSort.l0 k2 y157 l0 (l0.length : Int) (wrap64 (x9_1 + 1))) = some r := by first | (rw [hy157]; with_reducible exact H) | (have H2_ := (Option.bind_some _ _).symm.trans H; rw [hy157]; with_reducible exact H2_) | (have H2_ := (Option.bind_some _ _).symm.trans H; with_reducible exact H2_) | with_reducible exact H | (rw [hy157]; exact H) | exact H
              have Ny157 := Aside0.mk hy157
              clear hy157
              have H' := Aside0.mk H
              clear H
              try go_wp2
              replace HO_3 := Aside0.mk (Kd.R_drew HO_3.out)
              replace HB := Aside0.mk (below_drew1 HB.out)
              have q40 : (x6_2 : Int) ≤ ((x3_1.length : Int) : Int) := da
              obtain ⟨i040, hi040, _, hsz40, _⟩ := info_parts info3
              have hroom40 : x3_1.length ≤ co8 := (Kd.R_reads' HO_3.out).2.1
              have hC40 : Kd.C (Kd.int .i64) _ Ao8 x3_1.length x3_1 := (Kd.R_reads' HO_3.out).2.2
              have hcut40 := cut_to (P := Try.prog) 28 3 .i64 Try.underlying28 hi040 Ao8 x3_1.length co8 x6_2 (da) q40 hroom40
              have hr40 := Kd.C_take (m := (x6_2 : Int).toNat) hC40 (by omega)
              have hy40 : y140.length = (x6_2 : Int).toNat := (by rw [Ny140.out, List.length_take]; omega)
              rw [← Ny140.out] at hr40
              rw [← hy40] at hcut40
              have HR143 := Aside0.mk hr40
              have HC143 := Aside0.mk (show y140.length ≤ co8 from by omega)
              clear hr40 hC40 hroom40 hi040 hsz40
              have KY40 := Aside0.mk hy40
              clear hy40
              have KL40 := Aside0.mk (show (x6_2 : Int).toNat ≤ x3_1.length from by omega)
              replace q40 := eq_true q40
              have q41 : (x6_2 : Int) ≤ ((x3_1.length : Int) : Int) := da
              obtain ⟨i041, hi041, _, hsz41, _⟩ := info_parts info3
              have hroom41 : x3_1.length ≤ co8 := (Kd.R_reads' HO_3.out).2.1
              have hC41 : Kd.C (Kd.int .i64) _ Ao8 x3_1.length x3_1 := (Kd.R_reads' HO_3.out).2.2
              have q041 : (0 : Int) ≤ (x6_2 : Int) := da
              have hcut41 := cut_from (P := Try.prog) 28 3 .i64 Try.underlying28 hi041 1 hsz41 Ao8 x3_1.length co8 x6_2 q041 q41
              have hr41 := Kd.C_drop (m := (x6_2 : Int).toNat) (c := co8) hC41 (by omega) hroom41
              obtain ⟨A41, hA41⟩ : ∃ A1, A1 = (if co8 = (x6_2 : Int).toNat then Ao8 else (Ao8 : Option Addr).map (·.add ((x6_2 : Int).toNat * 1))) := ⟨_, rfl⟩
              obtain ⟨c41, hc41⟩ : ∃ c1, c1 = co8 - (x6_2 : Int).toNat := ⟨_, rfl⟩
              have hy41 : y153.length = x3_1.length - (x6_2 : Int).toNat := (by rw [Ny153.out, List.length_drop] <;> omega)
              rw [show (x3_1).drop (x6_2 : Int).toNat = y153 from Ny153.out.symm] at hr41
              replace hr41 : Kd.C (Kd.int .i64) _ A41 y153.length y153 := (by rw [hA41]; exact hr41)
              rw [← hy41, ← hA41, ← hc41] at hcut41
              have HR156 := Aside0.mk hr41
              have HC156 := Aside0.mk (show y153.length ≤ c41 from by rw [hy41, hc41]; exact Nat.sub_le_sub_right hroom41 _)
              clear hr41 hC41 hroom41 hi041 hsz41 hc41
              have KY41 := Aside0.mk hy41
              have KA41 := Aside0.mk hA41
              clear hy41 hA41
              have KL41 := Aside0.mk (show (x6_2 : Int).toNat ≤ x3_1.length from by omega)
              replace q41 := eq_true q41
              refine start_ (n := 12) (S := fun w' => True) (ds := []) (tb 0 12) (by kernel_rfl) rfl rfl trivial (fun hHeld => ?_); refine with_tabW spec_skSort.tab9 spec_skSort.bits9 (fun HT_ HW_ => ?_)
              generalize wr.drew = w39 at HO_3 HB HR143 HR156 hHeld ⊢
              refine pu 0 31 (tb 1 11) ?_
              refine pu 1 32 (tb 2 10) ?_
              refine pu 2 33 (tb 3 9) ?_
              refine pu 4 35 #[true, true, true, false, true, false, false, false, false, false, false, false] ?_
              refine pu 7 38 #[true, true, true, false, true, false, false, true, false, false, false, false] ?_
              refine pu 8 39 #[true, true, true, false, true, false, false, true, true, false, false, false] ?_
              refine pu 9 40 #[true, true, true, false, true, false, false, true, true, true, false, false] ?_
              refine join_ (σ := Value × Value) 3 #[true, true, true, true, true, true, false, true, true, true, false, false] (fun s_ => [(34, s_.1), (36, s_.2)]) (fun s_ w' => (Kd.R (Kd.int .i64) 3 w' w.heap.size (fun k_ => some k_ ≠ (s_.2 : Value).ownBlock ∧ some k_ ≠ (.slice Ao8 x3_1.length co8 : Value).ownBlock) s_.1 t144) ∧ (Kd.R (Kd.int .i64) 3 w' w.heap.size (fun k_ => some k_ ≠ (s_.1 : Value).ownBlock ∧ some k_ ≠ (.slice Ao8 x3_1.length co8 : Value).ownBlock) s_.2 y147) ∧ (Kd.R (Kd.int .i64) 3 w' w.heap.size (fun k_ => some k_ ≠ (s_.1 : Value).ownBlock ∧ some k_ ≠ (s_.2 : Value).ownBlock) (.slice Ao8 x3_1.length co8) x3_1) ∧ (Below w.heap.size w w')) ?_ ?_
              rotate_left
              ·intro hCont
               refine two_ (i := 3) (j := 5) (Ni := some 34) (Nj := some 36) #[true, true, true, true, true, false, false, true, true, true, false, false] #[true, true, true, false, true, true, false, true, true, true, false, false] rfl rfl rfl rfl (two_of HT_.out (by kernel_rfl)) (by decide) (by decide) (fun K hK => ?_) (fun K hK => ?_)
               ·skip
                refine gs Try.func77 #[.slice Ao8 y140.length co8] ?_
                with_reducible refine (spec_l1Own.calls _ _ y140 t144 _ ?side1 ?side2 A34.out).mono ?_
                (case side1 => repeat (first | exact (by repeat (first | (with_reducible exact HR143.out) | (with_reducible refine Kd.C_alloc ?_ _) | (with_reducible refine Kd.C_drewN ?_ _) | (with_reducible refine Kd.C_drew ?_) | exact HR143.out)) | (with_reducible refine Kd.C_alloc ?_ _) | (with_reducible refine Kd.C_drewN ?_ _) | (with_reducible refine Kd.C_drew ?_)))
                (case side2 => exact HC143.out)
                rintro e w42 ⟨v145, rfl, ho0, hb⟩
                refine ⟨_, rfl, ?_⟩
                have HO146 := Aside0.mk (Kd.R_lower (Kd.R_new' ho0 (Kd.R_lt (by (with_reducible repeat (first | apply Kd.R_alloc | apply Kd.R_drewN | apply Kd.R_drew)); exact HO_3.out))) (below_size bl))
                replace HO_3 := Aside0.mk (Kd.R_elder' (by (with_reducible repeat (first | apply Kd.R_alloc | apply Kd.R_drewN | apply Kd.R_drew)); exact HO_3.out) (Kd.R_base ho0) hb)
                replace HR143 := Aside0.mk (Kd.C_below (by repeat (first | (with_reducible exact HR143.out) | (with_reducible refine Kd.C_alloc ?_ _) | (with_reducible refine Kd.C_drewN ?_ _) | (with_reducible refine Kd.C_drew ?_) | exact HR143.out)) hb)
                replace HR156 := Aside0.mk (Kd.C_below (by repeat (first | (with_reducible exact HR156.out) | (with_reducible refine Kd.C_alloc ?_ _) | (with_reducible refine Kd.C_drewN ?_ _) | (with_reducible refine Kd.C_drew ?_) | exact HR156.out)) hb)
                replace HB := kh hb
                (try clear hb)
                (try clear hb2)
                (try clear hk)
                (try clear hi)
                (try clear ho0)
                refine hK.out _ _ trivial (fun hHeld => ?_)
                clear hK K
                refine nm 34 ?_
                refine on 5 36 #[true, true, true, true, true, true, false, true, true, true, false, false] (fun K hK => ?_)
                refine Kd.R_lit_step (Kd.int .i64) _ 3 ?hg (N := 36) ?hd (xs := ([(rd l0 x9_1)] : List Int)) (inner := [.int .i64 (rd l0 x9_1)]) (ok := fun _ => True) (okp := fun _ => True) ?hr ?hp (fun _ hk => hk) trivial (Below.refl _ _) (Nat.le_refl _) (by simp) ?_; (case hd => rfl); (case hg => rfl); (case hr => first | (go_simp; done) | (go_simp; rfl)); (case hp => exact (Reps.one (show Kd.M (Kd.int .i64) _ _ _ (rd l0 x9_1) [.int .i64 (rd l0 x9_1)] from rfl) (Reps.none _ _)))
                intro v148 w43 ho44 hb hg_ hnew_
                clear hg_ hnew_
                (first | rw [← Ny147.out] at ho44 | (simp only [Int.reduceToNat] at ho44; rw [← Ny147.out] at ho44))
                have HO149 := Aside0.mk (Kd.R_lower (Kd.R_new' (Kd.R_new' ho44 (Kd.R_lt (by (with_reducible repeat (first | apply Kd.R_alloc | apply Kd.R_drewN | apply Kd.R_drew)); exact HO_3.out))) (Kd.R_lt (by (with_reducible repeat (first | apply Kd.R_alloc | apply Kd.R_drewN | apply Kd.R_drew)); exact HO146.out))) (below_size bl))
                replace HO_3 := Aside0.mk (Kd.R_elder' (by (with_reducible repeat (first | apply Kd.R_alloc | apply Kd.R_drewN | apply Kd.R_drew)); exact HO_3.out) (Kd.R_base ho44) hb)
                replace HO146 := Aside0.mk (Kd.R_elder' (by (with_reducible repeat (first | apply Kd.R_alloc | apply Kd.R_drewN | apply Kd.R_drew)); exact HO146.out) (Kd.R_base ho44) hb)
                replace HR143 := Aside0.mk (Kd.C_below (by repeat (first | (with_reducible exact HR143.out) | (with_reducible refine Kd.C_alloc ?_ _) | (with_reducible refine Kd.C_drewN ?_ _) | (with_reducible refine Kd.C_drew ?_) | exact HR143.out)) hb)
                replace HR156 := Aside0.mk (Kd.C_below (by repeat (first | (with_reducible exact HR156.out) | (with_reducible refine Kd.C_alloc ?_ _) | (with_reducible refine Kd.C_drewN ?_ _) | (with_reducible refine Kd.C_drew ?_) | exact HR156.out)) hb)
                replace HB := kh hb
                clear hb ho44
                refine hK.out _ _ trivial (fun hHeld => ?_)
                clear hK K
                refine nm 36 ?_
                exact norm_ (by simp only [putAll, Act.put, List.setIfInBounds_toArray, List.set_cons_zero, List.set_cons_succ]) (hCont (v145, v148) _ ⟨(by (with_reducible repeat (first | apply Kd.R_alloc | apply Kd.R_drewN | apply Kd.R_drew)); exact Kd.R_mono HO146.out (fun _ hk => ⟨hk.2, hk.1.2⟩)), (by (with_reducible repeat (first | apply Kd.R_alloc | apply Kd.R_drewN | apply Kd.R_drew)); exact Kd.R_mono HO149.out (fun _ hk => ⟨hk.2, hk.1.2⟩)), (by (with_reducible repeat (first | apply Kd.R_alloc | apply Kd.R_drewN | apply Kd.R_drew)); exact Kd.R_mono HO_3.out (fun _ hk => ⟨hk.1.2, hk.2⟩)), bl⟩)
               ·skip
                refine Kd.R_lit_step (Kd.int .i64) _ 3 ?hg (N := 36) ?hd (xs := ([(rd l0 x9_1)] : List Int)) (inner := [.int .i64 (rd l0 x9_1)]) (ok := fun _ => True) (okp := fun _ => True) ?hr ?hp (fun _ hk => hk) trivial (Below.refl _ _) (Nat.le_refl _) (by simp) ?_; (case hd => rfl); (case hg => rfl); (case hr => first | (go_simp; done) | (go_simp; rfl)); (case hp => exact (Reps.one (show Kd.M (Kd.int .i64) _ _ _ (rd l0 x9_1) [.int .i64 (rd l0 x9_1)] from rfl) (Reps.none _ _)))
                intro v148 w42 ho43 hb hg_ hnew_
                clear hg_ hnew_
                (first | rw [← Ny147.out] at ho43 | (simp only [Int.reduceToNat] at ho43; rw [← Ny147.out] at ho43))
                have HO149 := Aside0.mk (Kd.R_lower (Kd.R_new' ho43 (Kd.R_lt (by (with_reducible repeat (first | apply Kd.R_alloc | apply Kd.R_drewN | apply Kd.R_drew)); exact HO_3.out))) (below_size bl))
                replace HO_3 := Aside0.mk (Kd.R_elder' (by (with_reducible repeat (first | apply Kd.R_alloc | apply Kd.R_drewN | apply Kd.R_drew)); exact HO_3.out) (Kd.R_base ho43) hb)
                replace HR143 := Aside0.mk (Kd.C_below (by repeat (first | (with_reducible exact HR143.out) | (with_reducible refine Kd.C_alloc ?_ _) | (with_reducible refine Kd.C_drewN ?_ _) | (with_reducible refine Kd.C_drew ?_) | exact HR143.out)) hb)
                replace HR156 := Aside0.mk (Kd.C_below (by repeat (first | (with_reducible exact HR156.out) | (with_reducible refine Kd.C_alloc ?_ _) | (with_reducible refine Kd.C_drewN ?_ _) | (with_reducible refine Kd.C_drew ?_) | exact HR156.out)) hb)
                replace HB := kh hb
                clear hb ho43
                refine hK.out _ _ trivial (fun hHeld => ?_)
                clear hK K
                refine nm 36 ?_
                refine on 3 34 #[true, true, true, true, true, true, false, true, true, true, false, false] (fun K hK => ?_)
                refine gs Try.func77 #[.slice Ao8 y140.length co8] ?_
                with_reducible refine (spec_l1Own.calls _ _ y140 t144 _ ?side1 ?side2 A34.out).mono ?_
                (case side1 => repeat (first | exact (by repeat (first | (with_reducible exact HR143.out) | (with_reducible refine Kd.C_alloc ?_ _) | (with_reducible refine Kd.C_drewN ?_ _) | (with_reducible refine Kd.C_drew ?_) | exact HR143.out)) | (with_reducible refine Kd.C_alloc ?_ _) | (with_reducible refine Kd.C_drewN ?_ _) | (with_reducible refine Kd.C_drew ?_)))
                (case side2 => exact HC143.out)
                rintro e w44 ⟨v145, rfl, ho0, hb⟩
                refine ⟨_, rfl, ?_⟩
                have HO146 := Aside0.mk (Kd.R_lower (Kd.R_new' (Kd.R_new' ho0 (Kd.R_lt (by (with_reducible repeat (first | apply Kd.R_alloc | apply Kd.R_drewN | apply Kd.R_drew)); exact HO_3.out))) (Kd.R_lt (by (with_reducible repeat (first | apply Kd.R_alloc | apply Kd.R_drewN | apply Kd.R_drew)); exact HO149.out))) (below_size bl))
                replace HO_3 := Aside0.mk (Kd.R_elder' (by (with_reducible repeat (first | apply Kd.R_alloc | apply Kd.R_drewN | apply Kd.R_drew)); exact HO_3.out) (Kd.R_base ho0) hb)
                replace HO149 := Aside0.mk (Kd.R_elder' (by (with_reducible repeat (first | apply Kd.R_alloc | apply Kd.R_drewN | apply Kd.R_drew)); exact HO149.out) (Kd.R_base ho0) hb)
                replace HR143 := Aside0.mk (Kd.C_below (by repeat (first | (with_reducible exact HR143.out) | (with_reducible refine Kd.C_alloc ?_ _) | (with_reducible refine Kd.C_drewN ?_ _) | (with_reducible refine Kd.C_drew ?_) | exact HR143.out)) hb)
                replace HR156 := Aside0.mk (Kd.C_below (by repeat (first | (with_reducible exact HR156.out) | (with_reducible refine Kd.C_alloc ?_ _) | (with_reducible refine Kd.C_drewN ?_ _) | (with_reducible refine Kd.C_drew ?_) | exact HR156.out)) hb)
                replace HB := kh hb
                (try clear hb)
                (try clear hb2)
                (try clear hk)
                (try clear hi)
                (try clear ho0)
                refine hK.out _ _ trivial (fun hHeld => ?_)
                clear hK K
                refine nm 34 ?_
                exact norm_ (by simp only [putAll, Act.put, List.setIfInBounds_toArray, List.set_cons_zero, List.set_cons_succ]) (hCont (v145, v148) _ ⟨(by (with_reducible repeat (first | apply Kd.R_alloc | apply Kd.R_drewN | apply Kd.R_drew)); exact Kd.R_mono HO146.out (fun _ hk => ⟨hk.2, hk.1.2⟩)), (by (with_reducible repeat (first | apply Kd.R_alloc | apply Kd.R_drewN | apply Kd.R_drew)); exact Kd.R_mono HO149.out (fun _ hk => ⟨hk.2, hk.1.2⟩)), (by (with_reducible repeat (first | apply Kd.R_alloc | apply Kd.R_drewN | apply Kd.R_drew)); exact Kd.R_mono HO_3.out (fun _ hk => ⟨hk.2, hk.1.2⟩)), bl⟩)
              rintro ⟨v145, v148⟩ w45 ⟨h0_, h1_, h2_, h3_⟩
              have n0_ : Aside0 (Kd.R (Kd.int .i64) 3 w45 w.heap.size (fun k_ => some k_ ≠ (v148 : Value).ownBlock ∧ some k_ ≠ (.slice Ao8 x3_1.length co8 : Value).ownBlock) v145 t144) := ⟨h0_⟩
              have n1_ : Aside0 (Kd.R (Kd.int .i64) 3 w45 w.heap.size (fun k_ => some k_ ≠ (v145 : Value).ownBlock ∧ some k_ ≠ (.slice Ao8 x3_1.length co8 : Value).ownBlock) v148 y147) := ⟨h1_⟩
              have n2_ : Aside0 (Kd.R (Kd.int .i64) 3 w45 w.heap.size (fun k_ => some k_ ≠ (v145 : Value).ownBlock ∧ some k_ ≠ (v148 : Value).ownBlock) (.slice Ao8 x3_1.length co8) x3_1) := ⟨h2_⟩
              have n3_ : Aside0 (Below w.heap.size w w45) := ⟨h3_⟩
              clear HO_3
              clear HB
              clear h0_ h1_ h2_ h3_
              have HO146 := n0_
              have HO149 := n1_
              have HO_3 := n2_
              have HB := n3_
              clear n0_ n1_ n2_ n3_
              have hHeld := trivial
              have HR143 := Aside0.mk (show Kd.C (Kd.int .i64) w45 Ao8 y140.length y140 from by rw [Ny140.out]; exact Kd.C_take (m := (x6_2 : Int).toNat) ((Kd.R_reads' HO_3.out).2.2) KL40.out)
              have HR156 := Aside0.mk (show Kd.C (Kd.int .i64) w45 A41 y153.length y153 from by rw [Ny153.out, KA41.out]; exact Kd.C_drop (m := (x6_2 : Int).toNat) (c := co8) ((Kd.R_reads' HO_3.out).2.2) KL41.out ((Kd.R_reads' HO_3.out).2.1))
              obtain ⟨Ao47, co47, eo47⟩ := Kd.R_slice HO149.out
              (first | subst eo47 | (injection eo47 with f1_ f2_ f3_; have f4_ := f1_.symm; have f5_ := f3_.symm; clear f1_ f2_ f3_; subst f4_; subst f5_))
              refine norm_ (a' := ?_) ?_ ?_
              rotate_left
              ·simp only [putAll, Act.put, List.setIfInBounds_toArray, List.set_cons_zero, List.set_cons_succ]
               rfl
              refine on 6 37 (tb 10 2) (fun K hK => ?_)
              refine Kd.R_append_rows_step (Kd.int .i64) (w0 := w) w.heap.size (by rfl) (.tmp 34) (.tmp 36) 28 3 (.int .i64 0) 8 rfl Try.underlying28 info3 rfl (by decide) (by omega) v145 t144 y147 _ _ _ (fun k_ => some k_ ≠ (.slice Ao8 x3_1.length co8 : Value).ownBlock ∧ some k_ ≠ (.slice Ao47 y147.length co47 : Value).ownBlock) (fun _ => False) rfl rfl ?aO ?aR (fun _ _ h => h) (fun _ h => h.elim) ?aF ?aB ?aS ?aL ?_
              (case aR => repeat (first | exact (Kd.R_reads' HO149.out).2.2 | (with_reducible refine Kd.C_alloc ?_ _) | (with_reducible refine Kd.C_drewN ?_ _) | (with_reducible refine Kd.C_drew ?_)))
              (case aB => exact bl)
              (case aF => exact (fun k_ hk => ⟨Kd.fresh' (Kd.R_lt (by (with_reducible repeat (first | apply Kd.R_alloc | apply Kd.R_drewN | apply Kd.R_drew)); exact HO_3.out)) k_ hk, Kd.fresh' (Kd.R_lt (by (with_reducible repeat (first | apply Kd.R_alloc | apply Kd.R_drewN | apply Kd.R_drew)); exact HO149.out)) k_ hk⟩))
              (case aO => exact (by (with_reducible repeat (first | apply Kd.R_alloc | apply Kd.R_drewN | apply Kd.R_drew)); exact Kd.R_mono HO146.out (fun _ hk => ⟨hk.2, hk.1⟩)))
              (case aS => exact (below_size bl))
              (case aL => have := LMc35.out; omega)
              intro v151 w46 ho hb hg hat
              rw [← Ny150.out] at ho
              have HO152 := Aside0.mk (ho)
              replace HO149 := Aside0.mk (Kd.R_after (ok := (fun k_ => some k_ ≠ (.slice Ao8 x3_1.length co8 : Value).ownBlock)) (by (with_reducible repeat (first | apply Kd.R_alloc | apply Kd.R_drewN | apply Kd.R_drew)); exact Kd.R_mono HO149.out (fun _ hk => ⟨hk.2, hk.1⟩)) hg hat)
              replace HB := Aside0.mk (hb)
              replace HR143 := Aside0.mk ((show Kd.C (Kd.int .i64) w46 Ao8 y140.length y140 from by rw [Ny140.out]; exact Kd.C_take (m := (x6_2 : Int).toNat) ((Kd.R_reads' (Kd.R_after (ok := (fun k_ => some k_ ≠ (.slice Ao47 y147.length co47 : Value).ownBlock)) (by (with_reducible repeat (first | apply Kd.R_alloc | apply Kd.R_drewN | apply Kd.R_drew)); exact Kd.R_mono HO_3.out (fun _ hk => ⟨hk.2, hk.1⟩)) hg hat)).2.2) KL40.out))
              replace HR156 := Aside0.mk ((show Kd.C (Kd.int .i64) w46 A41 y153.length y153 from by rw [Ny153.out, KA41.out]; exact Kd.C_drop (m := (x6_2 : Int).toNat) (c := co8) ((Kd.R_reads' (Kd.R_after (ok := (fun k_ => some k_ ≠ (.slice Ao47 y147.length co47 : Value).ownBlock)) (by (with_reducible repeat (first | apply Kd.R_alloc | apply Kd.R_drewN | apply Kd.R_drew)); exact Kd.R_mono HO_3.out (fun _ hk => ⟨hk.2, hk.1⟩)) hg hat)).2.2) KL41.out ((Kd.R_reads' (Kd.R_after (ok := (fun k_ => some k_ ≠ (.slice Ao47 y147.length co47 : Value).ownBlock)) (by (with_reducible repeat (first | apply Kd.R_alloc | apply Kd.R_drewN | apply Kd.R_drew)); exact Kd.R_mono HO_3.out (fun _ hk => ⟨hk.2, hk.1⟩)) hg hat)).2.1)))
              replace HO_3 := Aside0.mk (Kd.R_after (ok := (fun k_ => some k_ ≠ (.slice Ao47 y147.length co47 : Value).ownBlock)) (by (with_reducible repeat (first | apply Kd.R_alloc | apply Kd.R_drewN | apply Kd.R_drew)); exact Kd.R_mono HO_3.out (fun _ hk => ⟨hk.2, hk.1⟩)) hg hat)
              clear HO146
              clear ho hb hg hat
              refine hK.out _ _ trivial (fun hHeld => ?_)
              clear hK K
              refine nm 37 ?_
              refine on 10 41 (tb 11 1) (fun K hK => ?_)
              refine Kd.R_append_rows_step (Kd.int .i64) (w0 := w) w.heap.size (by rfl) (.tmp 37) (.tmp 40) 28 3 (.int .i64 0) 8 rfl Try.underlying28 info3 rfl (by decide) (by omega) v151 y150 y153 _ _ _ (fun k_ => some k_ ≠ (.slice Ao8 x3_1.length co8 : Value).ownBlock ∧ some k_ ≠ (.slice Ao47 y147.length co47 : Value).ownBlock) (fun _ => False) rfl rfl ?aO ?aR (fun _ _ h => h) (fun _ h => h.elim) ?aF ?aB ?aS ?aL ?_
              (case aR => repeat (first | exact (by repeat (first | (with_reducible exact HR156.out) | (with_reducible refine Kd.C_alloc ?_ _) | (with_reducible refine Kd.C_drewN ?_ _) | (with_reducible refine Kd.C_drew ?_) | exact HR156.out)) | (with_reducible refine Kd.C_alloc ?_ _) | (with_reducible refine Kd.C_drewN ?_ _) | (with_reducible refine Kd.C_drew ?_)))
              (case aB => exact bl)
              (case aF => exact (fun k_ hk => ⟨Kd.fresh' (Kd.R_lt (by (with_reducible repeat (first | apply Kd.R_alloc | apply Kd.R_drewN | apply Kd.R_drew)); exact HO_3.out)) k_ hk, Kd.fresh' (Kd.R_lt (by (with_reducible repeat (first | apply Kd.R_alloc | apply Kd.R_drewN | apply Kd.R_drew)); exact HO149.out)) k_ hk⟩))
              (case aO => exact (by (with_reducible repeat (first | apply Kd.R_alloc | apply Kd.R_drewN | apply Kd.R_drew)); exact HO152.out))
              (case aS => exact (below_size bl))
              (case aL => have := LMc38.out; omega)
              intro v158 w48 ho hb hg hat
              rw [← Ny157.out] at ho
              have HO159 := Aside0.mk (ho)
              replace HO149 := Aside0.mk (Kd.R_after (ok := (fun k_ => some k_ ≠ (.slice Ao8 x3_1.length co8 : Value).ownBlock)) (by (with_reducible repeat (first | apply Kd.R_alloc | apply Kd.R_drewN | apply Kd.R_drew)); exact HO149.out) hg hat)
              replace HB := Aside0.mk (hb)
              replace HR143 := Aside0.mk ((show Kd.C (Kd.int .i64) w48 Ao8 y140.length y140 from by rw [Ny140.out]; exact Kd.C_take (m := (x6_2 : Int).toNat) ((Kd.R_reads' (Kd.R_after (ok := (fun k_ => some k_ ≠ (.slice Ao47 y147.length co47 : Value).ownBlock)) (by (with_reducible repeat (first | apply Kd.R_alloc | apply Kd.R_drewN | apply Kd.R_drew)); exact HO_3.out) hg hat)).2.2) KL40.out))
              replace HR156 := Aside0.mk ((show Kd.C (Kd.int .i64) w48 A41 y153.length y153 from by rw [Ny153.out, KA41.out]; exact Kd.C_drop (m := (x6_2 : Int).toNat) (c := co8) ((Kd.R_reads' (Kd.R_after (ok := (fun k_ => some k_ ≠ (.slice Ao47 y147.length co47 : Value).ownBlock)) (by (with_reducible repeat (first | apply Kd.R_alloc | apply Kd.R_drewN | apply Kd.R_drew)); exact HO_3.out) hg hat)).2.2) KL41.out ((Kd.R_reads' (Kd.R_after (ok := (fun k_ => some k_ ≠ (.slice Ao47 y147.length co47 : Value).ownBlock)) (by (with_reducible repeat (first | apply Kd.R_alloc | apply Kd.R_drewN | apply Kd.R_drew)); exact HO_3.out) hg hat)).2.1)))
              replace HO_3 := Aside0.mk (Kd.R_after (ok := (fun k_ => some k_ ≠ (.slice Ao47 y147.length co47 : Value).ownBlock)) (by (with_reducible repeat (first | apply Kd.R_alloc | apply Kd.R_drewN | apply Kd.R_drew)); exact HO_3.out) hg hat)
              clear HO152
              clear ho hb hg hat
              refine hK.out _ _ trivial (fun hHeld => ?_)
              clear hK K
              refine nm 41 ?_
              refine pu 11 3 (tb 12 0) ?_
              refine done_ (done_of HT_.out (by kernel_rfl)) ?_
              try go_wp2
              go_roundg k2
              case measure => have := HK1.out; have := HK2.out; omega
              case rel => exact ⟨(y157), (wrap64 (x9_1 + 1)), rs, H', ⟨by have := HK1.out; have := HK2.out; omega⟩, ⟨by (with_reducible repeat (first | apply Kd.R_alloc | apply Kd.R_drewN | apply Kd.R_drew)); exact Kd.R_mono HO159.out (fun _ hk => trivial)⟩, ⟨bl⟩⟩
             ·rw [if_neg c38] at H
              exact absurd H (by simp)
            ·rw [if_neg c35] at H
             exact absurd H (by simp)
           ·rw [if_neg c33] at H
            exact absurd H (by simp)
          ·rw [if_neg c32] at H
           exact absurd H (by simp)
     ·rw [if_neg c4] at H
      exact absurd H (by simp)
    ·rw [if_neg c3] at H
     exact absurd H (by simp)
   ·rw [if_neg c2] at H
    have c2b0 : decide (x9_1 < (l0.length : Int)) = false := decide_eq_false c2
    clear c2
    obtain rfl := Option.some.inj H
    go_wp2
    go_ret
    exact ⟨_, rt, by (with_reducible repeat (first | apply Kd.R_alloc | apply Kd.R_drewN | apply Kd.R_drew)); exact HO_3.out, bl⟩

end Go.Proofs.Ytcbbkeojoichnaa.PFnExactSortPeriods
