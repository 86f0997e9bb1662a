-- Written by this session's program wip/pp (the kit's print tool with additions) 35421559b90ae4d0a3588c463048766b98c2df88dd9212a6774a882060cdf62d
import Derived.Test.YtmecnnnagallnaaPFnExactItineraryOfx0
import Derived.Test.YtmecnnnagallnaaPFnExactItineraryOfx3
import Derived.Test.YtmecnnnagallnaaPFnExactItineraryOfx7
import Derived.Test.YtmecnnnagallnaaPFnExactItineraryOfx9
namespace Go.Proofs.Ytmecnnnagallnaa.PFnExactItineraryOf
open Go.RowKit Go.Proofs.YtmecnnnagallnaaW.PrintWords Go.Proofs.YtmecnnnagallnaaW.PrintLast Go.Proofs.YtmecnnnagallnaaW.PrintMore
attribute [local go_sem] max2_int min2_int max_two min_two max_three min_three max_four min_four   -- for this text's walks alone
set_option linter.unusedVariables false
set_option linter.unusedSimpArgs false

/-! ### spec_woAddress: function 80 -/
def spec_woAddress.l0 : Nat → List (S68) → List (List Int) → Int → Int → Int → Option (Int)
 | 0, _, _, _, _, _ => none
 | k + 1, x0, x5, x6, x293000, x293001 => if 0 ≤ x6 then (if x6 < (x5.length : Int) then (if 1 < ((rd_L5 x5 x6).length : Int) then (if 0 ≤ (rd (rd_L5 x5 x6) 1) then (if (rd (rd_L5 x5 x6) 1) < (x0.length : Int) then ((spec_raCmp.f ((rd_T68 x0 (rd (rd_L5 x5 x6) 1)).f0.f0) ((rd_T68 x0 (rd (rd_L5 x5 x6) 1)).f0.f1) x293000 x293001).bind fun t299 => (if t299 < 0 then (spec_woAddress.l0 k x0 x5 (wrap64 (x6 + 1)) x293000 x293001) else (some x6))) else (none)) else (none)) else (none)) else (none)) else (none)
def spec_woAddress.f (k : Nat) (l0 : List (S68)) (a1_0 : Int) (a1_1 : Int) : Option (Int) := (spec_imLaps.f k l0).bind fun t293 => (spec_woAddress.l0 k l0 t293 0 a1_0 a1_1)
def spec_woAddress.T3 : Bool × List (List Nat × List Nat) := (true, [([], []), ([], []), ([], []), ([1, 2], [1, 2]), ([3], [3]), ([4], [4]), ([5], [5]), ([0, 6], [0, 6]), ([7], [7]), ([8], [8]), ([], []), ([9, 10], [9, 10]), ([11], [11])])
def spec_woAddress.B3 : List Nat := [0, 0, 0, 6, 14, 30, 62, 127, 255, 511, 0, 2047, 4095]
theorem spec_woAddress.tab3 : rtab .any (opsOf Try.f80 3) = spec_woAddress.T3 := by kernel_rfl
theorem spec_woAddress.bits3 : waitsOk spec_woAddress.T3.2 spec_woAddress.B3 = true := by kernel_rfl
set_option maxHeartbeats 8000000 in
set_option maxRecDepth 100000 in
theorem spec_woAddress.calls (k : Nat) (A0 : Option Addr) (c0 : Nat) (l0 : List (S68)) (a1_0 : Int) (a1_1 : Int) (r : Int) (w : World) (hr0 : Kd.C k68 w A0 l0.length l0) (hc0 : l0.length ≤ c0) (h : spec_woAddress.f k l0 a1_0 a1_1 = some r) :
  Calls Try.prog 80 #[.slice A0 l0.length c0, .agg #[.int .i64 a1_0, .int .i64 a1_1]] w fun e w' => e = .returned (.int .i64 r) ∧ Below w.heap.size w w' := by
 have hu28 := Try.underlying28
 have HR0 := Aside0.mk hr0
 have HC0 := Aside0.mk hc0
 clear hr0 hc0
 have HB := Aside0.mk (Below.refl w.heap.size w)
 have H : ((spec_imLaps.f k l0).bind fun t293 => (spec_woAddress.l0 k l0 t293 0 a1_0 a1_1)) = some r := h
 clear h
 replace H := Option.bind_eq_some_iff.mp H
 obtain ⟨t293, A30, H⟩ := H
 replace H : (spec_woAddress.l0 k l0 t293 0 a1_0 a1_1) = some r := H
 have A3 := Aside0.mk A30
 clear A30
 have H' := Aside0.mk H
 clear H
 go_enter Try.func80, Try.ntmps80
 go_wp2_with (first | ((with_reducible refine gate_dst (N := 3) rfl ?_); refine bx 3 #[.int .i64 a1_0, .int .i64 a1_1] 28 ?_; intro gb292 hg w4 hbox hb; have BK292 := Aside0.mk (hbox); have GW292 := Aside0.mk (bz hg); have GE292 := GW292; replace HB := kh hb; clear hb hbox hg) | ((with_reducible refine gate_callee (f := 108) rfl ?_); refine gl 8 Try.func108 #[.slice A0 l0.length c0] ?_; (with_reducible refine (spec_imLaps.calls k _ _ l0 t293 _ ?side1 ?side2 A3.out).mono ?_); (case side1 => repeat (first | exact (Kd.C_below HR0.out HB.out) | (with_reducible refine Kd.C_alloc ?_ _) | (with_reducible refine Kd.C_drewN ?_ _) | (with_reducible refine Kd.C_drew ?_))); (case side2 => exact HC0.out); rintro e w5 ⟨v294, rfl, ho0, hb⟩; refine ⟨_, rfl, ?_⟩; have HO295 := Aside0.mk (Kd.S_lower ho0 (below_size bl)); replace BK292 := kb BK292 hb; replace HB := kh hb; (try clear hb); (try clear hb2); (try clear hk); (try clear hi); (try clear ho0)))
 go_loopg [6] k (fun kq v6 w' => ∃ (x6_1 : Int), v6 = .int .i64 x6_1 ∧ Aside0 (spec_woAddress.l0 kq l0 t293 x6_1 a1_0 a1_1 = some r) ∧ Aside0 (kq ≤ k) ∧ Aside0 (Kd.S (Kd.slice 3 (Kd.int .i64)) 39 w' w.heap.size (fun _ => True) v294 t293) ∧ Aside0 (w'.heap[gb292]? = some (.cells #[.int .i64 a1_0, .int .i64 a1_1] 28 (0, 0))) ∧ Aside0 (Below w.heap.size w w'))
 case atStart => exact ⟨(0), rs, H', ⟨Nat.le_refl _⟩, ⟨by (with_reducible repeat (first | apply Kd.S_alloc | apply Kd.S_drewN | apply Kd.S_drew)); exact HO295.out⟩, ⟨by (with_reducible repeat (first | refine blk_drewN ?_ _ | refine blk_drew ?_ | refine blk_alloc ?_ _)); exact BK292.out⟩, ⟨bl⟩⟩
 case round =>
  clear H'
  try clear c1
  try clear p2
  obtain ⟨x6_1, rfl, HA, HK1, HO_5, BK292, HB⟩ := hrel
  cases gk with
  | zero => exact absurd HA.out (by simp [spec_woAddress.l0])
  | succ k1 =>
   have H := HA.out
   clear HA
   simp only [spec_woAddress.l0] at H
   by_cases c6 : 0 ≤ x6_1
   ·rw [if_pos c6] at H
    have c6b0 : decide (0 ≤ x6_1) = true := decide_eq_true c6
    clear c6
    by_cases c7 : x6_1 < (t293.length : Int)
    ·rw [if_pos c7] at H
     have c7b0 : decide (x6_1 < (t293.length : Int)) = true := decide_eq_true c7
     clear c7
     by_cases c8 : 1 < ((rd_L5 t293 x6_1).length : Int)
     ·rw [if_pos c8] at H
      have c8b0 : decide (1 < ((rd_L5 t293 x6_1).length : Int)) = true := decide_eq_true c8
      have c8b1 : decide (1 < (rd_L5 t293 x6_1).length) = true := decide_eq_true (by omega)
      clear c8
      by_cases c9 : 0 ≤ (rd (rd_L5 t293 x6_1) 1)
      ·rw [if_pos c9] at H
       have c9b0 : decide (0 ≤ (rd (rd_L5 t293 x6_1) 1)) = true := decide_eq_true c9
       clear c9
       by_cases c10 : (rd (rd_L5 t293 x6_1) 1) < (l0.length : Int)
       ·rw [if_pos c10] at H
        have c10b0 : decide ((rd (rd_L5 t293 x6_1) 1) < (l0.length : Int)) = true := decide_eq_true c10
        clear c10
        replace H := Option.bind_eq_some_iff.mp H
        obtain ⟨t299, A110, H⟩ := H
        replace H : (if t299 < 0 then (spec_woAddress.l0 k1 l0 t293 (wrap64 (x6_1 + 1)) a1_0 a1_1) else (some x6_1)) = some r := H
        have A11 := Aside0.mk A110
        clear A110
        by_cases c12 : t299 < 0
        ·rw [if_pos c12] at H
         have c12b0 : decide (t299 < 0) = true := decide_eq_true c12
         clear c12
         have H' := Aside0.mk H
         clear H
         try go_wp2
         replace HO_5 := Aside0.mk (Kd.S_drew HO_5.out)
         replace BK292 := Aside0.mk (blk_drew BK292.out)
         replace HB := Aside0.mk (below_drew1 HB.out)
         obtain ⟨Ao14, co14, eo14⟩ := Kd.S_slice HO_5.out
         (first | subst eo14 | (injection eo14 with f1_ f2_ f3_; have f4_ := f1_.symm; have f5_ := f3_.symm; clear f1_ f2_ f3_; subst f4_; subst f5_))
         have p296 : 0 ≤ (x6_1 : Int) := da
         have q296 : x6_1 < (t293.length : Int) := da
         obtain ⟨ad296, A296_0, c296_0, e296, hx296_0, hl296_0, hi296_0⟩ := at_L5 (Kd.S_reads' HO_5.out).2.2 x6_1 p296 q296
         cases e296
         obtain ⟨ce296, hce296, hMe296, hcc296⟩ := Kd.S_get HO_5.out [] x6_1 p296 (by first | exact q296 | exact da | (have e_ := (Kd.S_reads' HO_5.out).1; omega))
         obtain ⟨ve296_0, rfl, ge296_0⟩ := hMe296
         have hv296_0 := hcc296 0 _ rfl
         rw [Nat.add_zero, show ((Kd.slice 3 (Kd.int .i64))).sz = 1 from rfl, Nat.mul_one] at hv296_0
         replace hv296_0 := Option.some.inj (hv296_0.symm.trans hx296_0)
         rw [hv296_0] at ge296_0
         have HL296_0 := Aside0.mk (show Kd.R (Kd.int .i64) 3 _ _ _ _ (rd_L5 t293 x6_1) from ge296_0)
         clear hv296_0 ge296_0
         clear hcc296 hce296
         have HR296_0 := Aside0.mk hi296_0
         have HC296_0 := Aside0.mk hl296_0
         clear hi296_0 hl296_0
         replace p296 := eq_true p296
         replace q296 := eq_true q296
         have p297 : 0 ≤ (1 : Int) := (by omega)
         have q297 : 1 < ((rd_L5 t293 x6_1).length : Int) := da
         obtain ⟨ad297, e297, hx297_0⟩ := Kd.at_int (by repeat (first | (with_reducible exact HR296_0.out) | (with_reducible refine Kd.C_alloc ?_ _) | (with_reducible refine Kd.C_drewN ?_ _) | (with_reducible refine Kd.C_drew ?_) | exact HR296_0.out)) 1 p297 q297
         cases e297
         (try simp only [show (1 : Int).toNat = 1 from rfl, Nat.reduceMul, Nat.reduceEqDiff, Go.Addr.add, ↓reduceIte] at hx297_0)
         have qi297 : (1 < (rd_L5 t293 x6_1).length) = True := eq_true (by omega)
         (try rw [show ((1 : Int)).toNat = 1 from rfl] at hx297_0)
         replace p297 := eq_true p297
         replace q297 := eq_true q297
         have p298 : 0 ≤ ((rd (rd_L5 t293 x6_1) 1) : Int) := da
         have q298 : (rd (rd_L5 t293 x6_1) 1) < (l0.length : Int) := da
         obtain ⟨ad298, e298, hx298_0, hx298_1, hx298_2, hx298_3⟩ := at_T68 HR0.out (rd (rd_L5 t293 x6_1) 1) p298 q298
         have hw298_3 := hx298_3
         have hw298_2 := hx298_2
         have hw298_1 := hx298_1
         have hw298_0 := hx298_0
         cases e298
         replace hx298_0 := (hc HB hx298_0 :)
         replace hx298_1 := (hc HB hx298_1 :)
         replace hx298_2 := (hc HB hx298_2 :)
         replace hx298_3 := (hc HB hx298_3 :)
         replace p298 := eq_true p298
         replace q298 := eq_true q298
         refine start_ (n := 13) (S := fun w' => w'.cell? ⟨gb292, 0, none⟩ = some (.int .i64 a1_0) ∧ w'.cell? ⟨gb292, 1, none⟩ = some (.int .i64 a1_1) ∧ w'.cell? (ad296.add (x6_1).toNat) = some (.slice (some ad297) (rd_L5 t293 x6_1).length c296_0) ∧ w'.cell? ⟨ad297.block, ad297.off + 1, none⟩ = some (.int .i64 (rd (rd_L5 t293 x6_1) 1)) ∧ w'.cell? (ad298.add (((rd (rd_L5 t293 x6_1) 1)).toNat * 4)) = some (.int .i64 ((rd_T68 l0 (rd (rd_L5 t293 x6_1) 1)).f0.f0)) ∧ w'.cell? ⟨(ad298.add (((rd (rd_L5 t293 x6_1) 1)).toNat * 4)).block, (ad298.add (((rd (rd_L5 t293 x6_1) 1)).toNat * 4)).off + 1, none⟩ = some (.int .i64 ((rd_T68 l0 (rd (rd_L5 t293 x6_1) 1)).f0.f1)) ∧ w'.cell? ⟨(ad298.add (((rd (rd_L5 t293 x6_1) 1)).toNat * 4)).block, (ad298.add (((rd (rd_L5 t293 x6_1) 1)).toNat * 4)).off + 2, none⟩ = some (.int .i64 ((rd_T68 l0 (rd (rd_L5 t293 x6_1) 1)).f1.f0)) ∧ w'.cell? ⟨(ad298.add (((rd (rd_L5 t293 x6_1) 1)).toNat * 4)).block, (ad298.add (((rd (rd_L5 t293 x6_1) 1)).toNat * 4)).off + 3, none⟩ = some (.int .i64 ((rd_T68 l0 (rd (rd_L5 t293 x6_1) 1)).f1.f1))) (ds := []) (tb 0 13) (by kernel_rfl) rfl rfl ⟨(blk_cell BK292.out 0).trans rfl, (blk_cell BK292.out 1).trans rfl, hx296_0, hx297_0, (hc HB hw298_0 :), (hc HB hw298_1 :), (hc HB hw298_2 :), (hc HB hw298_3 :)⟩ (fun hHeld => ?_); refine with_tabW spec_woAddress.tab3 spec_woAddress.bits3 (fun HT_ HW_ => ?_)
         generalize wr.drew = w13 at HO_5 BK292 HB HL296_0 HR296_0 hx296_0 hx297_0 hx298_0 hx298_1 hx298_2 hx298_3 hHeld ⊢
         refine pu 0 9 (tb 1 12) ?_
         refine pu 1 10 (tb 2 11) ?_
         refine pu 2 11 (tb 3 10) ?_
         refine pu 3 12 (tb 4 9) ?_
         refine tk 4 13 (tb 5 8) (hy := by rintro w' ⟨s0, s1, s2, s3, s4, s5, s6, s7⟩; go_simp; with_reducible rfl) (h := ?_)
         refine pu 5 14 (tb 6 7) ?_
         refine tk 6 15 (tb 7 6) (hy := by rintro w' ⟨s0, s1, s2, s3, s4, s5, s6, s7⟩; go_simp; with_reducible rfl) (h := ?_)
         refine pu 7 16 (tb 8 5) ?_
         refine pu 8 17 (tb 9 4) ?_
         refine tk 9 18 (tb 10 3) (hy := by rintro w' ⟨s0, s1, s2, s3, s4, s5, s6, s7⟩; go_simp; with_reducible rfl) (h := ?_)
         refine tk 10 19 (tb 11 2) (hy := by rintro w' ⟨s0, s1, s2, s3, s4, s5, s6, s7⟩; go_simp; with_reducible rfl) (h := ?_)
         refine on 11 20 (tb 12 1) (fun K hK => ?_)
         refine gs Try.func45 #[.agg #[.int .i64 ((rd_T68 l0 (rd (rd_L5 t293 x6_1) 1)).f0.f0), .int .i64 ((rd_T68 l0 (rd (rd_L5 t293 x6_1) 1)).f0.f1)], .agg #[.int .i64 a1_0, .int .i64 a1_1]] ?_
         with_reducible refine (spec_raCmp.calls ((rd_T68 l0 (rd (rd_L5 t293 x6_1) 1)).f0.f0) ((rd_T68 l0 (rd (rd_L5 t293 x6_1) 1)).f0.f1) a1_0 a1_1 t299 _ A11.out).mono ?_
         rintro e w15 ⟨rfl, hb⟩
         have HS2_ := (hb.cell (World.block_lt_of_cell? _ _ (hHeld.2.2.1))).trans (hHeld.2.2.1)
         have HS3_ := (hb.cell (World.block_lt_of_cell? _ _ (hHeld.2.2.2.1))).trans (hHeld.2.2.2.1)
         refine ⟨_, rfl, ?_⟩
         replace HO_5 := Aside0.mk (Kd.S_below (by (with_reducible repeat (first | apply Kd.S_alloc | apply Kd.S_drewN | apply Kd.S_drew)); exact HO_5.out) hb)
         replace HL296_0 := Aside0.mk (Kd.R_below (by (with_reducible repeat (first | apply Kd.R_alloc | apply Kd.R_drewN | apply Kd.R_drew)); exact HL296_0.out) hb)
         replace BK292 := kb BK292 hb
         replace HR296_0 := Aside0.mk (Kd.C_below (by repeat (first | (with_reducible exact HR296_0.out) | (with_reducible refine Kd.C_alloc ?_ _) | (with_reducible refine Kd.C_drewN ?_ _) | (with_reducible refine Kd.C_drew ?_) | exact HR296_0.out)) hb)
         replace HB := kh hb
         (try clear hb)
         (try clear hb2)
         (try clear hk)
         (try clear hi)
         refine hK.out _ _ ⟨(blk_cell BK292.out 0).trans rfl, (blk_cell BK292.out 1).trans rfl, HS2_, HS3_, (hc HB hw298_0 :), (hc HB hw298_1 :), (hc HB hw298_2 :), (hc HB hw298_3 :)⟩ (fun hHeld => ?_)
         clear hK K
         refine nm 20 ?_
         refine pu 12 21 (tb 13 0) ?_
         refine done_ (done_of HT_.out (by kernel_rfl)) ?_
         try go_wp2
         go_roundg k1
         case measure => have := HK1.out; omega
         case rel => exact ⟨(wrap64 (x6_1 + 1)), rs, H', ⟨by have := HK1.out; omega⟩, ⟨by (with_reducible repeat (first | apply Kd.S_alloc | apply Kd.S_drewN | apply Kd.S_drew)); exact HO_5.out⟩, ⟨by (with_reducible repeat (first | refine blk_drewN ?_ _ | refine blk_drew ?_ | refine blk_alloc ?_ _)); exact BK292.out⟩, ⟨bl⟩⟩
        ·rw [if_neg c12] at H
         have c12b0 : decide (t299 < 0) = false := decide_eq_false c12
         clear c12
         obtain rfl := Option.some.inj H
         try go_wp2
         replace HO_5 := Aside0.mk (Kd.S_drew HO_5.out)
         replace BK292 := Aside0.mk (blk_drew BK292.out)
         replace HB := Aside0.mk (below_drew1 HB.out)
         obtain ⟨Ao17, co17, eo17⟩ := Kd.S_slice HO_5.out
         (first | subst eo17 | (injection eo17 with f1_ f2_ f3_; have f4_ := f1_.symm; have f5_ := f3_.symm; clear f1_ f2_ f3_; subst f4_; subst f5_))
         have p296 : 0 ≤ (x6_1 : Int) := da
         have q296 : x6_1 < (t293.length : Int) := da
         obtain ⟨ad296, A296_0, c296_0, e296, hx296_0, hl296_0, hi296_0⟩ := at_L5 (Kd.S_reads' HO_5.out).2.2 x6_1 p296 q296
         cases e296
         obtain ⟨ce296, hce296, hMe296, hcc296⟩ := Kd.S_get HO_5.out [] x6_1 p296 (by first | exact q296 | exact da | (have e_ := (Kd.S_reads' HO_5.out).1; omega))
         obtain ⟨ve296_0, rfl, ge296_0⟩ := hMe296
         have hv296_0 := hcc296 0 _ rfl
         rw [Nat.add_zero, show ((Kd.slice 3 (Kd.int .i64))).sz = 1 from rfl, Nat.mul_one] at hv296_0
         replace hv296_0 := Option.some.inj (hv296_0.symm.trans hx296_0)
         rw [hv296_0] at ge296_0
         have HL296_0 := Aside0.mk (show Kd.R (Kd.int .i64) 3 _ _ _ _ (rd_L5 t293 x6_1) from ge296_0)
         clear hv296_0 ge296_0
         clear hcc296 hce296
         have HR296_0 := Aside0.mk hi296_0
         have HC296_0 := Aside0.mk hl296_0
         clear hi296_0 hl296_0
         replace p296 := eq_true p296
         replace q296 := eq_true q296
         have p297 : 0 ≤ (1 : Int) := (by omega)
         have q297 : 1 < ((rd_L5 t293 x6_1).length : Int) := da
         obtain ⟨ad297, e297, hx297_0⟩ := Kd.at_int (by repeat (first | (with_reducible exact HR296_0.out) | (with_reducible refine Kd.C_alloc ?_ _) | (with_reducible refine Kd.C_drewN ?_ _) | (with_reducible refine Kd.C_drew ?_) | exact HR296_0.out)) 1 p297 q297
         cases e297
         (try simp only [show (1 : Int).toNat = 1 from rfl, Nat.reduceMul, Nat.reduceEqDiff, Go.Addr.add, ↓reduceIte] at hx297_0)
         have qi297 : (1 < (rd_L5 t293 x6_1).length) = True := eq_true (by omega)
         (try rw [show ((1 : Int)).toNat = 1 from rfl] at hx297_0)
         replace p297 := eq_true p297
         replace q297 := eq_true q297
         have p298 : 0 ≤ ((rd (rd_L5 t293 x6_1) 1) : Int) := da
         have q298 : (rd (rd_L5 t293 x6_1) 1) < (l0.length : Int) := da
         obtain ⟨ad298, e298, hx298_0, hx298_1, hx298_2, hx298_3⟩ := at_T68 HR0.out (rd (rd_L5 t293 x6_1) 1) p298 q298
         have hw298_3 := hx298_3
         have hw298_2 := hx298_2
         have hw298_1 := hx298_1
         have hw298_0 := hx298_0
         cases e298
         replace hx298_0 := (hc HB hx298_0 :)
         replace hx298_1 := (hc HB hx298_1 :)
         replace hx298_2 := (hc HB hx298_2 :)
         replace hx298_3 := (hc HB hx298_3 :)
         replace p298 := eq_true p298
         replace q298 := eq_true q298
         refine start_ (n := 13) (S := fun w' => w'.cell? ⟨gb292, 0, none⟩ = some (.int .i64 a1_0) ∧ w'.cell? ⟨gb292, 1, none⟩ = some (.int .i64 a1_1) ∧ w'.cell? (ad296.add (x6_1).toNat) = some (.slice (some ad297) (rd_L5 t293 x6_1).length c296_0) ∧ w'.cell? ⟨ad297.block, ad297.off + 1, none⟩ = some (.int .i64 (rd (rd_L5 t293 x6_1) 1)) ∧ w'.cell? (ad298.add (((rd (rd_L5 t293 x6_1) 1)).toNat * 4)) = some (.int .i64 ((rd_T68 l0 (rd (rd_L5 t293 x6_1) 1)).f0.f0)) ∧ w'.cell? ⟨(ad298.add (((rd (rd_L5 t293 x6_1) 1)).toNat * 4)).block, (ad298.add (((rd (rd_L5 t293 x6_1) 1)).toNat * 4)).off + 1, none⟩ = some (.int .i64 ((rd_T68 l0 (rd (rd_L5 t293 x6_1) 1)).f0.f1)) ∧ w'.cell? ⟨(ad298.add (((rd (rd_L5 t293 x6_1) 1)).toNat * 4)).block, (ad298.add (((rd (rd_L5 t293 x6_1) 1)).toNat * 4)).off + 2, none⟩ = some (.int .i64 ((rd_T68 l0 (rd (rd_L5 t293 x6_1) 1)).f1.f0)) ∧ w'.cell? ⟨(ad298.add (((rd (rd_L5 t293 x6_1) 1)).toNat * 4)).block, (ad298.add (((rd (rd_L5 t293 x6_1) 1)).toNat * 4)).off + 3, none⟩ = some (.int .i64 ((rd_T68 l0 (rd (rd_L5 t293 x6_1) 1)).f1.f1))) (ds := []) (tb 0 13) (by kernel_rfl) rfl rfl ⟨(blk_cell BK292.out 0).trans rfl, (blk_cell BK292.out 1).trans rfl, hx296_0, hx297_0, (hc HB hw298_0 :), (hc HB hw298_1 :), (hc HB hw298_2 :), (hc HB hw298_3 :)⟩ (fun hHeld => ?_); refine with_tabW spec_woAddress.tab3 spec_woAddress.bits3 (fun HT_ HW_ => ?_)
         generalize wr.drew = w16 at HO_5 BK292 HB HL296_0 HR296_0 hx296_0 hx297_0 hx298_0 hx298_1 hx298_2 hx298_3 hHeld ⊢
         refine pu 0 9 (tb 1 12) ?_
         refine pu 1 10 (tb 2 11) ?_
         refine pu 2 11 (tb 3 10) ?_
         refine pu 3 12 (tb 4 9) ?_
         refine tk 4 13 (tb 5 8) (hy := by rintro w' ⟨s0, s1, s2, s3, s4, s5, s6, s7⟩; go_simp; with_reducible rfl) (h := ?_)
         refine pu 5 14 (tb 6 7) ?_
         refine tk 6 15 (tb 7 6) (hy := by rintro w' ⟨s0, s1, s2, s3, s4, s5, s6, s7⟩; go_simp; with_reducible rfl) (h := ?_)
         refine pu 7 16 (tb 8 5) ?_
         refine pu 8 17 (tb 9 4) ?_
         refine tk 9 18 (tb 10 3) (hy := by rintro w' ⟨s0, s1, s2, s3, s4, s5, s6, s7⟩; go_simp; with_reducible rfl) (h := ?_)
         refine tk 10 19 (tb 11 2) (hy := by rintro w' ⟨s0, s1, s2, s3, s4, s5, s6, s7⟩; go_simp; with_reducible rfl) (h := ?_)
         refine on 11 20 (tb 12 1) (fun K hK => ?_)
         refine gs Try.func45 #[.agg #[.int .i64 ((rd_T68 l0 (rd (rd_L5 t293 x6_1) 1)).f0.f0), .int .i64 ((rd_T68 l0 (rd (rd_L5 t293 x6_1) 1)).f0.f1)], .agg #[.int .i64 a1_0, .int .i64 a1_1]] ?_
         with_reducible refine (spec_raCmp.calls ((rd_T68 l0 (rd (rd_L5 t293 x6_1) 1)).f0.f0) ((rd_T68 l0 (rd (rd_L5 t293 x6_1) 1)).f0.f1) a1_0 a1_1 t299 _ A11.out).mono ?_
         rintro e w18 ⟨rfl, hb⟩
         have HS2_ := (hb.cell (World.block_lt_of_cell? _ _ (hHeld.2.2.1))).trans (hHeld.2.2.1)
         have HS3_ := (hb.cell (World.block_lt_of_cell? _ _ (hHeld.2.2.2.1))).trans (hHeld.2.2.2.1)
         refine ⟨_, rfl, ?_⟩
         replace HO_5 := Aside0.mk (Kd.S_below (by (with_reducible repeat (first | apply Kd.S_alloc | apply Kd.S_drewN | apply Kd.S_drew)); exact HO_5.out) hb)
         replace HL296_0 := Aside0.mk (Kd.R_below (by (with_reducible repeat (first | apply Kd.R_alloc | apply Kd.R_drewN | apply Kd.R_drew)); exact HL296_0.out) hb)
         replace BK292 := kb BK292 hb
         replace HR296_0 := Aside0.mk (Kd.C_below (by repeat (first | (with_reducible exact HR296_0.out) | (with_reducible refine Kd.C_alloc ?_ _) | (with_reducible refine Kd.C_drewN ?_ _) | (with_reducible refine Kd.C_drew ?_) | exact HR296_0.out)) hb)
         replace HB := kh hb
         (try clear hb)
         (try clear hb2)
         (try clear hk)
         (try clear hi)
         refine hK.out _ _ ⟨(blk_cell BK292.out 0).trans rfl, (blk_cell BK292.out 1).trans rfl, HS2_, HS3_, (hc HB hw298_0 :), (hc HB hw298_1 :), (hc HB hw298_2 :), (hc HB hw298_3 :)⟩ (fun hHeld => ?_)
         clear hK K
         refine nm 20 ?_
         refine pu 12 21 (tb 13 0) ?_
         refine done_ (done_of HT_.out (by kernel_rfl)) ?_
         try go_wp2
         go_ret
         exact ⟨rt, bl⟩
       ·rw [if_neg c10] at H
        exact absurd H (by simp)
      ·rw [if_neg c9] at H
       exact absurd H (by simp)
     ·rw [if_neg c8] at H
      exact absurd H (by simp)
    ·rw [if_neg c7] at H
     exact absurd H (by simp)
   ·rw [if_neg c6] at H
    exact absurd H (by simp)

/-! ### spec_ItineraryOf: function 40 -/
mutual
def spec_ItineraryOf.j0 : Nat → List (S68) → Int → Bool → Int → Int → Option (List Int × Bool)
 | 0, _, _, _, _, _ => none
 | k + 1, x0, x2, x24, x301000, x301001 => if x24 = true then (some (([] : List Int), false)) else ((spec_orRun.f k x0 x301000 x301001 (wrap64 (x2 - 1))).bind fun t304 => (if (t304.length : Int) < x2 then (some (([] : List Int), false)) else (spec_ItineraryOf.l0 k x0 ([] : List Int) t304 (t304.length : Int) 0)))
def spec_ItineraryOf.l0 : Nat → List (S68) → List Int → List (S28) → Int → Int → Option (List Int × Bool)
 | 0, _, _, _, _, _ => none
 | k + 1, x0, x9, x34, x35, x36 => if x36 < x35 then (if 0 ≤ x36 then (if x36 < (x34.length : Int) then ((spec_woAddress.f k x0 ((rd_T28 x34 x36).f0) ((rd_T28 x34 x36).f1)).bind fun t309 => (if x9.length < 17592186044416 then (spec_ItineraryOf.l0 k x0 (x9 ++ [t309]) x34 x35 (wrap64 (x36 + 1))) else (none))) else (none)) else (none)) else (some (x9, true))
end
def spec_ItineraryOf.f (k : Nat) (l0 : List (S68)) (a1_0 : Int) (a1_1 : Int) (a2 : Int) : Option (List Int × Bool) := (spec_woMap.f k l0).bind fun t301 => (if t301 = true then ((spec_raUnit.f k a1_0 a1_1).bind fun t302 => (if t302 = true then ((spec_l1In.f a2 1 20).bind fun t303 => (spec_ItineraryOf.j0 k l0 a2 (!t303) a1_0 a1_1)) else (spec_ItineraryOf.j0 k l0 a2 true a1_0 a1_1))) else (spec_ItineraryOf.j0 k l0 a2 true a1_0 a1_1))
set_option maxHeartbeats 8000000 in
set_option maxRecDepth 100000 in
theorem spec_ItineraryOf.calls (k : Nat) (A0 : Option Addr) (c0 : Nat) (l0 : List (S68)) (a1_0 : Int) (a1_1 : Int) (a2 : Int) (r1 : List Int) (r2 : Bool) (w : World) (hr0 : Kd.C k68 w A0 l0.length l0) (hc0 : l0.length ≤ c0) (h : spec_ItineraryOf.f k l0 a1_0 a1_1 a2 = some (r1, r2)) :
  Calls Try.prog 40 #[.slice A0 l0.length c0, .agg #[.int .i64 a1_0, .int .i64 a1_1], .int .i64 a2] w fun e w' => ∃ v0_ : Value, e = .returned (.tuple #[v0_, .bool r2]) ∧ Kd.R (Kd.int .i64) 3 w' w.heap.size (fun _ => True) v0_ r1 ∧ Below w.heap.size w w' := by
 have hu28 := Try.underlying28
 have HR0 := Aside0.mk hr0
 have HC0 := Aside0.mk hc0
 clear hr0 hc0
 have HB := Aside0.mk (Below.refl w.heap.size w)
 have H : ((spec_woMap.f k l0).bind fun t301 => (if t301 = true then ((spec_raUnit.f k a1_0 a1_1).bind fun t302 => (if t302 = true then ((spec_l1In.f a2 1 20).bind fun t303 => (spec_ItineraryOf.j0 k l0 a2 (!t303) a1_0 a1_1)) else (spec_ItineraryOf.j0 k l0 a2 true a1_0 a1_1))) else (spec_ItineraryOf.j0 k l0 a2 true a1_0 a1_1))) = some (r1, r2) := h
 clear h
 have HC4 := Aside0.mk H
 clear H
 go_enter Try.func40, Try.ntmps40
 go_upto_region 1 with (first | ((with_reducible refine gate_dst (N := 4) rfl ?_); refine bx 4 #[.int .i64 a1_0, .int .i64 a1_1] 28 ?_; intro gb300 hg w5 hbox hb; have BK300 := Aside0.mk (hbox); have GW300 := Aside0.mk (bz hg); have GE300 := GW300; replace HB := kh hb; clear hb hbox hg))
 (try simp only [Act.put, List.setIfInBounds_toArray, List.set_cons_zero, List.set_cons_succ])
 go_cut [24] (fun v24 wc => ∃ (kq : Nat) (x24_3 : Bool), v24 = .bool x24_3 ∧ Aside0 (spec_ItineraryOf.j0 kq l0 a2 x24_3 a1_0 a1_1 = some (r1, r2)) ∧ Aside0 (kq ≤ k) ∧ Aside0 (wc.heap[gb300]? = some (.cells #[.int .i64 a1_0, .int .i64 a1_1] 28 (0, 0))) ∧ Aside0 (Below w.heap.size w wc))
 case first =>
  have H := HC4.out
  clear HC4
  replace H := Option.bind_eq_some_iff.mp H
  obtain ⟨t301, A60, H⟩ := H
  replace H : (if t301 = true then ((spec_raUnit.f k a1_0 a1_1).bind fun t302 => (if t302 = true then ((spec_l1In.f a2 1 20).bind fun t303 => (spec_ItineraryOf.j0 k l0 a2 (!t303) a1_0 a1_1)) else (spec_ItineraryOf.j0 k l0 a2 true a1_0 a1_1))) else (spec_ItineraryOf.j0 k l0 a2 true a1_0 a1_1)) = some (r1, r2) := H
  have A6 := Aside0.mk A60
  clear A60
  by_cases c7 : t301 = true
  ·subst c7
   have H1 : ((spec_raUnit.f k a1_0 a1_1).bind fun t302 => (if t302 = true then ((spec_l1In.f a2 1 20).bind fun t303 => (spec_ItineraryOf.j0 k l0 a2 (!t303) a1_0 a1_1)) else (spec_ItineraryOf.j0 k l0 a2 true a1_0 a1_1))) = some (r1, r2) := by rw [if_pos rfl] at H; exact H
   clear H
   have H := H1
   clear H1
   replace H := Option.bind_eq_some_iff.mp H
   obtain ⟨t302, A80, H⟩ := H
   replace H : (if t302 = true then ((spec_l1In.f a2 1 20).bind fun t303 => (spec_ItineraryOf.j0 k l0 a2 (!t303) a1_0 a1_1)) else (spec_ItineraryOf.j0 k l0 a2 true a1_0 a1_1)) = some (r1, r2) := H
   have A8 := Aside0.mk A80
   clear A80
   by_cases c9 : t302 = true
   ·subst c9
    have H1 : ((spec_l1In.f a2 1 20).bind fun t303 => (spec_ItineraryOf.j0 k l0 a2 (!t303) a1_0 a1_1)) = some (r1, r2) := by rw [if_pos rfl] at H; exact H
    clear H
    have H := H1
    clear H1
    replace H := Option.bind_eq_some_iff.mp H
    obtain ⟨t303, A100, H⟩ := H
    replace H : (spec_ItineraryOf.j0 k l0 a2 (!t303) a1_0 a1_1) = some (r1, r2) := H
    have A10 := Aside0.mk A100
    clear A100
    have H' := Aside0.mk H
    clear H
    go_wp2_with (first | ((with_reducible refine gate_callee (f := 79) rfl ?_); refine gl 13 Try.func79 #[.slice A0 l0.length c0] ?_; (with_reducible refine (spec_woMap.calls k _ _ l0 true _ ?side1 ?side2 A6.out).mono ?_); (case side1 => repeat (first | exact (Kd.C_below HR0.out HB.out) | (with_reducible refine Kd.C_alloc ?_ _) | (with_reducible refine Kd.C_drewN ?_ _) | (with_reducible refine Kd.C_drew ?_))); (case side2 => exact HC0.out); rintro e w11 ⟨rfl, hb⟩; refine ⟨_, rfl, ?_⟩; replace BK300 := kb BK300 hb; replace HB := kh hb; (try clear hb); (try clear hb2); (try clear hk); (try clear hi); obtain ⟨hcz12_0, hcz12_1, hfz12_0, hfz12_1⟩ := b2 BK300) | (go_at_call 67; (with_reducible refine (spec_raUnit.calls k a1_0 a1_1 true _ A8.out).mono ?_); rintro e w13 ⟨rfl, hb⟩; replace BK300 := kb BK300 hb; replace HB := kh hb; (try clear hb); (try clear hb2); (try clear hk); (try clear hi)) | (go_at_call 68; (with_reducible refine (spec_l1In.calls a2 1 20 t303 _ A10.out).mono ?_); rintro e w' ⟨rfl, ⟨nd, rfl⟩⟩))
    go_meet
    case rel => exact ⟨_, (!t303), rs, H', ⟨by first | omega | exact Nat.le_refl _⟩, ⟨by (with_reducible repeat (first | refine blk_drewN ?_ _ | refine blk_drew ?_ | refine blk_alloc ?_ _)); exact BK300.out⟩, ⟨bl⟩⟩
   ·replace c9 := Bool.eq_false_iff.mpr c9
    subst c9
    have H1 : (spec_ItineraryOf.j0 k l0 a2 true a1_0 a1_1) = some (r1, r2) := by rw [if_neg (show ¬ (false = true) by decide)] at H; exact H
    clear H
    have H := H1
    clear H1
    have H' := Aside0.mk H
    clear H
    go_wp2_with (first | ((with_reducible refine gate_callee (f := 79) rfl ?_); refine gl 13 Try.func79 #[.slice A0 l0.length c0] ?_; (with_reducible refine (spec_woMap.calls k _ _ l0 true _ ?side1 ?side2 A6.out).mono ?_); (case side1 => repeat (first | exact (Kd.C_below HR0.out HB.out) | (with_reducible refine Kd.C_alloc ?_ _) | (with_reducible refine Kd.C_drewN ?_ _) | (with_reducible refine Kd.C_drew ?_))); (case side2 => exact HC0.out); rintro e w14 ⟨rfl, hb⟩; refine ⟨_, rfl, ?_⟩; replace BK300 := kb BK300 hb; replace HB := kh hb; (try clear hb); (try clear hb2); (try clear hk); (try clear hi); obtain ⟨hcz15_0, hcz15_1, hfz15_0, hfz15_1⟩ := b2 BK300) | (go_at_call 67; (with_reducible refine (spec_raUnit.calls k a1_0 a1_1 false _ A8.out).mono ?_); rintro e w16 ⟨rfl, hb⟩; replace BK300 := kb BK300 hb; replace HB := kh hb; (try clear hb); (try clear hb2); (try clear hk); (try clear hi)))
    go_meet
    case rel => exact ⟨_, (true), rs, H', ⟨by first | omega | exact Nat.le_refl _⟩, ⟨by (with_reducible repeat (first | refine blk_drewN ?_ _ | refine blk_drew ?_ | refine blk_alloc ?_ _)); exact BK300.out⟩, ⟨bl⟩⟩
  ·replace c7 := Bool.eq_false_iff.mpr c7
   subst c7
   have H1 : (spec_ItineraryOf.j0 k l0 a2 true a1_0 a1_1) = some (r1, r2) := by rw [if_neg (show ¬ (false = true) by decide)] at H; exact H
   clear H
   have H := H1
   clear H1
   have H' := Aside0.mk H
   clear H
   go_wp2_with (first | ((with_reducible refine gate_callee (f := 79) rfl ?_); refine gl 13 Try.func79 #[.slice A0 l0.length c0] ?_; (with_reducible refine (spec_woMap.calls k _ _ l0 false _ ?side1 ?side2 A6.out).mono ?_); (case side1 => repeat (first | exact (Kd.C_below HR0.out HB.out) | (with_reducible refine Kd.C_alloc ?_ _) | (with_reducible refine Kd.C_drewN ?_ _) | (with_reducible refine Kd.C_drew ?_))); (case side2 => exact HC0.out); rintro e w17 ⟨rfl, hb⟩; refine ⟨_, rfl, ?_⟩; replace BK300 := kb BK300 hb; replace HB := kh hb; (try clear hb); (try clear hb2); (try clear hk); (try clear hi)))
   go_meet
   case rel => exact ⟨_, (true), rs, H', ⟨by first | omega | exact Nat.le_refl _⟩, ⟨by (with_reducible repeat (first | refine blk_drewN ?_ _ | refine blk_drew ?_ | refine blk_alloc ?_ _)); exact BK300.out⟩, ⟨bl⟩⟩
 case rest =>
  clear HC4
  try clear p2
  try clear c4
  try clear c7
  try clear c9
  try clear hcz12_0
  try clear hcz12_1
  try clear hcz15_0
  try clear hcz15_1
  try clear hfz12_0
  try clear hfz12_1
  try clear hfz15_0
  try clear hfz15_1
  obtain ⟨kq, x24_3, rfl, HA, HJ3, BK300, HB⟩ := hcut
  cases kq with
  | zero => exact absurd HA.out (by simp [spec_ItineraryOf.j0])
  | succ kj3 =>
   have H := HA.out
   clear HA
   simp only [spec_ItineraryOf.j0] at H
   by_cases c18 : x24_3 = true
   ·subst c18
    have H1 : (some (([] : List Int), false)) = some (r1, r2) := by rw [if_pos rfl] at H; exact H
    clear H
    have H := H1
    clear H1
    simp only [Option.some.injEq, Prod.mk.injEq] at H
    obtain ⟨rfl, rfl⟩ := H
    go_wp2
    go_ret2
    exact ⟨_, rt, by first | exact Kd.R_nil _ _ _ _ _ | exact Kd.N_nil _ _ _ _ _ | exact Kd.V_nil _ _ _ _ _ | exact Kd.Q_nil _ _ _ _ _ | exact Kd.S_nil _ _ _ _ _, bl⟩
   ·replace c18 := Bool.eq_false_iff.mpr c18
    subst c18
    have H1 : ((spec_orRun.f kj3 l0 a1_0 a1_1 (wrap64 (a2 - 1))).bind fun t304 => (if (t304.length : Int) < a2 then (some (([] : List Int), false)) else (spec_ItineraryOf.l0 kj3 l0 ([] : List Int) t304 (t304.length : Int) 0))) = some (r1, r2) := by rw [if_neg (show ¬ (false = true) by decide)] at H; exact H
    clear H
    have H := H1
    clear H1
    replace H := Option.bind_eq_some_iff.mp H
    obtain ⟨t304, A190, H⟩ := H
    replace H : (if (t304.length : Int) < a2 then (some (([] : List Int), false)) else (spec_ItineraryOf.l0 kj3 l0 ([] : List Int) t304 (t304.length : Int) 0)) = some (r1, r2) := H
    have A19 := Aside0.mk A190
    clear A190
    by_cases c20 : (t304.length : Int) < a2
    ·rw [if_pos c20] at H
     have c20b0 : decide ((t304.length : Int) < a2) = true := decide_eq_true c20
     clear c20
     simp only [Option.some.injEq, Prod.mk.injEq] at H
     obtain ⟨rfl, rfl⟩ := H
     obtain ⟨hcz21_0, hcz21_1, hfz21_0, hfz21_1⟩ := b2 BK300
     go_wp2_with (first | ((with_reducible refine gate_callee (f := 69) rfl ?_); refine gl 29 Try.func69 #[.slice A0 l0.length c0, .agg #[.int .i64 a1_0, .int .i64 a1_1], .int .i64 (wrap64 (a2 - 1))] ?_; (with_reducible refine (spec_orRun.calls kj3 _ _ l0 a1_0 a1_1 (wrap64 (a2 - 1)) t304 _ ?side1 ?side2 A19.out).mono ?_); (case side1 => repeat (first | exact (Kd.C_below HR0.out HB.out) | (with_reducible refine Kd.C_alloc ?_ _) | (with_reducible refine Kd.C_drewN ?_ _) | (with_reducible refine Kd.C_drew ?_))); (case side2 => exact HC0.out); rintro e w22 ⟨v305, rfl, ho0, hb⟩; refine ⟨_, rfl, ?_⟩; have HO306 := Aside0.mk (Kd.R_lower (Kd.R_newB ho0 (g := gb300) (o := .cells #[.int .i64 a1_0, .int .i64 a1_1] 28 (0, 0)) (bo gb300)) (below_size bl)); replace BK300 := kb BK300 hb; replace HB := kh hb; (try clear hb); (try clear hb2); (try clear hk); (try clear hi); (try clear ho0); obtain ⟨Ao23, co23, eo23⟩ := Kd.R_slice HO306.out; subst eo23))
     go_ret2
     exact ⟨_, rt, by first | exact Kd.R_nil _ _ _ _ _ | exact Kd.N_nil _ _ _ _ _ | exact Kd.V_nil _ _ _ _ _ | exact Kd.Q_nil _ _ _ _ _ | exact Kd.S_nil _ _ _ _ _, bl⟩
    ·rw [if_neg c20] at H
     have c20b0 : decide ((t304.length : Int) < a2) = false := decide_eq_false c20
     clear c20
     have H' := Aside0.mk H
     clear H
     obtain ⟨hcz24_0, hcz24_1, hfz24_0, hfz24_1⟩ := b2 BK300
     go_wp2_with (first | ((with_reducible refine gate_callee (f := 69) rfl ?_); refine gl 29 Try.func69 #[.slice A0 l0.length c0, .agg #[.int .i64 a1_0, .int .i64 a1_1], .int .i64 (wrap64 (a2 - 1))] ?_; (with_reducible refine (spec_orRun.calls kj3 _ _ l0 a1_0 a1_1 (wrap64 (a2 - 1)) t304 _ ?side1 ?side2 A19.out).mono ?_); (case side1 => repeat (first | exact (Kd.C_below HR0.out HB.out) | (with_reducible refine Kd.C_alloc ?_ _) | (with_reducible refine Kd.C_drewN ?_ _) | (with_reducible refine Kd.C_drew ?_))); (case side2 => exact HC0.out); rintro e w25 ⟨v305, rfl, ho0, hb⟩; refine ⟨_, rfl, ?_⟩; have HO306 := Aside0.mk (Kd.R_lower (Kd.R_newB ho0 (g := gb300) (o := .cells #[.int .i64 a1_0, .int .i64 a1_1] 28 (0, 0)) (bo gb300)) (below_size bl)); replace BK300 := kb BK300 hb; replace HB := kh hb; (try clear hb); (try clear hb2); (try clear hk); (try clear hi); (try clear ho0); obtain ⟨Ao26, co26, eo26⟩ := Kd.R_slice HO306.out; subst eo26))
     go_loopg [9, 36] kj3 (fun kq v9 v36 w' => ∃ (x9_2 : List Int) (x36_2 : Int), v36 = .int .i64 x36_2 ∧ Aside0 (spec_ItineraryOf.l0 kq l0 x9_2 t304 (t304.length : Int) x36_2 = some (r1, r2)) ∧ Aside0 (kq ≤ kj3) ∧ Aside0 (Kd.R (Kd.int .i64) 3 w' w.heap.size (fun _ => True) v9 x9_2) ∧ Aside0 (Kd.R k28 28 w' w.heap.size (fun k_ => k_ ≠ gb300) (.slice Ao26 t304.length co26) t304) ∧ Aside0 (w'.heap[gb300]? = some (.cells #[.int .i64 a1_0, .int .i64 a1_1] 28 (0, 0))) ∧ Aside0 (Below w.heap.size w w'))
     case atStart => exact ⟨(([] : List Int)), (0), rs, H', ⟨Nat.le_refl _⟩, ⟨by first | exact Kd.R_nil _ _ _ _ _ | exact Kd.N_nil _ _ _ _ _ | exact Kd.V_nil _ _ _ _ _ | exact Kd.Q_nil _ _ _ _ _ | exact Kd.S_nil _ _ _ _ _⟩, ⟨by (with_reducible repeat (first | apply Kd.R_alloc | apply Kd.R_drewN | apply Kd.R_drew)); exact Kd.R_mono HO306.out (fun _ hk => hk.2)⟩, ⟨by (with_reducible repeat (first | refine blk_drewN ?_ _ | refine blk_drew ?_ | refine blk_alloc ?_ _)); exact BK300.out⟩, ⟨bl⟩⟩
     case round =>
      clear H'
      try clear c1
      try clear c2
      try clear p2
      try clear c4
      try clear c6
      try clear p6
      try clear c7
      try clear c9
      try clear c18
      try clear c20
      try clear c20b0
      try clear hcz12_0
      try clear hcz12_1
      try clear hcz15_0
      try clear hcz15_1
      try clear hcz21_0
      try clear hcz21_1
      try clear hcz24_0
      try clear hcz24_1
      try clear hfz12_0
      try clear hfz12_1
      try clear hfz15_0
      try clear hfz15_1
      try clear hfz21_0
      try clear hfz21_1
      try clear hfz24_0
      try clear hfz24_1
      try clear p2
      obtain ⟨x9_2, x36_2, rfl, HA, HK2, HO_9, HO_34, BK300, HB⟩ := hrel
      cases gk with
      | zero => exact absurd HA.out (by simp [spec_ItineraryOf.l0])
      | succ k2 =>
       have H := HA.out
       clear HA
       simp only [spec_ItineraryOf.l0] at H
       by_cases c27 : x36_2 < (t304.length : Int)
       ·rw [if_pos c27] at H
        have c27b0 : decide (x36_2 < (t304.length : Int)) = true := decide_eq_true c27
        clear c27
        by_cases c28 : 0 ≤ x36_2
        ·rw [if_pos c28] at H
         have c28b0 : decide (0 ≤ x36_2) = true := decide_eq_true c28
         clear c28
         by_cases c29 : x36_2 < (t304.length : Int)
         ·rw [if_pos c29] at H
          have c29b0 : decide (x36_2 < (t304.length : Int)) = true := decide_eq_true c29
          clear c29
          replace H := Option.bind_eq_some_iff.mp H
          obtain ⟨t309, A300, H⟩ := H
          replace H : (if x9_2.length < 17592186044416 then (spec_ItineraryOf.l0 k2 l0 (x9_2 ++ [t309]) t304 (t304.length : Int) (wrap64 (x36_2 + 1))) else (none)) = some (r1, r2) := H
          have A30 := Aside0.mk A300
          clear A300
          by_cases c31 : x9_2.length < 17592186044416
          ·rw [if_pos c31] at H
           have LMc31 := Aside0.mk c31
           clear c31
           obtain ⟨y310, hy310⟩ : ∃ y_ : List Int, y_ = (x9_2 ++ [t309]) := ⟨_, rfl⟩
           replace H : (spec_ItineraryOf.l0 k2 l0 y310 t304 (t304.length : Int) (wrap64 (x36_2 + 1))) = some (r1, r2) := by first | (rw [hy310]; with_reducible exact H) | (have H2_ := (Option.bind_some _ _).symm.trans H; rw [hy310]; with_reducible exact H2_) | (have H2_ := (Option.bind_some _ _).symm.trans H; with_reducible exact H2_) | with_reducible exact H | (rw [hy310]; exact H) | exact H
           have Ny310 := Aside0.mk hy310
           clear hy310
           have H' := Aside0.mk H
           clear H
           have p307 : 0 ≤ (x36_2 : Int) := da
           have q307 : x36_2 < (t304.length : Int) := da
           obtain ⟨ad307, e307, hx307_0, hx307_1⟩ := at_T28 (Kd.R_reads' HO_34.out).2.2 x36_2 p307 q307
           cases e307
           replace p307 := eq_true p307
           replace q307 := eq_true q307
           go_wp2_with (first | ((with_reducible refine gate_dst (N := 11) rfl ?_); refine bx 11 #[.int .i64 0, .int .i64 0] 28 ?_; intro gb308 hg w32 hbox hb; have BK308 := Aside0.mk (hbox); have GW308 := Aside0.mk (bz hg); have GE308 := GW308; have NB300_308 := Aside0.mk (bn gb300 hg); have NB308_300 := sy NB300_308; replace HO_9 := Aside0.mk (Kd.R_below (by (with_reducible repeat (first | apply Kd.R_alloc | apply Kd.R_drewN | apply Kd.R_drew)); exact HO_9.out) hb); replace HO_34 := Aside0.mk (Kd.R_below (Kd.R_elderB (by (with_reducible repeat (first | apply Kd.R_alloc | apply Kd.R_drewN | apply Kd.R_drew)); exact HO_34.out) gb308 (Nat.le_of_eq hg.symm)) hb); replace BK300 := kb BK300 hb; replace HB := kh hb; clear hb hbox hg; have hnb33 := NB308_300.out; have hnc33 := NB300_308.out; obtain ⟨hcz34_0, hcz34_1, hfz34_0, hfz34_1⟩ := b2 BK308) | ((with_reducible refine gate_callee (f := 80) rfl ?_); refine gl 43 Try.func80 #[.slice A0 l0.length c0, .agg #[.int .i64 ((rd_T28 t304 x36_2).f0), .int .i64 ((rd_T28 t304 x36_2).f1)]] ?_; (with_reducible refine (spec_woAddress.calls k2 _ _ l0 ((rd_T28 t304 x36_2).f0) ((rd_T28 t304 x36_2).f1) t309 _ ?side1 ?side2 A30.out).mono ?_); (case side1 => exact Kd.C_below HR0.out bl); (case side2 => exact HC0.out); rintro e w35 ⟨rfl, hb⟩; refine ⟨_, rfl, ?_⟩; replace HO_9 := Aside0.mk (Kd.R_below (by (with_reducible repeat (first | apply Kd.R_alloc | apply Kd.R_drewN | apply Kd.R_drew)); exact (Kd.R_mono (Kd.R_far (p := ⟨gb308, 1, none⟩) (Kd.R_far (p := ⟨gb308, 0, none⟩) (Kd.R_types HO_9.out BK308.out (by decide)) (fun _ hk => hk.2) (.int .i64 ((rd_T28 t304 x36_2).f0))) (fun _ hk => hk.2) (.int .i64 ((rd_T28 t304 x36_2).f1))) (fun _ h_ => h_.1))) hb); replace HO_34 := Aside0.mk (Kd.R_below (by (with_reducible repeat (first | apply Kd.R_alloc | apply Kd.R_drewN | apply Kd.R_drew)); exact (Kd.R_mono (Kd.R_far (p := ⟨gb308, 1, none⟩) (Kd.R_far (p := ⟨gb308, 0, none⟩) (Kd.R_mono HO_34.out (fun k_ hk => (⟨hk, hk.2⟩ : _ ∧ k_ ≠ gb308))) (fun _ hk => hk.2) (.int .i64 ((rd_T28 t304 x36_2).f0))) (fun _ hk => hk.2) (.int .i64 ((rd_T28 t304 x36_2).f1))) (fun _ h_ => h_.1))) hb); replace BK300 := Aside0.mk (blk_below (g := gb300) (o := .cells #[.int .i64 a1_0, .int .i64 a1_1] 28 (0, 0)) (by (with_reducible repeat (first | refine blk_drewN ?_ _ | refine blk_drew ?_ | refine blk_alloc ?_ _)); refine blk_far ?_ NB300_308.out _; (with_reducible repeat (first | refine blk_drewN ?_ _ | refine blk_drew ?_ | refine blk_alloc ?_ _)); refine blk_far ?_ NB300_308.out _; (with_reducible repeat (first | refine blk_drewN ?_ _ | refine blk_drew ?_ | refine blk_alloc ?_ _)); exact BK300.out) hb); replace BK308 := Aside0.mk (blk_below (g := gb308) (o := .cells #[.int .i64 ((rd_T28 t304 x36_2).f0), .int .i64 ((rd_T28 t304 x36_2).f1)] 28 (0, 0)) (by (with_reducible repeat (first | refine blk_drewN ?_ _ | refine blk_drew ?_ | refine blk_alloc ?_ _)); refine blk_put (cs := #[.int .i64 ((rd_T28 t304 x36_2).f0), .int .i64 0]) ?_ 1 _ rfl; (with_reducible repeat (first | refine blk_drewN ?_ _ | refine blk_drew ?_ | refine blk_alloc ?_ _)); refine blk_put (cs := #[.int .i64 0, .int .i64 0]) ?_ 0 _ rfl; (with_reducible repeat (first | refine blk_drewN ?_ _ | refine blk_drew ?_ | refine blk_alloc ?_ _)); exact BK308.out) hb); replace HB := kh hb; (try clear hb); (try clear hb2); (try clear hk); (try clear hi)) | ((with_reducible refine gate_builtin (b := .append) (xs := #[.tmp 40, .tmp 44]) rfl ?_); at_builtin; refine Kd.R_append (Kd.int .i64) (w0 := w) w.heap.size rfl (.tmp 40) (.tmp 44) 39 3 (.int .i64 0) 8 rfl Try.underlying39 info3 rfl (by decide) (by omega) u9 x9_2 t309 [.int .i64 t309] (fun _ => True) (fun _ => False) rfl rfl ?aP (fun _ hk => hk.elim) ?aF ?aO ?aB ?aS ?aL ?_; (case aP => exact rfl); (case aB => exact bl); (case aF => exact (fun _ _ => trivial)); (case aO => exact (by (with_reducible repeat (first | apply Kd.R_alloc | apply Kd.R_drewN | apply Kd.R_drew)); exact HO_9.out)); (case aS => exact (below_size bl)); (case aL => have := LMc31.out; omega); intro v311 w36 ho hb hg hat; rw [← Ny310.out] at ho; have HO312 := Aside0.mk (ho); replace HO_34 := Aside0.mk (Kd.R_over' (by (with_reducible repeat (first | apply Kd.R_alloc | apply Kd.R_drewN | apply Kd.R_drew)); exact HO_34.out) (Kd.R_typed (by (with_reducible repeat (first | apply Kd.R_alloc | apply Kd.R_drewN | apply Kd.R_drew)); exact HO_9.out)) (by decide) hg); replace BK300 := Aside0.mk (blk_grown (g := gb300) (o := .cells #[.int .i64 a1_0, .int .i64 a1_1] 28 (0, 0)) (bo gb300) hg (Kd.R_ne HO_9.out BK300.out (by decide))); replace BK308 := Aside0.mk (blk_grown (g := gb308) (o := .cells #[.int .i64 ((rd_T28 t304 x36_2).f0), .int .i64 ((rd_T28 t304 x36_2).f1)] 28 (0, 0)) (bo gb308) hg (Kd.R_ne HO_9.out BK308.out (by decide))); replace HB := Aside0.mk (hb); clear HO_9; clear ho hb hg hat))
           go_roundg k2
           case measure => have := HJ3.out; have := HK2.out; omega
           case rel => exact ⟨(y310), (wrap64 (x36_2 + 1)), rs, H', ⟨by have := HJ3.out; have := HK2.out; omega⟩, ⟨by (with_reducible repeat (first | apply Kd.R_alloc | apply Kd.R_drewN | apply Kd.R_drew)); exact HO312.out⟩, ⟨by (with_reducible repeat (first | apply Kd.R_alloc | apply Kd.R_drewN | apply Kd.R_drew)); exact Kd.R_mono HO_34.out (fun _ hk => hk.1)⟩, ⟨by (with_reducible repeat (first | refine blk_drewN ?_ _ | refine blk_drew ?_ | refine blk_alloc ?_ _)); exact BK300.out⟩, ⟨bl⟩⟩
          ·rw [if_neg c31] at H
           exact absurd H (by simp)
         ·rw [if_neg c29] at H
          exact absurd H (by simp)
        ·rw [if_neg c28] at H
         exact absurd H (by simp)
       ·rw [if_neg c27] at H
        have c27b0 : decide (x36_2 < (t304.length : Int)) = false := decide_eq_false c27
        clear c27
        simp only [Option.some.injEq, Prod.mk.injEq] at H
        obtain ⟨rfl, rfl⟩ := H
        go_wp2
        go_ret2
        exact ⟨_, rt, by (with_reducible repeat (first | apply Kd.R_alloc | apply Kd.R_drewN | apply Kd.R_drew)); exact HO_9.out, bl⟩

/-! ### impl_within: function 72 -/
def impl_within.f (a0 : Int) (a1 : Int) (a2 : Int) : Option (Bool) := if a1 ≤ a0 then (some (decide (a0 ≤ a2))) else (some false)
set_option maxHeartbeats 8000000 in
set_option maxRecDepth 100000 in
theorem impl_within.calls (a0 : Int) (a1 : Int) (a2 : Int) (r : Bool) (w : World) (h : impl_within.f a0 a1 a2 = some r) :
  Calls Try.prog 72 #[.int .i64 a0, .int .i64 a1, .int .i64 a2] w fun e w' => e = .returned (.bool r) ∧ Drawn0 w w' := by
 have H : (if a1 ≤ a0 then (some (decide (a0 ≤ a2))) else (some false)) = some r := h
 clear h
 by_cases c4 : a1 ≤ a0
 ·rw [if_pos c4] at H
  have c4b0 : decide (a1 ≤ a0) = true := decide_eq_true c4
  clear c4
  obtain rfl := Option.some.inj H
  go_enter Try.func72, Try.ntmps72
  go_wp2
  go_ret
  exact ⟨rs, by repeat (first | exact Drawn0.refl _ | apply Drawn0.step)⟩
 ·rw [if_neg c4] at H
  have c4b0 : decide (a1 ≤ a0) = false := decide_eq_false c4
  clear c4
  obtain rfl := Option.some.inj H
  go_enter Try.func72, Try.ntmps72
  go_wp2
  go_ret
  exact ⟨rs, by repeat (first | exact Drawn0.refl _ | apply Drawn0.step)⟩

-- NOT PRINTED: function 118 (impl_Point_118)

-- NOT PRINTED: function 87 (impl_Point_87)

/-! ### impl_abs: function 52 -/
def impl_abs.f (a0 : Int) : Option (Int) := if a0 < 0 then (some (wrap64 (-a0))) else (some a0)
set_option maxHeartbeats 8000000 in
set_option maxRecDepth 100000 in
theorem impl_abs.calls (a0 : Int) (r : Int) (w : World) (h : impl_abs.f a0 = some r) :
  Calls Try.prog 52 #[.int .i64 a0] w fun e w' => e = .returned (.int .i64 r) ∧ Drawn0 w w' := by
 have H : (if a0 < 0 then (some (wrap64 (-a0))) else (some a0)) = some r := h
 clear h
 by_cases c2 : a0 < 0
 ·rw [if_pos c2] at H
  have c2b0 : decide (a0 < 0) = true := decide_eq_true c2
  clear c2
  obtain rfl := Option.some.inj H
  go_enter Try.func52, Try.ntmps52
  go_wp2
  go_ret
  exact ⟨rs, by repeat (first | exact Drawn0.refl _ | apply Drawn0.step)⟩
 ·rw [if_neg c2] at H
  have c2b0 : decide (a0 < 0) = false := decide_eq_false c2
  clear c2
  obtain rfl := Option.some.inj H
  go_enter Try.func52, Try.ntmps52
  go_wp2
  go_ret
  exact ⟨rs, by repeat (first | exact Drawn0.refl _ | apply Drawn0.step)⟩

end Go.Proofs.Ytmecnnnagallnaa.PFnExactItineraryOf
