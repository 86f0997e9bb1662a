-- Written by this session's program wip/pp (the kit's print tool with additions) 35421559b90ae4d0a3588c463048766b98c2df88dd9212a6774a882060cdf62d
import Derived.Test.YtmecnnnagallnaaPFnExactLeastSlopex0
import Derived.Test.YtmecnnnagallnaaPFnExactLeastSlopex2
import Derived.Test.YtmecnnnagallnaaPFnExactLeastSlopex3
import Derived.Test.YtmecnnnagallnaaPFnExactLeastSlopex4
import Derived.Test.YtmecnnnagallnaaPFnExactLeastSlopex5
namespace Go.Proofs.Ytmecnnnagallnaa.PFnExactLeastSlope
open Go.RowKit Go.Proofs.YtmecnnnagallnaaW.PrintWords Go.Proofs.YtmecnnnagallnaaW.PrintLast Go.Proofs.YtmecnnnagallnaaW.PrintMore
attribute [local go_sem] max2_int min2_int max_two min_two max_three min_three max_four min_four   -- for this text's walks alone
set_option linter.unusedVariables false
set_option linter.unusedSimpArgs false

/-! ### spec_LeastSlope: function 13 -/
mutual
def spec_LeastSlope.j0 : Nat → List (S68) → Bool → Int → Int → Int → Int → Option (Int × Int × Bool)
 | 0, _, _, _, _, _, _ => none
 | k + 1, x0, x16, x178000, x178001, x178002, x178003 => if x16 = true then (some (0, 0, false)) else ((spec_imSlopes.f k x0).bind fun t182 => (spec_LeastSlope.l0 k x0 t182 (t182.length : Int) 0 x178000 x178001 x178002 x178003 (-1) 1))
def spec_LeastSlope.l0 : Nat → List (S68) → List (S28) → Int → Int → Int → Int → Int → Int → Int → Int → Option (Int × Int × Bool)
 | 0, _, _, _, _, _, _, _, _, _, _ => none
 | k + 1, x0, x20, x21, x22, x178000, x178001, x178002, x178003, x182000, x182001 => if x22 < x21 then (if 0 ≤ x22 then (if x22 < (x20.length : Int) then (if 0 ≤ (wrap64 (x22 + 1)) then (if (wrap64 (x22 + 1)) < (x0.length : Int) then ((spec_raCmp.f ((rd_T68 x0 (wrap64 (x22 + 1))).f0.f0) ((rd_T68 x0 (wrap64 (x22 + 1))).f0.f1) x178000 x178001).bind fun t188 => (if t188 ≤ 0 then (spec_LeastSlope.j2 k x0 x20 x21 x22 true x178000 x178001 x178002 x178003 x182000 x182001 ((rd_T28 x20 x22).f0) ((rd_T28 x20 x22).f1)) else (if x22 < (x0.length : Int) then ((spec_raCmp.f x178002 x178003 ((rd_T68 x0 x22).f0.f0) ((rd_T68 x0 x22).f0.f1)).bind fun t190 => (spec_LeastSlope.j2 k x0 x20 x21 x22 (decide (t190 ≤ 0)) x178000 x178001 x178002 x178003 x182000 x182001 ((rd_T28 x20 x22).f0) ((rd_T28 x20 x22).f1))) else (none)))) else (none)) else (none)) else (none)) else (none)) else (some (x182000, x182001, true))
def spec_LeastSlope.j2 : Nat → List (S68) → List (S28) → Int → Int → Bool → Int → Int → Int → Int → Int → Int → Int → Int → Option (Int × Int × Bool)
 | 0, _, _, _, _, _, _, _, _, _, _, _, _, _ => none
 | k + 1, x0, x20, x21, x22, x47, x178000, x178001, x178002, x178003, x182000, x182001, x187000, x187001 => if x47 = true then (spec_LeastSlope.l0 k x0 x20 x21 (wrap64 (x22 + 1)) x178000 x178001 x178002 x178003 x182000 x182001) else ((spec_l1Abs.f x187000).bind fun t191 => (if x182000 < 0 then (spec_LeastSlope.l0 k x0 x20 x21 (wrap64 (x22 + 1)) x178000 x178001 x178002 x178003 t191 x187001) else ((spec_raCmp.f t191 x187001 x182000 x182001).bind fun t192 => (if t192 < 0 then (spec_LeastSlope.l0 k x0 x20 x21 (wrap64 (x22 + 1)) x178000 x178001 x178002 x178003 t191 x187001) else (spec_LeastSlope.l0 k x0 x20 x21 (wrap64 (x22 + 1)) x178000 x178001 x178002 x178003 x182000 x182001)))))
end
def spec_LeastSlope.f (k : Nat) (l0 : List (S68)) (a1_0 : Int) (a1_1 : Int) (a1_2 : Int) (a1_3 : Int) : Option (Int × Int × Bool) := (spec_imGood.f k l0).bind fun t179 => (if t179 = true then ((spec_ivGood.f k a1_0 a1_1 a1_2 a1_3).bind fun t180 => (spec_LeastSlope.j0 k l0 (!t180) a1_0 a1_1 a1_2 a1_3)) else (spec_LeastSlope.j0 k l0 true a1_0 a1_1 a1_2 a1_3))
def spec_LeastSlope.T7 : Bool × List (List Nat × List Nat) := (true, [([], []), ([], []), ([1], [1]), ([0, 2], [0, 2]), ([3], [3]), ([4], [4]), ([], []), ([6], [6]), ([5, 7], [5, 7]), ([8], [8]), ([9, 8], [9]), ([10], [10]), ([11, 10], [10, 11]), ([10], [10]), ([10], [10]), ([13, 14, 10], [10, 13, 14]), ([15, 10], [10, 15]), ([16, 10], [10, 16]), ([12, 17, 10, 10], [10, 12, 17]), ([18, 10], [10, 18]), ([10, 19], [10, 19])])
def spec_LeastSlope.B7 : List Nat := [0, 0, 2, 7, 15, 31, 0, 64, 255, 511, 1023, 2047, 4095, 2047, 2047, 26623, 59391, 124927, 262143, 524287, 1048575]
theorem spec_LeastSlope.tab7 : rtab .any (opsOf Try.f13 7) = spec_LeastSlope.T7 := by kernel_rfl
theorem spec_LeastSlope.bits7 : waitsOk spec_LeastSlope.T7.2 spec_LeastSlope.B7 = true := by kernel_rfl
set_option maxHeartbeats 8000000 in
set_option maxRecDepth 100000 in
theorem spec_LeastSlope.calls (k : Nat) (A0 : Option Addr) (c0 : Nat) (l0 : List (S68)) (a1_0 : Int) (a1_1 : Int) (a1_2 : Int) (a1_3 : Int) (r1 : Int) (r2 : Int) (r3 : Bool) (w : World) (hr0 : Kd.C k68 w A0 l0.length l0) (hc0 : l0.length ≤ c0) (h : spec_LeastSlope.f k l0 a1_0 a1_1 a1_2 a1_3 = some (r1, r2, r3)) :
  Calls Try.prog 13 #[.slice A0 l0.length c0, .agg #[.int .i64 a1_0, .int .i64 a1_1, .int .i64 a1_2, .int .i64 a1_3]] w fun e w' => e = .returned (.tuple #[.agg #[.int .i64 r1, .int .i64 r2], .bool r3]) ∧ Below w.heap.size w w' := by
 have hu34 := Try.underlying34
 have hu28 := Try.underlying28
 have HR0 := Aside0.mk hr0
 have HC0 := Aside0.mk hc0
 clear hr0 hc0
 have HB := Aside0.mk (Below.refl w.heap.size w)
 have H : ((spec_imGood.f k l0).bind fun t179 => (if t179 = true then ((spec_ivGood.f k a1_0 a1_1 a1_2 a1_3).bind fun t180 => (spec_LeastSlope.j0 k l0 (!t180) a1_0 a1_1 a1_2 a1_3)) else (spec_LeastSlope.j0 k l0 true a1_0 a1_1 a1_2 a1_3))) = some (r1, r2, r3) := h
 clear h
 have HC3 := Aside0.mk H
 clear H
 go_enter Try.func13, Try.ntmps13
 go_upto_region 1 with (first | ((with_reducible refine gate_dst (N := 3) rfl ?_); refine bx 3 #[.int .i64 a1_0, .int .i64 a1_1, .int .i64 a1_2, .int .i64 a1_3] 34 ?_; intro gb177 hg w4 hbox hb; have BK177 := Aside0.mk (hbox); have GW177 := Aside0.mk (bz hg); have GE177 := GW177; replace HB := Aside0.mk (bs hb); clear hb hbox hg) | ((with_reducible refine gate_dst (N := 4) rfl ?_); refine bx 4 #[.int .i64 0, .int .i64 0] 28 ?_; intro gb178 hg w5 hbox hb; have BK178 := Aside0.mk (hbox); have GW178 := Aside0.mk (bz hg); have GE178 := GW178; have NB177_178 := Aside0.mk (bn gb177 hg); have NB178_177 := Aside0.mk NB177_178.out.symm; replace BK177 := Aside0.mk (bb gb177 hb); replace HB := Aside0.mk (bs hb); clear hb hbox hg))
 (try simp only [Act.put, List.setIfInBounds_toArray, List.set_cons_zero, List.set_cons_succ])
 go_cut [16] (fun v16 wc => ∃ (kq : Nat) (x16_2 : Bool), v16 = .bool x16_2 ∧ Aside0 (spec_LeastSlope.j0 kq l0 x16_2 a1_0 a1_1 a1_2 a1_3 = some (r1, r2, r3)) ∧ Aside0 (kq ≤ k) ∧ Aside0 (wc.heap[gb177]? = some (.cells #[.int .i64 a1_0, .int .i64 a1_1, .int .i64 a1_2, .int .i64 a1_3] 34 (0, 0))) ∧ Aside0 (wc.heap[gb178]? = some (.cells #[.int .i64 0, .int .i64 0] 28 (0, 0))) ∧ Aside0 (Below w.heap.size w wc))
 case first =>
  have H := HC3.out
  clear HC3
  replace H := Option.bind_eq_some_iff.mp H
  obtain ⟨t179, A60, H⟩ := H
  replace H : (if t179 = true then ((spec_ivGood.f k a1_0 a1_1 a1_2 a1_3).bind fun t180 => (spec_LeastSlope.j0 k l0 (!t180) a1_0 a1_1 a1_2 a1_3)) else (spec_LeastSlope.j0 k l0 true a1_0 a1_1 a1_2 a1_3)) = some (r1, r2, r3) := H
  have A6 := Aside0.mk A60
  clear A60
  by_cases c7 : t179 = true
  ·subst c7
   have H1 : ((spec_ivGood.f k a1_0 a1_1 a1_2 a1_3).bind fun t180 => (spec_LeastSlope.j0 k l0 (!t180) a1_0 a1_1 a1_2 a1_3)) = some (r1, r2, r3) := by rw [if_pos rfl] at H; exact H
   clear H
   have H := H1
   clear H1
   replace H := Option.bind_eq_some_iff.mp H
   obtain ⟨t180, A80, H⟩ := H
   replace H : (spec_LeastSlope.j0 k l0 (!t180) a1_0 a1_1 a1_2 a1_3) = some (r1, r2, r3) := H
   have A8 := Aside0.mk A80
   clear A80
   have H' := Aside0.mk H
   clear H
   go_wp2_with (first | ((with_reducible refine gate_callee (f := 42) rfl ?_); refine gl 10 Try.func42 #[.slice A0 l0.length c0] ?_; (with_reducible refine (spec_imGood.calls k _ _ l0 true _ ?side1 ?side2 A6.out).mono ?_); (case side1 => repeat (first | exact (Kd.C_below HR0.out HB.out) | (with_reducible refine Kd.C_alloc ?_ _) | (with_reducible refine Kd.C_drewN ?_ _) | (with_reducible refine Kd.C_drew ?_))); (case side2 => exact HC0.out); rintro e w9 ⟨rfl, hb⟩; refine ⟨_, rfl, ?_⟩; replace BK177 := Aside0.mk (bb gb177 hb); replace BK178 := Aside0.mk (bb gb178 hb); replace HB := Aside0.mk (bs hb); (try clear hb); (try clear hb2); (try clear hk); (try clear hi); have hnb10 := NB177_178.out; have hnc10 := NB178_177.out; have hcz11_0 : w9.cell? ⟨gb177, 0, none⟩ = some (.int .i64 a1_0) := (blk_cell BK177.out 0).trans rfl; have hcz11_1 : w9.cell? ⟨gb177, 1, none⟩ = some (.int .i64 a1_1) := (blk_cell BK177.out 1).trans rfl; have hcz11_2 : w9.cell? ⟨gb177, 2, none⟩ = some (.int .i64 a1_2) := (blk_cell BK177.out 2).trans rfl; have hcz11_3 : w9.cell? ⟨gb177, 3, none⟩ = some (.int .i64 a1_3) := (blk_cell BK177.out 3).trans rfl; have hfz11_0 := blk_frozen BK177.out 0; have hfz11_1 := blk_frozen BK177.out 1; have hfz11_2 := blk_frozen BK177.out 2; have hfz11_3 := blk_frozen BK177.out 3) | (go_at_call 43; (with_reducible refine (spec_ivGood.calls k a1_0 a1_1 a1_2 a1_3 t180 _ A8.out).mono ?_); rintro e w12 ⟨rfl, hb⟩; replace BK177 := Aside0.mk (bb gb177 hb); replace BK178 := Aside0.mk (bb gb178 hb); replace HB := Aside0.mk (bs hb); (try clear hb); (try clear hb2); (try clear hk); (try clear hi)))
   go_meet
   case rel => exact ⟨_, (!t180), (by first | rfl | (simp; done) | (simp [*]; done)), H', ⟨by first | omega | exact Nat.le_refl _⟩, ⟨by (with_reducible repeat (first | refine blk_drewN ?_ _ | refine blk_drew ?_ | refine blk_alloc ?_ _)); exact BK177.out⟩, ⟨by (with_reducible repeat (first | refine blk_drewN ?_ _ | refine blk_drew ?_ | refine blk_alloc ?_ _)); exact BK178.out⟩, ⟨bl⟩⟩
  ·replace c7 := Bool.eq_false_iff.mpr c7
   subst c7
   have H1 : (spec_LeastSlope.j0 k l0 true a1_0 a1_1 a1_2 a1_3) = some (r1, r2, r3) := by rw [if_neg (show ¬ (false = true) by decide)] at H; exact H
   clear H
   have H := H1
   clear H1
   have H' := Aside0.mk H
   clear H
   go_wp2_with (first | ((with_reducible refine gate_callee (f := 42) rfl ?_); refine gl 10 Try.func42 #[.slice A0 l0.length c0] ?_; (with_reducible refine (spec_imGood.calls k _ _ l0 false _ ?side1 ?side2 A6.out).mono ?_); (case side1 => repeat (first | exact (Kd.C_below HR0.out HB.out) | (with_reducible refine Kd.C_alloc ?_ _) | (with_reducible refine Kd.C_drewN ?_ _) | (with_reducible refine Kd.C_drew ?_))); (case side2 => exact HC0.out); rintro e w13 ⟨rfl, hb⟩; refine ⟨_, rfl, ?_⟩; replace BK177 := Aside0.mk (bb gb177 hb); replace BK178 := Aside0.mk (bb gb178 hb); replace HB := Aside0.mk (bs hb); (try clear hb); (try clear hb2); (try clear hk); (try clear hi)))
   go_meet
   case rel => exact ⟨_, (true), (by first | rfl | (simp; done) | (simp [*]; done)), H', ⟨by first | omega | exact Nat.le_refl _⟩, ⟨by (with_reducible repeat (first | refine blk_drewN ?_ _ | refine blk_drew ?_ | refine blk_alloc ?_ _)); exact BK177.out⟩, ⟨by (with_reducible repeat (first | refine blk_drewN ?_ _ | refine blk_drew ?_ | refine blk_alloc ?_ _)); exact BK178.out⟩, ⟨bl⟩⟩
 case rest =>
  clear HC3
  try clear c1
  try clear p2
  try clear c4
  try clear c7
  try clear c10
  try clear c13
  try clear hcz11_0
  try clear hcz11_1
  try clear hcz11_2
  try clear hcz11_3
  try clear hfz11_0
  try clear hfz11_1
  try clear hfz11_2
  try clear hfz11_3
  obtain ⟨kq, x16_2, rfl, HA, HJ2, BK177, BK178, HB⟩ := hcut
  cases kq with
  | zero => exact absurd HA.out (by simp [spec_LeastSlope.j0])
  | succ kj2 =>
   have H := HA.out
   clear HA
   simp only [spec_LeastSlope.j0] at H
   by_cases c14 : x16_2 = true
   ·subst c14
    have H1 : (some (0, 0, false)) = some (r1, r2, r3) := by rw [if_pos rfl] at H; exact H
    clear H
    have H := H1
    clear H1
    simp only [Option.some.injEq, Prod.mk.injEq] at H
    obtain ⟨rfl, rfl, rfl⟩ := H
    have hnb15 := NB178_177.out
    have hnc15 := NB177_178.out
    have hcz16_0 : wc.cell? ⟨gb178, 0, none⟩ = some (.int .i64 0) := (blk_cell BK178.out 0).trans rfl
    have hcz16_1 : wc.cell? ⟨gb178, 1, none⟩ = some (.int .i64 0) := (blk_cell BK178.out 1).trans rfl
    have hfz16_0 := blk_frozen BK178.out 0
    have hfz16_1 := blk_frozen BK178.out 1
    go_wp2
    refine bodyPost_ret (results_ct rfl _ _ gb178 28 #[.int .i64 0, .int .i64 0] (0, 0) _ rfl (by (with_reducible repeat (first | refine blk_drewN ?_ _ | refine blk_drew ?_ | refine blk_alloc ?_ _)); refine blk_put (cs := #[.int .i64 0, .int .i64 0]) ?_ 1 _ rfl; (with_reducible repeat (first | refine blk_drewN ?_ _ | refine blk_drew ?_ | refine blk_alloc ?_ _)); refine blk_put (cs := #[.int .i64 0, .int .i64 0]) ?_ 0 _ rfl; (with_reducible repeat (first | refine blk_drewN ?_ _ | refine blk_drew ?_ | refine blk_alloc ?_ _)); exact BK178.out) Try.underlying28 rfl (by kernel_rfl)) rfl ?_
    exact ⟨by first | rfl | (simp [errW_none, errW_some] <;> rfl) | (simp [*, errW_none, errW_some] <;> rfl), bl⟩
   ·replace c14 := Bool.eq_false_iff.mpr c14
    subst c14
    have H1 : ((spec_imSlopes.f kj2 l0).bind fun t182 => (spec_LeastSlope.l0 kj2 l0 t182 (t182.length : Int) 0 a1_0 a1_1 a1_2 a1_3 (-1) 1)) = some (r1, r2, r3) := by rw [if_neg (show ¬ (false = true) by decide)] at H; exact H
    clear H
    have H := H1
    clear H1
    replace H := Option.bind_eq_some_iff.mp H
    obtain ⟨t182, A170, H⟩ := H
    replace H : (spec_LeastSlope.l0 kj2 l0 t182 (t182.length : Int) 0 a1_0 a1_1 a1_2 a1_3 (-1) 1) = some (r1, r2, r3) := H
    have A17 := Aside0.mk A170
    clear A170
    have H' := Aside0.mk H
    clear H
    go_wp2_with (first | ((with_reducible refine gate_dst (N := 6) rfl ?_); refine bx 6 #[.int .i64 0, .int .i64 0] 28 ?_; intro gb181 hg w18 hbox hb; have BK181 := Aside0.mk (hbox); have GW181 := Aside0.mk (bz hg); have GE181 := GW181; have NB177_181 := Aside0.mk (bn gb177 hg); have NB181_177 := Aside0.mk NB177_181.out.symm; have NB178_181 := Aside0.mk (bn gb178 hg); have NB181_178 := Aside0.mk NB178_181.out.symm; replace BK177 := Aside0.mk (bb gb177 hb); replace BK178 := Aside0.mk (bb gb178 hb); replace HB := Aside0.mk (bs hb); clear hb hbox hg; have hnb19 := NB181_177.out; have hnc19 := NB177_181.out; have hnb20 := NB181_178.out; have hnc20 := NB178_181.out; have hcz21_0 : w18.cell? ⟨gb181, 0, none⟩ = some (.int .i64 0) := (blk_cell BK181.out 0).trans rfl; have hcz21_1 : w18.cell? ⟨gb181, 1, none⟩ = some (.int .i64 0) := (blk_cell BK181.out 1).trans rfl; have hfz21_0 := blk_frozen BK181.out 0; have hfz21_1 := blk_frozen BK181.out 1) | ((with_reducible refine gate_callee (f := 44) rfl ?_); refine gl 20 Try.func44 #[.slice A0 l0.length c0] ?_; (with_reducible refine (spec_imSlopes.calls kj2 _ _ l0 t182 _ ?side1 ?side2 A17.out).mono ?_); (case side1 => exact Kd.C_below HR0.out bl); (case side2 => exact HC0.out); rintro e w22 ⟨v183, rfl, ho0, hb⟩; refine ⟨_, rfl, ?_⟩; have HO184 := Aside0.mk (Kd.R_lower (Kd.R_newB (Kd.R_newB ho0 (g := gb178) (o := .cells #[.int .i64 0, .int .i64 0] 28 (0, 0)) (by (with_reducible repeat (first | refine blk_drewN ?_ _ | refine blk_drew ?_ | refine blk_alloc ?_ _)); refine blk_far ?_ NB178_181.out _; (with_reducible repeat (first | refine blk_drewN ?_ _ | refine blk_drew ?_ | refine blk_alloc ?_ _)); refine blk_far ?_ NB178_181.out _; (with_reducible repeat (first | refine blk_drewN ?_ _ | refine blk_drew ?_ | refine blk_alloc ?_ _)); exact BK178.out)) (g := gb181) (o := .cells #[.int .i64 (-1), .int .i64 1] 28 (0, 0)) (by (with_reducible repeat (first | refine blk_drewN ?_ _ | refine blk_drew ?_ | refine blk_alloc ?_ _)); refine blk_put (cs := #[.int .i64 (-1), .int .i64 0]) ?_ 1 _ rfl; (with_reducible repeat (first | refine blk_drewN ?_ _ | refine blk_drew ?_ | refine blk_alloc ?_ _)); refine blk_put (cs := #[.int .i64 0, .int .i64 0]) ?_ 0 _ rfl; (with_reducible repeat (first | refine blk_drewN ?_ _ | refine blk_drew ?_ | refine blk_alloc ?_ _)); exact BK181.out)) (below_size bl)); replace BK177 := Aside0.mk (blk_below (g := gb177) (o := .cells #[.int .i64 a1_0, .int .i64 a1_1, .int .i64 a1_2, .int .i64 a1_3] 34 (0, 0)) (by (with_reducible repeat (first | refine blk_drewN ?_ _ | refine blk_drew ?_ | refine blk_alloc ?_ _)); refine blk_far ?_ NB177_181.out _; (with_reducible repeat (first | refine blk_drewN ?_ _ | refine blk_drew ?_ | refine blk_alloc ?_ _)); refine blk_far ?_ NB177_181.out _; (with_reducible repeat (first | refine blk_drewN ?_ _ | refine blk_drew ?_ | refine blk_alloc ?_ _)); exact BK177.out) hb); replace BK178 := Aside0.mk (blk_below (g := gb178) (o := .cells #[.int .i64 0, .int .i64 0] 28 (0, 0)) (by (with_reducible repeat (first | refine blk_drewN ?_ _ | refine blk_drew ?_ | refine blk_alloc ?_ _)); refine blk_far ?_ NB178_181.out _; (with_reducible repeat (first | refine blk_drewN ?_ _ | refine blk_drew ?_ | refine blk_alloc ?_ _)); refine blk_far ?_ NB178_181.out _; (with_reducible repeat (first | refine blk_drewN ?_ _ | refine blk_drew ?_ | refine blk_alloc ?_ _)); exact BK178.out) hb); replace BK181 := Aside0.mk (blk_below (g := gb181) (o := .cells #[.int .i64 (-1), .int .i64 1] 28 (0, 0)) (by (with_reducible repeat (first | refine blk_drewN ?_ _ | refine blk_drew ?_ | refine blk_alloc ?_ _)); refine blk_put (cs := #[.int .i64 (-1), .int .i64 0]) ?_ 1 _ rfl; (with_reducible repeat (first | refine blk_drewN ?_ _ | refine blk_drew ?_ | refine blk_alloc ?_ _)); refine blk_put (cs := #[.int .i64 0, .int .i64 0]) ?_ 0 _ rfl; (with_reducible repeat (first | refine blk_drewN ?_ _ | refine blk_drew ?_ | refine blk_alloc ?_ _)); exact BK181.out) hb); replace HB := Aside0.mk (bs hb); (try clear hb); (try clear hb2); (try clear hk); (try clear hi); (try clear ho0); obtain ⟨Ao23, co23, eo23⟩ := Kd.R_slice HO184.out; subst eo23))
    go_loopg [22] kj2 (fun kq v22 w' => ∃ (x22_2 : Int) (x182000_2 : Int) (x182001_2 : Int), v22 = .int .i64 x22_2 ∧ Aside0 (spec_LeastSlope.l0 kq l0 t182 (t182.length : Int) x22_2 a1_0 a1_1 a1_2 a1_3 x182000_2 x182001_2 = some (r1, r2, r3)) ∧ Aside0 (kq ≤ kj2) ∧ Aside0 (Kd.R k28 28 w' w.heap.size (fun k_ => k_ ≠ gb178 ∧ k_ ≠ gb181) (.slice Ao23 t182.length co23) t182) ∧ Aside0 (w'.heap[gb177]? = some (.cells #[.int .i64 a1_0, .int .i64 a1_1, .int .i64 a1_2, .int .i64 a1_3] 34 (0, 0))) ∧ Aside0 (w'.heap[gb178]? = some (.cells #[.int .i64 0, .int .i64 0] 28 (0, 0))) ∧ Aside0 (w'.heap[gb181]? = some (.cells #[.int .i64 x182000_2, .int .i64 x182001_2] 28 (0, 0))) ∧ Aside0 (Below w.heap.size w w'))
    case atStart => exact ⟨(0), ((-1)), (1), (by first | rfl | (simp; done) | (simp [*]; done)), H', ⟨Nat.le_refl _⟩, ⟨by (with_reducible repeat (first | apply Kd.R_alloc | apply Kd.R_drewN | apply Kd.R_drew)); exact Kd.R_mono HO184.out (fun _ hk => ⟨hk.1.2, hk.2⟩)⟩, ⟨by (with_reducible repeat (first | refine blk_drewN ?_ _ | refine blk_drew ?_ | refine blk_alloc ?_ _)); exact BK177.out⟩, ⟨by (with_reducible repeat (first | refine blk_drewN ?_ _ | refine blk_drew ?_ | refine blk_alloc ?_ _)); exact BK178.out⟩, ⟨by (with_reducible repeat (first | refine blk_drewN ?_ _ | refine blk_drew ?_ | refine blk_alloc ?_ _)); exact BK181.out⟩, ⟨bl⟩⟩
    case round =>
     clear H'
     try clear c1
     try clear c2
     try clear p2
     try clear c4
     try clear c7
     try clear c10
     try clear c13
     try clear c14
     try clear c15
     try clear c19
     try clear c20
     try clear hcz11_0
     try clear hcz11_1
     try clear hcz11_2
     try clear hcz11_3
     try clear hcz16_0
     try clear hcz16_1
     try clear hcz21_0
     try clear hcz21_1
     try clear hfz11_0
     try clear hfz11_1
     try clear hfz11_2
     try clear hfz11_3
     try clear hfz16_0
     try clear hfz16_1
     try clear hfz21_0
     try clear hfz21_1
     try clear p2
     obtain ⟨x22_2, x182000_2, x182001_2, rfl, HA, HK2, HO_20, BK177, BK178, BK181, HB⟩ := hrel
     cases gk with
     | zero => exact absurd HA.out (by simp [spec_LeastSlope.l0])
     | succ k2 =>
      have H := HA.out
      clear HA
      simp only [spec_LeastSlope.l0] at H
      by_cases c24 : x22_2 < (t182.length : Int)
      ·rw [if_pos c24] at H
       have c24b0 : decide (x22_2 < (t182.length : Int)) = true := decide_eq_true c24
       clear c24
       by_cases c25 : 0 ≤ x22_2
       ·rw [if_pos c25] at H
        have c25b0 : decide (0 ≤ x22_2) = true := decide_eq_true c25
        clear c25
        by_cases c26 : x22_2 < (t182.length : Int)
        ·rw [if_pos c26] at H
         have c26b0 : decide (x22_2 < (t182.length : Int)) = true := decide_eq_true c26
         clear c26
         have HC27 := Aside0.mk H
         clear H
         have p185 : 0 ≤ (x22_2 : Int) := da
         have q185 : x22_2 < (t182.length : Int) := da
         obtain ⟨ad185, e185, hx185_0, hx185_1⟩ := at_T28 (Kd.R_reads' HO_20.out).2.2 x22_2 p185 q185
         cases e185
         replace p185 := eq_true p185
         replace q185 := eq_true q185
         go_upto_region 7 with (first | ((with_reducible refine gate_dst (N := 8) rfl ?_); refine bx 8 #[.int .i64 0, .int .i64 0] 28 ?_; intro gb186 hg w28 hbox hb; have BK186 := Aside0.mk (hbox); have GW186 := Aside0.mk (bz hg); have GE186 := GW186; have NB177_186 := Aside0.mk (bn gb177 hg); have NB186_177 := Aside0.mk NB177_186.out.symm; have NB178_186 := Aside0.mk (bn gb178 hg); have NB186_178 := Aside0.mk NB178_186.out.symm; have NB181_186 := Aside0.mk (bn gb181 hg); have NB186_181 := Aside0.mk NB181_186.out.symm; replace HO_20 := Aside0.mk (Kd.R_below (Kd.R_elderB (by (with_reducible repeat (first | apply Kd.R_alloc | apply Kd.R_drewN | apply Kd.R_drew)); exact HO_20.out) gb186 (Nat.le_of_eq hg.symm)) hb); replace BK177 := Aside0.mk (bb gb177 hb); replace BK178 := Aside0.mk (bb gb178 hb); replace BK181 := Aside0.mk (bb gb181 hb); replace HB := Aside0.mk (bs hb); clear hb hbox hg; have hnb29 := NB186_177.out; have hnc29 := NB177_186.out; have hnb30 := NB186_178.out; have hnc30 := NB178_186.out; have hnb31 := NB186_181.out; have hnc31 := NB181_186.out; have hcz32_0 : w28.cell? ⟨gb186, 0, none⟩ = some (.int .i64 0) := (blk_cell BK186.out 0).trans rfl; have hcz32_1 : w28.cell? ⟨gb186, 1, none⟩ = some (.int .i64 0) := (blk_cell BK186.out 1).trans rfl; have hfz32_0 := blk_frozen BK186.out 0; have hfz32_1 := blk_frozen BK186.out 1))
         (try simp only [Act.put, List.setIfInBounds_toArray, List.set_cons_zero, List.set_cons_succ])
         go_cut [47] (fun v47 wc => ∃ (kq : Nat) (x47_26 : Bool), v47 = .bool x47_26 ∧ Aside0 (spec_LeastSlope.j2 kq l0 t182 (t182.length : Int) x22_2 x47_26 a1_0 a1_1 a1_2 a1_3 x182000_2 x182001_2 ((rd_T28 t182 x22_2).f0) ((rd_T28 t182 x22_2).f1) = some (r1, r2, r3)) ∧ Aside0 (kq ≤ k2) ∧ Aside0 (Kd.R k28 28 wc w.heap.size (fun k_ => k_ ≠ gb178 ∧ k_ ≠ gb181 ∧ k_ ≠ gb186) (.slice (some ad185) t182.length co23) t182) ∧ Aside0 (wc.heap[gb177]? = some (.cells #[.int .i64 a1_0, .int .i64 a1_1, .int .i64 a1_2, .int .i64 a1_3] 34 (0, 0))) ∧ Aside0 (wc.heap[gb178]? = some (.cells #[.int .i64 0, .int .i64 0] 28 (0, 0))) ∧ Aside0 (wc.heap[gb181]? = some (.cells #[.int .i64 x182000_2, .int .i64 x182001_2] 28 (0, 0))) ∧ Aside0 (wc.heap[gb186]? = some (.cells #[.int .i64 ((rd_T28 t182 x22_2).f0), .int .i64 ((rd_T28 t182 x22_2).f1)] 28 (0, 0))) ∧ Aside0 (Below w.heap.size w wc))
         case first =>
          have H := HC27.out
          clear HC27
          obtain ⟨ji33, hji33⟩ : ∃ j_ : Int, (wrap64 (x22_2 + 1)) = j_ := ⟨_, rfl⟩
          replace H : (if 0 ≤ (ji33) then (if (ji33) < (l0.length : Int) then ((spec_raCmp.f ((rd_T68 l0 (ji33)).f0.f0) ((rd_T68 l0 (ji33)).f0.f1) a1_0 a1_1).bind fun t188 => (if t188 ≤ 0 then (spec_LeastSlope.j2 k2 l0 t182 (t182.length : Int) x22_2 true a1_0 a1_1 a1_2 a1_3 x182000_2 x182001_2 ((rd_T28 t182 x22_2).f0) ((rd_T28 t182 x22_2).f1)) else (if x22_2 < (l0.length : Int) then ((spec_raCmp.f a1_2 a1_3 ((rd_T68 l0 x22_2).f0.f0) ((rd_T68 l0 x22_2).f0.f1)).bind fun t190 => (spec_LeastSlope.j2 k2 l0 t182 (t182.length : Int) x22_2 (decide (t190 ≤ 0)) a1_0 a1_1 a1_2 a1_3 x182000_2 x182001_2 ((rd_T28 t182 x22_2).f0) ((rd_T28 t182 x22_2).f1))) else (none)))) else (none)) else (none)) = some (r1, r2, r3) := by first | (rw [hji33] at H; exact H) | (simp only [hji33] at H ⊢; exact H)
          have hji33w : (IntKind.i64.wrap (x22_2 + 1)) = ji33 := (i64_w _).trans hji33
          by_cases c34 : 0 ≤ (ji33)
          ·rw [if_pos c34] at H
           have c34b0 : decide (0 ≤ (ji33)) = true := decide_eq_true c34
           clear c34
           (first | rw [c34b0] | (simp only [i64_w, i32_w]; rw [c34b0]) | skip)
           by_cases c35 : (ji33) < (l0.length : Int)
           ·rw [if_pos c35] at H
            have c35b0 : decide ((ji33) < (l0.length : Int)) = true := decide_eq_true c35
            clear c35
            replace H := Option.bind_eq_some_iff.mp H
            obtain ⟨t188, A360, H⟩ := H
            replace H : (if t188 ≤ 0 then (spec_LeastSlope.j2 k2 l0 t182 (t182.length : Int) x22_2 true a1_0 a1_1 a1_2 a1_3 x182000_2 x182001_2 ((rd_T28 t182 x22_2).f0) ((rd_T28 t182 x22_2).f1)) else (if x22_2 < (l0.length : Int) then ((spec_raCmp.f a1_2 a1_3 ((rd_T68 l0 x22_2).f0.f0) ((rd_T68 l0 x22_2).f0.f1)).bind fun t190 => (spec_LeastSlope.j2 k2 l0 t182 (t182.length : Int) x22_2 (decide (t190 ≤ 0)) a1_0 a1_1 a1_2 a1_3 x182000_2 x182001_2 ((rd_T28 t182 x22_2).f0) ((rd_T28 t182 x22_2).f1))) else (none))) = some (r1, r2, r3) := H
            have A36 := Aside0.mk A360
            clear A360
            by_cases c37 : t188 ≤ 0
            ·rw [if_pos c37] at H
             have c37b0 : decide (t188 ≤ 0) = true := decide_eq_true c37
             clear c37
             have H' := Aside0.mk H
             clear H
             try go_wp2
             have n0_ : Aside0 (Kd.R k28 28 ((w28.setCell ⟨gb186, 0, none⟩ (.int .i64 ((rd_T28 t182 x22_2).f0))).setCell ⟨gb186, 1, none⟩ (.int .i64 ((rd_T28 t182 x22_2).f1))) w.heap.size (fun k_ => k_ ≠ gb178 ∧ k_ ≠ gb181 ∧ k_ ≠ gb186) (.slice (some ad185) t182.length co23) t182) := ⟨by (with_reducible repeat (first | apply Kd.R_alloc | apply Kd.R_drewN | apply Kd.R_drew)); exact Kd.R_mono (Kd.R_far (p := ⟨gb186, 1, none⟩) (Kd.R_far (p := ⟨gb186, 0, none⟩) (Kd.R_mono HO_20.out (fun k_ hk => (⟨hk, hk.2⟩ : _ ∧ k_ ≠ gb186))) (fun _ hk => hk.2) (.int .i64 ((rd_T28 t182 x22_2).f0))) (fun _ hk => hk.2) (.int .i64 ((rd_T28 t182 x22_2).f1))) (fun _ hk => ⟨hk.1.1.1, ⟨hk.1.1.2, hk.1.2⟩⟩)⟩
             have n1_ : Aside0 (((w28.setCell ⟨gb186, 0, none⟩ (.int .i64 ((rd_T28 t182 x22_2).f0))).setCell ⟨gb186, 1, none⟩ (.int .i64 ((rd_T28 t182 x22_2).f1))).heap[gb177]? = some (.cells #[.int .i64 a1_0, .int .i64 a1_1, .int .i64 a1_2, .int .i64 a1_3] 34 (0, 0))) := ⟨by (with_reducible repeat (first | refine blk_drewN ?_ _ | refine blk_drew ?_ | refine blk_alloc ?_ _)); refine blk_far ?_ NB177_186.out _; (with_reducible repeat (first | refine blk_drewN ?_ _ | refine blk_drew ?_ | refine blk_alloc ?_ _)); refine blk_far ?_ NB177_186.out _; (with_reducible repeat (first | refine blk_drewN ?_ _ | refine blk_drew ?_ | refine blk_alloc ?_ _)); exact BK177.out⟩
             have n2_ : Aside0 (((w28.setCell ⟨gb186, 0, none⟩ (.int .i64 ((rd_T28 t182 x22_2).f0))).setCell ⟨gb186, 1, none⟩ (.int .i64 ((rd_T28 t182 x22_2).f1))).heap[gb178]? = some (.cells #[.int .i64 0, .int .i64 0] 28 (0, 0))) := ⟨by (with_reducible repeat (first | refine blk_drewN ?_ _ | refine blk_drew ?_ | refine blk_alloc ?_ _)); refine blk_far ?_ NB178_186.out _; (with_reducible repeat (first | refine blk_drewN ?_ _ | refine blk_drew ?_ | refine blk_alloc ?_ _)); refine blk_far ?_ NB178_186.out _; (with_reducible repeat (first | refine blk_drewN ?_ _ | refine blk_drew ?_ | refine blk_alloc ?_ _)); exact BK178.out⟩
             have n3_ : Aside0 (((w28.setCell ⟨gb186, 0, none⟩ (.int .i64 ((rd_T28 t182 x22_2).f0))).setCell ⟨gb186, 1, none⟩ (.int .i64 ((rd_T28 t182 x22_2).f1))).heap[gb181]? = some (.cells #[.int .i64 x182000_2, .int .i64 x182001_2] 28 (0, 0))) := ⟨by (with_reducible repeat (first | refine blk_drewN ?_ _ | refine blk_drew ?_ | refine blk_alloc ?_ _)); refine blk_far ?_ NB181_186.out _; (with_reducible repeat (first | refine blk_drewN ?_ _ | refine blk_drew ?_ | refine blk_alloc ?_ _)); refine blk_far ?_ NB181_186.out _; (with_reducible repeat (first | refine blk_drewN ?_ _ | refine blk_drew ?_ | refine blk_alloc ?_ _)); exact BK181.out⟩
             have n4_ : Aside0 (((w28.setCell ⟨gb186, 0, none⟩ (.int .i64 ((rd_T28 t182 x22_2).f0))).setCell ⟨gb186, 1, none⟩ (.int .i64 ((rd_T28 t182 x22_2).f1))).heap[gb186]? = some (.cells #[.int .i64 ((rd_T28 t182 x22_2).f0), .int .i64 ((rd_T28 t182 x22_2).f1)] 28 (0, 0))) := ⟨by (with_reducible repeat (first | refine blk_drewN ?_ _ | refine blk_drew ?_ | refine blk_alloc ?_ _)); refine blk_put (cs := #[.int .i64 ((rd_T28 t182 x22_2).f0), .int .i64 0]) ?_ 1 _ rfl; (with_reducible repeat (first | refine blk_drewN ?_ _ | refine blk_drew ?_ | refine blk_alloc ?_ _)); refine blk_put (cs := #[.int .i64 0, .int .i64 0]) ?_ 0 _ rfl; (with_reducible repeat (first | refine blk_drewN ?_ _ | refine blk_drew ?_ | refine blk_alloc ?_ _)); exact BK186.out⟩
             have n5_ : Aside0 (Below w.heap.size w ((w28.setCell ⟨gb186, 0, none⟩ (.int .i64 ((rd_T28 t182 x22_2).f0))).setCell ⟨gb186, 1, none⟩ (.int .i64 ((rd_T28 t182 x22_2).f1)))) := ⟨bl⟩
             (try clear HO_20)
             (try clear BK177)
             (try clear BK178)
             (try clear BK181)
             (try clear BK186)
             (try clear HB)
             generalize ((w28.setCell ⟨gb186, 0, none⟩ (.int .i64 ((rd_T28 t182 x22_2).f0))).setCell ⟨gb186, 1, none⟩ (.int .i64 ((rd_T28 t182 x22_2).f1))) = w38 at n0_ n1_ n2_ n3_ n4_ n5_ ⊢
             have HO_20 := n0_
             have BK177 := n1_
             have BK178 := n2_
             have BK181 := n3_
             have BK186 := n4_
             have HB := n5_
             clear n0_ n1_ n2_ n3_ n4_ n5_
             replace HO_20 := Aside0.mk (Kd.R_drew HO_20.out)
             replace BK177 := Aside0.mk (blk_drew BK177.out)
             replace BK178 := Aside0.mk (blk_drew BK178.out)
             replace BK181 := Aside0.mk (blk_drew BK181.out)
             replace BK186 := Aside0.mk (blk_drew BK186.out)
             replace HB := Aside0.mk (below_drew1 HB.out)
             have p187 : 0 ≤ ((ji33) : Int) := da
             have q187 : (ji33) < (l0.length : Int) := da
             obtain ⟨ad187, e187, hx187_0, hx187_1, hx187_2, hx187_3⟩ := at_T68 HR0.out (ji33) p187 q187
             have hw187_3 := hx187_3
             have hw187_2 := hx187_2
             have hw187_1 := hx187_1
             have hw187_0 := hx187_0
             cases e187
             replace hx187_0 := (hc HB hx187_0 :)
             replace hx187_1 := (hc HB hx187_1 :)
             replace hx187_2 := (hc HB hx187_2 :)
             replace hx187_3 := (hc HB hx187_3 :)
             replace p187 := eq_true p187
             replace q187 := eq_true q187
             refine start_ (n := 21) (S := fun w' => w'.cell? ⟨gb177, 0, none⟩ = some (.int .i64 a1_0) ∧ w'.cell? ⟨gb177, 1, none⟩ = some (.int .i64 a1_1) ∧ w'.cell? ⟨gb177, 2, none⟩ = some (.int .i64 a1_2) ∧ w'.cell? ⟨gb177, 3, none⟩ = some (.int .i64 a1_3) ∧ w'.cell? (ad187.add (((ji33)).toNat * 4)) = some (.int .i64 ((rd_T68 l0 (ji33)).f0.f0)) ∧ w'.cell? ⟨(ad187.add (((ji33)).toNat * 4)).block, (ad187.add (((ji33)).toNat * 4)).off + 1, none⟩ = some (.int .i64 ((rd_T68 l0 (ji33)).f0.f1)) ∧ w'.cell? ⟨(ad187.add (((ji33)).toNat * 4)).block, (ad187.add (((ji33)).toNat * 4)).off + 2, none⟩ = some (.int .i64 ((rd_T68 l0 (ji33)).f1.f0)) ∧ w'.cell? ⟨(ad187.add (((ji33)).toNat * 4)).block, (ad187.add (((ji33)).toNat * 4)).off + 3, none⟩ = some (.int .i64 ((rd_T68 l0 (ji33)).f1.f1))) (ds := []) (tb 0 21) (by kernel_rfl) rfl rfl ⟨(blk_cell BK177.out 0).trans rfl, (blk_cell BK177.out 1).trans rfl, (blk_cell BK177.out 2).trans rfl, (blk_cell BK177.out 3).trans rfl, (hc HB hw187_0 :), (hc HB hw187_1 :), (hc HB hw187_2 :), (hc HB hw187_3 :)⟩ (fun hHeld => ?_); refine with_tabW spec_LeastSlope.tab7 spec_LeastSlope.bits7 (fun HT_ HW_ => ?_)
             generalize w38.drew = w39 at HO_20 BK177 BK178 BK181 BK186 HB hx187_0 hx187_1 hx187_2 hx187_3 hHeld ⊢
             refine pu 0 27 (tb 1 20) ?_
             refine pu 1 28 (tb 2 19) ?_
             refine pu 2 29 (tb 3 18) ?_
             refine pu 3 30 (tb 4 17) ?_
             refine pu 4 31 (tb 5 16) ?_
             refine pu 6 33 #[true, true, true, true, true, false, true, false, false, false, false, false, false, false, false, false, false, false, false, false, false] ?_
             refine tk 5 32 (tb 7 14) (hy := by rintro w' ⟨s0, s1, s2, s3, s4, s5, s6, s7⟩; go_simp; with_reducible rfl) (h := ?_)
             refine tk 7 34 (tb 8 13) (hy := by rintro w' ⟨s0, s1, s2, s3, s4, s5, s6, s7⟩; go_simp; with_reducible rfl) (h := ?_)
             refine on 8 35 (tb 9 12) (fun K hK => ?_)
             refine goes_ Try.func45 (by kernel_rfl) rfl #[.agg #[.int .i64 ((rd_T68 l0 (ji33)).f0.f0), .int .i64 ((rd_T68 l0 (ji33)).f0.f1)], .agg #[.int .i64 a1_0, .int .i64 a1_1]] (by rfl) rfl rfl (by (try simp only [List.map_toArray, List.map_cons, List.map_nil]); first | done | (simp only [hji33]; rfl) | rfl | (simp only [List.length_drop, List.length_take]; rfl)) ?_
             with_reducible refine (spec_raCmp.calls ((rd_T68 l0 (ji33)).f0.f0) ((rd_T68 l0 (ji33)).f0.f1) a1_0 a1_1 t188 _ A36.out).mono ?_
             rintro e w40 ⟨rfl, hb⟩
             refine ⟨_, rfl, ?_⟩
             replace HO_20 := Aside0.mk (Kd.R_below (by (with_reducible repeat (first | apply Kd.R_alloc | apply Kd.R_drewN | apply Kd.R_drew)); exact HO_20.out) hb)
             replace BK177 := Aside0.mk (bb gb177 hb)
             replace BK178 := Aside0.mk (bb gb178 hb)
             replace BK181 := Aside0.mk (bb gb181 hb)
             replace BK186 := Aside0.mk (bb gb186 hb)
             replace HB := Aside0.mk (bs hb)
             (try clear hb)
             (try clear hb2)
             (try clear hk)
             (try clear hi)
             refine hK.out _ _ ⟨(blk_cell BK177.out 0).trans rfl, (blk_cell BK177.out 1).trans rfl, (blk_cell BK177.out 2).trans rfl, (blk_cell BK177.out 3).trans rfl, (hc HB hw187_0 :), (hc HB hw187_1 :), (hc HB hw187_2 :), (hc HB hw187_3 :)⟩ (fun hHeld => ?_)
             clear hK K
             refine nm 35 ?_
             refine pu 9 36 (tb 10 11) ?_
             refine pu 10 37 (tb 11 10) ?_
             refine sk 11 38 (tb 12 9) ?_
             refine sk 12 39 (tb 13 8) ?_
             refine sk 13 40 (tb 14 7) ?_
             refine sk 14 41 (tb 15 6) ?_
             refine sk 15 42 (tb 16 5) ?_
             refine sk 16 43 (tb 17 4) ?_
             refine sk 17 44 (tb 18 3) ?_
             refine sk 18 45 (tb 19 2) ?_
             refine sk 19 46 (tb 20 1) ?_
             refine pu 20 47 (tb 21 0) ?_
             refine done_ (done_of HT_.out (by kernel_rfl)) ?_
             try go_wp2
             go_meet
             case rel => exact ⟨_, (true), (by first | rfl | (simp; done) | (simp [*]; done)), H', ⟨by have := HJ2.out; have := HK2.out; first | omega | exact Nat.le_refl _⟩, ⟨by (with_reducible repeat (first | apply Kd.R_alloc | apply Kd.R_drewN | apply Kd.R_drew)); exact HO_20.out⟩, ⟨by (with_reducible repeat (first | refine blk_drewN ?_ _ | refine blk_drew ?_ | refine blk_alloc ?_ _)); exact BK177.out⟩, ⟨by (with_reducible repeat (first | refine blk_drewN ?_ _ | refine blk_drew ?_ | refine blk_alloc ?_ _)); exact BK178.out⟩, ⟨by (with_reducible repeat (first | refine blk_drewN ?_ _ | refine blk_drew ?_ | refine blk_alloc ?_ _)); exact BK181.out⟩, ⟨by (with_reducible repeat (first | refine blk_drewN ?_ _ | refine blk_drew ?_ | refine blk_alloc ?_ _)); exact BK186.out⟩, ⟨bl⟩⟩
            ·rw [if_neg c37] at H
             have c37b0 : decide (t188 ≤ 0) = false := decide_eq_false c37
             clear c37
             by_cases c41 : x22_2 < (l0.length : Int)
             ·rw [if_pos c41] at H
              have c41b0 : decide (x22_2 < (l0.length : Int)) = true := decide_eq_true c41
              clear c41
              replace H := Option.bind_eq_some_iff.mp H
              obtain ⟨t190, A420, H⟩ := H
              replace H : (spec_LeastSlope.j2 k2 l0 t182 (t182.length : Int) x22_2 (decide (t190 ≤ 0)) a1_0 a1_1 a1_2 a1_3 x182000_2 x182001_2 ((rd_T28 t182 x22_2).f0) ((rd_T28 t182 x22_2).f1)) = some (r1, r2, r3) := H
              have A42 := Aside0.mk A420
              clear A420
              have H' := Aside0.mk H
              clear H
              try go_wp2
              have n0_ : Aside0 (Kd.R k28 28 ((w28.setCell ⟨gb186, 0, none⟩ (.int .i64 ((rd_T28 t182 x22_2).f0))).setCell ⟨gb186, 1, none⟩ (.int .i64 ((rd_T28 t182 x22_2).f1))) w.heap.size (fun k_ => k_ ≠ gb178 ∧ k_ ≠ gb181 ∧ k_ ≠ gb186) (.slice (some ad185) t182.length co23) t182) := ⟨by (with_reducible repeat (first | apply Kd.R_alloc | apply Kd.R_drewN | apply Kd.R_drew)); exact Kd.R_mono (Kd.R_far (p := ⟨gb186, 1, none⟩) (Kd.R_far (p := ⟨gb186, 0, none⟩) (Kd.R_mono HO_20.out (fun k_ hk => (⟨hk, hk.2⟩ : _ ∧ k_ ≠ gb186))) (fun _ hk => hk.2) (.int .i64 ((rd_T28 t182 x22_2).f0))) (fun _ hk => hk.2) (.int .i64 ((rd_T28 t182 x22_2).f1))) (fun _ hk => ⟨hk.1.1.1, ⟨hk.1.1.2, hk.1.2⟩⟩)⟩
              have n1_ : Aside0 (((w28.setCell ⟨gb186, 0, none⟩ (.int .i64 ((rd_T28 t182 x22_2).f0))).setCell ⟨gb186, 1, none⟩ (.int .i64 ((rd_T28 t182 x22_2).f1))).heap[gb177]? = some (.cells #[.int .i64 a1_0, .int .i64 a1_1, .int .i64 a1_2, .int .i64 a1_3] 34 (0, 0))) := ⟨by (with_reducible repeat (first | refine blk_drewN ?_ _ | refine blk_drew ?_ | refine blk_alloc ?_ _)); refine blk_far ?_ NB177_186.out _; (with_reducible repeat (first | refine blk_drewN ?_ _ | refine blk_drew ?_ | refine blk_alloc ?_ _)); refine blk_far ?_ NB177_186.out _; (with_reducible repeat (first | refine blk_drewN ?_ _ | refine blk_drew ?_ | refine blk_alloc ?_ _)); exact BK177.out⟩
              have n2_ : Aside0 (((w28.setCell ⟨gb186, 0, none⟩ (.int .i64 ((rd_T28 t182 x22_2).f0))).setCell ⟨gb186, 1, none⟩ (.int .i64 ((rd_T28 t182 x22_2).f1))).heap[gb178]? = some (.cells #[.int .i64 0, .int .i64 0] 28 (0, 0))) := ⟨by (with_reducible repeat (first | refine blk_drewN ?_ _ | refine blk_drew ?_ | refine blk_alloc ?_ _)); refine blk_far ?_ NB178_186.out _; (with_reducible repeat (first | refine blk_drewN ?_ _ | refine blk_drew ?_ | refine blk_alloc ?_ _)); refine blk_far ?_ NB178_186.out _; (with_reducible repeat (first | refine blk_drewN ?_ _ | refine blk_drew ?_ | refine blk_alloc ?_ _)); exact BK178.out⟩
              have n3_ : Aside0 (((w28.setCell ⟨gb186, 0, none⟩ (.int .i64 ((rd_T28 t182 x22_2).f0))).setCell ⟨gb186, 1, none⟩ (.int .i64 ((rd_T28 t182 x22_2).f1))).heap[gb181]? = some (.cells #[.int .i64 x182000_2, .int .i64 x182001_2] 28 (0, 0))) := ⟨by (with_reducible repeat (first | refine blk_drewN ?_ _ | refine blk_drew ?_ | refine blk_alloc ?_ _)); refine blk_far ?_ NB181_186.out _; (with_reducible repeat (first | refine blk_drewN ?_ _ | refine blk_drew ?_ | refine blk_alloc ?_ _)); refine blk_far ?_ NB181_186.out _; (with_reducible repeat (first | refine blk_drewN ?_ _ | refine blk_drew ?_ | refine blk_alloc ?_ _)); exact BK181.out⟩
              have n4_ : Aside0 (((w28.setCell ⟨gb186, 0, none⟩ (.int .i64 ((rd_T28 t182 x22_2).f0))).setCell ⟨gb186, 1, none⟩ (.int .i64 ((rd_T28 t182 x22_2).f1))).heap[gb186]? = some (.cells #[.int .i64 ((rd_T28 t182 x22_2).f0), .int .i64 ((rd_T28 t182 x22_2).f1)] 28 (0, 0))) := ⟨by (with_reducible repeat (first | refine blk_drewN ?_ _ | refine blk_drew ?_ | refine blk_alloc ?_ _)); refine blk_put (cs := #[.int .i64 ((rd_T28 t182 x22_2).f0), .int .i64 0]) ?_ 1 _ rfl; (with_reducible repeat (first | refine blk_drewN ?_ _ | refine blk_drew ?_ | refine blk_alloc ?_ _)); refine blk_put (cs := #[.int .i64 0, .int .i64 0]) ?_ 0 _ rfl; (with_reducible repeat (first | refine blk_drewN ?_ _ | refine blk_drew ?_ | refine blk_alloc ?_ _)); exact BK186.out⟩
              have n5_ : Aside0 (Below w.heap.size w ((w28.setCell ⟨gb186, 0, none⟩ (.int .i64 ((rd_T28 t182 x22_2).f0))).setCell ⟨gb186, 1, none⟩ (.int .i64 ((rd_T28 t182 x22_2).f1)))) := ⟨bl⟩
              (try clear HO_20)
              (try clear BK177)
              (try clear BK178)
              (try clear BK181)
              (try clear BK186)
              (try clear HB)
              generalize ((w28.setCell ⟨gb186, 0, none⟩ (.int .i64 ((rd_T28 t182 x22_2).f0))).setCell ⟨gb186, 1, none⟩ (.int .i64 ((rd_T28 t182 x22_2).f1))) = w43 at n0_ n1_ n2_ n3_ n4_ n5_ ⊢
              have HO_20 := n0_
              have BK177 := n1_
              have BK178 := n2_
              have BK181 := n3_
              have BK186 := n4_
              have HB := n5_
              clear n0_ n1_ n2_ n3_ n4_ n5_
              replace HO_20 := Aside0.mk (Kd.R_drew HO_20.out)
              replace BK177 := Aside0.mk (blk_drew BK177.out)
              replace BK178 := Aside0.mk (blk_drew BK178.out)
              replace BK181 := Aside0.mk (blk_drew BK181.out)
              replace BK186 := Aside0.mk (blk_drew BK186.out)
              replace HB := Aside0.mk (below_drew1 HB.out)
              have p187 : 0 ≤ ((ji33) : Int) := da
              have q187 : (ji33) < (l0.length : Int) := da
              obtain ⟨ad187, e187, hx187_0, hx187_1, hx187_2, hx187_3⟩ := at_T68 HR0.out (ji33) p187 q187
              have hw187_3 := hx187_3
              have hw187_2 := hx187_2
              have hw187_1 := hx187_1
              have hw187_0 := hx187_0
              cases e187
              replace hx187_0 := (hc HB hx187_0 :)
              replace hx187_1 := (hc HB hx187_1 :)
              replace hx187_2 := (hc HB hx187_2 :)
              replace hx187_3 := (hc HB hx187_3 :)
              replace p187 := eq_true p187
              replace q187 := eq_true q187
              have p189 : 0 ≤ (x22_2 : Int) := da
              have q189 : x22_2 < (l0.length : Int) := da
              obtain ⟨ad189, e189, hx189_0, hx189_1, hx189_2, hx189_3⟩ := at_T68 HR0.out x22_2 p189 q189
              have hw189_3 := hx189_3
              have hw189_2 := hx189_2
              have hw189_1 := hx189_1
              have hw189_0 := hx189_0
              obtain rfl : ad187 = ad189 := (by injection e189)
              replace hx189_0 := (hc HB hx189_0 :)
              replace hx189_1 := (hc HB hx189_1 :)
              replace hx189_2 := (hc HB hx189_2 :)
              replace hx189_3 := (hc HB hx189_3 :)
              replace p189 := eq_true p189
              replace q189 := eq_true q189
              refine start_ (n := 21) (S := fun w' => w'.cell? ⟨gb177, 0, none⟩ = some (.int .i64 a1_0) ∧ w'.cell? ⟨gb177, 1, none⟩ = some (.int .i64 a1_1) ∧ w'.cell? ⟨gb177, 2, none⟩ = some (.int .i64 a1_2) ∧ w'.cell? ⟨gb177, 3, none⟩ = some (.int .i64 a1_3) ∧ w'.cell? (ad187.add (((ji33)).toNat * 4)) = some (.int .i64 ((rd_T68 l0 (ji33)).f0.f0)) ∧ w'.cell? ⟨(ad187.add (((ji33)).toNat * 4)).block, (ad187.add (((ji33)).toNat * 4)).off + 1, none⟩ = some (.int .i64 ((rd_T68 l0 (ji33)).f0.f1)) ∧ w'.cell? ⟨(ad187.add (((ji33)).toNat * 4)).block, (ad187.add (((ji33)).toNat * 4)).off + 2, none⟩ = some (.int .i64 ((rd_T68 l0 (ji33)).f1.f0)) ∧ w'.cell? ⟨(ad187.add (((ji33)).toNat * 4)).block, (ad187.add (((ji33)).toNat * 4)).off + 3, none⟩ = some (.int .i64 ((rd_T68 l0 (ji33)).f1.f1)) ∧ w'.cell? (ad187.add ((x22_2).toNat * 4)) = some (.int .i64 ((rd_T68 l0 x22_2).f0.f0)) ∧ w'.cell? ⟨(ad187.add ((x22_2).toNat * 4)).block, (ad187.add ((x22_2).toNat * 4)).off + 1, none⟩ = some (.int .i64 ((rd_T68 l0 x22_2).f0.f1)) ∧ w'.cell? ⟨(ad187.add ((x22_2).toNat * 4)).block, (ad187.add ((x22_2).toNat * 4)).off + 2, none⟩ = some (.int .i64 ((rd_T68 l0 x22_2).f1.f0)) ∧ w'.cell? ⟨(ad187.add ((x22_2).toNat * 4)).block, (ad187.add ((x22_2).toNat * 4)).off + 3, none⟩ = some (.int .i64 ((rd_T68 l0 x22_2).f1.f1))) (ds := []) (tb 0 21) (by kernel_rfl) rfl rfl ⟨(blk_cell BK177.out 0).trans rfl, (blk_cell BK177.out 1).trans rfl, (blk_cell BK177.out 2).trans rfl, (blk_cell BK177.out 3).trans rfl, (hc HB hw187_0 :), (hc HB hw187_1 :), (hc HB hw187_2 :), (hc HB hw187_3 :), (hc HB hw189_0 :), (hc HB hw189_1 :), (hc HB hw189_2 :), (hc HB hw189_3 :)⟩ (fun hHeld => ?_); refine with_tabW spec_LeastSlope.tab7 spec_LeastSlope.bits7 (fun HT_ HW_ => ?_)
              generalize w43.drew = w44 at HO_20 BK177 BK178 BK181 BK186 HB hx187_0 hx187_1 hx187_2 hx187_3 hx189_0 hx189_1 hx189_2 hx189_3 hHeld ⊢
              refine pu 0 27 (tb 1 20) ?_
              refine pu 1 28 (tb 2 19) ?_
              refine pu 2 29 (tb 3 18) ?_
              refine pu 3 30 (tb 4 17) ?_
              refine pu 4 31 (tb 5 16) ?_
              refine pu 6 33 #[true, true, true, true, true, false, true, false, false, false, false, false, false, false, false, false, false, false, false, false, false] ?_
              refine tk 5 32 (tb 7 14) (hy := by rintro w' ⟨s0, s1, s2, s3, s4, s5, s6, s7, s8, s9, s10, s11⟩; go_simp; with_reducible rfl) (h := ?_)
              refine tk 7 34 (tb 8 13) (hy := by rintro w' ⟨s0, s1, s2, s3, s4, s5, s6, s7, s8, s9, s10, s11⟩; go_simp; with_reducible rfl) (h := ?_)
              refine on 8 35 (tb 9 12) (fun K hK => ?_)
              refine goes_ Try.func45 (by kernel_rfl) rfl #[.agg #[.int .i64 ((rd_T68 l0 (ji33)).f0.f0), .int .i64 ((rd_T68 l0 (ji33)).f0.f1)], .agg #[.int .i64 a1_0, .int .i64 a1_1]] (by rfl) rfl rfl (by (try simp only [List.map_toArray, List.map_cons, List.map_nil]); first | done | (simp only [hji33]; rfl) | rfl | (simp only [List.length_drop, List.length_take]; rfl)) ?_
              with_reducible refine (spec_raCmp.calls ((rd_T68 l0 (ji33)).f0.f0) ((rd_T68 l0 (ji33)).f0.f1) a1_0 a1_1 t188 _ A36.out).mono ?_
              rintro e w45 ⟨rfl, hb⟩
              refine ⟨_, rfl, ?_⟩
              replace HO_20 := Aside0.mk (Kd.R_below (by (with_reducible repeat (first | apply Kd.R_alloc | apply Kd.R_drewN | apply Kd.R_drew)); exact HO_20.out) hb)
              replace BK177 := Aside0.mk (bb gb177 hb)
              replace BK178 := Aside0.mk (bb gb178 hb)
              replace BK181 := Aside0.mk (bb gb181 hb)
              replace BK186 := Aside0.mk (bb gb186 hb)
              replace HB := Aside0.mk (bs hb)
              (try clear hb)
              (try clear hb2)
              (try clear hk)
              (try clear hi)
              refine hK.out _ _ ⟨(blk_cell BK177.out 0).trans rfl, (blk_cell BK177.out 1).trans rfl, (blk_cell BK177.out 2).trans rfl, (blk_cell BK177.out 3).trans rfl, (hc HB hw187_0 :), (hc HB hw187_1 :), (hc HB hw187_2 :), (hc HB hw187_3 :), (hc HB hw189_0 :), (hc HB hw189_1 :), (hc HB hw189_2 :), (hc HB hw189_3 :)⟩ (fun hHeld => ?_)
              clear hK K
              refine nm 35 ?_
              refine pu 9 36 (tb 10 11) ?_
              refine pu 10 37 (tb 11 10) ?_
              refine pu 11 38 (tb 12 9) ?_
              refine pu 13 40 #[true, true, true, true, true, true, true, true, true, true, true, true, false, true, false, false, false, false, false, false, false] ?_
              refine pu 14 41 #[true, true, true, true, true, true, true, true, true, true, true, true, false, true, true, false, false, false, false, false, false] ?_
              refine pu 15 42 #[true, true, true, true, true, true, true, true, true, true, true, true, false, true, true, true, false, false, false, false, false] ?_
              refine pu 16 43 #[true, true, true, true, true, true, true, true, true, true, true, true, false, true, true, true, true, false, false, false, false] ?_
              refine tk 12 39 (tb 17 4) (hy := by rintro w' ⟨s0, s1, s2, s3, s4, s5, s6, s7, s8, s9, s10, s11⟩; go_simp; with_reducible rfl) (h := ?_)
              refine tk 17 44 (tb 18 3) (hy := by rintro w' ⟨s0, s1, s2, s3, s4, s5, s6, s7, s8, s9, s10, s11⟩; go_simp; with_reducible rfl) (h := ?_)
              refine on 18 45 (tb 19 2) (fun K hK => ?_)
              refine gs Try.func45 #[.agg #[.int .i64 a1_2, .int .i64 a1_3], .agg #[.int .i64 ((rd_T68 l0 x22_2).f0.f0), .int .i64 ((rd_T68 l0 x22_2).f0.f1)]] ?_
              with_reducible refine (spec_raCmp.calls a1_2 a1_3 ((rd_T68 l0 x22_2).f0.f0) ((rd_T68 l0 x22_2).f0.f1) t190 _ A42.out).mono ?_
              rintro e w46 ⟨rfl, hb⟩
              refine ⟨_, rfl, ?_⟩
              replace HO_20 := Aside0.mk (Kd.R_below (by (with_reducible repeat (first | apply Kd.R_alloc | apply Kd.R_drewN | apply Kd.R_drew)); exact HO_20.out) hb)
              replace BK177 := Aside0.mk (bb gb177 hb)
              replace BK178 := Aside0.mk (bb gb178 hb)
              replace BK181 := Aside0.mk (bb gb181 hb)
              replace BK186 := Aside0.mk (bb gb186 hb)
              replace HB := Aside0.mk (bs hb)
              (try clear hb)
              (try clear hb2)
              (try clear hk)
              (try clear hi)
              refine hK.out _ _ ⟨(blk_cell BK177.out 0).trans rfl, (blk_cell BK177.out 1).trans rfl, (blk_cell BK177.out 2).trans rfl, (blk_cell BK177.out 3).trans rfl, (hc HB hw187_0 :), (hc HB hw187_1 :), (hc HB hw187_2 :), (hc HB hw187_3 :), (hc HB hw189_0 :), (hc HB hw189_1 :), (hc HB hw189_2 :), (hc HB hw189_3 :)⟩ (fun hHeld => ?_)
              clear hK K
              refine nm 45 ?_
              refine pu 19 46 (tb 20 1) ?_
              refine pu 20 47 (tb 21 0) ?_
              refine done_ (done_of HT_.out (by kernel_rfl)) ?_
              try go_wp2
              go_meet
              case rel => exact ⟨_, (decide (t190 ≤ 0)), (by first | rfl | (simp; done) | (simp [*]; done)), H', ⟨by have := HJ2.out; have := HK2.out; first | omega | exact Nat.le_refl _⟩, ⟨by (with_reducible repeat (first | apply Kd.R_alloc | apply Kd.R_drewN | apply Kd.R_drew)); exact HO_20.out⟩, ⟨by (with_reducible repeat (first | refine blk_drewN ?_ _ | refine blk_drew ?_ | refine blk_alloc ?_ _)); exact BK177.out⟩, ⟨by (with_reducible repeat (first | refine blk_drewN ?_ _ | refine blk_drew ?_ | refine blk_alloc ?_ _)); exact BK178.out⟩, ⟨by (with_reducible repeat (first | refine blk_drewN ?_ _ | refine blk_drew ?_ | refine blk_alloc ?_ _)); exact BK181.out⟩, ⟨by (with_reducible repeat (first | refine blk_drewN ?_ _ | refine blk_drew ?_ | refine blk_alloc ?_ _)); exact BK186.out⟩, ⟨bl⟩⟩
             ·rw [if_neg c41] at H
              exact absurd H (by simp)
           ·rw [if_neg c35] at H
            exact absurd H (by simp)
          ·rw [if_neg c34] at H
           exact absurd H (by simp)
         case rest =>
          clear HC27
          try clear p1
          try clear q1
          try clear hx1
          try clear c2
          try clear p2
          try clear c3
          try clear c4
          try clear p6
          try clear p18
          try clear q18
          try clear hx18
          try clear c24
          try clear c24b0
          try clear c25
          try clear c25b0
          try clear c26
          try clear c26b0
          try clear c29
          try clear c30
          try clear c31
          try clear c34
          try clear c34b0
          try clear c35
          try clear c35b0
          try clear c37
          try clear c37b0
          try clear c41
          try clear c41b0
          try clear c45
          try clear hcz32_0
          try clear hcz32_1
          try clear hfz11_2
          try clear hfz11_3
          try clear hfz16_0
          try clear hfz16_1
          try clear hfz21_0
          try clear hfz21_1
          try clear hfz32_0
          try clear hfz32_1
          try clear hx185_0
          try clear hx185_1
          try clear hx187_0
          try clear hx187_1
          try clear hx187_2
          try clear hx187_3
          try clear hx189_0
          try clear hx189_1
          try clear hx189_2
          try clear hx189_3
          try clear p185
          try clear p187
          try clear p189
          try clear p2
          try clear q185
          try clear q187
          try clear q189
          obtain ⟨kq, x47_26, rfl, HA, HJ26, HO_20, BK177, BK178, BK181, BK186, HB⟩ := hcut
          cases kq with
          | zero => exact absurd HA.out (by simp [spec_LeastSlope.j2])
          | succ kj26 =>
           have H := HA.out
           clear HA
           simp only [spec_LeastSlope.j2] at H
           by_cases c47 : x47_26 = true
           ·subst c47
            have H1 : (spec_LeastSlope.l0 kj26 l0 t182 (t182.length : Int) (wrap64 (x22_2 + 1)) a1_0 a1_1 a1_2 a1_3 x182000_2 x182001_2) = some (r1, r2, r3) := by rw [if_pos rfl] at H; exact H
            clear H
            have H := H1
            clear H1
            have H' := Aside0.mk H
            clear H
            go_wp2
            go_roundg kj26
            case measure => have := HJ2.out; have := HK2.out; have := HJ26.out; omega
            case rel => exact ⟨(wrap64 (x22_2 + 1)), (x182000_2), (x182001_2), (by first | rfl | (simp; done) | (simp [*]; done)), H', ⟨by have := HJ2.out; have := HK2.out; have := HJ26.out; omega⟩, ⟨by (with_reducible repeat (first | apply Kd.R_alloc | apply Kd.R_drewN | apply Kd.R_drew)); exact Kd.R_mono HO_20.out (fun _ hk => ⟨hk.1, hk.2.1⟩)⟩, ⟨by (with_reducible repeat (first | refine blk_drewN ?_ _ | refine blk_drew ?_ | refine blk_alloc ?_ _)); exact BK177.out⟩, ⟨by (with_reducible repeat (first | refine blk_drewN ?_ _ | refine blk_drew ?_ | refine blk_alloc ?_ _)); exact BK178.out⟩, ⟨by (with_reducible repeat (first | refine blk_drewN ?_ _ | refine blk_drew ?_ | refine blk_alloc ?_ _)); exact BK181.out⟩, ⟨bl⟩⟩
           ·replace c47 := Bool.eq_false_iff.mpr c47
            subst c47
            have H1 : ((spec_l1Abs.f ((rd_T28 t182 x22_2).f0)).bind fun t191 => (if x182000_2 < 0 then (spec_LeastSlope.l0 kj26 l0 t182 (t182.length : Int) (wrap64 (x22_2 + 1)) a1_0 a1_1 a1_2 a1_3 t191 ((rd_T28 t182 x22_2).f1)) else ((spec_raCmp.f t191 ((rd_T28 t182 x22_2).f1) x182000_2 x182001_2).bind fun t192 => (if t192 < 0 then (spec_LeastSlope.l0 kj26 l0 t182 (t182.length : Int) (wrap64 (x22_2 + 1)) a1_0 a1_1 a1_2 a1_3 t191 ((rd_T28 t182 x22_2).f1)) else (spec_LeastSlope.l0 kj26 l0 t182 (t182.length : Int) (wrap64 (x22_2 + 1)) a1_0 a1_1 a1_2 a1_3 x182000_2 x182001_2))))) = some (r1, r2, r3) := by rw [if_neg (show ¬ (false = true) by decide)] at H; exact H
            clear H
            have H := H1
            clear H1
            replace H := Option.bind_eq_some_iff.mp H
            obtain ⟨t191, A480, H⟩ := H
            replace H : (if x182000_2 < 0 then (spec_LeastSlope.l0 kj26 l0 t182 (t182.length : Int) (wrap64 (x22_2 + 1)) a1_0 a1_1 a1_2 a1_3 t191 ((rd_T28 t182 x22_2).f1)) else ((spec_raCmp.f t191 ((rd_T28 t182 x22_2).f1) x182000_2 x182001_2).bind fun t192 => (if t192 < 0 then (spec_LeastSlope.l0 kj26 l0 t182 (t182.length : Int) (wrap64 (x22_2 + 1)) a1_0 a1_1 a1_2 a1_3 t191 ((rd_T28 t182 x22_2).f1)) else (spec_LeastSlope.l0 kj26 l0 t182 (t182.length : Int) (wrap64 (x22_2 + 1)) a1_0 a1_1 a1_2 a1_3 x182000_2 x182001_2)))) = some (r1, r2, r3) := H
            have A48 := Aside0.mk A480
            clear A480
            by_cases c49 : x182000_2 < 0
            ·rw [if_pos c49] at H
             have c49b0 : decide (x182000_2 < 0) = true := decide_eq_true c49
             clear c49
             have H' := Aside0.mk H
             clear H
             have hnb50 := NB186_177.out
             have hnc50 := NB177_186.out
             have hnb51 := NB186_178.out
             have hnc51 := NB178_186.out
             have hnb52 := NB186_181.out
             have hnc52 := NB181_186.out
             have hcz53_0 : wc.cell? ⟨gb186, 0, none⟩ = some (.int .i64 ((rd_T28 t182 x22_2).f0)) := (blk_cell BK186.out 0).trans rfl
             have hcz53_1 : wc.cell? ⟨gb186, 1, none⟩ = some (.int .i64 ((rd_T28 t182 x22_2).f1)) := (blk_cell BK186.out 1).trans rfl
             have hfz53_0 := blk_frozen BK186.out 0
             have hfz53_1 := blk_frozen BK186.out 1
             go_wp2_with (first | ((with_reducible refine gate_callee (f := 46) rfl ?_); refine gl 50 Try.func46 #[.int .i64 ((rd_T28 t182 x22_2).f0)] ?_; (with_reducible refine (spec_l1Abs.calls ((rd_T28 t182 x22_2).f0) t191 _ A48.out).mono ?_); rintro e w' ⟨rfl, ⟨nd, rfl⟩⟩; refine ⟨_, rfl, ?_⟩; (try (rw [drewN_self wc]; generalize hq_ : World.drewN wc _ = wc; have n0_ : Aside0 (Kd.R k28 28 wc w.heap.size (fun k_ => k_ ≠ gb178 ∧ k_ ≠ gb181 ∧ k_ ≠ gb186) (.slice (some ad185) t182.length co23) t182) := ⟨by rw [← hq_]; exact (by (with_reducible repeat (first | apply Kd.R_alloc | apply Kd.R_drewN | apply Kd.R_drew)); exact HO_20.out)⟩; have n1_ : Aside0 (wc.heap[gb177]? = some (.cells #[.int .i64 a1_0, .int .i64 a1_1, .int .i64 a1_2, .int .i64 a1_3] 34 (0, 0))) := ⟨by rw [← hq_]; exact (bo gb177)⟩; have n2_ : Aside0 (wc.heap[gb178]? = some (.cells #[.int .i64 0, .int .i64 0] 28 (0, 0))) := ⟨by rw [← hq_]; exact (bo gb178)⟩; have n3_ : Aside0 (wc.heap[gb181]? = some (.cells #[.int .i64 x182000_2, .int .i64 x182001_2] 28 (0, 0))) := ⟨by rw [← hq_]; exact (bo gb181)⟩; have n4_ : Aside0 (wc.heap[gb186]? = some (.cells #[.int .i64 ((rd_T28 t182 x22_2).f0), .int .i64 ((rd_T28 t182 x22_2).f1)] 28 (0, 0))) := ⟨by rw [← hq_]; exact (bo gb186)⟩; have n5_ : Aside0 (Below w.heap.size w wc) := ⟨by rw [← hq_]; exact bl⟩; clear HO_20 BK177 BK178 BK181 BK186 HB hq_; have HO_20 := n0_; have BK177 := n1_; have BK178 := n2_; have BK181 := n3_; have BK186 := n4_; have HB := n5_; clear n0_ n1_ n2_ n3_ n4_ n5_)); have hcz54_0 : wc.cell? ⟨gb186, 0, none⟩ = some (.int .i64 ((rd_T28 t182 x22_2).f0)) := (blk_cell BK186.out 0).trans rfl; have hcz54_1 : wc.cell? ⟨gb186, 1, none⟩ = some (.int .i64 ((rd_T28 t182 x22_2).f1)) := (blk_cell BK186.out 1).trans rfl; have hfz54_0 := blk_frozen BK186.out 0; have hfz54_1 := blk_frozen BK186.out 1; have hnb55 := NB181_177.out; have hnc55 := NB177_181.out; have hnb56 := NB181_178.out; have hnc56 := NB178_181.out; have hcz57_0 : wc.cell? ⟨gb181, 0, none⟩ = some (.int .i64 x182000_2) := (blk_cell BK181.out 0).trans rfl; have hcz57_1 : wc.cell? ⟨gb181, 1, none⟩ = some (.int .i64 x182001_2) := (blk_cell BK181.out 1).trans rfl; have hfz57_0 := blk_frozen BK181.out 0; have hfz57_1 := blk_frozen BK181.out 1))
             go_roundg kj26
             case measure => have := HJ2.out; have := HK2.out; have := HJ26.out; omega
             case rel => exact ⟨(wrap64 (x22_2 + 1)), (t191), (((rd_T28 t182 x22_2).f1)), (by first | rfl | (simp; done) | (simp [*]; done)), H', ⟨by have := HJ2.out; have := HK2.out; have := HJ26.out; omega⟩, ⟨by (with_reducible repeat (first | apply Kd.R_alloc | apply Kd.R_drewN | apply Kd.R_drew)); exact Kd.R_mono (Kd.R_far (p := ⟨gb181, 1, none⟩) (Kd.R_far (p := ⟨gb181, 0, none⟩) (Kd.R_far (p := ⟨gb186, 0, none⟩) (Kd.R_mono (Kd.R_mono HO_20.out (fun k_ hk => (⟨hk, hk.2.2⟩ : _ ∧ k_ ≠ gb186))) (fun k_ hk => (⟨hk, hk.1.2.1⟩ : _ ∧ k_ ≠ gb181))) (fun _ hk => hk.1.2) (.int .i64 t191)) (fun _ hk => hk.2) (.int .i64 t191)) (fun _ hk => hk.2) (.int .i64 ((rd_T28 t182 x22_2).f1))) (fun _ hk => ⟨hk.1.1.1, hk.1.1.2.1⟩)⟩, ⟨by (with_reducible repeat (first | refine blk_drewN ?_ _ | refine blk_drew ?_ | refine blk_alloc ?_ _)); refine blk_far ?_ NB177_181.out _; (with_reducible repeat (first | refine blk_drewN ?_ _ | refine blk_drew ?_ | refine blk_alloc ?_ _)); refine blk_far ?_ NB177_181.out _; (with_reducible repeat (first | refine blk_drewN ?_ _ | refine blk_drew ?_ | refine blk_alloc ?_ _)); refine blk_far ?_ NB177_186.out _; (with_reducible repeat (first | refine blk_drewN ?_ _ | refine blk_drew ?_ | refine blk_alloc ?_ _)); exact BK177.out⟩, ⟨by (with_reducible repeat (first | refine blk_drewN ?_ _ | refine blk_drew ?_ | refine blk_alloc ?_ _)); refine blk_far ?_ NB178_181.out _; (with_reducible repeat (first | refine blk_drewN ?_ _ | refine blk_drew ?_ | refine blk_alloc ?_ _)); refine blk_far ?_ NB178_181.out _; (with_reducible repeat (first | refine blk_drewN ?_ _ | refine blk_drew ?_ | refine blk_alloc ?_ _)); refine blk_far ?_ NB178_186.out _; (with_reducible repeat (first | refine blk_drewN ?_ _ | refine blk_drew ?_ | refine blk_alloc ?_ _)); exact BK178.out⟩, ⟨by (with_reducible repeat (first | refine blk_drewN ?_ _ | refine blk_drew ?_ | refine blk_alloc ?_ _)); refine blk_put (cs := #[.int .i64 t191, .int .i64 x182001_2]) ?_ 1 _ rfl; (with_reducible repeat (first | refine blk_drewN ?_ _ | refine blk_drew ?_ | refine blk_alloc ?_ _)); refine blk_put (cs := #[.int .i64 x182000_2, .int .i64 x182001_2]) ?_ 0 _ rfl; (with_reducible repeat (first | refine blk_drewN ?_ _ | refine blk_drew ?_ | refine blk_alloc ?_ _)); refine blk_far ?_ NB181_186.out _; (with_reducible repeat (first | refine blk_drewN ?_ _ | refine blk_drew ?_ | refine blk_alloc ?_ _)); exact BK181.out⟩, ⟨bl⟩⟩
            ·rw [if_neg c49] at H
             have c49b0 : decide (x182000_2 < 0) = false := decide_eq_false c49
             clear c49
             replace H := Option.bind_eq_some_iff.mp H
             obtain ⟨t192, A580, H⟩ := H
             replace H : (if t192 < 0 then (spec_LeastSlope.l0 kj26 l0 t182 (t182.length : Int) (wrap64 (x22_2 + 1)) a1_0 a1_1 a1_2 a1_3 t191 ((rd_T28 t182 x22_2).f1)) else (spec_LeastSlope.l0 kj26 l0 t182 (t182.length : Int) (wrap64 (x22_2 + 1)) a1_0 a1_1 a1_2 a1_3 x182000_2 x182001_2)) = some (r1, r2, r3) := H
             have A58 := Aside0.mk A580
             clear A580
             by_cases c59 : t192 < 0
             ·rw [if_pos c59] at H
              have c59b0 : decide (t192 < 0) = true := decide_eq_true c59
              clear c59
              have H' := Aside0.mk H
              clear H
              have hnb60 := NB186_177.out
              have hnc60 := NB177_186.out
              have hnb61 := NB186_178.out
              have hnc61 := NB178_186.out
              have hnb62 := NB186_181.out
              have hnc62 := NB181_186.out
              have hcz63_0 : wc.cell? ⟨gb186, 0, none⟩ = some (.int .i64 ((rd_T28 t182 x22_2).f0)) := (blk_cell BK186.out 0).trans rfl
              have hcz63_1 : wc.cell? ⟨gb186, 1, none⟩ = some (.int .i64 ((rd_T28 t182 x22_2).f1)) := (blk_cell BK186.out 1).trans rfl
              have hfz63_0 := blk_frozen BK186.out 0
              have hfz63_1 := blk_frozen BK186.out 1
              go_wp2_with (first | ((with_reducible refine gate_callee (f := 46) rfl ?_); refine gl 50 Try.func46 #[.int .i64 ((rd_T28 t182 x22_2).f0)] ?_; (with_reducible refine (spec_l1Abs.calls ((rd_T28 t182 x22_2).f0) t191 _ A48.out).mono ?_); rintro e w' ⟨rfl, ⟨nd, rfl⟩⟩; refine ⟨_, rfl, ?_⟩; (try (rw [drewN_self wc]; generalize hq_ : World.drewN wc _ = wc; have n0_ : Aside0 (Kd.R k28 28 wc w.heap.size (fun k_ => k_ ≠ gb178 ∧ k_ ≠ gb181 ∧ k_ ≠ gb186) (.slice (some ad185) t182.length co23) t182) := ⟨by rw [← hq_]; exact (by (with_reducible repeat (first | apply Kd.R_alloc | apply Kd.R_drewN | apply Kd.R_drew)); exact HO_20.out)⟩; have n1_ : Aside0 (wc.heap[gb177]? = some (.cells #[.int .i64 a1_0, .int .i64 a1_1, .int .i64 a1_2, .int .i64 a1_3] 34 (0, 0))) := ⟨by rw [← hq_]; exact (bo gb177)⟩; have n2_ : Aside0 (wc.heap[gb178]? = some (.cells #[.int .i64 0, .int .i64 0] 28 (0, 0))) := ⟨by rw [← hq_]; exact (bo gb178)⟩; have n3_ : Aside0 (wc.heap[gb181]? = some (.cells #[.int .i64 x182000_2, .int .i64 x182001_2] 28 (0, 0))) := ⟨by rw [← hq_]; exact (bo gb181)⟩; have n4_ : Aside0 (wc.heap[gb186]? = some (.cells #[.int .i64 ((rd_T28 t182 x22_2).f0), .int .i64 ((rd_T28 t182 x22_2).f1)] 28 (0, 0))) := ⟨by rw [← hq_]; exact (bo gb186)⟩; have n5_ : Aside0 (Below w.heap.size w wc) := ⟨by rw [← hq_]; exact bl⟩; clear HO_20 BK177 BK178 BK181 BK186 HB hq_; have HO_20 := n0_; have BK177 := n1_; have BK178 := n2_; have BK181 := n3_; have BK186 := n4_; have HB := n5_; clear n0_ n1_ n2_ n3_ n4_ n5_)); have hcz64_0 : wc.cell? ⟨gb186, 0, none⟩ = some (.int .i64 ((rd_T28 t182 x22_2).f0)) := (blk_cell BK186.out 0).trans rfl; have hcz64_1 : wc.cell? ⟨gb186, 1, none⟩ = some (.int .i64 ((rd_T28 t182 x22_2).f1)) := (blk_cell BK186.out 1).trans rfl; have hfz64_0 := blk_frozen BK186.out 0; have hfz64_1 := blk_frozen BK186.out 1; have hnb65 := NB181_177.out; have hnc65 := NB177_181.out; have hnb66 := NB181_178.out; have hnc66 := NB178_181.out; have hcz67_0 : wc.cell? ⟨gb181, 0, none⟩ = some (.int .i64 x182000_2) := (blk_cell BK181.out 0).trans rfl; have hcz67_1 : wc.cell? ⟨gb181, 1, none⟩ = some (.int .i64 x182001_2) := (blk_cell BK181.out 1).trans rfl; have hfz67_0 := blk_frozen BK181.out 0; have hfz67_1 := blk_frozen BK181.out 1) | (go_at_call 45; (with_reducible refine (spec_raCmp.calls t191 ((rd_T28 t182 x22_2).f1) x182000_2 x182001_2 t192 _ A58.out).mono ?_); rintro e w68 ⟨rfl, hb⟩; replace HO_20 := Aside0.mk (Kd.R_below (by (with_reducible repeat (first | apply Kd.R_alloc | apply Kd.R_drewN | apply Kd.R_drew)); exact (Kd.R_mono (Kd.R_far (p := ⟨gb186, 0, none⟩) (Kd.R_mono HO_20.out (fun k_ hk => (⟨hk, hk.2.2⟩ : _ ∧ k_ ≠ gb186))) (fun _ hk => hk.2) (.int .i64 t191)) (fun _ h_ => h_.1))) hb); replace BK177 := Aside0.mk (blk_below (g := gb177) (o := .cells #[.int .i64 a1_0, .int .i64 a1_1, .int .i64 a1_2, .int .i64 a1_3] 34 (0, 0)) (by (with_reducible repeat (first | refine blk_drewN ?_ _ | refine blk_drew ?_ | refine blk_alloc ?_ _)); refine blk_far ?_ NB177_186.out _; (with_reducible repeat (first | refine blk_drewN ?_ _ | refine blk_drew ?_ | refine blk_alloc ?_ _)); exact BK177.out) hb); replace BK178 := Aside0.mk (blk_below (g := gb178) (o := .cells #[.int .i64 0, .int .i64 0] 28 (0, 0)) (by (with_reducible repeat (first | refine blk_drewN ?_ _ | refine blk_drew ?_ | refine blk_alloc ?_ _)); refine blk_far ?_ NB178_186.out _; (with_reducible repeat (first | refine blk_drewN ?_ _ | refine blk_drew ?_ | refine blk_alloc ?_ _)); exact BK178.out) hb); replace BK181 := Aside0.mk (blk_below (g := gb181) (o := .cells #[.int .i64 x182000_2, .int .i64 x182001_2] 28 (0, 0)) (by (with_reducible repeat (first | refine blk_drewN ?_ _ | refine blk_drew ?_ | refine blk_alloc ?_ _)); refine blk_far ?_ NB181_186.out _; (with_reducible repeat (first | refine blk_drewN ?_ _ | refine blk_drew ?_ | refine blk_alloc ?_ _)); exact BK181.out) hb); replace BK186 := Aside0.mk (blk_below (g := gb186) (o := .cells #[.int .i64 t191, .int .i64 ((rd_T28 t182 x22_2).f1)] 28 (0, 0)) (by (with_reducible repeat (first | refine blk_drewN ?_ _ | refine blk_drew ?_ | refine blk_alloc ?_ _)); refine blk_put (cs := #[.int .i64 ((rd_T28 t182 x22_2).f0), .int .i64 ((rd_T28 t182 x22_2).f1)]) ?_ 0 _ rfl; (with_reducible repeat (first | refine blk_drewN ?_ _ | refine blk_drew ?_ | refine blk_alloc ?_ _)); exact BK186.out) hb); replace HB := Aside0.mk (bs hb); (try clear hb); (try clear hb2); (try clear hk); (try clear hi); have hcz69_0 : w68.cell? ⟨gb186, 0, none⟩ = some (.int .i64 t191) := (blk_cell BK186.out 0).trans rfl; have hcz69_1 : w68.cell? ⟨gb186, 1, none⟩ = some (.int .i64 ((rd_T28 t182 x22_2).f1)) := (blk_cell BK186.out 1).trans rfl; have hfz69_0 := blk_frozen BK186.out 0; have hfz69_1 := blk_frozen BK186.out 1; have hcz70_0 : w68.cell? ⟨gb181, 0, none⟩ = some (.int .i64 x182000_2) := (blk_cell BK181.out 0).trans rfl; have hcz70_1 : w68.cell? ⟨gb181, 1, none⟩ = some (.int .i64 x182001_2) := (blk_cell BK181.out 1).trans rfl; have hfz70_0 := blk_frozen BK181.out 0; have hfz70_1 := blk_frozen BK181.out 1))
              go_roundg kj26
              case measure => have := HJ2.out; have := HK2.out; have := HJ26.out; omega
              case rel => exact ⟨(wrap64 (x22_2 + 1)), (t191), (((rd_T28 t182 x22_2).f1)), (by first | rfl | (simp; done) | (simp [*]; done)), H', ⟨by have := HJ2.out; have := HK2.out; have := HJ26.out; omega⟩, ⟨by (with_reducible repeat (first | apply Kd.R_alloc | apply Kd.R_drewN | apply Kd.R_drew)); exact Kd.R_mono (Kd.R_far (p := ⟨gb181, 1, none⟩) (Kd.R_far (p := ⟨gb181, 0, none⟩) (Kd.R_mono HO_20.out (fun k_ hk => (⟨hk, hk.2.1⟩ : _ ∧ k_ ≠ gb181))) (fun _ hk => hk.2) (.int .i64 t191)) (fun _ hk => hk.2) (.int .i64 ((rd_T28 t182 x22_2).f1))) (fun _ hk => ⟨hk.1.1, hk.1.2.1⟩)⟩, ⟨by (with_reducible repeat (first | refine blk_drewN ?_ _ | refine blk_drew ?_ | refine blk_alloc ?_ _)); refine blk_far ?_ NB177_181.out _; (with_reducible repeat (first | refine blk_drewN ?_ _ | refine blk_drew ?_ | refine blk_alloc ?_ _)); refine blk_far ?_ NB177_181.out _; (with_reducible repeat (first | refine blk_drewN ?_ _ | refine blk_drew ?_ | refine blk_alloc ?_ _)); exact BK177.out⟩, ⟨by (with_reducible repeat (first | refine blk_drewN ?_ _ | refine blk_drew ?_ | refine blk_alloc ?_ _)); refine blk_far ?_ NB178_181.out _; (with_reducible repeat (first | refine blk_drewN ?_ _ | refine blk_drew ?_ | refine blk_alloc ?_ _)); refine blk_far ?_ NB178_181.out _; (with_reducible repeat (first | refine blk_drewN ?_ _ | refine blk_drew ?_ | refine blk_alloc ?_ _)); exact BK178.out⟩, ⟨by (with_reducible repeat (first | refine blk_drewN ?_ _ | refine blk_drew ?_ | refine blk_alloc ?_ _)); refine blk_put (cs := #[.int .i64 t191, .int .i64 x182001_2]) ?_ 1 _ rfl; (with_reducible repeat (first | refine blk_drewN ?_ _ | refine blk_drew ?_ | refine blk_alloc ?_ _)); refine blk_put (cs := #[.int .i64 x182000_2, .int .i64 x182001_2]) ?_ 0 _ rfl; (with_reducible repeat (first | refine blk_drewN ?_ _ | refine blk_drew ?_ | refine blk_alloc ?_ _)); exact BK181.out⟩, ⟨bl⟩⟩
             ·rw [if_neg c59] at H
              have c59b0 : decide (t192 < 0) = false := decide_eq_false c59
              clear c59
              have H' := Aside0.mk H
              clear H
              have hnb71 := NB186_177.out
              have hnc71 := NB177_186.out
              have hnb72 := NB186_178.out
              have hnc72 := NB178_186.out
              have hnb73 := NB186_181.out
              have hnc73 := NB181_186.out
              have hcz74_0 : wc.cell? ⟨gb186, 0, none⟩ = some (.int .i64 ((rd_T28 t182 x22_2).f0)) := (blk_cell BK186.out 0).trans rfl
              have hcz74_1 : wc.cell? ⟨gb186, 1, none⟩ = some (.int .i64 ((rd_T28 t182 x22_2).f1)) := (blk_cell BK186.out 1).trans rfl
              have hfz74_0 := blk_frozen BK186.out 0
              have hfz74_1 := blk_frozen BK186.out 1
              go_wp2_with (first | ((with_reducible refine gate_callee (f := 46) rfl ?_); refine gl 50 Try.func46 #[.int .i64 ((rd_T28 t182 x22_2).f0)] ?_; (with_reducible refine (spec_l1Abs.calls ((rd_T28 t182 x22_2).f0) t191 _ A48.out).mono ?_); rintro e w' ⟨rfl, ⟨nd, rfl⟩⟩; refine ⟨_, rfl, ?_⟩; (try (rw [drewN_self wc]; generalize hq_ : World.drewN wc _ = wc; have n0_ : Aside0 (Kd.R k28 28 wc w.heap.size (fun k_ => k_ ≠ gb178 ∧ k_ ≠ gb181 ∧ k_ ≠ gb186) (.slice (some ad185) t182.length co23) t182) := ⟨by rw [← hq_]; exact (by (with_reducible repeat (first | apply Kd.R_alloc | apply Kd.R_drewN | apply Kd.R_drew)); exact HO_20.out)⟩; have n1_ : Aside0 (wc.heap[gb177]? = some (.cells #[.int .i64 a1_0, .int .i64 a1_1, .int .i64 a1_2, .int .i64 a1_3] 34 (0, 0))) := ⟨by rw [← hq_]; exact (bo gb177)⟩; have n2_ : Aside0 (wc.heap[gb178]? = some (.cells #[.int .i64 0, .int .i64 0] 28 (0, 0))) := ⟨by rw [← hq_]; exact (bo gb178)⟩; have n3_ : Aside0 (wc.heap[gb181]? = some (.cells #[.int .i64 x182000_2, .int .i64 x182001_2] 28 (0, 0))) := ⟨by rw [← hq_]; exact (bo gb181)⟩; have n4_ : Aside0 (wc.heap[gb186]? = some (.cells #[.int .i64 ((rd_T28 t182 x22_2).f0), .int .i64 ((rd_T28 t182 x22_2).f1)] 28 (0, 0))) := ⟨by rw [← hq_]; exact (bo gb186)⟩; have n5_ : Aside0 (Below w.heap.size w wc) := ⟨by rw [← hq_]; exact bl⟩; clear HO_20 BK177 BK178 BK181 BK186 HB hq_; have HO_20 := n0_; have BK177 := n1_; have BK178 := n2_; have BK181 := n3_; have BK186 := n4_; have HB := n5_; clear n0_ n1_ n2_ n3_ n4_ n5_)); have hcz75_0 : wc.cell? ⟨gb186, 0, none⟩ = some (.int .i64 ((rd_T28 t182 x22_2).f0)) := (blk_cell BK186.out 0).trans rfl; have hcz75_1 : wc.cell? ⟨gb186, 1, none⟩ = some (.int .i64 ((rd_T28 t182 x22_2).f1)) := (blk_cell BK186.out 1).trans rfl; have hfz75_0 := blk_frozen BK186.out 0; have hfz75_1 := blk_frozen BK186.out 1; have hnb76 := NB181_177.out; have hnc76 := NB177_181.out; have hnb77 := NB181_178.out; have hnc77 := NB178_181.out; have hcz78_0 : wc.cell? ⟨gb181, 0, none⟩ = some (.int .i64 x182000_2) := (blk_cell BK181.out 0).trans rfl; have hcz78_1 : wc.cell? ⟨gb181, 1, none⟩ = some (.int .i64 x182001_2) := (blk_cell BK181.out 1).trans rfl; have hfz78_0 := blk_frozen BK181.out 0; have hfz78_1 := blk_frozen BK181.out 1) | (go_at_call 45; (with_reducible refine (spec_raCmp.calls t191 ((rd_T28 t182 x22_2).f1) x182000_2 x182001_2 t192 _ A58.out).mono ?_); rintro e w79 ⟨rfl, hb⟩; replace HO_20 := Aside0.mk (Kd.R_below (by (with_reducible repeat (first | apply Kd.R_alloc | apply Kd.R_drewN | apply Kd.R_drew)); exact (Kd.R_mono (Kd.R_far (p := ⟨gb186, 0, none⟩) (Kd.R_mono HO_20.out (fun k_ hk => (⟨hk, hk.2.2⟩ : _ ∧ k_ ≠ gb186))) (fun _ hk => hk.2) (.int .i64 t191)) (fun _ h_ => h_.1))) hb); replace BK177 := Aside0.mk (blk_below (g := gb177) (o := .cells #[.int .i64 a1_0, .int .i64 a1_1, .int .i64 a1_2, .int .i64 a1_3] 34 (0, 0)) (by (with_reducible repeat (first | refine blk_drewN ?_ _ | refine blk_drew ?_ | refine blk_alloc ?_ _)); refine blk_far ?_ NB177_186.out _; (with_reducible repeat (first | refine blk_drewN ?_ _ | refine blk_drew ?_ | refine blk_alloc ?_ _)); exact BK177.out) hb); replace BK178 := Aside0.mk (blk_below (g := gb178) (o := .cells #[.int .i64 0, .int .i64 0] 28 (0, 0)) (by (with_reducible repeat (first | refine blk_drewN ?_ _ | refine blk_drew ?_ | refine blk_alloc ?_ _)); refine blk_far ?_ NB178_186.out _; (with_reducible repeat (first | refine blk_drewN ?_ _ | refine blk_drew ?_ | refine blk_alloc ?_ _)); exact BK178.out) hb); replace BK181 := Aside0.mk (blk_below (g := gb181) (o := .cells #[.int .i64 x182000_2, .int .i64 x182001_2] 28 (0, 0)) (by (with_reducible repeat (first | refine blk_drewN ?_ _ | refine blk_drew ?_ | refine blk_alloc ?_ _)); refine blk_far ?_ NB181_186.out _; (with_reducible repeat (first | refine blk_drewN ?_ _ | refine blk_drew ?_ | refine blk_alloc ?_ _)); exact BK181.out) hb); replace BK186 := Aside0.mk (blk_below (g := gb186) (o := .cells #[.int .i64 t191, .int .i64 ((rd_T28 t182 x22_2).f1)] 28 (0, 0)) (by (with_reducible repeat (first | refine blk_drewN ?_ _ | refine blk_drew ?_ | refine blk_alloc ?_ _)); refine blk_put (cs := #[.int .i64 ((rd_T28 t182 x22_2).f0), .int .i64 ((rd_T28 t182 x22_2).f1)]) ?_ 0 _ rfl; (with_reducible repeat (first | refine blk_drewN ?_ _ | refine blk_drew ?_ | refine blk_alloc ?_ _)); exact BK186.out) hb); replace HB := Aside0.mk (bs hb); (try clear hb); (try clear hb2); (try clear hk); (try clear hi)))
              go_roundg kj26
              case measure => have := HJ2.out; have := HK2.out; have := HJ26.out; omega
              case rel => exact ⟨(wrap64 (x22_2 + 1)), (x182000_2), (x182001_2), (by first | rfl | (simp; done) | (simp [*]; done)), H', ⟨by have := HJ2.out; have := HK2.out; have := HJ26.out; omega⟩, ⟨by (with_reducible repeat (first | apply Kd.R_alloc | apply Kd.R_drewN | apply Kd.R_drew)); exact Kd.R_mono HO_20.out (fun _ hk => ⟨hk.1, hk.2.1⟩)⟩, ⟨by (with_reducible repeat (first | refine blk_drewN ?_ _ | refine blk_drew ?_ | refine blk_alloc ?_ _)); exact BK177.out⟩, ⟨by (with_reducible repeat (first | refine blk_drewN ?_ _ | refine blk_drew ?_ | refine blk_alloc ?_ _)); exact BK178.out⟩, ⟨by (with_reducible repeat (first | refine blk_drewN ?_ _ | refine blk_drew ?_ | refine blk_alloc ?_ _)); exact BK181.out⟩, ⟨bl⟩⟩
        ·rw [if_neg c26] at H
         exact absurd H (by simp)
       ·rw [if_neg c25] at H
        exact absurd H (by simp)
      ·rw [if_neg c24] at H
       have c24b0 : decide (x22_2 < (t182.length : Int)) = false := decide_eq_false c24
       clear c24
       simp only [Option.some.injEq, Prod.mk.injEq] at H
       obtain ⟨rfl, rfl, rfl⟩ := H
       have hnb80 := NB181_177.out
       have hnc80 := NB177_181.out
       have hnb81 := NB181_178.out
       have hnc81 := NB178_181.out
       have hcz82_0 : wr.cell? ⟨gb181, 0, none⟩ = some (.int .i64 x182000_2) := (blk_cell BK181.out 0).trans rfl
       have hcz82_1 : wr.cell? ⟨gb181, 1, none⟩ = some (.int .i64 x182001_2) := (blk_cell BK181.out 1).trans rfl
       have hfz82_0 := blk_frozen BK181.out 0
       have hfz82_1 := blk_frozen BK181.out 1
       have hnb83 := NB178_177.out
       have hnc83 := NB177_178.out
       have hcz84_0 : wr.cell? ⟨gb178, 0, none⟩ = some (.int .i64 0) := (blk_cell BK178.out 0).trans rfl
       have hcz84_1 : wr.cell? ⟨gb178, 1, none⟩ = some (.int .i64 0) := (blk_cell BK178.out 1).trans rfl
       have hfz84_0 := blk_frozen BK178.out 0
       have hfz84_1 := blk_frozen BK178.out 1
       go_wp2
       refine bodyPost_ret (results_ct rfl _ _ gb178 28 #[.int .i64 x182000_2, .int .i64 x182001_2] (0, 0) _ rfl (by (with_reducible repeat (first | refine blk_drewN ?_ _ | refine blk_drew ?_ | refine blk_alloc ?_ _)); refine blk_put (cs := #[.int .i64 x182000_2, .int .i64 0]) ?_ 1 _ rfl; (with_reducible repeat (first | refine blk_drewN ?_ _ | refine blk_drew ?_ | refine blk_alloc ?_ _)); refine blk_put (cs := #[.int .i64 0, .int .i64 0]) ?_ 0 _ rfl; (with_reducible repeat (first | refine blk_drewN ?_ _ | refine blk_drew ?_ | refine blk_alloc ?_ _)); exact BK178.out) Try.underlying28 rfl (by kernel_rfl)) rfl ?_
       exact ⟨by first | rfl | (simp [errW_none, errW_some] <;> rfl) | (simp [*, errW_none, errW_some] <;> rfl), bl⟩

end Go.Proofs.Ytmecnnnagallnaa.PFnExactLeastSlope
