-- Written by this session's program wip/pp (the kit's print tool with additions) 35421559b90ae4d0a3588c463048766b98c2df88dd9212a6774a882060cdf62d
import Derived.Test.YtmecnnnagallnaaPFnExactLeastSlopex0
import Derived.Test.YtmecnnnagallnaaPFnExactLeastSlopex7
import Derived.Test.YtmecnnnagallnaaPFnExactLeastSlopex9
import Derived.Test.YtmecnnnagallnaaPFnExactLeastSlopex10
import Derived.Test.YtmecnnnagallnaaPFnExactLeastSlopex12
import Derived.Test.YtmecnnnagallnaaPFnExactLeastSlopex13
import Derived.Test.YtmecnnnagallnaaPFnExactLeastSlopex14
namespace Go.Proofs.Ytmecnnnagallnaa.PFnExactLeastSlope
open Go.RowKit Go.Proofs.YtmecnnnagallnaaW.PrintWords Go.Proofs.YtmecnnnagallnaaW.PrintLast Go.Proofs.YtmecnnnagallnaaW.PrintMore
attribute [local go_sem] max2_int min2_int max_two min_two max_three min_three max_four min_four   -- for this text's walks alone
set_option linter.unusedVariables false
set_option linter.unusedSimpArgs false

/-! ### impl_LeastSlope: function 16 -/
mutual
def impl_LeastSlope.j0 : Nat → List (S68) → Bool → Int → Int → Int → Int → Option (Int × Int × Bool)
 | 0, _, _, _, _, _, _ => none
 | k + 1, x0, x18, x380000, x380001, x380002, x380003 => if x18 = true then (some (0, 0, false)) else ((impl_slopes.f k x0).bind fun t383 => (impl_LeastSlope.l0 k x0 ([] : List (S28)) t383 (t383.length : Int) 0 x380000 x380001 x380002 x380003))
def impl_LeastSlope.l0 : Nat → List (S68) → List (S28) → List (S28) → Int → Int → Int → Int → Int → Int → Option (Int × Int × Bool)
 | 0, _, _, _, _, _, _, _, _, _ => none
 | k + 1, x0, x6, x21, x22, x23, x380000, x380001, x380002, x380003 => if x23 < x22 then (if 0 ≤ x23 then (if x23 < (x21.length : Int) then (if x23 < (x0.length : Int) then (if 0 ≤ (wrap64 (x23 + 1)) then (if (wrap64 (x23 + 1)) < (x0.length : Int) then ((impl_common.f x380000 x380001 x380002 x380003 ((rd_T68 x0 x23).f0.f0) ((rd_T68 x0 x23).f0.f1) ((rd_T68 x0 (wrap64 (x23 + 1))).f0.f0) ((rd_T68 x0 (wrap64 (x23 + 1))).f0.f1)).bind fun bt392 => (if bt392.2.2.2.2 = true then ((impl_abs.f ((rd_T28 x21 x23).f0)).bind fun t398 => (if x6.length < 8796093022208 then (impl_LeastSlope.l0 k x0 (x6 ++ [(⟨t398, (rd_T28 x21 x23).f1⟩ : S28)]) x21 x22 (wrap64 (x23 + 1)) x380000 x380001 x380002 x380003) else (none))) else (impl_LeastSlope.l0 k x0 x6 x21 x22 (wrap64 (x23 + 1)) x380000 x380001 x380002 x380003))) else (none)) else (none)) else (none)) else (none)) else (none)) else ((slices_MinFunc__impl_compare.f k x6).bind fun bt386 => (some (bt386.1, bt386.2, true)))
end
def impl_LeastSlope.f (k : Nat) (l0 : List (S68)) (a1_0 : Int) (a1_1 : Int) (a1_2 : Int) (a1_3 : Int) : Option (Int × Int × Bool) := (impl_isMap.f k l0).bind fun t381 => (if t381 = true then ((impl_isInterval.f k a1_0 a1_1 a1_2 a1_3).bind fun t382 => (impl_LeastSlope.j0 k l0 (!t382) a1_0 a1_1 a1_2 a1_3)) else (impl_LeastSlope.j0 k l0 true a1_0 a1_1 a1_2 a1_3))
def impl_LeastSlope.T7 : Bool × List (List Nat × List Nat) := (true, [([], []), ([], []), ([], []), ([1, 2], [1, 2]), ([3], [3]), ([4], [4]), ([], []), ([], []), ([7], [7]), ([6, 8], [6, 8]), ([9], [9]), ([10], [10]), ([5, 11], [5, 11]), ([0, 12], [0, 12]), ([13], [13]), ([14], [14]), ([14], [14]), ([], []), ([17, 15, 13, 0, 1, 2, 3, 4, 5, 6, 7, 8, 9, 10, 11, 12, 13, 14, 15, 17], [15, 17]), ([16, 18, 0, 1, 2, 3, 4, 5, 6, 7, 8, 9, 10, 11, 12, 13, 14, 15, 16, 17, 18], [16])])
def impl_LeastSlope.B7 : List Nat := [0, 0, 0, 6, 14, 30, 0, 0, 128, 448, 960, 1984, 4094, 8191, 16383, 32767, 32767, 0, 196607, 524287]
theorem impl_LeastSlope.tab7 : rtab .any (opsOf Try.f16 7) = impl_LeastSlope.T7 := by kernel_rfl
theorem impl_LeastSlope.bits7 : waitsOk impl_LeastSlope.T7.2 impl_LeastSlope.B7 = true := by kernel_rfl
def impl_LeastSlope.T9 : Bool × List (List Nat × List Nat) := (true, [([], []), ([], []), ([1], [1]), ([2], [2]), ([], []), ([4], [4]), ([3, 5], [3, 5]), ([6], [6]), ([0, 7, 3], [0, 7]), ([8, 8, 0, 1, 2, 3, 4, 5, 6, 7, 8], [0, 8])])
def impl_LeastSlope.B9 : List Nat := [0, 0, 2, 6, 0, 16, 62, 126, 255, 511]
theorem impl_LeastSlope.tab9 : rtab .any (opsOf Try.f16 9) = impl_LeastSlope.T9 := by kernel_rfl
theorem impl_LeastSlope.bits9 : waitsOk impl_LeastSlope.T9.2 impl_LeastSlope.B9 = true := by kernel_rfl
set_option maxHeartbeats 8000000 in
set_option maxRecDepth 100000 in
theorem impl_LeastSlope.calls (k : Nat) (A0 : Option Addr) (c0 : Nat) (l0 : List (S68)) (a1_0 : Int) (a1_1 : Int) (a1_2 : Int) (a1_3 : Int) (r1 : Int) (r2 : Int) (r3 : Bool) (w : World) (hr0 : Kd.C k68 w A0 l0.length l0) (hc0 : l0.length ≤ c0) (h : impl_LeastSlope.f k l0 a1_0 a1_1 a1_2 a1_3 = some (r1, r2, r3)) :
  Calls Try.prog 16 #[.slice A0 l0.length c0, .agg #[.int .i64 a1_0, .int .i64 a1_1, .int .i64 a1_2, .int .i64 a1_3]] w fun e w' => e = .returned (.tuple #[.agg #[.int .i64 r1, .int .i64 r2], .bool r3]) ∧ Below w.heap.size w w' := by
 have hu34 := Try.underlying34
 have hu28 := Try.underlying28
 have HR0 := Aside0.mk hr0
 have HC0 := Aside0.mk hc0
 clear hr0 hc0
 have HB := Aside0.mk (Below.refl w.heap.size w)
 have H : ((impl_isMap.f k l0).bind fun t381 => (if t381 = true then ((impl_isInterval.f k a1_0 a1_1 a1_2 a1_3).bind fun t382 => (impl_LeastSlope.j0 k l0 (!t382) a1_0 a1_1 a1_2 a1_3)) else (impl_LeastSlope.j0 k l0 true a1_0 a1_1 a1_2 a1_3))) = some (r1, r2, r3) := h
 clear h
 have HC3 := Aside0.mk H
 clear H
 go_enter Try.func16, Try.ntmps16
 go_upto_region 1 with (first | ((with_reducible refine gate_dst (N := 3) rfl ?_); refine bx 3 #[.int .i64 a1_0, .int .i64 a1_1, .int .i64 a1_2, .int .i64 a1_3] 34 ?_; intro gb379 hg w4 hbox hb; have BK379 := Aside0.mk (hbox); have GW379 := Aside0.mk (bz hg); have GE379 := GW379; replace HB := Aside0.mk (bs hb); clear hb hbox hg) | ((with_reducible refine gate_dst (N := 4) rfl ?_); refine bx 4 #[.int .i64 0, .int .i64 0] 28 ?_; intro gb380 hg w5 hbox hb; have BK380 := Aside0.mk (hbox); have GW380 := Aside0.mk (bz hg); have GE380 := GW380; have NB379_380 := Aside0.mk (bn gb379 hg); have NB380_379 := Aside0.mk NB379_380.out.symm; replace BK379 := Aside0.mk (bb gb379 hb); replace HB := Aside0.mk (bs hb); clear hb hbox hg))
 (try simp only [Act.put, List.setIfInBounds_toArray, List.set_cons_zero, List.set_cons_succ])
 go_cut [18] (fun v18 wc => ∃ (kq : Nat) (x18_2 : Bool), v18 = .bool x18_2 ∧ Aside0 (impl_LeastSlope.j0 kq l0 x18_2 a1_0 a1_1 a1_2 a1_3 = some (r1, r2, r3)) ∧ Aside0 (kq ≤ k) ∧ Aside0 (wc.heap[gb379]? = some (.cells #[.int .i64 a1_0, .int .i64 a1_1, .int .i64 a1_2, .int .i64 a1_3] 34 (0, 0))) ∧ Aside0 (wc.heap[gb380]? = some (.cells #[.int .i64 0, .int .i64 0] 28 (0, 0))) ∧ Aside0 (Below w.heap.size w wc))
 case first =>
  have H := HC3.out
  clear HC3
  replace H := Option.bind_eq_some_iff.mp H
  obtain ⟨t381, A60, H⟩ := H
  replace H : (if t381 = true then ((impl_isInterval.f k a1_0 a1_1 a1_2 a1_3).bind fun t382 => (impl_LeastSlope.j0 k l0 (!t382) a1_0 a1_1 a1_2 a1_3)) else (impl_LeastSlope.j0 k l0 true a1_0 a1_1 a1_2 a1_3)) = some (r1, r2, r3) := H
  have A6 := Aside0.mk A60
  clear A60
  by_cases c7 : t381 = true
  ·subst c7
   have H1 : ((impl_isInterval.f k a1_0 a1_1 a1_2 a1_3).bind fun t382 => (impl_LeastSlope.j0 k l0 (!t382) a1_0 a1_1 a1_2 a1_3)) = some (r1, r2, r3) := by rw [if_pos rfl] at H; exact H
   clear H
   have H := H1
   clear H1
   replace H := Option.bind_eq_some_iff.mp H
   obtain ⟨t382, A80, H⟩ := H
   replace H : (impl_LeastSlope.j0 k l0 (!t382) a1_0 a1_1 a1_2 a1_3) = some (r1, r2, r3) := H
   have A8 := Aside0.mk A80
   clear A80
   have H' := Aside0.mk H
   clear H
   go_wp2_with (first | ((with_reducible refine gate_callee (f := 48) rfl ?_); refine gl 12 Try.func48 #[.slice A0 l0.length c0] ?_; (with_reducible refine (impl_isMap.calls k _ _ l0 true _ ?side1 ?side2 A6.out).mono ?_); (case side1 => repeat (first | exact (Kd.C_below HR0.out HB.out) | (with_reducible refine Kd.C_alloc ?_ _) | (with_reducible refine Kd.C_drewN ?_ _) | (with_reducible refine Kd.C_drew ?_))); (case side2 => exact HC0.out); rintro e w9 ⟨rfl, hb⟩; refine ⟨_, rfl, ?_⟩; replace BK379 := Aside0.mk (bb gb379 hb); replace BK380 := Aside0.mk (bb gb380 hb); replace HB := Aside0.mk (bs hb); (try clear hb); (try clear hb2); (try clear hk); (try clear hi); have hnb10 := NB379_380.out; have hnc10 := NB380_379.out; have hcz11_0 : w9.cell? ⟨gb379, 0, none⟩ = some (.int .i64 a1_0) := (blk_cell BK379.out 0).trans rfl; have hcz11_1 : w9.cell? ⟨gb379, 1, none⟩ = some (.int .i64 a1_1) := (blk_cell BK379.out 1).trans rfl; have hcz11_2 : w9.cell? ⟨gb379, 2, none⟩ = some (.int .i64 a1_2) := (blk_cell BK379.out 2).trans rfl; have hcz11_3 : w9.cell? ⟨gb379, 3, none⟩ = some (.int .i64 a1_3) := (blk_cell BK379.out 3).trans rfl; have hfz11_0 := blk_frozen BK379.out 0; have hfz11_1 := blk_frozen BK379.out 1; have hfz11_2 := blk_frozen BK379.out 2; have hfz11_3 := blk_frozen BK379.out 3) | (go_at_call 49; (with_reducible refine (impl_isInterval.calls k a1_0 a1_1 a1_2 a1_3 t382 _ A8.out).mono ?_); rintro e w12 ⟨rfl, hb⟩; replace BK379 := Aside0.mk (bb gb379 hb); replace BK380 := Aside0.mk (bb gb380 hb); replace HB := Aside0.mk (bs hb); (try clear hb); (try clear hb2); (try clear hk); (try clear hi)))
   go_meet
   case rel => exact ⟨_, (!t382), (by first | rfl | (simp; done) | (simp [*]; done)), H', ⟨by first | omega | exact Nat.le_refl _⟩, ⟨by (with_reducible repeat (first | refine blk_drewN ?_ _ | refine blk_drew ?_ | refine blk_alloc ?_ _)); exact BK379.out⟩, ⟨by (with_reducible repeat (first | refine blk_drewN ?_ _ | refine blk_drew ?_ | refine blk_alloc ?_ _)); exact BK380.out⟩, ⟨bl⟩⟩
  ·replace c7 := Bool.eq_false_iff.mpr c7
   subst c7
   have H1 : (impl_LeastSlope.j0 k l0 true a1_0 a1_1 a1_2 a1_3) = some (r1, r2, r3) := by rw [if_neg (show ¬ (false = true) by decide)] at H; exact H
   clear H
   have H := H1
   clear H1
   have H' := Aside0.mk H
   clear H
   go_wp2_with (first | ((with_reducible refine gate_callee (f := 48) rfl ?_); refine gl 12 Try.func48 #[.slice A0 l0.length c0] ?_; (with_reducible refine (impl_isMap.calls k _ _ l0 false _ ?side1 ?side2 A6.out).mono ?_); (case side1 => repeat (first | exact (Kd.C_below HR0.out HB.out) | (with_reducible refine Kd.C_alloc ?_ _) | (with_reducible refine Kd.C_drewN ?_ _) | (with_reducible refine Kd.C_drew ?_))); (case side2 => exact HC0.out); rintro e w13 ⟨rfl, hb⟩; refine ⟨_, rfl, ?_⟩; replace BK379 := Aside0.mk (bb gb379 hb); replace BK380 := Aside0.mk (bb gb380 hb); replace HB := Aside0.mk (bs hb); (try clear hb); (try clear hb2); (try clear hk); (try clear hi)))
   go_meet
   case rel => exact ⟨_, (true), (by first | rfl | (simp; done) | (simp [*]; done)), H', ⟨by first | omega | exact Nat.le_refl _⟩, ⟨by (with_reducible repeat (first | refine blk_drewN ?_ _ | refine blk_drew ?_ | refine blk_alloc ?_ _)); exact BK379.out⟩, ⟨by (with_reducible repeat (first | refine blk_drewN ?_ _ | refine blk_drew ?_ | refine blk_alloc ?_ _)); exact BK380.out⟩, ⟨bl⟩⟩
 case rest =>
  clear HC3
  try clear c1
  try clear p2
  try clear c4
  try clear c7
  try clear c10
  try clear hcz11_0
  try clear hcz11_1
  try clear hcz11_2
  try clear hcz11_3
  try clear hfz11_0
  try clear hfz11_1
  try clear hfz11_2
  try clear hfz11_3
  obtain ⟨kq, x18_2, rfl, HA, HJ2, BK379, BK380, HB⟩ := hcut
  cases kq with
  | zero => exact absurd HA.out (by simp [impl_LeastSlope.j0])
  | succ kj2 =>
   have H := HA.out
   clear HA
   simp only [impl_LeastSlope.j0] at H
   by_cases c14 : x18_2 = true
   ·subst c14
    have H1 : (some (0, 0, false)) = some (r1, r2, r3) := by rw [if_pos rfl] at H; exact H
    clear H
    have H := H1
    clear H1
    simp only [Option.some.injEq, Prod.mk.injEq] at H
    obtain ⟨rfl, rfl, rfl⟩ := H
    have hnb15 := NB380_379.out
    have hnc15 := NB379_380.out
    have hcz16_0 : wc.cell? ⟨gb380, 0, none⟩ = some (.int .i64 0) := (blk_cell BK380.out 0).trans rfl
    have hcz16_1 : wc.cell? ⟨gb380, 1, none⟩ = some (.int .i64 0) := (blk_cell BK380.out 1).trans rfl
    have hfz16_0 := blk_frozen BK380.out 0
    have hfz16_1 := blk_frozen BK380.out 1
    go_wp2
    refine bodyPost_ret (results_ct rfl _ _ gb380 28 #[.int .i64 0, .int .i64 0] (0, 0) _ rfl (by (with_reducible repeat (first | refine blk_drewN ?_ _ | refine blk_drew ?_ | refine blk_alloc ?_ _)); refine blk_put (cs := #[.int .i64 0, .int .i64 0]) ?_ 1 _ rfl; (with_reducible repeat (first | refine blk_drewN ?_ _ | refine blk_drew ?_ | refine blk_alloc ?_ _)); refine blk_put (cs := #[.int .i64 0, .int .i64 0]) ?_ 0 _ rfl; (with_reducible repeat (first | refine blk_drewN ?_ _ | refine blk_drew ?_ | refine blk_alloc ?_ _)); exact BK380.out) Try.underlying28 rfl (by kernel_rfl)) rfl ?_
    exact ⟨by first | rfl | (simp [errW_none, errW_some] <;> rfl) | (simp [*, errW_none, errW_some] <;> rfl), bl⟩
   ·replace c14 := Bool.eq_false_iff.mpr c14
    subst c14
    have H1 : ((impl_slopes.f kj2 l0).bind fun t383 => (impl_LeastSlope.l0 kj2 l0 ([] : List (S28)) t383 (t383.length : Int) 0 a1_0 a1_1 a1_2 a1_3)) = some (r1, r2, r3) := by rw [if_neg (show ¬ (false = true) by decide)] at H; exact H
    clear H
    have H := H1
    clear H1
    replace H := Option.bind_eq_some_iff.mp H
    obtain ⟨t383, A170, H⟩ := H
    replace H : (impl_LeastSlope.l0 kj2 l0 ([] : List (S28)) t383 (t383.length : Int) 0 a1_0 a1_1 a1_2 a1_3) = some (r1, r2, r3) := H
    have A17 := Aside0.mk A170
    clear A170
    have H' := Aside0.mk H
    clear H
    go_wp2_with (first | ((with_reducible refine gate_callee (f := 50) rfl ?_); refine gl 21 Try.func50 #[.slice A0 l0.length c0] ?_; (with_reducible refine (impl_slopes.calls kj2 _ _ l0 t383 _ ?side1 ?side2 A17.out).mono ?_); (case side1 => repeat (first | exact (Kd.C_below HR0.out HB.out) | (with_reducible refine Kd.C_alloc ?_ _) | (with_reducible refine Kd.C_drewN ?_ _) | (with_reducible refine Kd.C_drew ?_))); (case side2 => exact HC0.out); rintro e w18 ⟨v384, rfl, ho0, hb⟩; refine ⟨_, rfl, ?_⟩; have HO385 := Aside0.mk (Kd.R_lower (Kd.R_newB ho0 (g := gb380) (o := .cells #[.int .i64 0, .int .i64 0] 28 (0, 0)) (bo gb380)) (below_size bl)); replace BK379 := Aside0.mk (bb gb379 hb); replace BK380 := Aside0.mk (bb gb380 hb); replace HB := Aside0.mk (bs hb); (try clear hb); (try clear hb2); (try clear hk); (try clear hi); (try clear ho0); obtain ⟨Ao19, co19, eo19⟩ := Kd.R_slice HO385.out; subst eo19))
    go_loopg [6, 23] kj2 (fun kq v6 v23 w' => ∃ (x6_2 : List (S28)) (x23_2 : Int), v23 = .int .i64 x23_2 ∧ Aside0 (impl_LeastSlope.l0 kq l0 x6_2 t383 (t383.length : Int) x23_2 a1_0 a1_1 a1_2 a1_3 = some (r1, r2, r3)) ∧ Aside0 (kq ≤ kj2) ∧ Aside0 (Kd.R k28 28 w' w.heap.size (fun k_ => some k_ ≠ ((.slice Ao19 t383.length co19) : Value).ownBlock ∧ k_ ≠ gb380) v6 x6_2) ∧ Aside0 (Kd.R k28 28 w' w.heap.size (fun k_ => some k_ ≠ (v6 : Value).ownBlock ∧ k_ ≠ gb380) (.slice Ao19 t383.length co19) t383) ∧ Aside0 (w'.heap[gb379]? = some (.cells #[.int .i64 a1_0, .int .i64 a1_1, .int .i64 a1_2, .int .i64 a1_3] 34 (0, 0))) ∧ Aside0 (w'.heap[gb380]? = some (.cells #[.int .i64 0, .int .i64 0] 28 (0, 0))) ∧ Aside0 (Below w.heap.size w w'))
    case atStart => exact ⟨(([] : List (S28))), (0), (by first | rfl | (simp; done) | (simp [*]; done)), H', ⟨Nat.le_refl _⟩, ⟨by first | exact Kd.R_nil _ _ _ _ _ | exact Kd.N_nil _ _ _ _ _ | exact Kd.V_nil _ _ _ _ _ | exact Kd.Q_nil _ _ _ _ _ | exact Kd.S_nil _ _ _ _ _⟩, ⟨by (with_reducible repeat (first | apply Kd.R_alloc | apply Kd.R_drewN | apply Kd.R_drew)); exact Kd.R_mono HO385.out (fun _ hk => ⟨(by simp [Value.ownBlock]), hk.2⟩)⟩, ⟨by (with_reducible repeat (first | refine blk_drewN ?_ _ | refine blk_drew ?_ | refine blk_alloc ?_ _)); exact BK379.out⟩, ⟨by (with_reducible repeat (first | refine blk_drewN ?_ _ | refine blk_drew ?_ | refine blk_alloc ?_ _)); exact BK380.out⟩, ⟨bl⟩⟩
    case round =>
     clear H'
     try clear c1
     try clear p2
     try clear c4
     try clear c5
     try clear c7
     try clear c10
     try clear c14
     try clear c15
     try clear c16
     try clear hcz11_0
     try clear hcz11_1
     try clear hcz11_2
     try clear hcz11_3
     try clear hcz16_0
     try clear hcz16_1
     try clear hfz11_0
     try clear hfz11_1
     try clear hfz11_2
     try clear hfz11_3
     try clear hfz16_0
     try clear hfz16_1
     try clear p2
     obtain ⟨x6_2, x23_2, rfl, HA, HK2, HO_6, HO_21, BK379, BK380, HB⟩ := hrel
     cases gk with
     | zero => exact absurd HA.out (by simp [impl_LeastSlope.l0])
     | succ k2 =>
      have H := HA.out
      clear HA
      simp only [impl_LeastSlope.l0] at H
      by_cases c20 : x23_2 < (t383.length : Int)
      ·rw [if_pos c20] at H
       have c20b0 : decide (x23_2 < (t383.length : Int)) = true := decide_eq_true c20
       clear c20
       by_cases c21 : 0 ≤ x23_2
       ·rw [if_pos c21] at H
        have c21b0 : decide (0 ≤ x23_2) = true := decide_eq_true c21
        clear c21
        by_cases c22 : x23_2 < (t383.length : Int)
        ·rw [if_pos c22] at H
         have c22b0 : decide (x23_2 < (t383.length : Int)) = true := decide_eq_true c22
         clear c22
         by_cases c23 : x23_2 < (l0.length : Int)
         ·rw [if_pos c23] at H
          have c23b0 : decide (x23_2 < (l0.length : Int)) = true := decide_eq_true c23
          clear c23
          obtain ⟨ji24, hji24⟩ : ∃ j_ : Int, (wrap64 (x23_2 + 1)) = j_ := ⟨_, rfl⟩
          replace H : (if 0 ≤ (ji24) then (if (ji24) < (l0.length : Int) then ((impl_common.f a1_0 a1_1 a1_2 a1_3 ((rd_T68 l0 x23_2).f0.f0) ((rd_T68 l0 x23_2).f0.f1) ((rd_T68 l0 (ji24)).f0.f0) ((rd_T68 l0 (ji24)).f0.f1)).bind fun bt392 => (if bt392.2.2.2.2 = true then ((impl_abs.f ((rd_T28 t383 x23_2).f0)).bind fun t398 => (if x6_2.length < 8796093022208 then (impl_LeastSlope.l0 k2 l0 (x6_2 ++ [(⟨t398, (rd_T28 t383 x23_2).f1⟩ : S28)]) t383 (t383.length : Int) ji24 a1_0 a1_1 a1_2 a1_3) else (none))) else (impl_LeastSlope.l0 k2 l0 x6_2 t383 (t383.length : Int) ji24 a1_0 a1_1 a1_2 a1_3))) else (none)) else (none)) = some (r1, r2, r3) := by first | (rw [hji24] at H; exact H) | (simp only [hji24] at H ⊢; exact H)
          have hji24w : (IntKind.i64.wrap (x23_2 + 1)) = ji24 := (i64_w _).trans hji24
          by_cases c25 : 0 ≤ (ji24)
          ·rw [if_pos c25] at H
           have c25b0 : decide (0 ≤ (ji24)) = true := decide_eq_true c25
           clear c25
           by_cases c26 : (ji24) < (l0.length : Int)
           ·rw [if_pos c26] at H
            have c26b0 : decide ((ji24) < (l0.length : Int)) = true := decide_eq_true c26
            clear c26
            replace H := Option.bind_eq_some_iff.mp H
            obtain ⟨⟨t392, t393, t394, t395, t396⟩, A270, H⟩ := H
            replace H : (if t396 = true then ((impl_abs.f ((rd_T28 t383 x23_2).f0)).bind fun t398 => (if x6_2.length < 8796093022208 then (impl_LeastSlope.l0 k2 l0 (x6_2 ++ [(⟨t398, (rd_T28 t383 x23_2).f1⟩ : S28)]) t383 (t383.length : Int) ji24 a1_0 a1_1 a1_2 a1_3) else (none))) else (impl_LeastSlope.l0 k2 l0 x6_2 t383 (t383.length : Int) ji24 a1_0 a1_1 a1_2 a1_3)) = some (r1, r2, r3) := H
            have A27 := Aside0.mk A270
            clear A270
            by_cases c28 : t396 = true
            ·subst c28
             have H1 : ((impl_abs.f ((rd_T28 t383 x23_2).f0)).bind fun t398 => (if x6_2.length < 8796093022208 then (impl_LeastSlope.l0 k2 l0 (x6_2 ++ [(⟨t398, (rd_T28 t383 x23_2).f1⟩ : S28)]) t383 (t383.length : Int) ji24 a1_0 a1_1 a1_2 a1_3) else (none))) = some (r1, r2, r3) := by rw [if_pos rfl] at H; exact H
             clear H
             have H := H1
             clear H1
             replace H := Option.bind_eq_some_iff.mp H
             obtain ⟨t398, A290, H⟩ := H
             replace H : (if x6_2.length < 8796093022208 then (impl_LeastSlope.l0 k2 l0 (x6_2 ++ [(⟨t398, (rd_T28 t383 x23_2).f1⟩ : S28)]) t383 (t383.length : Int) ji24 a1_0 a1_1 a1_2 a1_3) else (none)) = some (r1, r2, r3) := H
             have A29 := Aside0.mk A290
             clear A290
             by_cases c30 : x6_2.length < 8796093022208
             ·rw [if_pos c30] at H
              have LMc30 := Aside0.mk c30
              clear c30
              obtain ⟨y399, hy399⟩ : ∃ y_ : List (S28), y_ = (x6_2 ++ [(⟨t398, (rd_T28 t383 x23_2).f1⟩ : S28)]) := ⟨_, rfl⟩
              replace H : (impl_LeastSlope.l0 k2 l0 y399 t383 (t383.length : Int) ji24 a1_0 a1_1 a1_2 a1_3) = some (r1, r2, r3) := by first | (rw [hy399]; with_reducible exact H) | (have H2_ := (Option.bind_some _ _).symm.trans H; rw [hy399]; with_reducible exact H2_) | (have H2_ := (Option.bind_some _ _).symm.trans H; with_reducible exact H2_) | with_reducible exact H | (rw [hy399]; exact H) | exact H
              have Ny399 := Aside0.mk hy399
              clear hy399
              have H' := Aside0.mk H
              clear H
              have p388 : 0 ≤ (x23_2 : Int) := da
              have q388 : x23_2 < (t383.length : Int) := da
              obtain ⟨ad388, e388, hx388_0, hx388_1⟩ := at_T28 (Kd.R_reads' HO_21.out).2.2 x23_2 p388 q388
              cases e388
              replace p388 := eq_true p388
              replace q388 := eq_true q388
              try go_wp2_with (first | ((with_reducible refine gate_dst (N := 8) rfl ?_); refine bx 8 #[.int .i64 0, .int .i64 0] 28 ?_; intro gb389 hg w31 hbox hb; have BK389 := Aside0.mk (hbox); have GW389 := Aside0.mk (bz hg); have GE389 := GW389; have NB379_389 := Aside0.mk (bn gb379 hg); have NB389_379 := Aside0.mk NB379_389.out.symm; have NB380_389 := Aside0.mk (bn gb380 hg); have NB389_380 := Aside0.mk NB380_389.out.symm; replace HO_6 := Aside0.mk (Kd.R_below (Kd.R_elderB (by (with_reducible repeat (first | apply Kd.R_alloc | apply Kd.R_drewN | apply Kd.R_drew)); exact HO_6.out) gb389 (Nat.le_of_eq hg.symm)) hb); replace HO_21 := Aside0.mk (Kd.R_below (Kd.R_elderB (by (with_reducible repeat (first | apply Kd.R_alloc | apply Kd.R_drewN | apply Kd.R_drew)); exact HO_21.out) gb389 (Nat.le_of_eq hg.symm)) hb); replace BK379 := Aside0.mk (bb gb379 hb); replace BK380 := Aside0.mk (bb gb380 hb); replace HB := Aside0.mk (bs hb); clear hb hbox hg; have hnb32 := NB389_379.out; have hnc32 := NB379_389.out; have hnb33 := NB389_380.out; have hnc33 := NB380_389.out; have hcz34_0 : w31.cell? ⟨gb389, 0, none⟩ = some (.int .i64 0) := (blk_cell BK389.out 0).trans rfl; have hcz34_1 : w31.cell? ⟨gb389, 1, none⟩ = some (.int .i64 0) := (blk_cell BK389.out 1).trans rfl; have hfz34_0 := blk_frozen BK389.out 0; have hfz34_1 := blk_frozen BK389.out 1))
              have n0_ : Aside0 (Kd.R k28 28 ((w31.setCell ⟨gb389, 0, none⟩ (.int .i64 ((rd_T28 t383 x23_2).f0))).setCell ⟨gb389, 1, none⟩ (.int .i64 ((rd_T28 t383 x23_2).f1))) w.heap.size (fun k_ => some k_ ≠ (.slice (some ad388) t383.length co19 : Value).ownBlock ∧ k_ ≠ gb380 ∧ k_ ≠ gb389) u6 x6_2) := ⟨by (with_reducible repeat (first | apply Kd.R_alloc | apply Kd.R_drewN | apply Kd.R_drew)); exact Kd.R_mono (Kd.R_far (p := ⟨gb389, 1, none⟩) (Kd.R_far (p := ⟨gb389, 0, none⟩) (Kd.R_mono HO_6.out (fun k_ hk => (⟨hk, hk.2⟩ : _ ∧ k_ ≠ gb389))) (fun _ hk => hk.2) (.int .i64 ((rd_T28 t383 x23_2).f0))) (fun _ hk => hk.2) (.int .i64 ((rd_T28 t383 x23_2).f1))) (fun _ hk => ⟨hk.1.1.1, ⟨hk.1.1.2, hk.1.2⟩⟩)⟩
              have n1_ : Aside0 (Kd.R k28 28 ((w31.setCell ⟨gb389, 0, none⟩ (.int .i64 ((rd_T28 t383 x23_2).f0))).setCell ⟨gb389, 1, none⟩ (.int .i64 ((rd_T28 t383 x23_2).f1))) w.heap.size (fun k_ => some k_ ≠ (u6 : Value).ownBlock ∧ k_ ≠ gb380 ∧ k_ ≠ gb389) (.slice (some ad388) t383.length co19) t383) := ⟨by (with_reducible repeat (first | apply Kd.R_alloc | apply Kd.R_drewN | apply Kd.R_drew)); exact Kd.R_mono (Kd.R_far (p := ⟨gb389, 1, none⟩) (Kd.R_far (p := ⟨gb389, 0, none⟩) (Kd.R_mono HO_21.out (fun k_ hk => (⟨hk, hk.2⟩ : _ ∧ k_ ≠ gb389))) (fun _ hk => hk.2) (.int .i64 ((rd_T28 t383 x23_2).f0))) (fun _ hk => hk.2) (.int .i64 ((rd_T28 t383 x23_2).f1))) (fun _ hk => ⟨hk.1.1.1, ⟨hk.1.1.2, hk.1.2⟩⟩)⟩
              have n2_ : Aside0 (((w31.setCell ⟨gb389, 0, none⟩ (.int .i64 ((rd_T28 t383 x23_2).f0))).setCell ⟨gb389, 1, none⟩ (.int .i64 ((rd_T28 t383 x23_2).f1))).heap[gb379]? = some (.cells #[.int .i64 a1_0, .int .i64 a1_1, .int .i64 a1_2, .int .i64 a1_3] 34 (0, 0))) := ⟨by (with_reducible repeat (first | refine blk_drewN ?_ _ | refine blk_drew ?_ | refine blk_alloc ?_ _)); refine blk_far ?_ NB379_389.out _; (with_reducible repeat (first | refine blk_drewN ?_ _ | refine blk_drew ?_ | refine blk_alloc ?_ _)); refine blk_far ?_ NB379_389.out _; (with_reducible repeat (first | refine blk_drewN ?_ _ | refine blk_drew ?_ | refine blk_alloc ?_ _)); exact BK379.out⟩
              have n3_ : Aside0 (((w31.setCell ⟨gb389, 0, none⟩ (.int .i64 ((rd_T28 t383 x23_2).f0))).setCell ⟨gb389, 1, none⟩ (.int .i64 ((rd_T28 t383 x23_2).f1))).heap[gb380]? = some (.cells #[.int .i64 0, .int .i64 0] 28 (0, 0))) := ⟨by (with_reducible repeat (first | refine blk_drewN ?_ _ | refine blk_drew ?_ | refine blk_alloc ?_ _)); refine blk_far ?_ NB380_389.out _; (with_reducible repeat (first | refine blk_drewN ?_ _ | refine blk_drew ?_ | refine blk_alloc ?_ _)); refine blk_far ?_ NB380_389.out _; (with_reducible repeat (first | refine blk_drewN ?_ _ | refine blk_drew ?_ | refine blk_alloc ?_ _)); exact BK380.out⟩
              have n4_ : Aside0 (((w31.setCell ⟨gb389, 0, none⟩ (.int .i64 ((rd_T28 t383 x23_2).f0))).setCell ⟨gb389, 1, none⟩ (.int .i64 ((rd_T28 t383 x23_2).f1))).heap[gb389]? = some (.cells #[.int .i64 ((rd_T28 t383 x23_2).f0), .int .i64 ((rd_T28 t383 x23_2).f1)] 28 (0, 0))) := ⟨by (with_reducible repeat (first | refine blk_drewN ?_ _ | refine blk_drew ?_ | refine blk_alloc ?_ _)); refine blk_put (cs := #[.int .i64 ((rd_T28 t383 x23_2).f0), .int .i64 0]) ?_ 1 _ rfl; (with_reducible repeat (first | refine blk_drewN ?_ _ | refine blk_drew ?_ | refine blk_alloc ?_ _)); refine blk_put (cs := #[.int .i64 0, .int .i64 0]) ?_ 0 _ rfl; (with_reducible repeat (first | refine blk_drewN ?_ _ | refine blk_drew ?_ | refine blk_alloc ?_ _)); exact BK389.out⟩
              have n5_ : Aside0 (Below w.heap.size w ((w31.setCell ⟨gb389, 0, none⟩ (.int .i64 ((rd_T28 t383 x23_2).f0))).setCell ⟨gb389, 1, none⟩ (.int .i64 ((rd_T28 t383 x23_2).f1)))) := ⟨bl⟩
              (try clear HO_6)
              (try clear HO_21)
              (try clear BK379)
              (try clear BK380)
              (try clear BK389)
              (try clear HB)
              generalize ((w31.setCell ⟨gb389, 0, none⟩ (.int .i64 ((rd_T28 t383 x23_2).f0))).setCell ⟨gb389, 1, none⟩ (.int .i64 ((rd_T28 t383 x23_2).f1))) = w35 at n0_ n1_ n2_ n3_ n4_ n5_ ⊢
              have HO_6 := n0_
              have HO_21 := n1_
              have BK379 := n2_
              have BK380 := n3_
              have BK389 := n4_
              have HB := n5_
              clear n0_ n1_ n2_ n3_ n4_ n5_
              replace HO_6 := Aside0.mk (Kd.R_drew HO_6.out)
              replace HO_21 := Aside0.mk (Kd.R_drew HO_21.out)
              replace BK379 := Aside0.mk (blk_drew BK379.out)
              replace BK380 := Aside0.mk (blk_drew BK380.out)
              replace BK389 := Aside0.mk (blk_drew BK389.out)
              replace HB := Aside0.mk (below_drew1 HB.out)
              have p390 : 0 ≤ (x23_2 : Int) := da
              have q390 : x23_2 < (l0.length : Int) := da
              obtain ⟨ad390, e390, hx390_0, hx390_1, hx390_2, hx390_3⟩ := at_T68 HR0.out x23_2 p390 q390
              have hw390_3 := hx390_3
              have hw390_2 := hx390_2
              have hw390_1 := hx390_1
              have hw390_0 := hx390_0
              cases e390
              replace hx390_0 := (hc HB hx390_0 :)
              replace hx390_1 := (hc HB hx390_1 :)
              replace hx390_2 := (hc HB hx390_2 :)
              replace hx390_3 := (hc HB hx390_3 :)
              replace p390 := eq_true p390
              replace q390 := eq_true q390
              have p391 : 0 ≤ ((ji24) : Int) := da
              have q391 : (ji24) < (l0.length : Int) := da
              obtain ⟨ad391, e391, hx391_0, hx391_1, hx391_2, hx391_3⟩ := at_T68 HR0.out (ji24) p391 q391
              have hw391_3 := hx391_3
              have hw391_2 := hx391_2
              have hw391_1 := hx391_1
              have hw391_0 := hx391_0
              obtain rfl : ad390 = ad391 := (by injection e391)
              replace hx391_0 := (hc HB hx391_0 :)
              replace hx391_1 := (hc HB hx391_1 :)
              replace hx391_2 := (hc HB hx391_2 :)
              replace hx391_3 := (hc HB hx391_3 :)
              replace p391 := eq_true p391
              replace q391 := eq_true q391
              refine start_ (n := 20) (S := fun w' => w'.cell? ⟨gb379, 0, none⟩ = some (.int .i64 a1_0) ∧ w'.cell? ⟨gb379, 1, none⟩ = some (.int .i64 a1_1) ∧ w'.cell? ⟨gb379, 2, none⟩ = some (.int .i64 a1_2) ∧ w'.cell? ⟨gb379, 3, none⟩ = some (.int .i64 a1_3) ∧ w'.cell? (ad390.add ((x23_2).toNat * 4)) = some (.int .i64 ((rd_T68 l0 x23_2).f0.f0)) ∧ w'.cell? ⟨(ad390.add ((x23_2).toNat * 4)).block, (ad390.add ((x23_2).toNat * 4)).off + 1, none⟩ = some (.int .i64 ((rd_T68 l0 x23_2).f0.f1)) ∧ w'.cell? ⟨(ad390.add ((x23_2).toNat * 4)).block, (ad390.add ((x23_2).toNat * 4)).off + 2, none⟩ = some (.int .i64 ((rd_T68 l0 x23_2).f1.f0)) ∧ w'.cell? ⟨(ad390.add ((x23_2).toNat * 4)).block, (ad390.add ((x23_2).toNat * 4)).off + 3, none⟩ = some (.int .i64 ((rd_T68 l0 x23_2).f1.f1)) ∧ w'.cell? (ad390.add (((ji24)).toNat * 4)) = some (.int .i64 ((rd_T68 l0 (ji24)).f0.f0)) ∧ w'.cell? ⟨(ad390.add (((ji24)).toNat * 4)).block, (ad390.add (((ji24)).toNat * 4)).off + 1, none⟩ = some (.int .i64 ((rd_T68 l0 (ji24)).f0.f1)) ∧ w'.cell? ⟨(ad390.add (((ji24)).toNat * 4)).block, (ad390.add (((ji24)).toNat * 4)).off + 2, none⟩ = some (.int .i64 ((rd_T68 l0 (ji24)).f1.f0)) ∧ w'.cell? ⟨(ad390.add (((ji24)).toNat * 4)).block, (ad390.add (((ji24)).toNat * 4)).off + 3, none⟩ = some (.int .i64 ((rd_T68 l0 (ji24)).f1.f1))) (ds := []) (tb 0 20) (by kernel_rfl) rfl rfl ⟨(blk_cell BK379.out 0).trans rfl, (blk_cell BK379.out 1).trans rfl, (blk_cell BK379.out 2).trans rfl, (blk_cell BK379.out 3).trans rfl, (hc HB hw390_0 :), (hc HB hw390_1 :), (hc HB hw390_2 :), (hc HB hw390_3 :), (hc HB hw391_0 :), (hc HB hw391_1 :), (hc HB hw391_2 :), (hc HB hw391_3 :)⟩ (fun hHeld => ?_); refine with_tabW impl_LeastSlope.tab7 impl_LeastSlope.bits7 (fun HT_ HW_ => ?_)
              generalize w35.drew = w36 at HO_6 HO_21 BK379 BK380 BK389 HB hx390_0 hx390_1 hx390_2 hx390_3 hx391_0 hx391_1 hx391_2 hx391_3 hHeld ⊢
              refine pu 1 30 #[false, true, false, false, false, false, false, false, false, false, false, false, false, false, false, false, false, false, false, false] ?_
              refine pu 2 31 #[false, true, true, false, false, false, false, false, false, false, false, false, false, false, false, false, false, false, false, false] ?_
              refine pu 3 32 #[false, true, true, true, false, false, false, false, false, false, false, false, false, false, false, false, false, false, false, false] ?_
              refine pu 4 33 #[false, true, true, true, true, false, false, false, false, false, false, false, false, false, false, false, false, false, false, false] ?_
              refine pu 6 35 #[false, true, true, true, true, false, true, false, false, false, false, false, false, false, false, false, false, false, false, false] ?_
              refine pu 7 36 #[false, true, true, true, true, false, true, true, false, false, false, false, false, false, false, false, false, false, false, false] ?_
              refine pu 8 37 #[false, true, true, true, true, false, true, true, true, false, false, false, false, false, false, false, false, false, false, false] ?_
              refine pu 9 38 #[false, true, true, true, true, false, true, true, true, true, false, false, false, false, false, false, false, false, false, false] ?_
              refine pu 10 39 #[false, true, true, true, true, false, true, true, true, true, true, false, false, false, false, false, false, false, false, false] ?_
              refine tk 0 29 #[true, true, true, true, true, false, true, true, true, true, true, false, false, false, false, false, false, false, false, false] (hy := by rintro w' ⟨s0, s1, s2, s3, s4, s5, s6, s7, s8, s9, s10, s11⟩; go_simp; with_reducible rfl) (h := ?_)
              refine tk 5 34 (tb 11 9) (hy := by rintro w' ⟨s0, s1, s2, s3, s4, s5, s6, s7, s8, s9, s10, s11⟩; go_simp; with_reducible rfl) (h := ?_)
              refine tk 11 40 (tb 12 8) (hy := by rintro w' ⟨s0, s1, s2, s3, s4, s5, s6, s7, s8, s9, s10, s11⟩; go_simp; with_reducible rfl) (h := ?_)
              refine pu 12 41 (tb 13 7) ?_
              refine join_ (σ := Nat) 2 (tb 18 2) (fun s_ => [(42, .tuple #[.agg #[.int .i64 t392, .int .i64 t393, .int .i64 t394, .int .i64 t395], .bool true]), (9, .pointer (some ⟨s_, 0, none⟩)), (28, .tuple #[.agg #[.int .i64 t392, .int .i64 t393, .int .i64 t394, .int .i64 t395], .bool true]), (43, .agg #[.int .i64 t392, .int .i64 t393, .int .i64 t394, .int .i64 t395]), (44, .bool true)]) (fun s_ w' => (w'.cell? ⟨gb379, 0, none⟩ = some (.int .i64 a1_0) ∧ w'.cell? ⟨gb379, 1, none⟩ = some (.int .i64 a1_1) ∧ w'.cell? ⟨gb379, 2, none⟩ = some (.int .i64 a1_2) ∧ w'.cell? ⟨gb379, 3, none⟩ = some (.int .i64 a1_3) ∧ w'.cell? (ad390.add ((x23_2).toNat * 4)) = some (.int .i64 ((rd_T68 l0 x23_2).f0.f0)) ∧ w'.cell? ⟨(ad390.add ((x23_2).toNat * 4)).block, (ad390.add ((x23_2).toNat * 4)).off + 1, none⟩ = some (.int .i64 ((rd_T68 l0 x23_2).f0.f1)) ∧ w'.cell? ⟨(ad390.add ((x23_2).toNat * 4)).block, (ad390.add ((x23_2).toNat * 4)).off + 2, none⟩ = some (.int .i64 ((rd_T68 l0 x23_2).f1.f0)) ∧ w'.cell? ⟨(ad390.add ((x23_2).toNat * 4)).block, (ad390.add ((x23_2).toNat * 4)).off + 3, none⟩ = some (.int .i64 ((rd_T68 l0 x23_2).f1.f1)) ∧ w'.cell? (ad390.add (((ji24)).toNat * 4)) = some (.int .i64 ((rd_T68 l0 (ji24)).f0.f0)) ∧ w'.cell? ⟨(ad390.add (((ji24)).toNat * 4)).block, (ad390.add (((ji24)).toNat * 4)).off + 1, none⟩ = some (.int .i64 ((rd_T68 l0 (ji24)).f0.f1)) ∧ w'.cell? ⟨(ad390.add (((ji24)).toNat * 4)).block, (ad390.add (((ji24)).toNat * 4)).off + 2, none⟩ = some (.int .i64 ((rd_T68 l0 (ji24)).f1.f0)) ∧ w'.cell? ⟨(ad390.add (((ji24)).toNat * 4)).block, (ad390.add (((ji24)).toNat * 4)).off + 3, none⟩ = some (.int .i64 ((rd_T68 l0 (ji24)).f1.f1))) ∧ (Kd.R k28 28 w' w.heap.size (fun k_ => some k_ ≠ (u6 : Value).ownBlock ∧ k_ ≠ gb380 ∧ k_ ≠ gb389) (.slice (some ad388) t383.length co19) t383) ∧ (Kd.R k28 28 w' w.heap.size (fun k_ => some k_ ≠ (.slice (some ad388) t383.length co19 : Value).ownBlock ∧ k_ ≠ gb380 ∧ k_ ≠ gb389) u6 x6_2) ∧ (w'.heap[gb379]? = some (.cells #[.int .i64 a1_0, .int .i64 a1_1, .int .i64 a1_2, .int .i64 a1_3] 34 (0, 0))) ∧ (w'.heap[gb380]? = some (.cells #[.int .i64 0, .int .i64 0] 28 (0, 0))) ∧ (w'.heap[gb389]? = some (.cells #[.int .i64 ((rd_T28 t383 x23_2).f0), .int .i64 ((rd_T28 t383 x23_2).f1)] 28 (0, 0))) ∧ (w'.heap[s_]? = some (.cells #[.int .i64 0, .int .i64 0, .int .i64 0, .int .i64 0] 34 (0, 0))) ∧ (w.heap.size ≤ s_) ∧ (w.heap.size ≤ s_) ∧ (gb379 ≠ s_) ∧ (s_ ≠ gb379) ∧ (gb380 ≠ s_) ∧ (s_ ≠ gb380) ∧ (gb389 ≠ s_) ∧ (s_ ≠ gb389) ∧ (Below w.heap.size w w')) ?_ ?_
              rotate_left
              ·intro hCont
               refine two_ (i := 13) (j := 17) (Ni := some 42) (Nj := some 9) (tb 14 6) #[true, true, true, true, true, true, true, true, true, true, true, true, true, false, false, false, false, true, false, false] rfl rfl rfl rfl (two_of HT_.out (by kernel_rfl)) (by decide) (by decide) (fun K hK => ?_) (fun K hK => ?_)
               ·skip
                refine goes_ Try.func51 (by kernel_rfl) rfl #[.agg #[.int .i64 a1_0, .int .i64 a1_1, .int .i64 a1_2, .int .i64 a1_3], .agg #[.int .i64 ((rd_T68 l0 x23_2).f0.f0), .int .i64 ((rd_T68 l0 x23_2).f0.f1), .int .i64 ((rd_T68 l0 (ji24)).f0.f0), .int .i64 ((rd_T68 l0 (ji24)).f0.f1)]] (by rfl) rfl rfl (by (try simp only [List.map_toArray, List.map_cons, List.map_nil]); first | done | (simp only [hji24]; rfl) | rfl | (simp only [List.length_drop, List.length_take]; rfl)) ?_
                with_reducible refine (impl_common.calls a1_0 a1_1 a1_2 a1_3 ((rd_T68 l0 x23_2).f0.f0) ((rd_T68 l0 x23_2).f0.f1) ((rd_T68 l0 (ji24)).f0.f0) ((rd_T68 l0 (ji24)).f0.f1) t392 t393 t394 t395 true _ A27.out).mono ?_
                rintro e w37 ⟨rfl, hb⟩
                refine ⟨_, rfl, ?_⟩
                replace HO_6 := Aside0.mk (Kd.R_below (by (with_reducible repeat (first | apply Kd.R_alloc | apply Kd.R_drewN | apply Kd.R_drew)); exact HO_6.out) hb)
                replace HO_21 := Aside0.mk (Kd.R_below (by (with_reducible repeat (first | apply Kd.R_alloc | apply Kd.R_drewN | apply Kd.R_drew)); exact HO_21.out) hb)
                replace BK379 := Aside0.mk (bb gb379 hb)
                replace BK380 := Aside0.mk (bb gb380 hb)
                replace BK389 := Aside0.mk (bb gb389 hb)
                replace HB := Aside0.mk (bs hb)
                (try clear hb)
                (try clear hb2)
                (try clear hk)
                (try clear hi)
                refine hK.out _ _ ⟨(blk_cell BK379.out 0).trans rfl, (blk_cell BK379.out 1).trans rfl, (blk_cell BK379.out 2).trans rfl, (blk_cell BK379.out 3).trans rfl, (hc HB hw390_0 :), (hc HB hw390_1 :), (hc HB hw390_2 :), (hc HB hw390_3 :), (hc HB hw391_0 :), (hc HB hw391_1 :), (hc HB hw391_2 :), (hc HB hw391_3 :)⟩ (fun hHeld => ?_)
                clear hK K
                refine nm 42 ?_
                refine pu 14 28 (tb 15 5) ?_
                refine pu 15 43 (tb 16 4) ?_
                refine pu 16 44 (tb 17 3) ?_
                refine on 17 9 (tb 18 2) (fun K hK => ?_)
                refine box_step ?hg (N := 9) ?hd (cs := #[.int .i64 0, .int .i64 0, .int .i64 0, .int .i64 0]) (t := 34) ?hr ?_; (case hd => rfl); (case hg => rfl); (case hr => first | (go_simp; done) | (go_simp; rfl))
                intro gb397 hg w38 hbox hb
                have BK397 := Aside0.mk (hbox)
                have GW397 := Aside0.mk (bz hg)
                have GE397 := GW397
                have NB379_397 := Aside0.mk (bn gb379 hg)
                have NB397_379 := Aside0.mk NB379_397.out.symm
                have NB380_397 := Aside0.mk (bn gb380 hg)
                have NB397_380 := Aside0.mk NB380_397.out.symm
                have NB389_397 := Aside0.mk (bn gb389 hg)
                have NB397_389 := Aside0.mk NB389_397.out.symm
                replace HO_6 := Aside0.mk (Kd.R_below (by (with_reducible repeat (first | apply Kd.R_alloc | apply Kd.R_drewN | apply Kd.R_drew)); exact HO_6.out) hb)
                replace HO_21 := Aside0.mk (Kd.R_below (by (with_reducible repeat (first | apply Kd.R_alloc | apply Kd.R_drewN | apply Kd.R_drew)); exact HO_21.out) hb)
                replace BK379 := Aside0.mk (bb gb379 hb)
                replace BK380 := Aside0.mk (bb gb380 hb)
                replace BK389 := Aside0.mk (bb gb389 hb)
                replace HB := Aside0.mk (bs hb)
                clear hb hbox hg
                refine hK.out _ _ ⟨(blk_cell BK379.out 0).trans rfl, (blk_cell BK379.out 1).trans rfl, (blk_cell BK379.out 2).trans rfl, (blk_cell BK379.out 3).trans rfl, (hc HB hw390_0 :), (hc HB hw390_1 :), (hc HB hw390_2 :), (hc HB hw390_3 :), (hc HB hw391_0 :), (hc HB hw391_1 :), (hc HB hw391_2 :), (hc HB hw391_3 :)⟩ (fun hHeld => ?_)
                clear hK K
                refine nm 9 ?_
                exact norm_ (by simp only [putAll, Act.put, List.setIfInBounds_toArray, List.set_cons_zero, List.set_cons_succ]) (hCont (gb397) _ ⟨hHeld, (by (with_reducible repeat (first | apply Kd.R_alloc | apply Kd.R_drewN | apply Kd.R_drew)); exact HO_21.out), (by (with_reducible repeat (first | apply Kd.R_alloc | apply Kd.R_drewN | apply Kd.R_drew)); exact HO_6.out), (bo gb379), (bo gb380), (bo gb389), (bo gb397), GW397.out, GE397.out, NB379_397.out, NB397_379.out, NB380_397.out, NB397_380.out, NB389_397.out, NB397_389.out, bl⟩)
               ·skip
                refine box_step ?hg (N := 9) ?hd (cs := #[.int .i64 0, .int .i64 0, .int .i64 0, .int .i64 0]) (t := 34) ?hr ?_; (case hd => rfl); (case hg => rfl); (case hr => first | (go_simp; done) | (go_simp; rfl))
                intro gb397 hg w37 hbox hb
                have BK397 := Aside0.mk (hbox)
                have GW397 := Aside0.mk (bz hg)
                have GE397 := GW397
                have NB379_397 := Aside0.mk (bn gb379 hg)
                have NB397_379 := Aside0.mk NB379_397.out.symm
                have NB380_397 := Aside0.mk (bn gb380 hg)
                have NB397_380 := Aside0.mk NB380_397.out.symm
                have NB389_397 := Aside0.mk (bn gb389 hg)
                have NB397_389 := Aside0.mk NB389_397.out.symm
                replace HO_6 := Aside0.mk (Kd.R_below (by (with_reducible repeat (first | apply Kd.R_alloc | apply Kd.R_drewN | apply Kd.R_drew)); exact HO_6.out) hb)
                replace HO_21 := Aside0.mk (Kd.R_below (by (with_reducible repeat (first | apply Kd.R_alloc | apply Kd.R_drewN | apply Kd.R_drew)); exact HO_21.out) hb)
                replace BK379 := Aside0.mk (bb gb379 hb)
                replace BK380 := Aside0.mk (bb gb380 hb)
                replace BK389 := Aside0.mk (bb gb389 hb)
                replace HB := Aside0.mk (bs hb)
                clear hb hbox hg
                refine hK.out _ _ ⟨(blk_cell BK379.out 0).trans rfl, (blk_cell BK379.out 1).trans rfl, (blk_cell BK379.out 2).trans rfl, (blk_cell BK379.out 3).trans rfl, (hc HB hw390_0 :), (hc HB hw390_1 :), (hc HB hw390_2 :), (hc HB hw390_3 :), (hc HB hw391_0 :), (hc HB hw391_1 :), (hc HB hw391_2 :), (hc HB hw391_3 :)⟩ (fun hHeld => ?_)
                clear hK K
                refine nm 9 ?_
                refine on 13 42 #[true, true, true, true, true, true, true, true, true, true, true, true, true, true, false, false, false, true, false, false] (fun K hK => ?_)
                refine goes_ Try.func51 (by kernel_rfl) rfl #[.agg #[.int .i64 a1_0, .int .i64 a1_1, .int .i64 a1_2, .int .i64 a1_3], .agg #[.int .i64 ((rd_T68 l0 x23_2).f0.f0), .int .i64 ((rd_T68 l0 x23_2).f0.f1), .int .i64 ((rd_T68 l0 (ji24)).f0.f0), .int .i64 ((rd_T68 l0 (ji24)).f0.f1)]] (by rfl) rfl rfl (by (try simp only [List.map_toArray, List.map_cons, List.map_nil]); first | done | (simp only [hji24]; rfl) | rfl | (simp only [List.length_drop, List.length_take]; rfl)) ?_
                with_reducible refine (impl_common.calls a1_0 a1_1 a1_2 a1_3 ((rd_T68 l0 x23_2).f0.f0) ((rd_T68 l0 x23_2).f0.f1) ((rd_T68 l0 (ji24)).f0.f0) ((rd_T68 l0 (ji24)).f0.f1) t392 t393 t394 t395 true _ A27.out).mono ?_
                rintro e w38 ⟨rfl, hb⟩
                refine ⟨_, rfl, ?_⟩
                replace HO_6 := Aside0.mk (Kd.R_below (by (with_reducible repeat (first | apply Kd.R_alloc | apply Kd.R_drewN | apply Kd.R_drew)); exact HO_6.out) hb)
                replace HO_21 := Aside0.mk (Kd.R_below (by (with_reducible repeat (first | apply Kd.R_alloc | apply Kd.R_drewN | apply Kd.R_drew)); exact HO_21.out) hb)
                replace BK379 := Aside0.mk (bb gb379 hb)
                replace BK380 := Aside0.mk (bb gb380 hb)
                replace BK389 := Aside0.mk (bb gb389 hb)
                replace BK397 := Aside0.mk (bb gb397 hb)
                replace HB := Aside0.mk (bs hb)
                (try clear hb)
                (try clear hb2)
                (try clear hk)
                (try clear hi)
                refine hK.out _ _ ⟨(blk_cell BK379.out 0).trans rfl, (blk_cell BK379.out 1).trans rfl, (blk_cell BK379.out 2).trans rfl, (blk_cell BK379.out 3).trans rfl, (hc HB hw390_0 :), (hc HB hw390_1 :), (hc HB hw390_2 :), (hc HB hw390_3 :), (hc HB hw391_0 :), (hc HB hw391_1 :), (hc HB hw391_2 :), (hc HB hw391_3 :)⟩ (fun hHeld => ?_)
                clear hK K
                refine nm 42 ?_
                refine pu 14 28 #[true, true, true, true, true, true, true, true, true, true, true, true, true, true, true, false, false, true, false, false] ?_
                refine pu 15 43 #[true, true, true, true, true, true, true, true, true, true, true, true, true, true, true, true, false, true, false, false] ?_
                refine pu 16 44 (tb 18 2) ?_
                exact norm_ (by simp only [putAll, Act.put, List.setIfInBounds_toArray, List.set_cons_zero, List.set_cons_succ]) (hCont (gb397) _ ⟨hHeld, (by (with_reducible repeat (first | apply Kd.R_alloc | apply Kd.R_drewN | apply Kd.R_drew)); exact HO_21.out), (by (with_reducible repeat (first | apply Kd.R_alloc | apply Kd.R_drewN | apply Kd.R_drew)); exact HO_6.out), (bo gb379), (bo gb380), (bo gb389), (bo gb397), GW397.out, GE397.out, NB379_397.out, NB397_379.out, NB380_397.out, NB397_380.out, NB389_397.out, NB397_389.out, bl⟩)
              rintro gb397 w39 ⟨hS_, h0_, h1_, h2_, h3_, h4_, h5_, h6_, h7_, h8_, h9_, h10_, h11_, h12_, h13_, h14_⟩
              have n0_ : Aside0 (Kd.R k28 28 w39 w.heap.size (fun k_ => some k_ ≠ (u6 : Value).ownBlock ∧ k_ ≠ gb380 ∧ k_ ≠ gb389) (.slice (some ad388) t383.length co19) t383) := ⟨h0_⟩
              have n1_ : Aside0 (Kd.R k28 28 w39 w.heap.size (fun k_ => some k_ ≠ (.slice (some ad388) t383.length co19 : Value).ownBlock ∧ k_ ≠ gb380 ∧ k_ ≠ gb389) u6 x6_2) := ⟨h1_⟩
              have n2_ : Aside0 (w39.heap[gb379]? = some (.cells #[.int .i64 a1_0, .int .i64 a1_1, .int .i64 a1_2, .int .i64 a1_3] 34 (0, 0))) := ⟨h2_⟩
              have n3_ : Aside0 (w39.heap[gb380]? = some (.cells #[.int .i64 0, .int .i64 0] 28 (0, 0))) := ⟨h3_⟩
              have n4_ : Aside0 (w39.heap[gb389]? = some (.cells #[.int .i64 ((rd_T28 t383 x23_2).f0), .int .i64 ((rd_T28 t383 x23_2).f1)] 28 (0, 0))) := ⟨h4_⟩
              have n5_ : Aside0 (w39.heap[gb397]? = some (.cells #[.int .i64 0, .int .i64 0, .int .i64 0, .int .i64 0] 34 (0, 0))) := ⟨h5_⟩
              have n6_ : Aside0 (w.heap.size ≤ gb397) := ⟨h6_⟩
              have n7_ : Aside0 (w.heap.size ≤ gb397) := ⟨h7_⟩
              have n8_ : Aside0 (gb379 ≠ gb397) := ⟨h8_⟩
              have n9_ : Aside0 (gb397 ≠ gb379) := ⟨h9_⟩
              have n10_ : Aside0 (gb380 ≠ gb397) := ⟨h10_⟩
              have n11_ : Aside0 (gb397 ≠ gb380) := ⟨h11_⟩
              have n12_ : Aside0 (gb389 ≠ gb397) := ⟨h12_⟩
              have n13_ : Aside0 (gb397 ≠ gb389) := ⟨h13_⟩
              have n14_ : Aside0 (Below w.heap.size w w39) := ⟨h14_⟩
              clear HO_6
              clear HO_21
              clear BK379
              clear BK380
              clear BK389
              clear HB
              clear h0_ h1_ h2_ h3_ h4_ h5_ h6_ h7_ h8_ h9_ h10_ h11_ h12_ h13_ h14_
              have HO_21 := n0_
              have HO_6 := n1_
              have BK379 := n2_
              have BK380 := n3_
              have BK389 := n4_
              have BK397 := n5_
              have GW397 := n6_
              have GE397 := n7_
              have NB379_397 := n8_
              have NB397_379 := n9_
              have NB380_397 := n10_
              have NB397_380 := n11_
              have NB389_397 := n12_
              have NB397_389 := n13_
              have HB := n14_
              clear n0_ n1_ n2_ n3_ n4_ n5_ n6_ n7_ n8_ n9_ n10_ n11_ n12_ n13_ n14_
              have hHeld : w39.cell? ⟨gb379, 0, none⟩ = some (.int .i64 a1_0) ∧ w39.cell? ⟨gb379, 1, none⟩ = some (.int .i64 a1_1) ∧ w39.cell? ⟨gb379, 2, none⟩ = some (.int .i64 a1_2) ∧ w39.cell? ⟨gb379, 3, none⟩ = some (.int .i64 a1_3) ∧ w39.cell? (ad390.add ((x23_2).toNat * 4)) = some (.int .i64 ((rd_T68 l0 x23_2).f0.f0)) ∧ w39.cell? ⟨(ad390.add ((x23_2).toNat * 4)).block, (ad390.add ((x23_2).toNat * 4)).off + 1, none⟩ = some (.int .i64 ((rd_T68 l0 x23_2).f0.f1)) ∧ w39.cell? ⟨(ad390.add ((x23_2).toNat * 4)).block, (ad390.add ((x23_2).toNat * 4)).off + 2, none⟩ = some (.int .i64 ((rd_T68 l0 x23_2).f1.f0)) ∧ w39.cell? ⟨(ad390.add ((x23_2).toNat * 4)).block, (ad390.add ((x23_2).toNat * 4)).off + 3, none⟩ = some (.int .i64 ((rd_T68 l0 x23_2).f1.f1)) ∧ w39.cell? (ad390.add (((ji24)).toNat * 4)) = some (.int .i64 ((rd_T68 l0 (ji24)).f0.f0)) ∧ w39.cell? ⟨(ad390.add (((ji24)).toNat * 4)).block, (ad390.add (((ji24)).toNat * 4)).off + 1, none⟩ = some (.int .i64 ((rd_T68 l0 (ji24)).f0.f1)) ∧ w39.cell? ⟨(ad390.add (((ji24)).toNat * 4)).block, (ad390.add (((ji24)).toNat * 4)).off + 2, none⟩ = some (.int .i64 ((rd_T68 l0 (ji24)).f1.f0)) ∧ w39.cell? ⟨(ad390.add (((ji24)).toNat * 4)).block, (ad390.add (((ji24)).toNat * 4)).off + 3, none⟩ = some (.int .i64 ((rd_T68 l0 (ji24)).f1.f1)) := hS_
              refine norm_ (a' := ?_) ?_ ?_
              rotate_left
              ·simp only [putAll, Act.put, List.setIfInBounds_toArray, List.set_cons_zero, List.set_cons_succ]
               rfl
              refine one_ (i := 18) (N := none) (tb 19 1) rfl rfl (one_of HT_.out (by kernel_rfl)) (by decide) (fun K hK => ?_)
              have hs40 : w39.cell? ⟨gb397, 0, none⟩ = some (.int .i64 0) := (blk_cell BK397.out 0).trans rfl
              have hfs40 := blk_frozen BK397.out 0
              have hns40_0 := NB379_397.out
              have hns40_1 := NB380_397.out
              have hns40_2 := NB389_397.out
              have hms40_0 := NB397_379.out
              have hms40_1 := NB397_380.out
              have hms40_2 := NB397_389.out
              have hs41 : w39.cell? ⟨gb397, 1, none⟩ = some (.int .i64 0) := (blk_cell BK397.out 1).trans rfl
              have hfs41 := blk_frozen BK397.out 1
              have hns41_0 := NB379_397.out
              have hns41_1 := NB380_397.out
              have hns41_2 := NB389_397.out
              have hms41_0 := NB397_379.out
              have hms41_1 := NB397_380.out
              have hms41_2 := NB397_389.out
              have hs42 : w39.cell? ⟨gb397, 2, none⟩ = some (.int .i64 0) := (blk_cell BK397.out 2).trans rfl
              have hfs42 := blk_frozen BK397.out 2
              have hns42_0 := NB379_397.out
              have hns42_1 := NB380_397.out
              have hns42_2 := NB389_397.out
              have hms42_0 := NB397_379.out
              have hms42_1 := NB397_380.out
              have hms42_2 := NB397_389.out
              have hs43 : w39.cell? ⟨gb397, 3, none⟩ = some (.int .i64 0) := (blk_cell BK397.out 3).trans rfl
              have hfs43 := blk_frozen BK397.out 3
              have hns43_0 := NB379_397.out
              have hns43_1 := NB380_397.out
              have hns43_2 := NB389_397.out
              have hms43_0 := NB397_379.out
              have hms43_1 := NB397_380.out
              have hms43_2 := NB397_389.out
              refine skip_ (w1 := ?_) (by rfl) rfl ?_ ?_
              rotate_left
              ·go_simp
               rfl
              refine hK.out _ _ ⟨(by (iterate 4 refine (cell_far (p := ⟨gb397, _, none⟩) NB379_397.out _).trans ?_); exact hHeld.1), (by (iterate 4 refine (cell_far (p := ⟨gb397, _, none⟩) NB379_397.out _).trans ?_); exact hHeld.2.1), (by (iterate 4 refine (cell_far (p := ⟨gb397, _, none⟩) NB379_397.out _).trans ?_); exact hHeld.2.2.1), (by (iterate 4 refine (cell_far (p := ⟨gb397, _, none⟩) NB379_397.out _).trans ?_); exact hHeld.2.2.2.1), (by (iterate 4 refine (cell_far (p := ⟨gb397, _, none⟩) (by first | exact Nat.ne_of_lt (Nat.lt_of_lt_of_le (by have := World.block_lt_of_cell? _ _ hw390_0; first | rwa [add_block] at this | exact this) GW397.out) | (rw [add_block]; exact Nat.ne_of_lt (Nat.lt_of_lt_of_le (by have := World.block_lt_of_cell? _ _ hw390_0; first | rwa [add_block] at this | exact this) GW397.out)) | (show (Addr.add _ _).block ≠ _; rw [add_block]; exact Nat.ne_of_lt (Nat.lt_of_lt_of_le (by have := World.block_lt_of_cell? _ _ hw390_0; first | rwa [add_block] at this | exact this) GW397.out)) | (dsimp only; exact Nat.ne_of_lt (Nat.lt_of_lt_of_le (by have := World.block_lt_of_cell? _ _ hw390_0; first | rwa [add_block] at this | exact this) GW397.out))) _).trans ?_); exact hHeld.2.2.2.2.1), (by (iterate 4 refine (cell_far (p := ⟨gb397, _, none⟩) (by first | exact Nat.ne_of_lt (Nat.lt_of_lt_of_le (by have := World.block_lt_of_cell? _ _ hw390_1; first | rwa [add_block] at this | exact this) GW397.out) | (rw [add_block]; exact Nat.ne_of_lt (Nat.lt_of_lt_of_le (by have := World.block_lt_of_cell? _ _ hw390_1; first | rwa [add_block] at this | exact this) GW397.out)) | (show (Addr.add _ _).block ≠ _; rw [add_block]; exact Nat.ne_of_lt (Nat.lt_of_lt_of_le (by have := World.block_lt_of_cell? _ _ hw390_1; first | rwa [add_block] at this | exact this) GW397.out)) | (dsimp only; exact Nat.ne_of_lt (Nat.lt_of_lt_of_le (by have := World.block_lt_of_cell? _ _ hw390_1; first | rwa [add_block] at this | exact this) GW397.out))) _).trans ?_); exact hHeld.2.2.2.2.2.1), (by (iterate 4 refine (cell_far (p := ⟨gb397, _, none⟩) (by first | exact Nat.ne_of_lt (Nat.lt_of_lt_of_le (by have := World.block_lt_of_cell? _ _ hw390_2; first | rwa [add_block] at this | exact this) GW397.out) | (rw [add_block]; exact Nat.ne_of_lt (Nat.lt_of_lt_of_le (by have := World.block_lt_of_cell? _ _ hw390_2; first | rwa [add_block] at this | exact this) GW397.out)) | (show (Addr.add _ _).block ≠ _; rw [add_block]; exact Nat.ne_of_lt (Nat.lt_of_lt_of_le (by have := World.block_lt_of_cell? _ _ hw390_2; first | rwa [add_block] at this | exact this) GW397.out)) | (dsimp only; exact Nat.ne_of_lt (Nat.lt_of_lt_of_le (by have := World.block_lt_of_cell? _ _ hw390_2; first | rwa [add_block] at this | exact this) GW397.out))) _).trans ?_); exact hHeld.2.2.2.2.2.2.1), (by (iterate 4 refine (cell_far (p := ⟨gb397, _, none⟩) (by first | exact Nat.ne_of_lt (Nat.lt_of_lt_of_le (by have := World.block_lt_of_cell? _ _ hw390_3; first | rwa [add_block] at this | exact this) GW397.out) | (rw [add_block]; exact Nat.ne_of_lt (Nat.lt_of_lt_of_le (by have := World.block_lt_of_cell? _ _ hw390_3; first | rwa [add_block] at this | exact this) GW397.out)) | (show (Addr.add _ _).block ≠ _; rw [add_block]; exact Nat.ne_of_lt (Nat.lt_of_lt_of_le (by have := World.block_lt_of_cell? _ _ hw390_3; first | rwa [add_block] at this | exact this) GW397.out)) | (dsimp only; exact Nat.ne_of_lt (Nat.lt_of_lt_of_le (by have := World.block_lt_of_cell? _ _ hw390_3; first | rwa [add_block] at this | exact this) GW397.out))) _).trans ?_); exact hHeld.2.2.2.2.2.2.2.1), (by (iterate 4 refine (cell_far (p := ⟨gb397, _, none⟩) (by first | exact Nat.ne_of_lt (Nat.lt_of_lt_of_le (by have := World.block_lt_of_cell? _ _ hw391_0; first | rwa [add_block] at this | exact this) GW397.out) | (rw [add_block]; exact Nat.ne_of_lt (Nat.lt_of_lt_of_le (by have := World.block_lt_of_cell? _ _ hw391_0; first | rwa [add_block] at this | exact this) GW397.out)) | (show (Addr.add _ _).block ≠ _; rw [add_block]; exact Nat.ne_of_lt (Nat.lt_of_lt_of_le (by have := World.block_lt_of_cell? _ _ hw391_0; first | rwa [add_block] at this | exact this) GW397.out)) | (dsimp only; exact Nat.ne_of_lt (Nat.lt_of_lt_of_le (by have := World.block_lt_of_cell? _ _ hw391_0; first | rwa [add_block] at this | exact this) GW397.out))) _).trans ?_); exact hHeld.2.2.2.2.2.2.2.2.1), (by (iterate 4 refine (cell_far (p := ⟨gb397, _, none⟩) (by first | exact Nat.ne_of_lt (Nat.lt_of_lt_of_le (by have := World.block_lt_of_cell? _ _ hw391_1; first | rwa [add_block] at this | exact this) GW397.out) | (rw [add_block]; exact Nat.ne_of_lt (Nat.lt_of_lt_of_le (by have := World.block_lt_of_cell? _ _ hw391_1; first | rwa [add_block] at this | exact this) GW397.out)) | (show (Addr.add _ _).block ≠ _; rw [add_block]; exact Nat.ne_of_lt (Nat.lt_of_lt_of_le (by have := World.block_lt_of_cell? _ _ hw391_1; first | rwa [add_block] at this | exact this) GW397.out)) | (dsimp only; exact Nat.ne_of_lt (Nat.lt_of_lt_of_le (by have := World.block_lt_of_cell? _ _ hw391_1; first | rwa [add_block] at this | exact this) GW397.out))) _).trans ?_); exact hHeld.2.2.2.2.2.2.2.2.2.1), (by (iterate 4 refine (cell_far (p := ⟨gb397, _, none⟩) (by first | exact Nat.ne_of_lt (Nat.lt_of_lt_of_le (by have := World.block_lt_of_cell? _ _ hw391_2; first | rwa [add_block] at this | exact this) GW397.out) | (rw [add_block]; exact Nat.ne_of_lt (Nat.lt_of_lt_of_le (by have := World.block_lt_of_cell? _ _ hw391_2; first | rwa [add_block] at this | exact this) GW397.out)) | (show (Addr.add _ _).block ≠ _; rw [add_block]; exact Nat.ne_of_lt (Nat.lt_of_lt_of_le (by have := World.block_lt_of_cell? _ _ hw391_2; first | rwa [add_block] at this | exact this) GW397.out)) | (dsimp only; exact Nat.ne_of_lt (Nat.lt_of_lt_of_le (by have := World.block_lt_of_cell? _ _ hw391_2; first | rwa [add_block] at this | exact this) GW397.out))) _).trans ?_); exact hHeld.2.2.2.2.2.2.2.2.2.2.1), (by (iterate 4 refine (cell_far (p := ⟨gb397, _, none⟩) (by first | exact Nat.ne_of_lt (Nat.lt_of_lt_of_le (by have := World.block_lt_of_cell? _ _ hw391_3; first | rwa [add_block] at this | exact this) GW397.out) | (rw [add_block]; exact Nat.ne_of_lt (Nat.lt_of_lt_of_le (by have := World.block_lt_of_cell? _ _ hw391_3; first | rwa [add_block] at this | exact this) GW397.out)) | (show (Addr.add _ _).block ≠ _; rw [add_block]; exact Nat.ne_of_lt (Nat.lt_of_lt_of_le (by have := World.block_lt_of_cell? _ _ hw391_3; first | rwa [add_block] at this | exact this) GW397.out)) | (dsimp only; exact Nat.ne_of_lt (Nat.lt_of_lt_of_le (by have := World.block_lt_of_cell? _ _ hw391_3; first | rwa [add_block] at this | exact this) GW397.out))) _).trans ?_); exact hHeld.2.2.2.2.2.2.2.2.2.2.2)⟩ (fun hHeld => ?_)
              clear hK K
              refine pu 19 10 (tb 20 0) ?_
              refine done_ (done_of HT_.out (by kernel_rfl)) ?_
              try go_wp2
              have n0_ : Aside0 (Kd.R k28 28 ((((w39.setCell ⟨gb397, 0, none⟩ (.int .i64 t392)).setCell ⟨gb397, 1, none⟩ (.int .i64 t393)).setCell ⟨gb397, 2, none⟩ (.int .i64 t394)).setCell ⟨gb397, 3, none⟩ (.int .i64 t395)) w.heap.size (fun k_ => some k_ ≠ (.slice (some ad388) t383.length co19 : Value).ownBlock ∧ k_ ≠ gb380 ∧ k_ ≠ gb389) u6 x6_2) := ⟨by (with_reducible repeat (first | apply Kd.R_alloc | apply Kd.R_drewN | apply Kd.R_drew)); exact Kd.R_mono (Kd.R_far (p := ⟨gb397, 3, none⟩) (Kd.R_far (p := ⟨gb397, 2, none⟩) (Kd.R_far (p := ⟨gb397, 1, none⟩) (Kd.R_far (p := ⟨gb397, 0, none⟩) (Kd.R_types HO_6.out BK397.out (by decide)) (fun _ hk => hk.2) (.int .i64 t392)) (fun _ hk => hk.2) (.int .i64 t393)) (fun _ hk => hk.2) (.int .i64 t394)) (fun _ hk => hk.2) (.int .i64 t395)) (fun _ hk => ⟨hk.1.1, ⟨hk.1.2.1, hk.1.2.2⟩⟩)⟩
              have n1_ : Aside0 (Kd.R k28 28 ((((w39.setCell ⟨gb397, 0, none⟩ (.int .i64 t392)).setCell ⟨gb397, 1, none⟩ (.int .i64 t393)).setCell ⟨gb397, 2, none⟩ (.int .i64 t394)).setCell ⟨gb397, 3, none⟩ (.int .i64 t395)) w.heap.size (fun k_ => some k_ ≠ (u6 : Value).ownBlock ∧ k_ ≠ gb380 ∧ k_ ≠ gb389) (.slice (some ad388) t383.length co19) t383) := ⟨by (with_reducible repeat (first | apply Kd.R_alloc | apply Kd.R_drewN | apply Kd.R_drew)); exact Kd.R_mono (Kd.R_far (p := ⟨gb397, 3, none⟩) (Kd.R_far (p := ⟨gb397, 2, none⟩) (Kd.R_far (p := ⟨gb397, 1, none⟩) (Kd.R_far (p := ⟨gb397, 0, none⟩) (Kd.R_types HO_21.out BK397.out (by decide)) (fun _ hk => hk.2) (.int .i64 t392)) (fun _ hk => hk.2) (.int .i64 t393)) (fun _ hk => hk.2) (.int .i64 t394)) (fun _ hk => hk.2) (.int .i64 t395)) (fun _ hk => ⟨hk.1.1, ⟨hk.1.2.1, hk.1.2.2⟩⟩)⟩
              have n2_ : Aside0 (((((w39.setCell ⟨gb397, 0, none⟩ (.int .i64 t392)).setCell ⟨gb397, 1, none⟩ (.int .i64 t393)).setCell ⟨gb397, 2, none⟩ (.int .i64 t394)).setCell ⟨gb397, 3, none⟩ (.int .i64 t395)).heap[gb379]? = some (.cells #[.int .i64 a1_0, .int .i64 a1_1, .int .i64 a1_2, .int .i64 a1_3] 34 (0, 0))) := ⟨by (with_reducible repeat (first | refine blk_drewN ?_ _ | refine blk_drew ?_ | refine blk_alloc ?_ _)); refine blk_far ?_ NB379_397.out _; (with_reducible repeat (first | refine blk_drewN ?_ _ | refine blk_drew ?_ | refine blk_alloc ?_ _)); refine blk_far ?_ NB379_397.out _; (with_reducible repeat (first | refine blk_drewN ?_ _ | refine blk_drew ?_ | refine blk_alloc ?_ _)); refine blk_far ?_ NB379_397.out _; (with_reducible repeat (first | refine blk_drewN ?_ _ | refine blk_drew ?_ | refine blk_alloc ?_ _)); refine blk_far ?_ NB379_397.out _; (with_reducible repeat (first | refine blk_drewN ?_ _ | refine blk_drew ?_ | refine blk_alloc ?_ _)); exact BK379.out⟩
              have n3_ : Aside0 (((((w39.setCell ⟨gb397, 0, none⟩ (.int .i64 t392)).setCell ⟨gb397, 1, none⟩ (.int .i64 t393)).setCell ⟨gb397, 2, none⟩ (.int .i64 t394)).setCell ⟨gb397, 3, none⟩ (.int .i64 t395)).heap[gb380]? = some (.cells #[.int .i64 0, .int .i64 0] 28 (0, 0))) := ⟨by (with_reducible repeat (first | refine blk_drewN ?_ _ | refine blk_drew ?_ | refine blk_alloc ?_ _)); refine blk_far ?_ NB380_397.out _; (with_reducible repeat (first | refine blk_drewN ?_ _ | refine blk_drew ?_ | refine blk_alloc ?_ _)); refine blk_far ?_ NB380_397.out _; (with_reducible repeat (first | refine blk_drewN ?_ _ | refine blk_drew ?_ | refine blk_alloc ?_ _)); refine blk_far ?_ NB380_397.out _; (with_reducible repeat (first | refine blk_drewN ?_ _ | refine blk_drew ?_ | refine blk_alloc ?_ _)); refine blk_far ?_ NB380_397.out _; (with_reducible repeat (first | refine blk_drewN ?_ _ | refine blk_drew ?_ | refine blk_alloc ?_ _)); exact BK380.out⟩
              have n4_ : Aside0 (((((w39.setCell ⟨gb397, 0, none⟩ (.int .i64 t392)).setCell ⟨gb397, 1, none⟩ (.int .i64 t393)).setCell ⟨gb397, 2, none⟩ (.int .i64 t394)).setCell ⟨gb397, 3, none⟩ (.int .i64 t395)).heap[gb389]? = some (.cells #[.int .i64 ((rd_T28 t383 x23_2).f0), .int .i64 ((rd_T28 t383 x23_2).f1)] 28 (0, 0))) := ⟨by (with_reducible repeat (first | refine blk_drewN ?_ _ | refine blk_drew ?_ | refine blk_alloc ?_ _)); refine blk_far ?_ NB389_397.out _; (with_reducible repeat (first | refine blk_drewN ?_ _ | refine blk_drew ?_ | refine blk_alloc ?_ _)); refine blk_far ?_ NB389_397.out _; (with_reducible repeat (first | refine blk_drewN ?_ _ | refine blk_drew ?_ | refine blk_alloc ?_ _)); refine blk_far ?_ NB389_397.out _; (with_reducible repeat (first | refine blk_drewN ?_ _ | refine blk_drew ?_ | refine blk_alloc ?_ _)); refine blk_far ?_ NB389_397.out _; (with_reducible repeat (first | refine blk_drewN ?_ _ | refine blk_drew ?_ | refine blk_alloc ?_ _)); exact BK389.out⟩
              have n5_ : Aside0 (((((w39.setCell ⟨gb397, 0, none⟩ (.int .i64 t392)).setCell ⟨gb397, 1, none⟩ (.int .i64 t393)).setCell ⟨gb397, 2, none⟩ (.int .i64 t394)).setCell ⟨gb397, 3, none⟩ (.int .i64 t395)).heap[gb397]? = some (.cells #[.int .i64 t392, .int .i64 t393, .int .i64 t394, .int .i64 t395] 34 (0, 0))) := ⟨by (with_reducible repeat (first | refine blk_drewN ?_ _ | refine blk_drew ?_ | refine blk_alloc ?_ _)); refine blk_put (cs := #[.int .i64 t392, .int .i64 t393, .int .i64 t394, .int .i64 0]) ?_ 3 _ rfl; (with_reducible repeat (first | refine blk_drewN ?_ _ | refine blk_drew ?_ | refine blk_alloc ?_ _)); refine blk_put (cs := #[.int .i64 t392, .int .i64 t393, .int .i64 0, .int .i64 0]) ?_ 2 _ rfl; (with_reducible repeat (first | refine blk_drewN ?_ _ | refine blk_drew ?_ | refine blk_alloc ?_ _)); refine blk_put (cs := #[.int .i64 t392, .int .i64 0, .int .i64 0, .int .i64 0]) ?_ 1 _ rfl; (with_reducible repeat (first | refine blk_drewN ?_ _ | refine blk_drew ?_ | refine blk_alloc ?_ _)); refine blk_put (cs := #[.int .i64 0, .int .i64 0, .int .i64 0, .int .i64 0]) ?_ 0 _ rfl; (with_reducible repeat (first | refine blk_drewN ?_ _ | refine blk_drew ?_ | refine blk_alloc ?_ _)); exact BK397.out⟩
              have n6_ : Aside0 (Below w.heap.size w ((((w39.setCell ⟨gb397, 0, none⟩ (.int .i64 t392)).setCell ⟨gb397, 1, none⟩ (.int .i64 t393)).setCell ⟨gb397, 2, none⟩ (.int .i64 t394)).setCell ⟨gb397, 3, none⟩ (.int .i64 t395))) := ⟨bl⟩
              (try clear HO_6)
              (try clear HO_21)
              (try clear BK379)
              (try clear BK380)
              (try clear BK389)
              (try clear BK397)
              (try clear HB)
              generalize ((((w39.setCell ⟨gb397, 0, none⟩ (.int .i64 t392)).setCell ⟨gb397, 1, none⟩ (.int .i64 t393)).setCell ⟨gb397, 2, none⟩ (.int .i64 t394)).setCell ⟨gb397, 3, none⟩ (.int .i64 t395)) = w44 at n0_ n1_ n2_ n3_ n4_ n5_ n6_ ⊢
              have HO_6 := n0_
              have HO_21 := n1_
              have BK379 := n2_
              have BK380 := n3_
              have BK389 := n4_
              have BK397 := n5_
              have HB := n6_
              clear n0_ n1_ n2_ n3_ n4_ n5_ n6_
              replace HO_6 := Aside0.mk (Kd.R_drew HO_6.out)
              replace HO_21 := Aside0.mk (Kd.R_drew HO_21.out)
              replace BK379 := Aside0.mk (blk_drew BK379.out)
              replace BK380 := Aside0.mk (blk_drew BK380.out)
              replace BK389 := Aside0.mk (blk_drew BK389.out)
              replace BK397 := Aside0.mk (blk_drew BK397.out)
              replace HB := Aside0.mk (below_drew1 HB.out)
              refine start_ (n := 10) (S := fun w' => w'.cell? ⟨gb389, 0, none⟩ = some (.int .i64 ((rd_T28 t383 x23_2).f0)) ∧ w'.cell? ⟨gb389, 1, none⟩ = some (.int .i64 ((rd_T28 t383 x23_2).f1))) (ds := []) (tb 0 10) (by kernel_rfl) rfl rfl ⟨(blk_cell BK389.out 0).trans rfl, (blk_cell BK389.out 1).trans rfl⟩ (fun hHeld => ?_); refine with_tabW impl_LeastSlope.tab9 impl_LeastSlope.bits9 (fun HT_ HW_ => ?_)
              generalize w44.drew = w45 at HO_6 HO_21 BK379 BK380 BK389 BK397 HB hHeld ⊢
              refine pu 0 46 (tb 1 9) ?_
              refine pu 1 47 (tb 2 8) ?_
              refine pu 4 50 #[true, true, false, false, true, false, false, false, false, false] ?_
              refine tk 2 48 #[true, true, true, false, true, false, false, false, false, false] (hy := by rintro w' ⟨s0, s1⟩; go_simp; with_reducible rfl) (h := ?_)
              refine tk 5 51 #[true, true, true, false, true, true, false, false, false, false] (hy := by rintro w' ⟨s0, s1⟩; go_simp; with_reducible rfl) (h := ?_)
              refine on 3 49 (tb 6 4) (fun K hK => ?_)
              refine gs Try.func52 #[.int .i64 ((rd_T28 t383 x23_2).f0)] ?_
              with_reducible refine (impl_abs.calls ((rd_T28 t383 x23_2).f0) t398 _ A29.out).mono ?_
              rintro e w' ⟨rfl, ⟨nd, rfl⟩⟩
              refine ⟨_, rfl, ?_⟩
              refine hK.out _ _ ⟨(blk_cell BK389.out 0).trans rfl, (blk_cell BK389.out 1).trans rfl⟩ (fun hHeld => ?_)
              clear hK K
              refine nm 49 ?_
              refine pu 6 52 (tb 7 3) ?_
              refine on 7 53 (tb 8 2) (fun K hK => ?_)
              refine value_ (w1 := ?_) (v := ?_) (by rfl) rfl ?_ ?_
              rotate_left 2
              ·go_simp
               constructor
               ·rfl
               ·rfl
              refine hK.out _ _ ⟨(blk_cell (blk_alloc BK389.out _) 0).trans rfl, (blk_cell (blk_alloc BK389.out _) 1).trans rfl⟩ (fun hHeld => ?_)
              clear hK K
              refine nm 53 ?_
              refine on 8 54 (tb 9 1) (fun K hK => ?_)
              refine Kd.R_append_step k28 (w0 := w) w.heap.size (by rfl) (.tmp 46) (.tmp 53) 64 28 (.agg #[(.int .i64 0), (.int .i64 0)]) 16 rfl Try.underlying64 info28 rfl (by decide) (by omega) u6 x6_2 (⟨t398, (rd_T28 t383 x23_2).f1⟩ : S28) [.int .i64 t398, .int .i64 ((rd_T28 t383 x23_2).f1)] (fun k_ => some k_ ≠ (.slice (some ad388) t383.length co19 : Value).ownBlock ∧ k_ ≠ gb380 ∧ k_ ≠ gb389) (fun _ => False) rfl rfl ?aP (fun _ hk => hk.elim) ?aF ?aO ?aB ?aS ?aL ?_
              (case aP => exact k28_mkM _ _ _ (⟨t398, (rd_T28 t383 x23_2).f1⟩ : S28))
              (case aB => exact bl)
              (case aF => exact (fun k_ hk => ⟨Kd.fresh' (Kd.R_lt (by (with_reducible repeat (first | apply Kd.R_alloc | apply Kd.R_drewN | apply Kd.R_drew)); exact HO_21.out)) k_ hk, Kd.freshB (g := gb380) (o := .cells #[.int .i64 0, .int .i64 0] 28 (0, 0)) (bo gb380) k_ hk, Kd.freshB (g := gb389) (o := .cells #[.int .i64 ((rd_T28 t383 x23_2).f0), .int .i64 ((rd_T28 t383 x23_2).f1)] 28 (0, 0)) (bo gb389) k_ hk⟩))
              (case aO => exact (by (with_reducible repeat (first | apply Kd.R_alloc | apply Kd.R_drewN | apply Kd.R_drew)); exact HO_6.out))
              (case aS => exact (below_size bl))
              (case aL => have := LMc30.out; omega)
              intro v400 w46 ho hb hg hat
              rw [← Ny399.out] at ho
              have HO401 := Aside0.mk (ho)
              replace HO_21 := Aside0.mk (Kd.R_after (ok := (fun k_ => k_ ≠ gb380 ∧ k_ ≠ gb389)) (by (with_reducible repeat (first | apply Kd.R_alloc | apply Kd.R_drewN | apply Kd.R_drew)); exact Kd.R_mono HO_21.out (fun _ hk => ⟨⟨hk.2.1, hk.2.2⟩, hk.1⟩)) hg hat)
              replace BK379 := Aside0.mk (blk_grown (g := gb379) (o := .cells #[.int .i64 a1_0, .int .i64 a1_1, .int .i64 a1_2, .int .i64 a1_3] 34 (0, 0)) (bo gb379) hg (Kd.R_ne HO_6.out BK379.out (by decide)))
              replace BK380 := Aside0.mk (blk_grown (g := gb380) (o := .cells #[.int .i64 0, .int .i64 0] 28 (0, 0)) (bo gb380) hg (Kd.R_away HO_6.out (fun _ hk => hk.2.1)))
              replace BK389 := Aside0.mk (blk_grown (g := gb389) (o := .cells #[.int .i64 ((rd_T28 t383 x23_2).f0), .int .i64 ((rd_T28 t383 x23_2).f1)] 28 (0, 0)) (bo gb389) hg (Kd.R_away HO_6.out (fun _ hk => hk.2.2)))
              replace BK397 := Aside0.mk (blk_grown (g := gb397) (o := .cells #[.int .i64 t392, .int .i64 t393, .int .i64 t394, .int .i64 t395] 34 (0, 0)) (bo gb397) hg (Kd.R_ne HO_6.out BK397.out (by decide)))
              replace HB := Aside0.mk (hb)
              clear HO_6
              clear ho hb hg hat
              refine hK.out _ _ ⟨(blk_cell BK389.out 0).trans rfl, (blk_cell BK389.out 1).trans rfl⟩ (fun hHeld => ?_)
              clear hK K
              refine nm 54 ?_
              refine pu 9 6 (tb 10 0) ?_
              refine done_ (done_of HT_.out (by kernel_rfl)) ?_
              try go_wp2
              go_roundg k2
              case measure => have := HJ2.out; have := HK2.out; omega
              case rel => exact ⟨(y399), (ji24), (by first | rfl | (simp; done) | (simp only [← hji24] <;> (first | rfl | simp)) | (simp [*]; done)), H', ⟨by have := HJ2.out; have := HK2.out; omega⟩, ⟨by (with_reducible repeat (first | apply Kd.R_alloc | apply Kd.R_drewN | apply Kd.R_drew)); exact Kd.R_mono HO401.out (fun _ hk => ⟨hk.1, hk.2.1⟩)⟩, ⟨by (with_reducible repeat (first | apply Kd.R_alloc | apply Kd.R_drewN | apply Kd.R_drew)); exact Kd.R_mono HO_21.out (fun _ hk => ⟨hk.2, hk.1.1⟩)⟩, ⟨by (with_reducible repeat (first | refine blk_drewN ?_ _ | refine blk_drew ?_ | refine blk_alloc ?_ _)); exact BK379.out⟩, ⟨by (with_reducible repeat (first | refine blk_drewN ?_ _ | refine blk_drew ?_ | refine blk_alloc ?_ _)); exact BK380.out⟩, ⟨bl⟩⟩
             ·rw [if_neg c30] at H
              exact absurd H (by simp)
            ·replace c28 := Bool.eq_false_iff.mpr c28
             subst c28
             have H1 : (impl_LeastSlope.l0 k2 l0 x6_2 t383 (t383.length : Int) ji24 a1_0 a1_1 a1_2 a1_3) = some (r1, r2, r3) := by rw [if_neg (show ¬ (false = true) by decide)] at H; exact H
             clear H
             have H := H1
             clear H1
             have H' := Aside0.mk H
             clear H
             have p388 : 0 ≤ (x23_2 : Int) := da
             have q388 : x23_2 < (t383.length : Int) := da
             obtain ⟨ad388, e388, hx388_0, hx388_1⟩ := at_T28 (Kd.R_reads' HO_21.out).2.2 x23_2 p388 q388
             cases e388
             replace p388 := eq_true p388
             replace q388 := eq_true q388
             try go_wp2_with (first | ((with_reducible refine gate_dst (N := 8) rfl ?_); refine bx 8 #[.int .i64 0, .int .i64 0] 28 ?_; intro gb389 hg w47 hbox hb; have BK389 := Aside0.mk (hbox); have GW389 := Aside0.mk (bz hg); have GE389 := GW389; have NB379_389 := Aside0.mk (bn gb379 hg); have NB389_379 := Aside0.mk NB379_389.out.symm; have NB380_389 := Aside0.mk (bn gb380 hg); have NB389_380 := Aside0.mk NB380_389.out.symm; replace HO_6 := Aside0.mk (Kd.R_below (Kd.R_elderB (by (with_reducible repeat (first | apply Kd.R_alloc | apply Kd.R_drewN | apply Kd.R_drew)); exact HO_6.out) gb389 (Nat.le_of_eq hg.symm)) hb); replace HO_21 := Aside0.mk (Kd.R_below (Kd.R_elderB (by (with_reducible repeat (first | apply Kd.R_alloc | apply Kd.R_drewN | apply Kd.R_drew)); exact HO_21.out) gb389 (Nat.le_of_eq hg.symm)) hb); replace BK379 := Aside0.mk (bb gb379 hb); replace BK380 := Aside0.mk (bb gb380 hb); replace HB := Aside0.mk (bs hb); clear hb hbox hg; have hnb48 := NB389_379.out; have hnc48 := NB379_389.out; have hnb49 := NB389_380.out; have hnc49 := NB380_389.out; have hcz50_0 : w47.cell? ⟨gb389, 0, none⟩ = some (.int .i64 0) := (blk_cell BK389.out 0).trans rfl; have hcz50_1 : w47.cell? ⟨gb389, 1, none⟩ = some (.int .i64 0) := (blk_cell BK389.out 1).trans rfl; have hfz50_0 := blk_frozen BK389.out 0; have hfz50_1 := blk_frozen BK389.out 1))
             have n0_ : Aside0 (Kd.R k28 28 ((w47.setCell ⟨gb389, 0, none⟩ (.int .i64 ((rd_T28 t383 x23_2).f0))).setCell ⟨gb389, 1, none⟩ (.int .i64 ((rd_T28 t383 x23_2).f1))) w.heap.size (fun k_ => some k_ ≠ (.slice (some ad388) t383.length co19 : Value).ownBlock ∧ k_ ≠ gb380 ∧ k_ ≠ gb389) u6 x6_2) := ⟨by (with_reducible repeat (first | apply Kd.R_alloc | apply Kd.R_drewN | apply Kd.R_drew)); exact Kd.R_mono (Kd.R_far (p := ⟨gb389, 1, none⟩) (Kd.R_far (p := ⟨gb389, 0, none⟩) (Kd.R_mono HO_6.out (fun k_ hk => (⟨hk, hk.2⟩ : _ ∧ k_ ≠ gb389))) (fun _ hk => hk.2) (.int .i64 ((rd_T28 t383 x23_2).f0))) (fun _ hk => hk.2) (.int .i64 ((rd_T28 t383 x23_2).f1))) (fun _ hk => ⟨hk.1.1.1, ⟨hk.1.1.2, hk.1.2⟩⟩)⟩
             have n1_ : Aside0 (Kd.R k28 28 ((w47.setCell ⟨gb389, 0, none⟩ (.int .i64 ((rd_T28 t383 x23_2).f0))).setCell ⟨gb389, 1, none⟩ (.int .i64 ((rd_T28 t383 x23_2).f1))) w.heap.size (fun k_ => some k_ ≠ (u6 : Value).ownBlock ∧ k_ ≠ gb380 ∧ k_ ≠ gb389) (.slice (some ad388) t383.length co19) t383) := ⟨by (with_reducible repeat (first | apply Kd.R_alloc | apply Kd.R_drewN | apply Kd.R_drew)); exact Kd.R_mono (Kd.R_far (p := ⟨gb389, 1, none⟩) (Kd.R_far (p := ⟨gb389, 0, none⟩) (Kd.R_mono HO_21.out (fun k_ hk => (⟨hk, hk.2⟩ : _ ∧ k_ ≠ gb389))) (fun _ hk => hk.2) (.int .i64 ((rd_T28 t383 x23_2).f0))) (fun _ hk => hk.2) (.int .i64 ((rd_T28 t383 x23_2).f1))) (fun _ hk => ⟨hk.1.1.1, ⟨hk.1.1.2, hk.1.2⟩⟩)⟩
             have n2_ : Aside0 (((w47.setCell ⟨gb389, 0, none⟩ (.int .i64 ((rd_T28 t383 x23_2).f0))).setCell ⟨gb389, 1, none⟩ (.int .i64 ((rd_T28 t383 x23_2).f1))).heap[gb379]? = some (.cells #[.int .i64 a1_0, .int .i64 a1_1, .int .i64 a1_2, .int .i64 a1_3] 34 (0, 0))) := ⟨by (with_reducible repeat (first | refine blk_drewN ?_ _ | refine blk_drew ?_ | refine blk_alloc ?_ _)); refine blk_far ?_ NB379_389.out _; (with_reducible repeat (first | refine blk_drewN ?_ _ | refine blk_drew ?_ | refine blk_alloc ?_ _)); refine blk_far ?_ NB379_389.out _; (with_reducible repeat (first | refine blk_drewN ?_ _ | refine blk_drew ?_ | refine blk_alloc ?_ _)); exact BK379.out⟩
             have n3_ : Aside0 (((w47.setCell ⟨gb389, 0, none⟩ (.int .i64 ((rd_T28 t383 x23_2).f0))).setCell ⟨gb389, 1, none⟩ (.int .i64 ((rd_T28 t383 x23_2).f1))).heap[gb380]? = some (.cells #[.int .i64 0, .int .i64 0] 28 (0, 0))) := ⟨by (with_reducible repeat (first | refine blk_drewN ?_ _ | refine blk_drew ?_ | refine blk_alloc ?_ _)); refine blk_far ?_ NB380_389.out _; (with_reducible repeat (first | refine blk_drewN ?_ _ | refine blk_drew ?_ | refine blk_alloc ?_ _)); refine blk_far ?_ NB380_389.out _; (with_reducible repeat (first | refine blk_drewN ?_ _ | refine blk_drew ?_ | refine blk_alloc ?_ _)); exact BK380.out⟩
             have n4_ : Aside0 (((w47.setCell ⟨gb389, 0, none⟩ (.int .i64 ((rd_T28 t383 x23_2).f0))).setCell ⟨gb389, 1, none⟩ (.int .i64 ((rd_T28 t383 x23_2).f1))).heap[gb389]? = some (.cells #[.int .i64 ((rd_T28 t383 x23_2).f0), .int .i64 ((rd_T28 t383 x23_2).f1)] 28 (0, 0))) := ⟨by (with_reducible repeat (first | refine blk_drewN ?_ _ | refine blk_drew ?_ | refine blk_alloc ?_ _)); refine blk_put (cs := #[.int .i64 ((rd_T28 t383 x23_2).f0), .int .i64 0]) ?_ 1 _ rfl; (with_reducible repeat (first | refine blk_drewN ?_ _ | refine blk_drew ?_ | refine blk_alloc ?_ _)); refine blk_put (cs := #[.int .i64 0, .int .i64 0]) ?_ 0 _ rfl; (with_reducible repeat (first | refine blk_drewN ?_ _ | refine blk_drew ?_ | refine blk_alloc ?_ _)); exact BK389.out⟩
             have n5_ : Aside0 (Below w.heap.size w ((w47.setCell ⟨gb389, 0, none⟩ (.int .i64 ((rd_T28 t383 x23_2).f0))).setCell ⟨gb389, 1, none⟩ (.int .i64 ((rd_T28 t383 x23_2).f1)))) := ⟨bl⟩
             (try clear HO_6)
             (try clear HO_21)
             (try clear BK379)
             (try clear BK380)
             (try clear BK389)
             (try clear HB)
             generalize ((w47.setCell ⟨gb389, 0, none⟩ (.int .i64 ((rd_T28 t383 x23_2).f0))).setCell ⟨gb389, 1, none⟩ (.int .i64 ((rd_T28 t383 x23_2).f1))) = w51 at n0_ n1_ n2_ n3_ n4_ n5_ ⊢
             have HO_6 := n0_
             have HO_21 := n1_
             have BK379 := n2_
             have BK380 := n3_
             have BK389 := n4_
             have HB := n5_
             clear n0_ n1_ n2_ n3_ n4_ n5_
             replace HO_6 := Aside0.mk (Kd.R_drew HO_6.out)
             replace HO_21 := Aside0.mk (Kd.R_drew HO_21.out)
             replace BK379 := Aside0.mk (blk_drew BK379.out)
             replace BK380 := Aside0.mk (blk_drew BK380.out)
             replace BK389 := Aside0.mk (blk_drew BK389.out)
             replace HB := Aside0.mk (below_drew1 HB.out)
             have p390 : 0 ≤ (x23_2 : Int) := da
             have q390 : x23_2 < (l0.length : Int) := da
             obtain ⟨ad390, e390, hx390_0, hx390_1, hx390_2, hx390_3⟩ := at_T68 HR0.out x23_2 p390 q390
             have hw390_3 := hx390_3
             have hw390_2 := hx390_2
             have hw390_1 := hx390_1
             have hw390_0 := hx390_0
             cases e390
             replace hx390_0 := (hc HB hx390_0 :)
             replace hx390_1 := (hc HB hx390_1 :)
             replace hx390_2 := (hc HB hx390_2 :)
             replace hx390_3 := (hc HB hx390_3 :)
             replace p390 := eq_true p390
             replace q390 := eq_true q390
             have p391 : 0 ≤ ((ji24) : Int) := da
             have q391 : (ji24) < (l0.length : Int) := da
             obtain ⟨ad391, e391, hx391_0, hx391_1, hx391_2, hx391_3⟩ := at_T68 HR0.out (ji24) p391 q391
             have hw391_3 := hx391_3
             have hw391_2 := hx391_2
             have hw391_1 := hx391_1
             have hw391_0 := hx391_0
             obtain rfl : ad390 = ad391 := (by injection e391)
             replace hx391_0 := (hc HB hx391_0 :)
             replace hx391_1 := (hc HB hx391_1 :)
             replace hx391_2 := (hc HB hx391_2 :)
             replace hx391_3 := (hc HB hx391_3 :)
             replace p391 := eq_true p391
             replace q391 := eq_true q391
             refine start_ (n := 20) (S := fun w' => w'.cell? ⟨gb379, 0, none⟩ = some (.int .i64 a1_0) ∧ w'.cell? ⟨gb379, 1, none⟩ = some (.int .i64 a1_1) ∧ w'.cell? ⟨gb379, 2, none⟩ = some (.int .i64 a1_2) ∧ w'.cell? ⟨gb379, 3, none⟩ = some (.int .i64 a1_3) ∧ w'.cell? (ad390.add ((x23_2).toNat * 4)) = some (.int .i64 ((rd_T68 l0 x23_2).f0.f0)) ∧ w'.cell? ⟨(ad390.add ((x23_2).toNat * 4)).block, (ad390.add ((x23_2).toNat * 4)).off + 1, none⟩ = some (.int .i64 ((rd_T68 l0 x23_2).f0.f1)) ∧ w'.cell? ⟨(ad390.add ((x23_2).toNat * 4)).block, (ad390.add ((x23_2).toNat * 4)).off + 2, none⟩ = some (.int .i64 ((rd_T68 l0 x23_2).f1.f0)) ∧ w'.cell? ⟨(ad390.add ((x23_2).toNat * 4)).block, (ad390.add ((x23_2).toNat * 4)).off + 3, none⟩ = some (.int .i64 ((rd_T68 l0 x23_2).f1.f1)) ∧ w'.cell? (ad390.add (((ji24)).toNat * 4)) = some (.int .i64 ((rd_T68 l0 (ji24)).f0.f0)) ∧ w'.cell? ⟨(ad390.add (((ji24)).toNat * 4)).block, (ad390.add (((ji24)).toNat * 4)).off + 1, none⟩ = some (.int .i64 ((rd_T68 l0 (ji24)).f0.f1)) ∧ w'.cell? ⟨(ad390.add (((ji24)).toNat * 4)).block, (ad390.add (((ji24)).toNat * 4)).off + 2, none⟩ = some (.int .i64 ((rd_T68 l0 (ji24)).f1.f0)) ∧ w'.cell? ⟨(ad390.add (((ji24)).toNat * 4)).block, (ad390.add (((ji24)).toNat * 4)).off + 3, none⟩ = some (.int .i64 ((rd_T68 l0 (ji24)).f1.f1))) (ds := []) (tb 0 20) (by kernel_rfl) rfl rfl ⟨(blk_cell BK379.out 0).trans rfl, (blk_cell BK379.out 1).trans rfl, (blk_cell BK379.out 2).trans rfl, (blk_cell BK379.out 3).trans rfl, (hc HB hw390_0 :), (hc HB hw390_1 :), (hc HB hw390_2 :), (hc HB hw390_3 :), (hc HB hw391_0 :), (hc HB hw391_1 :), (hc HB hw391_2 :), (hc HB hw391_3 :)⟩ (fun hHeld => ?_); refine with_tabW impl_LeastSlope.tab7 impl_LeastSlope.bits7 (fun HT_ HW_ => ?_)
             generalize w51.drew = w52 at HO_6 HO_21 BK379 BK380 BK389 HB hx390_0 hx390_1 hx390_2 hx390_3 hx391_0 hx391_1 hx391_2 hx391_3 hHeld ⊢
             refine pu 1 30 #[false, true, false, false, false, false, false, false, false, false, false, false, false, false, false, false, false, false, false, false] ?_
             refine pu 2 31 #[false, true, true, false, false, false, false, false, false, false, false, false, false, false, false, false, false, false, false, false] ?_
             refine pu 3 32 #[false, true, true, true, false, false, false, false, false, false, false, false, false, false, false, false, false, false, false, false] ?_
             refine pu 4 33 #[false, true, true, true, true, false, false, false, false, false, false, false, false, false, false, false, false, false, false, false] ?_
             refine pu 6 35 #[false, true, true, true, true, false, true, false, false, false, false, false, false, false, false, false, false, false, false, false] ?_
             refine pu 7 36 #[false, true, true, true, true, false, true, true, false, false, false, false, false, false, false, false, false, false, false, false] ?_
             refine pu 8 37 #[false, true, true, true, true, false, true, true, true, false, false, false, false, false, false, false, false, false, false, false] ?_
             refine pu 9 38 #[false, true, true, true, true, false, true, true, true, true, false, false, false, false, false, false, false, false, false, false] ?_
             refine pu 10 39 #[false, true, true, true, true, false, true, true, true, true, true, false, false, false, false, false, false, false, false, false] ?_
             refine tk 0 29 #[true, true, true, true, true, false, true, true, true, true, true, false, false, false, false, false, false, false, false, false] (hy := by rintro w' ⟨s0, s1, s2, s3, s4, s5, s6, s7, s8, s9, s10, s11⟩; go_simp; with_reducible rfl) (h := ?_)
             refine tk 5 34 (tb 11 9) (hy := by rintro w' ⟨s0, s1, s2, s3, s4, s5, s6, s7, s8, s9, s10, s11⟩; go_simp; with_reducible rfl) (h := ?_)
             refine tk 11 40 (tb 12 8) (hy := by rintro w' ⟨s0, s1, s2, s3, s4, s5, s6, s7, s8, s9, s10, s11⟩; go_simp; with_reducible rfl) (h := ?_)
             refine pu 12 41 (tb 13 7) ?_
             refine join_ (σ := Nat) 2 (tb 18 2) (fun s_ => [(42, .tuple #[.agg #[.int .i64 t392, .int .i64 t393, .int .i64 t394, .int .i64 t395], .bool false]), (9, .pointer (some ⟨s_, 0, none⟩)), (28, .tuple #[.agg #[.int .i64 t392, .int .i64 t393, .int .i64 t394, .int .i64 t395], .bool false]), (43, .agg #[.int .i64 t392, .int .i64 t393, .int .i64 t394, .int .i64 t395]), (44, .bool false)]) (fun s_ w' => (w'.cell? ⟨gb379, 0, none⟩ = some (.int .i64 a1_0) ∧ w'.cell? ⟨gb379, 1, none⟩ = some (.int .i64 a1_1) ∧ w'.cell? ⟨gb379, 2, none⟩ = some (.int .i64 a1_2) ∧ w'.cell? ⟨gb379, 3, none⟩ = some (.int .i64 a1_3) ∧ w'.cell? (ad390.add ((x23_2).toNat * 4)) = some (.int .i64 ((rd_T68 l0 x23_2).f0.f0)) ∧ w'.cell? ⟨(ad390.add ((x23_2).toNat * 4)).block, (ad390.add ((x23_2).toNat * 4)).off + 1, none⟩ = some (.int .i64 ((rd_T68 l0 x23_2).f0.f1)) ∧ w'.cell? ⟨(ad390.add ((x23_2).toNat * 4)).block, (ad390.add ((x23_2).toNat * 4)).off + 2, none⟩ = some (.int .i64 ((rd_T68 l0 x23_2).f1.f0)) ∧ w'.cell? ⟨(ad390.add ((x23_2).toNat * 4)).block, (ad390.add ((x23_2).toNat * 4)).off + 3, none⟩ = some (.int .i64 ((rd_T68 l0 x23_2).f1.f1)) ∧ w'.cell? (ad390.add (((ji24)).toNat * 4)) = some (.int .i64 ((rd_T68 l0 (ji24)).f0.f0)) ∧ w'.cell? ⟨(ad390.add (((ji24)).toNat * 4)).block, (ad390.add (((ji24)).toNat * 4)).off + 1, none⟩ = some (.int .i64 ((rd_T68 l0 (ji24)).f0.f1)) ∧ w'.cell? ⟨(ad390.add (((ji24)).toNat * 4)).block, (ad390.add (((ji24)).toNat * 4)).off + 2, none⟩ = some (.int .i64 ((rd_T68 l0 (ji24)).f1.f0)) ∧ w'.cell? ⟨(ad390.add (((ji24)).toNat * 4)).block, (ad390.add (((ji24)).toNat * 4)).off + 3, none⟩ = some (.int .i64 ((rd_T68 l0 (ji24)).f1.f1))) ∧ (Kd.R k28 28 w' w.heap.size (fun k_ => some k_ ≠ (u6 : Value).ownBlock ∧ k_ ≠ gb380 ∧ k_ ≠ gb389) (.slice (some ad388) t383.length co19) t383) ∧ (Kd.R k28 28 w' w.heap.size (fun k_ => some k_ ≠ (.slice (some ad388) t383.length co19 : Value).ownBlock ∧ k_ ≠ gb380 ∧ k_ ≠ gb389) u6 x6_2) ∧ (w'.heap[gb379]? = some (.cells #[.int .i64 a1_0, .int .i64 a1_1, .int .i64 a1_2, .int .i64 a1_3] 34 (0, 0))) ∧ (w'.heap[gb380]? = some (.cells #[.int .i64 0, .int .i64 0] 28 (0, 0))) ∧ (w'.heap[gb389]? = some (.cells #[.int .i64 ((rd_T28 t383 x23_2).f0), .int .i64 ((rd_T28 t383 x23_2).f1)] 28 (0, 0))) ∧ (w'.heap[s_]? = some (.cells #[.int .i64 0, .int .i64 0, .int .i64 0, .int .i64 0] 34 (0, 0))) ∧ (w.heap.size ≤ s_) ∧ (w.heap.size ≤ s_) ∧ (gb379 ≠ s_) ∧ (s_ ≠ gb379) ∧ (gb380 ≠ s_) ∧ (s_ ≠ gb380) ∧ (gb389 ≠ s_) ∧ (s_ ≠ gb389) ∧ (Below w.heap.size w w')) ?_ ?_
             rotate_left
             ·intro hCont
              refine two_ (i := 13) (j := 17) (Ni := some 42) (Nj := some 9) (tb 14 6) #[true, true, true, true, true, true, true, true, true, true, true, true, true, false, false, false, false, true, false, false] rfl rfl rfl rfl (two_of HT_.out (by kernel_rfl)) (by decide) (by decide) (fun K hK => ?_) (fun K hK => ?_)
              ·skip
               refine goes_ Try.func51 (by kernel_rfl) rfl #[.agg #[.int .i64 a1_0, .int .i64 a1_1, .int .i64 a1_2, .int .i64 a1_3], .agg #[.int .i64 ((rd_T68 l0 x23_2).f0.f0), .int .i64 ((rd_T68 l0 x23_2).f0.f1), .int .i64 ((rd_T68 l0 (ji24)).f0.f0), .int .i64 ((rd_T68 l0 (ji24)).f0.f1)]] (by rfl) rfl rfl (by (try simp only [List.map_toArray, List.map_cons, List.map_nil]); first | done | (simp only [hji24]; rfl) | rfl | (simp only [List.length_drop, List.length_take]; rfl)) ?_
               with_reducible refine (impl_common.calls a1_0 a1_1 a1_2 a1_3 ((rd_T68 l0 x23_2).f0.f0) ((rd_T68 l0 x23_2).f0.f1) ((rd_T68 l0 (ji24)).f0.f0) ((rd_T68 l0 (ji24)).f0.f1) t392 t393 t394 t395 false _ A27.out).mono ?_
               rintro e w53 ⟨rfl, hb⟩
               refine ⟨_, rfl, ?_⟩
               replace HO_6 := Aside0.mk (Kd.R_below (by (with_reducible repeat (first | apply Kd.R_alloc | apply Kd.R_drewN | apply Kd.R_drew)); exact HO_6.out) hb)
               replace HO_21 := Aside0.mk (Kd.R_below (by (with_reducible repeat (first | apply Kd.R_alloc | apply Kd.R_drewN | apply Kd.R_drew)); exact HO_21.out) hb)
               replace BK379 := Aside0.mk (bb gb379 hb)
               replace BK380 := Aside0.mk (bb gb380 hb)
               replace BK389 := Aside0.mk (bb gb389 hb)
               replace HB := Aside0.mk (bs hb)
               (try clear hb)
               (try clear hb2)
               (try clear hk)
               (try clear hi)
               refine hK.out _ _ ⟨(blk_cell BK379.out 0).trans rfl, (blk_cell BK379.out 1).trans rfl, (blk_cell BK379.out 2).trans rfl, (blk_cell BK379.out 3).trans rfl, (hc HB hw390_0 :), (hc HB hw390_1 :), (hc HB hw390_2 :), (hc HB hw390_3 :), (hc HB hw391_0 :), (hc HB hw391_1 :), (hc HB hw391_2 :), (hc HB hw391_3 :)⟩ (fun hHeld => ?_)
               clear hK K
               refine nm 42 ?_
               refine pu 14 28 (tb 15 5) ?_
               refine pu 15 43 (tb 16 4) ?_
               refine pu 16 44 (tb 17 3) ?_
               refine on 17 9 (tb 18 2) (fun K hK => ?_)
               refine box_step ?hg (N := 9) ?hd (cs := #[.int .i64 0, .int .i64 0, .int .i64 0, .int .i64 0]) (t := 34) ?hr ?_; (case hd => rfl); (case hg => rfl); (case hr => first | (go_simp; done) | (go_simp; rfl))
               intro gb397 hg w54 hbox hb
               have BK397 := Aside0.mk (hbox)
               have GW397 := Aside0.mk (bz hg)
               have GE397 := GW397
               have NB379_397 := Aside0.mk (bn gb379 hg)
               have NB397_379 := Aside0.mk NB379_397.out.symm
               have NB380_397 := Aside0.mk (bn gb380 hg)
               have NB397_380 := Aside0.mk NB380_397.out.symm
               have NB389_397 := Aside0.mk (bn gb389 hg)
               have NB397_389 := Aside0.mk NB389_397.out.symm
               replace HO_6 := Aside0.mk (Kd.R_below (by (with_reducible repeat (first | apply Kd.R_alloc | apply Kd.R_drewN | apply Kd.R_drew)); exact HO_6.out) hb)
               replace HO_21 := Aside0.mk (Kd.R_below (by (with_reducible repeat (first | apply Kd.R_alloc | apply Kd.R_drewN | apply Kd.R_drew)); exact HO_21.out) hb)
               replace BK379 := Aside0.mk (bb gb379 hb)
               replace BK380 := Aside0.mk (bb gb380 hb)
               replace BK389 := Aside0.mk (bb gb389 hb)
               replace HB := Aside0.mk (bs hb)
               clear hb hbox hg
               refine hK.out _ _ ⟨(blk_cell BK379.out 0).trans rfl, (blk_cell BK379.out 1).trans rfl, (blk_cell BK379.out 2).trans rfl, (blk_cell BK379.out 3).trans rfl, (hc HB hw390_0 :), (hc HB hw390_1 :), (hc HB hw390_2 :), (hc HB hw390_3 :), (hc HB hw391_0 :), (hc HB hw391_1 :), (hc HB hw391_2 :), (hc HB hw391_3 :)⟩ (fun hHeld => ?_)
               clear hK K
               refine nm 9 ?_
               exact norm_ (by simp only [putAll, Act.put, List.setIfInBounds_toArray, List.set_cons_zero, List.set_cons_succ]) (hCont (gb397) _ ⟨hHeld, (by (with_reducible repeat (first | apply Kd.R_alloc | apply Kd.R_drewN | apply Kd.R_drew)); exact HO_21.out), (by (with_reducible repeat (first | apply Kd.R_alloc | apply Kd.R_drewN | apply Kd.R_drew)); exact HO_6.out), (bo gb379), (bo gb380), (bo gb389), (bo gb397), GW397.out, GE397.out, NB379_397.out, NB397_379.out, NB380_397.out, NB397_380.out, NB389_397.out, NB397_389.out, bl⟩)
              ·skip
               refine box_step ?hg (N := 9) ?hd (cs := #[.int .i64 0, .int .i64 0, .int .i64 0, .int .i64 0]) (t := 34) ?hr ?_; (case hd => rfl); (case hg => rfl); (case hr => first | (go_simp; done) | (go_simp; rfl))
               intro gb397 hg w53 hbox hb
               have BK397 := Aside0.mk (hbox)
               have GW397 := Aside0.mk (bz hg)
               have GE397 := GW397
               have NB379_397 := Aside0.mk (bn gb379 hg)
               have NB397_379 := Aside0.mk NB379_397.out.symm
               have NB380_397 := Aside0.mk (bn gb380 hg)
               have NB397_380 := Aside0.mk NB380_397.out.symm
               have NB389_397 := Aside0.mk (bn gb389 hg)
               have NB397_389 := Aside0.mk NB389_397.out.symm
               replace HO_6 := Aside0.mk (Kd.R_below (by (with_reducible repeat (first | apply Kd.R_alloc | apply Kd.R_drewN | apply Kd.R_drew)); exact HO_6.out) hb)
               replace HO_21 := Aside0.mk (Kd.R_below (by (with_reducible repeat (first | apply Kd.R_alloc | apply Kd.R_drewN | apply Kd.R_drew)); exact HO_21.out) hb)
               replace BK379 := Aside0.mk (bb gb379 hb)
               replace BK380 := Aside0.mk (bb gb380 hb)
               replace BK389 := Aside0.mk (bb gb389 hb)
               replace HB := Aside0.mk (bs hb)
               clear hb hbox hg
               refine hK.out _ _ ⟨(blk_cell BK379.out 0).trans rfl, (blk_cell BK379.out 1).trans rfl, (blk_cell BK379.out 2).trans rfl, (blk_cell BK379.out 3).trans rfl, (hc HB hw390_0 :), (hc HB hw390_1 :), (hc HB hw390_2 :), (hc HB hw390_3 :), (hc HB hw391_0 :), (hc HB hw391_1 :), (hc HB hw391_2 :), (hc HB hw391_3 :)⟩ (fun hHeld => ?_)
               clear hK K
               refine nm 9 ?_
               refine on 13 42 #[true, true, true, true, true, true, true, true, true, true, true, true, true, true, false, false, false, true, false, false] (fun K hK => ?_)
               refine goes_ Try.func51 (by kernel_rfl) rfl #[.agg #[.int .i64 a1_0, .int .i64 a1_1, .int .i64 a1_2, .int .i64 a1_3], .agg #[.int .i64 ((rd_T68 l0 x23_2).f0.f0), .int .i64 ((rd_T68 l0 x23_2).f0.f1), .int .i64 ((rd_T68 l0 (ji24)).f0.f0), .int .i64 ((rd_T68 l0 (ji24)).f0.f1)]] (by rfl) rfl rfl (by (try simp only [List.map_toArray, List.map_cons, List.map_nil]); first | done | (simp only [hji24]; rfl) | rfl | (simp only [List.length_drop, List.length_take]; rfl)) ?_
               with_reducible refine (impl_common.calls a1_0 a1_1 a1_2 a1_3 ((rd_T68 l0 x23_2).f0.f0) ((rd_T68 l0 x23_2).f0.f1) ((rd_T68 l0 (ji24)).f0.f0) ((rd_T68 l0 (ji24)).f0.f1) t392 t393 t394 t395 false _ A27.out).mono ?_
               rintro e w54 ⟨rfl, hb⟩
               refine ⟨_, rfl, ?_⟩
               replace HO_6 := Aside0.mk (Kd.R_below (by (with_reducible repeat (first | apply Kd.R_alloc | apply Kd.R_drewN | apply Kd.R_drew)); exact HO_6.out) hb)
               replace HO_21 := Aside0.mk (Kd.R_below (by (with_reducible repeat (first | apply Kd.R_alloc | apply Kd.R_drewN | apply Kd.R_drew)); exact HO_21.out) hb)
               replace BK379 := Aside0.mk (bb gb379 hb)
               replace BK380 := Aside0.mk (bb gb380 hb)
               replace BK389 := Aside0.mk (bb gb389 hb)
               replace BK397 := Aside0.mk (bb gb397 hb)
               replace HB := Aside0.mk (bs hb)
               (try clear hb)
               (try clear hb2)
               (try clear hk)
               (try clear hi)
               refine hK.out _ _ ⟨(blk_cell BK379.out 0).trans rfl, (blk_cell BK379.out 1).trans rfl, (blk_cell BK379.out 2).trans rfl, (blk_cell BK379.out 3).trans rfl, (hc HB hw390_0 :), (hc HB hw390_1 :), (hc HB hw390_2 :), (hc HB hw390_3 :), (hc HB hw391_0 :), (hc HB hw391_1 :), (hc HB hw391_2 :), (hc HB hw391_3 :)⟩ (fun hHeld => ?_)
               clear hK K
               refine nm 42 ?_
               refine pu 14 28 #[true, true, true, true, true, true, true, true, true, true, true, true, true, true, true, false, false, true, false, false] ?_
               refine pu 15 43 #[true, true, true, true, true, true, true, true, true, true, true, true, true, true, true, true, false, true, false, false] ?_
               refine pu 16 44 (tb 18 2) ?_
               exact norm_ (by simp only [putAll, Act.put, List.setIfInBounds_toArray, List.set_cons_zero, List.set_cons_succ]) (hCont (gb397) _ ⟨hHeld, (by (with_reducible repeat (first | apply Kd.R_alloc | apply Kd.R_drewN | apply Kd.R_drew)); exact HO_21.out), (by (with_reducible repeat (first | apply Kd.R_alloc | apply Kd.R_drewN | apply Kd.R_drew)); exact HO_6.out), (bo gb379), (bo gb380), (bo gb389), (bo gb397), GW397.out, GE397.out, NB379_397.out, NB397_379.out, NB380_397.out, NB397_380.out, NB389_397.out, NB397_389.out, bl⟩)
             rintro gb397 w55 ⟨hS_, h0_, h1_, h2_, h3_, h4_, h5_, h6_, h7_, h8_, h9_, h10_, h11_, h12_, h13_, h14_⟩
             have n0_ : Aside0 (Kd.R k28 28 w55 w.heap.size (fun k_ => some k_ ≠ (u6 : Value).ownBlock ∧ k_ ≠ gb380 ∧ k_ ≠ gb389) (.slice (some ad388) t383.length co19) t383) := ⟨h0_⟩
             have n1_ : Aside0 (Kd.R k28 28 w55 w.heap.size (fun k_ => some k_ ≠ (.slice (some ad388) t383.length co19 : Value).ownBlock ∧ k_ ≠ gb380 ∧ k_ ≠ gb389) u6 x6_2) := ⟨h1_⟩
             have n2_ : Aside0 (w55.heap[gb379]? = some (.cells #[.int .i64 a1_0, .int .i64 a1_1, .int .i64 a1_2, .int .i64 a1_3] 34 (0, 0))) := ⟨h2_⟩
             have n3_ : Aside0 (w55.heap[gb380]? = some (.cells #[.int .i64 0, .int .i64 0] 28 (0, 0))) := ⟨h3_⟩
             have n4_ : Aside0 (w55.heap[gb389]? = some (.cells #[.int .i64 ((rd_T28 t383 x23_2).f0), .int .i64 ((rd_T28 t383 x23_2).f1)] 28 (0, 0))) := ⟨h4_⟩
             have n5_ : Aside0 (w55.heap[gb397]? = some (.cells #[.int .i64 0, .int .i64 0, .int .i64 0, .int .i64 0] 34 (0, 0))) := ⟨h5_⟩
             have n6_ : Aside0 (w.heap.size ≤ gb397) := ⟨h6_⟩
             have n7_ : Aside0 (w.heap.size ≤ gb397) := ⟨h7_⟩
             have n8_ : Aside0 (gb379 ≠ gb397) := ⟨h8_⟩
             have n9_ : Aside0 (gb397 ≠ gb379) := ⟨h9_⟩
             have n10_ : Aside0 (gb380 ≠ gb397) := ⟨h10_⟩
             have n11_ : Aside0 (gb397 ≠ gb380) := ⟨h11_⟩
             have n12_ : Aside0 (gb389 ≠ gb397) := ⟨h12_⟩
             have n13_ : Aside0 (gb397 ≠ gb389) := ⟨h13_⟩
             have n14_ : Aside0 (Below w.heap.size w w55) := ⟨h14_⟩
             clear HO_6
             clear HO_21
             clear BK379
             clear BK380
             clear BK389
             clear HB
             clear h0_ h1_ h2_ h3_ h4_ h5_ h6_ h7_ h8_ h9_ h10_ h11_ h12_ h13_ h14_
             have HO_21 := n0_
             have HO_6 := n1_
             have BK379 := n2_
             have BK380 := n3_
             have BK389 := n4_
             have BK397 := n5_
             have GW397 := n6_
             have GE397 := n7_
             have NB379_397 := n8_
             have NB397_379 := n9_
             have NB380_397 := n10_
             have NB397_380 := n11_
             have NB389_397 := n12_
             have NB397_389 := n13_
             have HB := n14_
             clear n0_ n1_ n2_ n3_ n4_ n5_ n6_ n7_ n8_ n9_ n10_ n11_ n12_ n13_ n14_
             have hHeld : w55.cell? ⟨gb379, 0, none⟩ = some (.int .i64 a1_0) ∧ w55.cell? ⟨gb379, 1, none⟩ = some (.int .i64 a1_1) ∧ w55.cell? ⟨gb379, 2, none⟩ = some (.int .i64 a1_2) ∧ w55.cell? ⟨gb379, 3, none⟩ = some (.int .i64 a1_3) ∧ w55.cell? (ad390.add ((x23_2).toNat * 4)) = some (.int .i64 ((rd_T68 l0 x23_2).f0.f0)) ∧ w55.cell? ⟨(ad390.add ((x23_2).toNat * 4)).block, (ad390.add ((x23_2).toNat * 4)).off + 1, none⟩ = some (.int .i64 ((rd_T68 l0 x23_2).f0.f1)) ∧ w55.cell? ⟨(ad390.add ((x23_2).toNat * 4)).block, (ad390.add ((x23_2).toNat * 4)).off + 2, none⟩ = some (.int .i64 ((rd_T68 l0 x23_2).f1.f0)) ∧ w55.cell? ⟨(ad390.add ((x23_2).toNat * 4)).block, (ad390.add ((x23_2).toNat * 4)).off + 3, none⟩ = some (.int .i64 ((rd_T68 l0 x23_2).f1.f1)) ∧ w55.cell? (ad390.add (((ji24)).toNat * 4)) = some (.int .i64 ((rd_T68 l0 (ji24)).f0.f0)) ∧ w55.cell? ⟨(ad390.add (((ji24)).toNat * 4)).block, (ad390.add (((ji24)).toNat * 4)).off + 1, none⟩ = some (.int .i64 ((rd_T68 l0 (ji24)).f0.f1)) ∧ w55.cell? ⟨(ad390.add (((ji24)).toNat * 4)).block, (ad390.add (((ji24)).toNat * 4)).off + 2, none⟩ = some (.int .i64 ((rd_T68 l0 (ji24)).f1.f0)) ∧ w55.cell? ⟨(ad390.add (((ji24)).toNat * 4)).block, (ad390.add (((ji24)).toNat * 4)).off + 3, none⟩ = some (.int .i64 ((rd_T68 l0 (ji24)).f1.f1)) := hS_
             refine norm_ (a' := ?_) ?_ ?_
             rotate_left
             ·simp only [putAll, Act.put, List.setIfInBounds_toArray, List.set_cons_zero, List.set_cons_succ]
              rfl
             refine one_ (i := 18) (N := none) (tb 19 1) rfl rfl (one_of HT_.out (by kernel_rfl)) (by decide) (fun K hK => ?_)
             have hs56 : w55.cell? ⟨gb397, 0, none⟩ = some (.int .i64 0) := (blk_cell BK397.out 0).trans rfl
             have hfs56 := blk_frozen BK397.out 0
             have hns56_0 := NB379_397.out
             have hns56_1 := NB380_397.out
             have hns56_2 := NB389_397.out
             have hms56_0 := NB397_379.out
             have hms56_1 := NB397_380.out
             have hms56_2 := NB397_389.out
             have hs57 : w55.cell? ⟨gb397, 1, none⟩ = some (.int .i64 0) := (blk_cell BK397.out 1).trans rfl
             have hfs57 := blk_frozen BK397.out 1
             have hns57_0 := NB379_397.out
             have hns57_1 := NB380_397.out
             have hns57_2 := NB389_397.out
             have hms57_0 := NB397_379.out
             have hms57_1 := NB397_380.out
             have hms57_2 := NB397_389.out
             have hs58 : w55.cell? ⟨gb397, 2, none⟩ = some (.int .i64 0) := (blk_cell BK397.out 2).trans rfl
             have hfs58 := blk_frozen BK397.out 2
             have hns58_0 := NB379_397.out
             have hns58_1 := NB380_397.out
             have hns58_2 := NB389_397.out
             have hms58_0 := NB397_379.out
             have hms58_1 := NB397_380.out
             have hms58_2 := NB397_389.out
             have hs59 : w55.cell? ⟨gb397, 3, none⟩ = some (.int .i64 0) := (blk_cell BK397.out 3).trans rfl
             have hfs59 := blk_frozen BK397.out 3
             have hns59_0 := NB379_397.out
             have hns59_1 := NB380_397.out
             have hns59_2 := NB389_397.out
             have hms59_0 := NB397_379.out
             have hms59_1 := NB397_380.out
             have hms59_2 := NB397_389.out
             refine skip_ (w1 := ?_) (by rfl) rfl ?_ ?_
             rotate_left
             ·go_simp
              rfl
             refine hK.out _ _ ⟨(by (iterate 4 refine (cell_far (p := ⟨gb397, _, none⟩) NB379_397.out _).trans ?_); exact hHeld.1), (by (iterate 4 refine (cell_far (p := ⟨gb397, _, none⟩) NB379_397.out _).trans ?_); exact hHeld.2.1), (by (iterate 4 refine (cell_far (p := ⟨gb397, _, none⟩) NB379_397.out _).trans ?_); exact hHeld.2.2.1), (by (iterate 4 refine (cell_far (p := ⟨gb397, _, none⟩) NB379_397.out _).trans ?_); exact hHeld.2.2.2.1), (by (iterate 4 refine (cell_far (p := ⟨gb397, _, none⟩) (by first | exact Nat.ne_of_lt (Nat.lt_of_lt_of_le (by have := World.block_lt_of_cell? _ _ hw390_0; first | rwa [add_block] at this | exact this) GW397.out) | (rw [add_block]; exact Nat.ne_of_lt (Nat.lt_of_lt_of_le (by have := World.block_lt_of_cell? _ _ hw390_0; first | rwa [add_block] at this | exact this) GW397.out)) | (show (Addr.add _ _).block ≠ _; rw [add_block]; exact Nat.ne_of_lt (Nat.lt_of_lt_of_le (by have := World.block_lt_of_cell? _ _ hw390_0; first | rwa [add_block] at this | exact this) GW397.out)) | (dsimp only; exact Nat.ne_of_lt (Nat.lt_of_lt_of_le (by have := World.block_lt_of_cell? _ _ hw390_0; first | rwa [add_block] at this | exact this) GW397.out))) _).trans ?_); exact hHeld.2.2.2.2.1), (by (iterate 4 refine (cell_far (p := ⟨gb397, _, none⟩) (by first | exact Nat.ne_of_lt (Nat.lt_of_lt_of_le (by have := World.block_lt_of_cell? _ _ hw390_1; first | rwa [add_block] at this | exact this) GW397.out) | (rw [add_block]; exact Nat.ne_of_lt (Nat.lt_of_lt_of_le (by have := World.block_lt_of_cell? _ _ hw390_1; first | rwa [add_block] at this | exact this) GW397.out)) | (show (Addr.add _ _).block ≠ _; rw [add_block]; exact Nat.ne_of_lt (Nat.lt_of_lt_of_le (by have := World.block_lt_of_cell? _ _ hw390_1; first | rwa [add_block] at this | exact this) GW397.out)) | (dsimp only; exact Nat.ne_of_lt (Nat.lt_of_lt_of_le (by have := World.block_lt_of_cell? _ _ hw390_1; first | rwa [add_block] at this | exact this) GW397.out))) _).trans ?_); exact hHeld.2.2.2.2.2.1), (by (iterate 4 refine (cell_far (p := ⟨gb397, _, none⟩) (by first | exact Nat.ne_of_lt (Nat.lt_of_lt_of_le (by have := World.block_lt_of_cell? _ _ hw390_2; first | rwa [add_block] at this | exact this) GW397.out) | (rw [add_block]; exact Nat.ne_of_lt (Nat.lt_of_lt_of_le (by have := World.block_lt_of_cell? _ _ hw390_2; first | rwa [add_block] at this | exact this) GW397.out)) | (show (Addr.add _ _).block ≠ _; rw [add_block]; exact Nat.ne_of_lt (Nat.lt_of_lt_of_le (by have := World.block_lt_of_cell? _ _ hw390_2; first | rwa [add_block] at this | exact this) GW397.out)) | (dsimp only; exact Nat.ne_of_lt (Nat.lt_of_lt_of_le (by have := World.block_lt_of_cell? _ _ hw390_2; first | rwa [add_block] at this | exact this) GW397.out))) _).trans ?_); exact hHeld.2.2.2.2.2.2.1), (by (iterate 4 refine (cell_far (p := ⟨gb397, _, none⟩) (by first | exact Nat.ne_of_lt (Nat.lt_of_lt_of_le (by have := World.block_lt_of_cell? _ _ hw390_3; first | rwa [add_block] at this | exact this) GW397.out) | (rw [add_block]; exact Nat.ne_of_lt (Nat.lt_of_lt_of_le (by have := World.block_lt_of_cell? _ _ hw390_3; first | rwa [add_block] at this | exact this) GW397.out)) | (show (Addr.add _ _).block ≠ _; rw [add_block]; exact Nat.ne_of_lt (Nat.lt_of_lt_of_le (by have := World.block_lt_of_cell? _ _ hw390_3; first | rwa [add_block] at this | exact this) GW397.out)) | (dsimp only; exact Nat.ne_of_lt (Nat.lt_of_lt_of_le (by have := World.block_lt_of_cell? _ _ hw390_3; first | rwa [add_block] at this | exact this) GW397.out))) _).trans ?_); exact hHeld.2.2.2.2.2.2.2.1), (by (iterate 4 refine (cell_far (p := ⟨gb397, _, none⟩) (by first | exact Nat.ne_of_lt (Nat.lt_of_lt_of_le (by have := World.block_lt_of_cell? _ _ hw391_0; first | rwa [add_block] at this | exact this) GW397.out) | (rw [add_block]; exact Nat.ne_of_lt (Nat.lt_of_lt_of_le (by have := World.block_lt_of_cell? _ _ hw391_0; first | rwa [add_block] at this | exact this) GW397.out)) | (show (Addr.add _ _).block ≠ _; rw [add_block]; exact Nat.ne_of_lt (Nat.lt_of_lt_of_le (by have := World.block_lt_of_cell? _ _ hw391_0; first | rwa [add_block] at this | exact this) GW397.out)) | (dsimp only; exact Nat.ne_of_lt (Nat.lt_of_lt_of_le (by have := World.block_lt_of_cell? _ _ hw391_0; first | rwa [add_block] at this | exact this) GW397.out))) _).trans ?_); exact hHeld.2.2.2.2.2.2.2.2.1), (by (iterate 4 refine (cell_far (p := ⟨gb397, _, none⟩) (by first | exact Nat.ne_of_lt (Nat.lt_of_lt_of_le (by have := World.block_lt_of_cell? _ _ hw391_1; first | rwa [add_block] at this | exact this) GW397.out) | (rw [add_block]; exact Nat.ne_of_lt (Nat.lt_of_lt_of_le (by have := World.block_lt_of_cell? _ _ hw391_1; first | rwa [add_block] at this | exact this) GW397.out)) | (show (Addr.add _ _).block ≠ _; rw [add_block]; exact Nat.ne_of_lt (Nat.lt_of_lt_of_le (by have := World.block_lt_of_cell? _ _ hw391_1; first | rwa [add_block] at this | exact this) GW397.out)) | (dsimp only; exact Nat.ne_of_lt (Nat.lt_of_lt_of_le (by have := World.block_lt_of_cell? _ _ hw391_1; first | rwa [add_block] at this | exact this) GW397.out))) _).trans ?_); exact hHeld.2.2.2.2.2.2.2.2.2.1), (by (iterate 4 refine (cell_far (p := ⟨gb397, _, none⟩) (by first | exact Nat.ne_of_lt (Nat.lt_of_lt_of_le (by have := World.block_lt_of_cell? _ _ hw391_2; first | rwa [add_block] at this | exact this) GW397.out) | (rw [add_block]; exact Nat.ne_of_lt (Nat.lt_of_lt_of_le (by have := World.block_lt_of_cell? _ _ hw391_2; first | rwa [add_block] at this | exact this) GW397.out)) | (show (Addr.add _ _).block ≠ _; rw [add_block]; exact Nat.ne_of_lt (Nat.lt_of_lt_of_le (by have := World.block_lt_of_cell? _ _ hw391_2; first | rwa [add_block] at this | exact this) GW397.out)) | (dsimp only; exact Nat.ne_of_lt (Nat.lt_of_lt_of_le (by have := World.block_lt_of_cell? _ _ hw391_2; first | rwa [add_block] at this | exact this) GW397.out))) _).trans ?_); exact hHeld.2.2.2.2.2.2.2.2.2.2.1), (by (iterate 4 refine (cell_far (p := ⟨gb397, _, none⟩) (by first | exact Nat.ne_of_lt (Nat.lt_of_lt_of_le (by have := World.block_lt_of_cell? _ _ hw391_3; first | rwa [add_block] at this | exact this) GW397.out) | (rw [add_block]; exact Nat.ne_of_lt (Nat.lt_of_lt_of_le (by have := World.block_lt_of_cell? _ _ hw391_3; first | rwa [add_block] at this | exact this) GW397.out)) | (show (Addr.add _ _).block ≠ _; rw [add_block]; exact Nat.ne_of_lt (Nat.lt_of_lt_of_le (by have := World.block_lt_of_cell? _ _ hw391_3; first | rwa [add_block] at this | exact this) GW397.out)) | (dsimp only; exact Nat.ne_of_lt (Nat.lt_of_lt_of_le (by have := World.block_lt_of_cell? _ _ hw391_3; first | rwa [add_block] at this | exact this) GW397.out))) _).trans ?_); exact hHeld.2.2.2.2.2.2.2.2.2.2.2)⟩ (fun hHeld => ?_)
             clear hK K
             refine pu 19 10 (tb 20 0) ?_
             refine done_ (done_of HT_.out (by kernel_rfl)) ?_
             try go_wp2
             go_roundg k2
             case measure => have := HJ2.out; have := HK2.out; omega
             case rel => exact ⟨(x6_2), (ji24), (by first | rfl | (simp; done) | (simp only [← hji24] <;> (first | rfl | simp)) | (simp [*]; done)), H', ⟨by have := HJ2.out; have := HK2.out; omega⟩, ⟨by (with_reducible repeat (first | apply Kd.R_alloc | apply Kd.R_drewN | apply Kd.R_drew)); exact Kd.R_mono (Kd.R_far (p := ⟨gb397, 3, none⟩) (Kd.R_far (p := ⟨gb397, 2, none⟩) (Kd.R_far (p := ⟨gb397, 1, none⟩) (Kd.R_far (p := ⟨gb397, 0, none⟩) (Kd.R_types HO_6.out BK397.out (by decide)) (fun _ hk => hk.2) (.int .i64 t392)) (fun _ hk => hk.2) (.int .i64 t393)) (fun _ hk => hk.2) (.int .i64 t394)) (fun _ hk => hk.2) (.int .i64 t395)) (fun _ hk => ⟨hk.1.1, hk.1.2.1⟩)⟩, ⟨by (with_reducible repeat (first | apply Kd.R_alloc | apply Kd.R_drewN | apply Kd.R_drew)); exact Kd.R_mono (Kd.R_far (p := ⟨gb397, 3, none⟩) (Kd.R_far (p := ⟨gb397, 2, none⟩) (Kd.R_far (p := ⟨gb397, 1, none⟩) (Kd.R_far (p := ⟨gb397, 0, none⟩) (Kd.R_types HO_21.out BK397.out (by decide)) (fun _ hk => hk.2) (.int .i64 t392)) (fun _ hk => hk.2) (.int .i64 t393)) (fun _ hk => hk.2) (.int .i64 t394)) (fun _ hk => hk.2) (.int .i64 t395)) (fun _ hk => ⟨hk.1.1, hk.1.2.1⟩)⟩, ⟨by (with_reducible repeat (first | refine blk_drewN ?_ _ | refine blk_drew ?_ | refine blk_alloc ?_ _)); refine blk_far ?_ NB379_397.out _; (with_reducible repeat (first | refine blk_drewN ?_ _ | refine blk_drew ?_ | refine blk_alloc ?_ _)); refine blk_far ?_ NB379_397.out _; (with_reducible repeat (first | refine blk_drewN ?_ _ | refine blk_drew ?_ | refine blk_alloc ?_ _)); refine blk_far ?_ NB379_397.out _; (with_reducible repeat (first | refine blk_drewN ?_ _ | refine blk_drew ?_ | refine blk_alloc ?_ _)); refine blk_far ?_ NB379_397.out _; (with_reducible repeat (first | refine blk_drewN ?_ _ | refine blk_drew ?_ | refine blk_alloc ?_ _)); exact BK379.out⟩, ⟨by (with_reducible repeat (first | refine blk_drewN ?_ _ | refine blk_drew ?_ | refine blk_alloc ?_ _)); refine blk_far ?_ NB380_397.out _; (with_reducible repeat (first | refine blk_drewN ?_ _ | refine blk_drew ?_ | refine blk_alloc ?_ _)); refine blk_far ?_ NB380_397.out _; (with_reducible repeat (first | refine blk_drewN ?_ _ | refine blk_drew ?_ | refine blk_alloc ?_ _)); refine blk_far ?_ NB380_397.out _; (with_reducible repeat (first | refine blk_drewN ?_ _ | refine blk_drew ?_ | refine blk_alloc ?_ _)); refine blk_far ?_ NB380_397.out _; (with_reducible repeat (first | refine blk_drewN ?_ _ | refine blk_drew ?_ | refine blk_alloc ?_ _)); exact BK380.out⟩, ⟨bl⟩⟩
           ·rw [if_neg c26] at H
            exact absurd H (by simp)
          ·rw [if_neg c25] at H
           exact absurd H (by simp)
         ·rw [if_neg c23] at H
          exact absurd H (by simp)
        ·rw [if_neg c22] at H
         exact absurd H (by simp)
       ·rw [if_neg c21] at H
        exact absurd H (by simp)
      ·rw [if_neg c20] at H
       have c20b0 : decide (x23_2 < (t383.length : Int)) = false := decide_eq_false c20
       clear c20
       replace H := Option.bind_eq_some_iff.mp H
       obtain ⟨⟨t386, t387⟩, A600, H⟩ := H
       replace H : (some (t386, t387, true)) = some (r1, r2, r3) := H
       have A60 := Aside0.mk A600
       clear A600
       simp only [Option.some.injEq, Prod.mk.injEq] at H
       obtain ⟨rfl, rfl, rfl⟩ := H
       obtain ⟨Ao61, co61, eo61⟩ := Kd.R_slice HO_6.out
       subst eo61
       go_wp2_with (first | ((with_reducible refine gate_callee (f := 53) rfl ?_); refine gl 57 Try.func53 #[.slice Ao61 x6_2.length co61, .func (.func 54) #[] #[]] ?_; (with_reducible refine (slices_MinFunc__impl_compare.calls k2 _ _ x6_2  t386 t387 _ ?side1 ?side2 A60.out).mono ?_); (case side1 => repeat (first | exact (Kd.R_reads' HO_6.out).2.2 | (with_reducible refine Kd.C_alloc ?_ _) | (with_reducible refine Kd.C_drewN ?_ _) | (with_reducible refine Kd.C_drew ?_))); (case side2 => exact (Kd.R_reads' HO_6.out).2.1); rintro e w62 ⟨rfl, hb⟩; refine ⟨_, rfl, ?_⟩; replace HO_6 := Aside0.mk (Kd.R_below (by (with_reducible repeat (first | apply Kd.R_alloc | apply Kd.R_drewN | apply Kd.R_drew)); exact HO_6.out) hb); replace HO_21 := Aside0.mk (Kd.R_below (by (with_reducible repeat (first | apply Kd.R_alloc | apply Kd.R_drewN | apply Kd.R_drew)); exact HO_21.out) hb); replace BK379 := Aside0.mk (bb gb379 hb); replace BK380 := Aside0.mk (bb gb380 hb); replace HB := Aside0.mk (bs hb); (try clear hb); (try clear hb2); (try clear hk); (try clear hi); have hnb63 := NB380_379.out; have hnc63 := NB379_380.out; have hcz64_0 : w62.cell? ⟨gb380, 0, none⟩ = some (.int .i64 0) := (blk_cell BK380.out 0).trans rfl; have hcz64_1 : w62.cell? ⟨gb380, 1, none⟩ = some (.int .i64 0) := (blk_cell BK380.out 1).trans rfl; have hfz64_0 := blk_frozen BK380.out 0; have hfz64_1 := blk_frozen BK380.out 1))
       refine bodyPost_ret (results_ct rfl _ _ gb380 28 #[.int .i64 t386, .int .i64 t387] (0, 0) _ rfl (by (with_reducible repeat (first | refine blk_drewN ?_ _ | refine blk_drew ?_ | refine blk_alloc ?_ _)); refine blk_put (cs := #[.int .i64 t386, .int .i64 0]) ?_ 1 _ rfl; (with_reducible repeat (first | refine blk_drewN ?_ _ | refine blk_drew ?_ | refine blk_alloc ?_ _)); refine blk_put (cs := #[.int .i64 0, .int .i64 0]) ?_ 0 _ rfl; (with_reducible repeat (first | refine blk_drewN ?_ _ | refine blk_drew ?_ | refine blk_alloc ?_ _)); exact BK380.out) Try.underlying28 rfl (by kernel_rfl)) rfl ?_
       exact ⟨by first | rfl | (simp [errW_none, errW_some] <;> rfl) | (simp [*, errW_none, errW_some] <;> rfl), bl⟩

end Go.Proofs.Ytmecnnnagallnaa.PFnExactLeastSlope
