-- Written by this session's program wip/pp (the kit's print tool with additions) 35421559b90ae4d0a3588c463048766b98c2df88dd9212a6774a882060cdf62d
import Derived.Test.YtmecnnnagallnaaPFnExactLeastSlopex0
import Derived.Test.YtmecnnnagallnaaPFnExactLeastSlopex2
import Derived.Test.YtmecnnnagallnaaPFnExactLeastSlopex6
import Derived.Test.YtmecnnnagallnaaPFnExactLeastSlopex7
import Derived.Test.YtmecnnnagallnaaPFnExactLeastSlopex15
import Derived.Test.YtmecnnnagallnaaPFnExactLeastSlopex16
namespace Go.Proofs.Ytmecnnnagallnaa.PFnExactLeastSlope
open Go.RowKit Go.Proofs.YtmecnnnagallnaaW.PrintWords Go.Proofs.YtmecnnnagallnaaW.PrintLast Go.Proofs.YtmecnnnagallnaaW.PrintMore
attribute [local go_sem] max2_int min2_int max_two min_two max_three min_three max_four min_four   -- for this text's walks alone
set_option linter.unusedVariables false
set_option linter.unusedSimpArgs false

/-! ### laws_FnExactLeastSlope: function 3 -/
def laws_FnExactLeastSlope.j0 : Nat → List (S72) → List (S68) → Bool → Option (Bool)
 | 0, _, _, _ => none
 | k + 1, x0, x8, x41 => if x41 = true then (some false) else ((laws_toPointS.f k x0).bind fun t436 => ((laws_eqPointS.f k x8 t436).bind fun t439 => (if t439 = true then (some true) else (some false))))
def laws_FnExactLeastSlope.f (k : Nat) (l0 : List (S72)) (a1_0 : Int) (a1_1 : Int) (a1_2 : Int) (a1_3 : Int) : Option (Bool) := (laws_szPointS.f l0 1048576).bind fun t412 => (if t412 < 0 then (some true) else ((laws_toPointS.f k l0).bind fun t413 => ((laws_toInterval.f a1_0 a1_1 a1_2 a1_3).bind fun bt416 => ((spec_LeastSlope.f k t413 bt416.1 bt416.2.1 bt416.2.2.1 bt416.2.2.2).bind fun bt420 => ((laws_toPointS.f k l0).bind fun t424 => ((laws_toInterval.f a1_0 a1_1 a1_2 a1_3).bind fun bt427 => ((impl_LeastSlope.f k t424 bt427.1 bt427.2.1 bt427.2.2.1 bt427.2.2.2).bind fun bt431 => ((laws_eqRat.f bt431.1 bt431.2.1 bt420.1 bt420.2.1).bind fun t435 => (if t435 = true then (laws_FnExactLeastSlope.j0 k l0 t424 (bt431.2.2 != bt420.2.2)) else (laws_FnExactLeastSlope.j0 k l0 t424 true))))))))))
def laws_FnExactLeastSlope.T5 : Bool × List (List Nat × List Nat) := (true, [([], []), ([0], [0]), ([], []), ([2, 1], [2]), ([1, 3, 3], [1, 3]), ([4], [4]), ([5], [5]), ([5], [5]), ([], []), ([8, 6, 4, 0, 1, 2, 3, 4, 5, 6, 8], [6, 8]), ([7, 9, 0, 1, 2, 3, 4, 5, 6, 7, 8, 9], [7])])
def laws_FnExactLeastSlope.B5 : List Nat := [0, 1, 0, 7, 15, 31, 63, 63, 0, 383, 1023]
theorem laws_FnExactLeastSlope.tab5 : rtab .any (opsOf Try.f3 5) = laws_FnExactLeastSlope.T5 := by kernel_rfl
theorem laws_FnExactLeastSlope.bits5 : waitsOk laws_FnExactLeastSlope.T5.2 laws_FnExactLeastSlope.B5 = true := by kernel_rfl
set_option maxHeartbeats 8000000 in
set_option maxRecDepth 100000 in
theorem laws_FnExactLeastSlope.calls (k : Nat) (A0 : Option Addr) (c0 : Nat) (l0 : List (S72)) (a1_0 : Int) (a1_1 : Int) (a1_2 : Int) (a1_3 : Int) (r : Bool) (w : World) (hr0 : Kd.C k72 w A0 l0.length l0) (hc0 : l0.length ≤ c0) (h : laws_FnExactLeastSlope.f k l0 a1_0 a1_1 a1_2 a1_3 = some r) :
  Calls Try.prog 3 #[.slice A0 l0.length c0, .agg #[.int .i64 a1_0, .int .i64 a1_1, .int .i64 a1_2, .int .i64 a1_3]] w fun e w' => e = .returned (.bool r) ∧ Below w.heap.size w w' := by
 have hu26 := Try.underlying26
 have hu28 := Try.underlying28
 have HR0 := Aside0.mk hr0
 have HC0 := Aside0.mk hc0
 clear hr0 hc0
 have HB := Aside0.mk (Below.refl w.heap.size w)
 have H : ((laws_szPointS.f l0 1048576).bind fun t412 => (if t412 < 0 then (some true) else ((laws_toPointS.f k l0).bind fun t413 => ((laws_toInterval.f a1_0 a1_1 a1_2 a1_3).bind fun bt416 => ((spec_LeastSlope.f k t413 bt416.1 bt416.2.1 bt416.2.2.1 bt416.2.2.2).bind fun bt420 => ((laws_toPointS.f k l0).bind fun t424 => ((laws_toInterval.f a1_0 a1_1 a1_2 a1_3).bind fun bt427 => ((impl_LeastSlope.f k t424 bt427.1 bt427.2.1 bt427.2.2.1 bt427.2.2.2).bind fun bt431 => ((laws_eqRat.f bt431.1 bt431.2.1 bt420.1 bt420.2.1).bind fun t435 => (if t435 = true then (laws_FnExactLeastSlope.j0 k l0 t424 (bt431.2.2 != bt420.2.2)) else (laws_FnExactLeastSlope.j0 k l0 t424 true))))))))))) = some r := h
 clear h
 replace H := Option.bind_eq_some_iff.mp H
 obtain ⟨t412, A30, H⟩ := H
 replace H : (if t412 < 0 then (some true) else ((laws_toPointS.f k l0).bind fun t413 => ((laws_toInterval.f a1_0 a1_1 a1_2 a1_3).bind fun bt416 => ((spec_LeastSlope.f k t413 bt416.1 bt416.2.1 bt416.2.2.1 bt416.2.2.2).bind fun bt420 => ((laws_toPointS.f k l0).bind fun t424 => ((laws_toInterval.f a1_0 a1_1 a1_2 a1_3).bind fun bt427 => ((impl_LeastSlope.f k t424 bt427.1 bt427.2.1 bt427.2.2.1 bt427.2.2.2).bind fun bt431 => ((laws_eqRat.f bt431.1 bt431.2.1 bt420.1 bt420.2.1).bind fun t435 => (if t435 = true then (laws_FnExactLeastSlope.j0 k l0 t424 (bt431.2.2 != bt420.2.2)) else (laws_FnExactLeastSlope.j0 k l0 t424 true)))))))))) = some r := H
 have A3 := Aside0.mk A30
 clear A30
 by_cases c4 : t412 < 0
 ·rw [if_pos c4] at H
  have c4b0 : decide (t412 < 0) = true := decide_eq_true c4
  clear c4
  obtain rfl := Option.some.inj H
  go_enter Try.func3, Try.ntmps3
  go_wp2_with (first | ((with_reducible refine gate_dst (N := 3) rfl ?_); refine bx 3 #[.int .i64 a1_0, .int .i64 a1_1, .int .i64 a1_2, .int .i64 a1_3] 26 ?_; intro gb411 hg w5 hbox hb; have BK411 := Aside0.mk (hbox); have GW411 := Aside0.mk (bz hg); have GE411 := GW411; replace HB := Aside0.mk (bs hb); clear hb hbox hg) | ((with_reducible refine gate_callee (f := 12) rfl ?_); refine gl 13 Try.func12 #[.slice A0 l0.length c0, .int .i64 1048576] ?_; (with_reducible refine (laws_szPointS.calls _ _ l0 1048576 t412 _ ?side1 ?side2 A3.out).mono ?_); (case side1 => repeat (first | exact (Kd.C_below HR0.out HB.out) | (with_reducible refine Kd.C_alloc ?_ _) | (with_reducible refine Kd.C_drewN ?_ _) | (with_reducible refine Kd.C_drew ?_))); (case side2 => exact HC0.out); rintro e w' ⟨rfl, ⟨nd, rfl⟩⟩; refine ⟨_, rfl, ?_⟩))
  go_ret
  exact ⟨by first | rfl | (simp [errW_none, errW_some] <;> rfl) | (simp [*, errW_none, errW_some] <;> rfl), bl⟩
 ·rw [if_neg c4] at H
  have c4b0 : decide (t412 < 0) = false := decide_eq_false c4
  clear c4
  replace H := Option.bind_eq_some_iff.mp H
  obtain ⟨t413, A60, H⟩ := H
  replace H : ((laws_toInterval.f a1_0 a1_1 a1_2 a1_3).bind fun bt416 => ((spec_LeastSlope.f k t413 bt416.1 bt416.2.1 bt416.2.2.1 bt416.2.2.2).bind fun bt420 => ((laws_toPointS.f k l0).bind fun t424 => ((laws_toInterval.f a1_0 a1_1 a1_2 a1_3).bind fun bt427 => ((impl_LeastSlope.f k t424 bt427.1 bt427.2.1 bt427.2.2.1 bt427.2.2.2).bind fun bt431 => ((laws_eqRat.f bt431.1 bt431.2.1 bt420.1 bt420.2.1).bind fun t435 => (if t435 = true then (laws_FnExactLeastSlope.j0 k l0 t424 (bt431.2.2 != bt420.2.2)) else (laws_FnExactLeastSlope.j0 k l0 t424 true)))))))) = some r := H
  have A6 := Aside0.mk A60
  clear A60
  replace H := Option.bind_eq_some_iff.mp H
  obtain ⟨⟨t416, t417, t418, t419⟩, A70, H⟩ := H
  replace H : ((spec_LeastSlope.f k t413 t416 t417 t418 t419).bind fun bt420 => ((laws_toPointS.f k l0).bind fun t424 => ((laws_toInterval.f a1_0 a1_1 a1_2 a1_3).bind fun bt427 => ((impl_LeastSlope.f k t424 bt427.1 bt427.2.1 bt427.2.2.1 bt427.2.2.2).bind fun bt431 => ((laws_eqRat.f bt431.1 bt431.2.1 bt420.1 bt420.2.1).bind fun t435 => (if t435 = true then (laws_FnExactLeastSlope.j0 k l0 t424 (bt431.2.2 != bt420.2.2)) else (laws_FnExactLeastSlope.j0 k l0 t424 true))))))) = some r := H
  have A7 := Aside0.mk A70
  clear A70
  replace H := Option.bind_eq_some_iff.mp H
  obtain ⟨⟨t420, t421, t422⟩, A80, H⟩ := H
  replace H : ((laws_toPointS.f k l0).bind fun t424 => ((laws_toInterval.f a1_0 a1_1 a1_2 a1_3).bind fun bt427 => ((impl_LeastSlope.f k t424 bt427.1 bt427.2.1 bt427.2.2.1 bt427.2.2.2).bind fun bt431 => ((laws_eqRat.f bt431.1 bt431.2.1 t420 t421).bind fun t435 => (if t435 = true then (laws_FnExactLeastSlope.j0 k l0 t424 (bt431.2.2 != t422)) else (laws_FnExactLeastSlope.j0 k l0 t424 true)))))) = some r := H
  have A8 := Aside0.mk A80
  clear A80
  replace H := Option.bind_eq_some_iff.mp H
  obtain ⟨t424, A90, H⟩ := H
  replace H : ((laws_toInterval.f a1_0 a1_1 a1_2 a1_3).bind fun bt427 => ((impl_LeastSlope.f k t424 bt427.1 bt427.2.1 bt427.2.2.1 bt427.2.2.2).bind fun bt431 => ((laws_eqRat.f bt431.1 bt431.2.1 t420 t421).bind fun t435 => (if t435 = true then (laws_FnExactLeastSlope.j0 k l0 t424 (bt431.2.2 != t422)) else (laws_FnExactLeastSlope.j0 k l0 t424 true))))) = some r := H
  have A9 := Aside0.mk A90
  clear A90
  replace H := Option.bind_eq_some_iff.mp H
  obtain ⟨⟨t427, t428, t429, t430⟩, A100, H⟩ := H
  replace H : ((impl_LeastSlope.f k t424 t427 t428 t429 t430).bind fun bt431 => ((laws_eqRat.f bt431.1 bt431.2.1 t420 t421).bind fun t435 => (if t435 = true then (laws_FnExactLeastSlope.j0 k l0 t424 (bt431.2.2 != t422)) else (laws_FnExactLeastSlope.j0 k l0 t424 true)))) = some r := H
  have A10 := Aside0.mk A100
  clear A100
  replace H := Option.bind_eq_some_iff.mp H
  obtain ⟨⟨t431, t432, t433⟩, A110, H⟩ := H
  replace H : ((laws_eqRat.f t431 t432 t420 t421).bind fun t435 => (if t435 = true then (laws_FnExactLeastSlope.j0 k l0 t424 (t433 != t422)) else (laws_FnExactLeastSlope.j0 k l0 t424 true))) = some r := H
  have A11 := Aside0.mk A110
  clear A110
  have HC12 := Aside0.mk H
  clear H
  go_enter Try.func3, Try.ntmps3
  try go_wp2_with (first | ((with_reducible refine gate_dst (N := 3) rfl ?_); refine bx 3 #[.int .i64 a1_0, .int .i64 a1_1, .int .i64 a1_2, .int .i64 a1_3] 26 ?_; intro gb411 hg w13 hbox hb; have BK411 := Aside0.mk (hbox); have GW411 := Aside0.mk (bz hg); have GE411 := GW411; replace HB := Aside0.mk (bs hb); clear hb hbox hg) | ((with_reducible refine gate_callee (f := 12) rfl ?_); refine gl 13 Try.func12 #[.slice A0 l0.length c0, .int .i64 1048576] ?_; (with_reducible refine (laws_szPointS.calls _ _ l0 1048576 t412 _ ?side1 ?side2 A3.out).mono ?_); (case side1 => repeat (first | exact (Kd.C_below HR0.out HB.out) | (with_reducible refine Kd.C_alloc ?_ _) | (with_reducible refine Kd.C_drewN ?_ _) | (with_reducible refine Kd.C_drew ?_))); (case side2 => exact HC0.out); rintro e w' ⟨rfl, ⟨nd, rfl⟩⟩; refine ⟨_, rfl, ?_⟩; (try (rw [drewN_self w13]; generalize hq_ : World.drewN w13 _ = w13; have n0_ : Aside0 (w13.heap[gb411]? = some (.cells #[.int .i64 a1_0, .int .i64 a1_1, .int .i64 a1_2, .int .i64 a1_3] 26 (0, 0))) := ⟨by rw [← hq_]; exact (bo gb411)⟩; have n1_ : Aside0 (Below w.heap.size w w13) := ⟨by rw [← hq_]; exact bl⟩; clear BK411 HB hq_; have BK411 := n0_; have HB := n1_; clear n0_ n1_))))
  replace BK411 := Aside0.mk (blk_drew BK411.out)
  replace HB := Aside0.mk (below_drew1 HB.out)
  refine start_ (n := 11) (S := fun w' => w'.cell? ⟨gb411, 0, none⟩ = some (.int .i64 a1_0) ∧ w'.cell? ⟨gb411, 1, none⟩ = some (.int .i64 a1_1) ∧ w'.cell? ⟨gb411, 2, none⟩ = some (.int .i64 a1_2) ∧ w'.cell? ⟨gb411, 3, none⟩ = some (.int .i64 a1_3)) (ds := []) (tb 0 11) (by kernel_rfl) rfl rfl ⟨(blk_cell BK411.out 0).trans rfl, (blk_cell BK411.out 1).trans rfl, (blk_cell BK411.out 2).trans rfl, (blk_cell BK411.out 3).trans rfl⟩ (fun hHeld => ?_); refine with_tabW laws_FnExactLeastSlope.tab5 laws_FnExactLeastSlope.bits5 (fun HT_ HW_ => ?_)
  generalize w13.drew = w14 at BK411 HB hHeld ⊢
  refine pu 0 17 (tb 1 10) ?_
  refine tk 2 19 #[true, false, true, false, false, false, false, false, false, false, false] (hy := by rintro w' ⟨s0, s1, s2, s3⟩; go_simp; with_reducible rfl) (h := ?_)
  refine join_ (σ := Value × Nat) 2 (tb 9 2) (fun s_ => [(18, s_.1), (20, .agg #[.int .i64 t416, .int .i64 t417, .int .i64 t418, .int .i64 t419]), (21, .tuple #[.agg #[.int .i64 t420, .int .i64 t421], .bool t422]), (6, .pointer (some ⟨s_.2, 0, none⟩)), (16, .tuple #[.agg #[.int .i64 t420, .int .i64 t421], .bool t422]), (22, .agg #[.int .i64 t420, .int .i64 t421]), (23, .bool t422)]) (fun s_ w' => (w'.cell? ⟨gb411, 0, none⟩ = some (.int .i64 a1_0) ∧ w'.cell? ⟨gb411, 1, none⟩ = some (.int .i64 a1_1) ∧ w'.cell? ⟨gb411, 2, none⟩ = some (.int .i64 a1_2) ∧ w'.cell? ⟨gb411, 3, none⟩ = some (.int .i64 a1_3)) ∧ (Kd.R k68 68 w' w.heap.size (fun _ => True) s_.1 t413) ∧ (w'.heap[gb411]? = some (.cells #[.int .i64 a1_0, .int .i64 a1_1, .int .i64 a1_2, .int .i64 a1_3] 26 (0, 0))) ∧ (w'.heap[s_.2]? = some (.cells #[.int .i64 0, .int .i64 0] 28 (0, 0))) ∧ (w.heap.size ≤ s_.2) ∧ (w.heap.size ≤ s_.2) ∧ (gb411 ≠ s_.2) ∧ (s_.2 ≠ gb411) ∧ (Below w.heap.size w w')) ?_ ?_
  rotate_left
  ·intro hCont
   refine two_ (i := 1) (j := 8) (Ni := some 18) (Nj := some 6) (tb 3 8) #[true, false, true, false, false, false, false, false, true, false, false] rfl rfl rfl rfl (two_of HT_.out (by kernel_rfl)) (by decide) (by decide) (fun K hK => ?_) (fun K hK => ?_)
   ·skip
    refine gs Try.func14 #[.slice A0 l0.length c0] ?_
    with_reducible refine (laws_toPointS.calls k _ _ l0 t413 _ ?side1 ?side2 A6.out).mono ?_
    (case side1 => repeat (first | exact (Kd.C_below HR0.out HB.out) | (with_reducible refine Kd.C_alloc ?_ _) | (with_reducible refine Kd.C_drewN ?_ _) | (with_reducible refine Kd.C_drew ?_)))
    (case side2 => exact HC0.out)
    rintro e w15 ⟨v414, rfl, ho0, hb⟩
    refine ⟨_, rfl, ?_⟩
    have HO415 := Aside0.mk (Kd.R_lower ho0 (below_size bl))
    replace BK411 := Aside0.mk (bb gb411 hb)
    replace HB := Aside0.mk (bs hb)
    (try clear hb)
    (try clear hb2)
    (try clear hk)
    (try clear hi)
    (try clear ho0)
    refine hK.out _ _ ⟨(blk_cell BK411.out 0).trans rfl, (blk_cell BK411.out 1).trans rfl, (blk_cell BK411.out 2).trans rfl, (blk_cell BK411.out 3).trans rfl⟩ (fun hHeld => ?_)
    clear hK K
    refine nm 18 ?_
    refine two_ (i := 3) (j := 8) (Ni := some 20) (Nj := some 6) (tb 4 7) #[true, true, true, false, false, false, false, false, true, false, false] rfl rfl rfl rfl (two_of HT_.out (by kernel_rfl)) (by decide) (by decide) (fun K hK => ?_) (fun K hK => ?_)
    ·skip
     refine gs Try.func15 #[.agg #[.int .i64 a1_0, .int .i64 a1_1, .int .i64 a1_2, .int .i64 a1_3]] ?_
     with_reducible refine (laws_toInterval.calls a1_0 a1_1 a1_2 a1_3 t416 t417 t418 t419 _ A7.out).mono ?_
     rintro e w16 ⟨rfl, hb⟩
     refine ⟨_, rfl, ?_⟩
     replace HO415 := Aside0.mk (Kd.R_below (by (with_reducible repeat (first | apply Kd.R_alloc | apply Kd.R_drewN | apply Kd.R_drew)); exact HO415.out) hb)
     replace BK411 := Aside0.mk (bb gb411 hb)
     replace HB := Aside0.mk (bs hb)
     (try clear hb)
     (try clear hb2)
     (try clear hk)
     (try clear hi)
     obtain ⟨Ao17, co17, eo17⟩ := Kd.R_slice HO415.out
     (first | subst eo17 | (injection eo17 with f1_ f2_ f3_; have f4_ := f1_.symm; have f5_ := f3_.symm; clear f1_ f2_ f3_; subst f4_; subst f5_))
     refine hK.out _ _ ⟨(blk_cell BK411.out 0).trans rfl, (blk_cell BK411.out 1).trans rfl, (blk_cell BK411.out 2).trans rfl, (blk_cell BK411.out 3).trans rfl⟩ (fun hHeld => ?_)
     clear hK K
     refine nm 20 ?_
     refine two_ (i := 4) (j := 8) (Ni := some 21) (Nj := some 6) (tb 5 6) #[true, true, true, true, false, false, false, false, true, false, false] rfl rfl rfl rfl (two_of HT_.out (by kernel_rfl)) (by decide) (by decide) (fun K hK => ?_) (fun K hK => ?_)
     ·skip
      refine gs Try.func13 #[.slice Ao17 t413.length co17, .agg #[.int .i64 t416, .int .i64 t417, .int .i64 t418, .int .i64 t419]] ?_
      with_reducible refine (spec_LeastSlope.calls k _ _ t413 t416 t417 t418 t419 t420 t421 t422 _ ?side1 ?side2 A8.out).mono ?_
      (case side1 => repeat (first | exact (Kd.R_reads' HO415.out).2.2 | (with_reducible refine Kd.C_alloc ?_ _) | (with_reducible refine Kd.C_drewN ?_ _) | (with_reducible refine Kd.C_drew ?_)))
      (case side2 => exact (Kd.R_reads' HO415.out).2.1)
      rintro e w18 ⟨rfl, hb⟩
      refine ⟨_, rfl, ?_⟩
      replace HO415 := Aside0.mk (Kd.R_below (by (with_reducible repeat (first | apply Kd.R_alloc | apply Kd.R_drewN | apply Kd.R_drew)); exact HO415.out) hb)
      replace BK411 := Aside0.mk (bb gb411 hb)
      replace HB := Aside0.mk (bs hb)
      (try clear hb)
      (try clear hb2)
      (try clear hk)
      (try clear hi)
      refine hK.out _ _ ⟨(blk_cell BK411.out 0).trans rfl, (blk_cell BK411.out 1).trans rfl, (blk_cell BK411.out 2).trans rfl, (blk_cell BK411.out 3).trans rfl⟩ (fun hHeld => ?_)
      clear hK K
      refine nm 21 ?_
      refine pu 5 16 (tb 6 5) ?_
      refine pu 6 22 (tb 7 4) ?_
      refine pu 7 23 (tb 8 3) ?_
      refine on 8 6 (tb 9 2) (fun K hK => ?_)
      refine box_step ?hg (N := 6) ?hd (cs := #[.int .i64 0, .int .i64 0]) (t := 28) ?hr ?_; (case hd => rfl); (case hg => rfl); (case hr => first | (go_simp; done) | (go_simp; rfl))
      intro gb423 hg w19 hbox hb
      have BK423 := Aside0.mk (hbox)
      have GW423 := Aside0.mk (bz hg)
      have GE423 := GW423
      have NB411_423 := Aside0.mk (bn gb411 hg)
      have NB423_411 := Aside0.mk NB411_423.out.symm
      replace HO415 := Aside0.mk (Kd.R_below (by (with_reducible repeat (first | apply Kd.R_alloc | apply Kd.R_drewN | apply Kd.R_drew)); exact HO415.out) hb)
      replace BK411 := Aside0.mk (bb gb411 hb)
      replace HB := Aside0.mk (bs hb)
      clear hb hbox hg
      refine hK.out _ _ ⟨(blk_cell BK411.out 0).trans rfl, (blk_cell BK411.out 1).trans rfl, (blk_cell BK411.out 2).trans rfl, (blk_cell BK411.out 3).trans rfl⟩ (fun hHeld => ?_)
      clear hK K
      refine nm 6 ?_
      exact norm_ (by simp only [putAll, Act.put, List.setIfInBounds_toArray, List.set_cons_zero, List.set_cons_succ]) (hCont (.slice Ao17 t413.length co17, gb423) _ ⟨hHeld, (by (with_reducible repeat (first | apply Kd.R_alloc | apply Kd.R_drewN | apply Kd.R_drew)); exact HO415.out), (bo gb411), (bo gb423), GW423.out, GE423.out, NB411_423.out, NB423_411.out, bl⟩)
     ·skip
      refine box_step ?hg (N := 6) ?hd (cs := #[.int .i64 0, .int .i64 0]) (t := 28) ?hr ?_; (case hd => rfl); (case hg => rfl); (case hr => first | (go_simp; done) | (go_simp; rfl))
      intro gb423 hg w17 hbox hb
      have BK423 := Aside0.mk (hbox)
      have GW423 := Aside0.mk (bz hg)
      have GE423 := GW423
      have NB411_423 := Aside0.mk (bn gb411 hg)
      have NB423_411 := Aside0.mk NB411_423.out.symm
      replace HO415 := Aside0.mk (Kd.R_below (by (with_reducible repeat (first | apply Kd.R_alloc | apply Kd.R_drewN | apply Kd.R_drew)); exact HO415.out) hb)
      replace BK411 := Aside0.mk (bb gb411 hb)
      replace HB := Aside0.mk (bs hb)
      clear hb hbox hg
      obtain ⟨Ao18, co18, eo18⟩ := Kd.R_slice HO415.out
      (first | subst eo18 | (injection eo18 with f1_ f2_ f3_; have f4_ := f1_.symm; have f5_ := f3_.symm; clear f1_ f2_ f3_; subst f4_; subst f5_))
      refine hK.out _ _ ⟨(blk_cell BK411.out 0).trans rfl, (blk_cell BK411.out 1).trans rfl, (blk_cell BK411.out 2).trans rfl, (blk_cell BK411.out 3).trans rfl⟩ (fun hHeld => ?_)
      clear hK K
      refine nm 6 ?_
      refine on 4 21 #[true, true, true, true, true, false, false, false, true, false, false] (fun K hK => ?_)
      refine gs Try.func13 #[.slice Ao18 t413.length co18, .agg #[.int .i64 t416, .int .i64 t417, .int .i64 t418, .int .i64 t419]] ?_
      with_reducible refine (spec_LeastSlope.calls k _ _ t413 t416 t417 t418 t419 t420 t421 t422 _ ?side1 ?side2 A8.out).mono ?_
      (case side1 => repeat (first | exact (Kd.R_reads' HO415.out).2.2 | (with_reducible refine Kd.C_alloc ?_ _) | (with_reducible refine Kd.C_drewN ?_ _) | (with_reducible refine Kd.C_drew ?_)))
      (case side2 => exact (Kd.R_reads' HO415.out).2.1)
      rintro e w19 ⟨rfl, hb⟩
      refine ⟨_, rfl, ?_⟩
      replace HO415 := Aside0.mk (Kd.R_below (by (with_reducible repeat (first | apply Kd.R_alloc | apply Kd.R_drewN | apply Kd.R_drew)); exact HO415.out) hb)
      replace BK411 := Aside0.mk (bb gb411 hb)
      replace BK423 := Aside0.mk (bb gb423 hb)
      replace HB := Aside0.mk (bs hb)
      (try clear hb)
      (try clear hb2)
      (try clear hk)
      (try clear hi)
      refine hK.out _ _ ⟨(blk_cell BK411.out 0).trans rfl, (blk_cell BK411.out 1).trans rfl, (blk_cell BK411.out 2).trans rfl, (blk_cell BK411.out 3).trans rfl⟩ (fun hHeld => ?_)
      clear hK K
      refine nm 21 ?_
      refine pu 5 16 #[true, true, true, true, true, true, false, false, true, false, false] ?_
      refine pu 6 22 #[true, true, true, true, true, true, true, false, true, false, false] ?_
      refine pu 7 23 (tb 9 2) ?_
      exact norm_ (by simp only [putAll, Act.put, List.setIfInBounds_toArray, List.set_cons_zero, List.set_cons_succ]) (hCont (.slice Ao18 t413.length co18, gb423) _ ⟨hHeld, (by (with_reducible repeat (first | apply Kd.R_alloc | apply Kd.R_drewN | apply Kd.R_drew)); exact HO415.out), (bo gb411), (bo gb423), GW423.out, GE423.out, NB411_423.out, NB423_411.out, bl⟩)
    ·skip
     refine box_step ?hg (N := 6) ?hd (cs := #[.int .i64 0, .int .i64 0]) (t := 28) ?hr ?_; (case hd => rfl); (case hg => rfl); (case hr => first | (go_simp; done) | (go_simp; rfl))
     intro gb423 hg w16 hbox hb
     have BK423 := Aside0.mk (hbox)
     have GW423 := Aside0.mk (bz hg)
     have GE423 := GW423
     have NB411_423 := Aside0.mk (bn gb411 hg)
     have NB423_411 := Aside0.mk NB411_423.out.symm
     replace HO415 := Aside0.mk (Kd.R_below (by (with_reducible repeat (first | apply Kd.R_alloc | apply Kd.R_drewN | apply Kd.R_drew)); exact HO415.out) hb)
     replace BK411 := Aside0.mk (bb gb411 hb)
     replace HB := Aside0.mk (bs hb)
     clear hb hbox hg
     refine hK.out _ _ ⟨(blk_cell BK411.out 0).trans rfl, (blk_cell BK411.out 1).trans rfl, (blk_cell BK411.out 2).trans rfl, (blk_cell BK411.out 3).trans rfl⟩ (fun hHeld => ?_)
     clear hK K
     refine nm 6 ?_
     refine on 3 20 #[true, true, true, true, false, false, false, false, true, false, false] (fun K hK => ?_)
     refine gs Try.func15 #[.agg #[.int .i64 a1_0, .int .i64 a1_1, .int .i64 a1_2, .int .i64 a1_3]] ?_
     with_reducible refine (laws_toInterval.calls a1_0 a1_1 a1_2 a1_3 t416 t417 t418 t419 _ A7.out).mono ?_
     rintro e w17 ⟨rfl, hb⟩
     refine ⟨_, rfl, ?_⟩
     replace HO415 := Aside0.mk (Kd.R_below (by (with_reducible repeat (first | apply Kd.R_alloc | apply Kd.R_drewN | apply Kd.R_drew)); exact HO415.out) hb)
     replace BK411 := Aside0.mk (bb gb411 hb)
     replace BK423 := Aside0.mk (bb gb423 hb)
     replace HB := Aside0.mk (bs hb)
     (try clear hb)
     (try clear hb2)
     (try clear hk)
     (try clear hi)
     obtain ⟨Ao18, co18, eo18⟩ := Kd.R_slice HO415.out
     (first | subst eo18 | (injection eo18 with f1_ f2_ f3_; have f4_ := f1_.symm; have f5_ := f3_.symm; clear f1_ f2_ f3_; subst f4_; subst f5_))
     refine hK.out _ _ ⟨(blk_cell BK411.out 0).trans rfl, (blk_cell BK411.out 1).trans rfl, (blk_cell BK411.out 2).trans rfl, (blk_cell BK411.out 3).trans rfl⟩ (fun hHeld => ?_)
     clear hK K
     refine nm 20 ?_
     refine on 4 21 #[true, true, true, true, true, false, false, false, true, false, false] (fun K hK => ?_)
     refine gs Try.func13 #[.slice Ao18 t413.length co18, .agg #[.int .i64 t416, .int .i64 t417, .int .i64 t418, .int .i64 t419]] ?_
     with_reducible refine (spec_LeastSlope.calls k _ _ t413 t416 t417 t418 t419 t420 t421 t422 _ ?side1 ?side2 A8.out).mono ?_
     (case side1 => repeat (first | exact (Kd.R_reads' HO415.out).2.2 | (with_reducible refine Kd.C_alloc ?_ _) | (with_reducible refine Kd.C_drewN ?_ _) | (with_reducible refine Kd.C_drew ?_)))
     (case side2 => exact (Kd.R_reads' HO415.out).2.1)
     rintro e w19 ⟨rfl, hb⟩
     refine ⟨_, rfl, ?_⟩
     replace HO415 := Aside0.mk (Kd.R_below (by (with_reducible repeat (first | apply Kd.R_alloc | apply Kd.R_drewN | apply Kd.R_drew)); exact HO415.out) hb)
     replace BK411 := Aside0.mk (bb gb411 hb)
     replace BK423 := Aside0.mk (bb gb423 hb)
     replace HB := Aside0.mk (bs hb)
     (try clear hb)
     (try clear hb2)
     (try clear hk)
     (try clear hi)
     refine hK.out _ _ ⟨(blk_cell BK411.out 0).trans rfl, (blk_cell BK411.out 1).trans rfl, (blk_cell BK411.out 2).trans rfl, (blk_cell BK411.out 3).trans rfl⟩ (fun hHeld => ?_)
     clear hK K
     refine nm 21 ?_
     refine pu 5 16 #[true, true, true, true, true, true, false, false, true, false, false] ?_
     refine pu 6 22 #[true, true, true, true, true, true, true, false, true, false, false] ?_
     refine pu 7 23 (tb 9 2) ?_
     exact norm_ (by simp only [putAll, Act.put, List.setIfInBounds_toArray, List.set_cons_zero, List.set_cons_succ]) (hCont (.slice Ao18 t413.length co18, gb423) _ ⟨hHeld, (by (with_reducible repeat (first | apply Kd.R_alloc | apply Kd.R_drewN | apply Kd.R_drew)); exact HO415.out), (bo gb411), (bo gb423), GW423.out, GE423.out, NB411_423.out, NB423_411.out, bl⟩)
   ·skip
    refine box_step ?hg (N := 6) ?hd (cs := #[.int .i64 0, .int .i64 0]) (t := 28) ?hr ?_; (case hd => rfl); (case hg => rfl); (case hr => first | (go_simp; done) | (go_simp; rfl))
    intro gb423 hg w15 hbox hb
    have BK423 := Aside0.mk (hbox)
    have GW423 := Aside0.mk (bz hg)
    have GE423 := GW423
    have NB411_423 := Aside0.mk (bn gb411 hg)
    have NB423_411 := Aside0.mk NB411_423.out.symm
    replace BK411 := Aside0.mk (bb gb411 hb)
    replace HB := Aside0.mk (bs hb)
    clear hb hbox hg
    refine hK.out _ _ ⟨(blk_cell BK411.out 0).trans rfl, (blk_cell BK411.out 1).trans rfl, (blk_cell BK411.out 2).trans rfl, (blk_cell BK411.out 3).trans rfl⟩ (fun hHeld => ?_)
    clear hK K
    refine nm 6 ?_
    refine on 1 18 #[true, true, true, false, false, false, false, false, true, false, false] (fun K hK => ?_)
    refine gs Try.func14 #[.slice A0 l0.length c0] ?_
    with_reducible refine (laws_toPointS.calls k _ _ l0 t413 _ ?side1 ?side2 A6.out).mono ?_
    (case side1 => repeat (first | exact (Kd.C_below HR0.out HB.out) | (with_reducible refine Kd.C_alloc ?_ _) | (with_reducible refine Kd.C_drewN ?_ _) | (with_reducible refine Kd.C_drew ?_)))
    (case side2 => exact HC0.out)
    rintro e w16 ⟨v414, rfl, ho0, hb⟩
    refine ⟨_, rfl, ?_⟩
    have HO415 := Aside0.mk (Kd.R_lower ho0 (below_size bl))
    replace BK411 := Aside0.mk (bb gb411 hb)
    replace BK423 := Aside0.mk (bb gb423 hb)
    replace HB := Aside0.mk (bs hb)
    (try clear hb)
    (try clear hb2)
    (try clear hk)
    (try clear hi)
    (try clear ho0)
    refine hK.out _ _ ⟨(blk_cell BK411.out 0).trans rfl, (blk_cell BK411.out 1).trans rfl, (blk_cell BK411.out 2).trans rfl, (blk_cell BK411.out 3).trans rfl⟩ (fun hHeld => ?_)
    clear hK K
    refine nm 18 ?_
    refine on 3 20 #[true, true, true, true, false, false, false, false, true, false, false] (fun K hK => ?_)
    refine gs Try.func15 #[.agg #[.int .i64 a1_0, .int .i64 a1_1, .int .i64 a1_2, .int .i64 a1_3]] ?_
    with_reducible refine (laws_toInterval.calls a1_0 a1_1 a1_2 a1_3 t416 t417 t418 t419 _ A7.out).mono ?_
    rintro e w17 ⟨rfl, hb⟩
    refine ⟨_, rfl, ?_⟩
    replace HO415 := Aside0.mk (Kd.R_below (by (with_reducible repeat (first | apply Kd.R_alloc | apply Kd.R_drewN | apply Kd.R_drew)); exact HO415.out) hb)
    replace BK411 := Aside0.mk (bb gb411 hb)
    replace BK423 := Aside0.mk (bb gb423 hb)
    replace HB := Aside0.mk (bs hb)
    (try clear hb)
    (try clear hb2)
    (try clear hk)
    (try clear hi)
    obtain ⟨Ao18, co18, eo18⟩ := Kd.R_slice HO415.out
    (first | subst eo18 | (injection eo18 with f1_ f2_ f3_; have f4_ := f1_.symm; have f5_ := f3_.symm; clear f1_ f2_ f3_; subst f4_; subst f5_))
    refine hK.out _ _ ⟨(blk_cell BK411.out 0).trans rfl, (blk_cell BK411.out 1).trans rfl, (blk_cell BK411.out 2).trans rfl, (blk_cell BK411.out 3).trans rfl⟩ (fun hHeld => ?_)
    clear hK K
    refine nm 20 ?_
    refine on 4 21 #[true, true, true, true, true, false, false, false, true, false, false] (fun K hK => ?_)
    refine gs Try.func13 #[.slice Ao18 t413.length co18, .agg #[.int .i64 t416, .int .i64 t417, .int .i64 t418, .int .i64 t419]] ?_
    with_reducible refine (spec_LeastSlope.calls k _ _ t413 t416 t417 t418 t419 t420 t421 t422 _ ?side1 ?side2 A8.out).mono ?_
    (case side1 => repeat (first | exact (Kd.R_reads' HO415.out).2.2 | (with_reducible refine Kd.C_alloc ?_ _) | (with_reducible refine Kd.C_drewN ?_ _) | (with_reducible refine Kd.C_drew ?_)))
    (case side2 => exact (Kd.R_reads' HO415.out).2.1)
    rintro e w19 ⟨rfl, hb⟩
    refine ⟨_, rfl, ?_⟩
    replace HO415 := Aside0.mk (Kd.R_below (by (with_reducible repeat (first | apply Kd.R_alloc | apply Kd.R_drewN | apply Kd.R_drew)); exact HO415.out) hb)
    replace BK411 := Aside0.mk (bb gb411 hb)
    replace BK423 := Aside0.mk (bb gb423 hb)
    replace HB := Aside0.mk (bs hb)
    (try clear hb)
    (try clear hb2)
    (try clear hk)
    (try clear hi)
    refine hK.out _ _ ⟨(blk_cell BK411.out 0).trans rfl, (blk_cell BK411.out 1).trans rfl, (blk_cell BK411.out 2).trans rfl, (blk_cell BK411.out 3).trans rfl⟩ (fun hHeld => ?_)
    clear hK K
    refine nm 21 ?_
    refine pu 5 16 #[true, true, true, true, true, true, false, false, true, false, false] ?_
    refine pu 6 22 #[true, true, true, true, true, true, true, false, true, false, false] ?_
    refine pu 7 23 (tb 9 2) ?_
    exact norm_ (by simp only [putAll, Act.put, List.setIfInBounds_toArray, List.set_cons_zero, List.set_cons_succ]) (hCont (.slice Ao18 t413.length co18, gb423) _ ⟨hHeld, (by (with_reducible repeat (first | apply Kd.R_alloc | apply Kd.R_drewN | apply Kd.R_drew)); exact HO415.out), (bo gb411), (bo gb423), GW423.out, GE423.out, NB411_423.out, NB423_411.out, bl⟩)
  rintro ⟨v414, gb423⟩ w20 ⟨hS_, h0_, h1_, h2_, h3_, h4_, h5_, h6_, h7_⟩
  have n0_ : Aside0 (Kd.R k68 68 w20 w.heap.size (fun _ => True) v414 t413) := ⟨h0_⟩
  have n1_ : Aside0 (w20.heap[gb411]? = some (.cells #[.int .i64 a1_0, .int .i64 a1_1, .int .i64 a1_2, .int .i64 a1_3] 26 (0, 0))) := ⟨h1_⟩
  have n2_ : Aside0 (w20.heap[gb423]? = some (.cells #[.int .i64 0, .int .i64 0] 28 (0, 0))) := ⟨h2_⟩
  have n3_ : Aside0 (w.heap.size ≤ gb423) := ⟨h3_⟩
  have n4_ : Aside0 (w.heap.size ≤ gb423) := ⟨h4_⟩
  have n5_ : Aside0 (gb411 ≠ gb423) := ⟨h5_⟩
  have n6_ : Aside0 (gb423 ≠ gb411) := ⟨h6_⟩
  have n7_ : Aside0 (Below w.heap.size w w20) := ⟨h7_⟩
  clear BK411
  clear HB
  clear h0_ h1_ h2_ h3_ h4_ h5_ h6_ h7_
  have HO415 := n0_
  have BK411 := n1_
  have BK423 := n2_
  have GW423 := n3_
  have GE423 := n4_
  have NB411_423 := n5_
  have NB423_411 := n6_
  have HB := n7_
  clear n0_ n1_ n2_ n3_ n4_ n5_ n6_ n7_
  have hHeld : w20.cell? ⟨gb411, 0, none⟩ = some (.int .i64 a1_0) ∧ w20.cell? ⟨gb411, 1, none⟩ = some (.int .i64 a1_1) ∧ w20.cell? ⟨gb411, 2, none⟩ = some (.int .i64 a1_2) ∧ w20.cell? ⟨gb411, 3, none⟩ = some (.int .i64 a1_3) := hS_
  refine norm_ (a' := ?_) ?_ ?_
  rotate_left
  ·simp only [putAll, Act.put, List.setIfInBounds_toArray, List.set_cons_zero, List.set_cons_succ]
   rfl
  refine one_ (i := 9) (N := none) (tb 10 1) rfl rfl (one_of HT_.out (by kernel_rfl)) (by decide) (fun K hK => ?_)
  have hs21 : w20.cell? ⟨gb423, 0, none⟩ = some (.int .i64 0) := (blk_cell BK423.out 0).trans rfl
  have hfs21 := blk_frozen BK423.out 0
  have hns21_0 := NB411_423.out
  have hms21_0 := NB423_411.out
  have hs22 : w20.cell? ⟨gb423, 1, none⟩ = some (.int .i64 0) := (blk_cell BK423.out 1).trans rfl
  have hfs22 := blk_frozen BK423.out 1
  have hns22_0 := NB411_423.out
  have hms22_0 := NB423_411.out
  refine skip_ (w1 := ?_) (by rfl) rfl ?_ ?_
  rotate_left
  ·go_simp
   rfl
  refine hK.out _ _ ⟨(by (iterate 2 refine (cell_far (p := ⟨gb423, _, none⟩) NB411_423.out _).trans ?_); exact hHeld.1), (by (iterate 2 refine (cell_far (p := ⟨gb423, _, none⟩) NB411_423.out _).trans ?_); exact hHeld.2.1), (by (iterate 2 refine (cell_far (p := ⟨gb423, _, none⟩) NB411_423.out _).trans ?_); exact hHeld.2.2.1), (by (iterate 2 refine (cell_far (p := ⟨gb423, _, none⟩) NB411_423.out _).trans ?_); exact hHeld.2.2.2)⟩ (fun hHeld => ?_)
  clear hK K
  refine pu 10 7 (tb 11 0) ?_
  refine done_ (done_of HT_.out (by kernel_rfl)) ?_
  go_upto_region 8 with (first | ((with_reducible refine gate_callee (f := 14) rfl ?_); refine gl 25 Try.func14 #[.slice A0 l0.length c0] ?_; (with_reducible refine (laws_toPointS.calls k _ _ l0 t424 _ ?side1 ?side2 A9.out).mono ?_); (case side1 => exact Kd.C_below HR0.out bl); (case side2 => exact HC0.out); rintro e w23 ⟨v425, rfl, ho0, hb⟩; refine ⟨_, rfl, ?_⟩; have HO426 := Aside0.mk (Kd.R_lower (Kd.R_new' ho0 (Kd.R_lt (by (with_reducible repeat (first | apply Kd.R_alloc | apply Kd.R_drewN | apply Kd.R_drew)); exact (Kd.R_mono (Kd.R_far (p := ⟨gb423, 1, none⟩) (Kd.R_far (p := ⟨gb423, 0, none⟩) (Kd.R_types HO415.out BK423.out (by decide)) (fun _ hk => hk.2) (.int .i64 t420)) (fun _ hk => hk.2) (.int .i64 t421)) (fun _ h_ => h_.1))))) (below_size bl)); replace HO415 := Aside0.mk (Kd.R_elder' (by (with_reducible repeat (first | apply Kd.R_alloc | apply Kd.R_drewN | apply Kd.R_drew)); exact (Kd.R_mono (Kd.R_far (p := ⟨gb423, 1, none⟩) (Kd.R_far (p := ⟨gb423, 0, none⟩) (Kd.R_types HO415.out BK423.out (by decide)) (fun _ hk => hk.2) (.int .i64 t420)) (fun _ hk => hk.2) (.int .i64 t421)) (fun _ h_ => h_.1))) (Kd.R_base ho0) hb); replace BK411 := Aside0.mk (blk_below (g := gb411) (o := .cells #[.int .i64 a1_0, .int .i64 a1_1, .int .i64 a1_2, .int .i64 a1_3] 26 (0, 0)) (by (with_reducible repeat (first | refine blk_drewN ?_ _ | refine blk_drew ?_ | refine blk_alloc ?_ _)); refine blk_far ?_ NB411_423.out _; (with_reducible repeat (first | refine blk_drewN ?_ _ | refine blk_drew ?_ | refine blk_alloc ?_ _)); refine blk_far ?_ NB411_423.out _; (with_reducible repeat (first | refine blk_drewN ?_ _ | refine blk_drew ?_ | refine blk_alloc ?_ _)); exact BK411.out) hb); replace BK423 := Aside0.mk (blk_below (g := gb423) (o := .cells #[.int .i64 t420, .int .i64 t421] 28 (0, 0)) (by (with_reducible repeat (first | refine blk_drewN ?_ _ | refine blk_drew ?_ | refine blk_alloc ?_ _)); refine blk_put (cs := #[.int .i64 t420, .int .i64 0]) ?_ 1 _ rfl; (with_reducible repeat (first | refine blk_drewN ?_ _ | refine blk_drew ?_ | refine blk_alloc ?_ _)); refine blk_put (cs := #[.int .i64 0, .int .i64 0]) ?_ 0 _ rfl; (with_reducible repeat (first | refine blk_drewN ?_ _ | refine blk_drew ?_ | refine blk_alloc ?_ _)); exact BK423.out) hb); replace HB := Aside0.mk (bs hb); (try clear hb); (try clear hb2); (try clear hk); (try clear hi); (try clear ho0); have hnb24 := NB411_423.out; have hnc24 := NB423_411.out; have hcz25_0 : w23.cell? ⟨gb411, 0, none⟩ = some (.int .i64 a1_0) := (blk_cell BK411.out 0).trans rfl; have hcz25_1 : w23.cell? ⟨gb411, 1, none⟩ = some (.int .i64 a1_1) := (blk_cell BK411.out 1).trans rfl; have hcz25_2 : w23.cell? ⟨gb411, 2, none⟩ = some (.int .i64 a1_2) := (blk_cell BK411.out 2).trans rfl; have hcz25_3 : w23.cell? ⟨gb411, 3, none⟩ = some (.int .i64 a1_3) := (blk_cell BK411.out 3).trans rfl; have hfz25_0 := blk_frozen BK411.out 0; have hfz25_1 := blk_frozen BK411.out 1; have hfz25_2 := blk_frozen BK411.out 2; have hfz25_3 := blk_frozen BK411.out 3) | ((with_reducible refine gate_callee (f := 15) rfl ?_); refine gl 29 Try.func15 #[.agg #[.int .i64 a1_0, .int .i64 a1_1, .int .i64 a1_2, .int .i64 a1_3]] ?_; (with_reducible refine (laws_toInterval.calls a1_0 a1_1 a1_2 a1_3 t427 t428 t429 t430 _ A10.out).mono ?_); rintro e w26 ⟨rfl, hb⟩; refine ⟨_, rfl, ?_⟩; replace HO415 := Aside0.mk (Kd.R_below (by (with_reducible repeat (first | apply Kd.R_alloc | apply Kd.R_drewN | apply Kd.R_drew)); exact HO415.out) hb); replace HO426 := Aside0.mk (Kd.R_below (by (with_reducible repeat (first | apply Kd.R_alloc | apply Kd.R_drewN | apply Kd.R_drew)); exact HO426.out) hb); replace BK411 := Aside0.mk (bb gb411 hb); replace BK423 := Aside0.mk (bb gb423 hb); replace HB := Aside0.mk (bs hb); (try clear hb); (try clear hb2); (try clear hk); (try clear hi); obtain ⟨Ao27, co27, eo27⟩ := Kd.R_slice HO426.out; subst eo27) | ((with_reducible refine gate_callee (f := 16) rfl ?_); refine gl 30 Try.func16 #[.slice Ao27 t424.length co27, .agg #[.int .i64 t427, .int .i64 t428, .int .i64 t429, .int .i64 t430]] ?_; (with_reducible refine (impl_LeastSlope.calls k _ _ t424 t427 t428 t429 t430 t431 t432 t433 _ ?side1 ?side2 A11.out).mono ?_); (case side1 => repeat (first | exact (Kd.R_reads' HO426.out).2.2 | (with_reducible refine Kd.C_alloc ?_ _) | (with_reducible refine Kd.C_drewN ?_ _) | (with_reducible refine Kd.C_drew ?_))); (case side2 => exact (Kd.R_reads' HO426.out).2.1); rintro e w28 ⟨rfl, hb⟩; refine ⟨_, rfl, ?_⟩; replace HO415 := Aside0.mk (Kd.R_below (by (with_reducible repeat (first | apply Kd.R_alloc | apply Kd.R_drewN | apply Kd.R_drew)); exact HO415.out) hb); replace HO426 := Aside0.mk (Kd.R_below (by (with_reducible repeat (first | apply Kd.R_alloc | apply Kd.R_drewN | apply Kd.R_drew)); exact HO426.out) hb); replace BK411 := Aside0.mk (bb gb411 hb); replace BK423 := Aside0.mk (bb gb423 hb); replace HB := Aside0.mk (bs hb); (try clear hb); (try clear hb2); (try clear hk); (try clear hi)) | ((with_reducible refine gate_dst (N := 9) rfl ?_); refine bx 9 #[.int .i64 0, .int .i64 0] 28 ?_; intro gb434 hg w29 hbox hb; have BK434 := Aside0.mk (hbox); have GW434 := Aside0.mk (bz hg); have GE434 := GW434; have NB411_434 := Aside0.mk (bn gb411 hg); have NB434_411 := Aside0.mk NB411_434.out.symm; have NB423_434 := Aside0.mk (bn gb423 hg); have NB434_423 := Aside0.mk NB423_434.out.symm; replace HO415 := Aside0.mk (Kd.R_below (by (with_reducible repeat (first | apply Kd.R_alloc | apply Kd.R_drewN | apply Kd.R_drew)); exact HO415.out) hb); replace HO426 := Aside0.mk (Kd.R_below (by (with_reducible repeat (first | apply Kd.R_alloc | apply Kd.R_drewN | apply Kd.R_drew)); exact HO426.out) hb); replace BK411 := Aside0.mk (bb gb411 hb); replace BK423 := Aside0.mk (bb gb423 hb); replace HB := Aside0.mk (bs hb); clear hb hbox hg; have hnb30 := NB434_411.out; have hnc30 := NB411_434.out; have hnb31 := NB434_423.out; have hnc31 := NB423_434.out; have hcz32_0 : w29.cell? ⟨gb434, 0, none⟩ = some (.int .i64 0) := (blk_cell BK434.out 0).trans rfl; have hcz32_1 : w29.cell? ⟨gb434, 1, none⟩ = some (.int .i64 0) := (blk_cell BK434.out 1).trans rfl; have hfz32_0 := blk_frozen BK434.out 0; have hfz32_1 := blk_frozen BK434.out 1))
  (try simp only [Act.put, List.setIfInBounds_toArray, List.set_cons_zero, List.set_cons_succ])
  go_cut [41] (fun v41 wc => ∃ (kq : Nat) (x41_11 : Bool), v41 = .bool x41_11 ∧ Aside0 (laws_FnExactLeastSlope.j0 kq l0 t424 x41_11 = some r) ∧ Aside0 (kq ≤ k) ∧ Aside0 (Kd.R k68 68 wc w.heap.size (fun _ => True) (.slice Ao27 t424.length co27) t424) ∧ Aside0 (wc.heap[gb411]? = some (.cells #[.int .i64 a1_0, .int .i64 a1_1, .int .i64 a1_2, .int .i64 a1_3] 26 (0, 0))) ∧ Aside0 (wc.heap[gb423]? = some (.cells #[.int .i64 t420, .int .i64 t421] 28 (0, 0))) ∧ Aside0 (wc.heap[gb434]? = some (.cells #[.int .i64 t431, .int .i64 t432] 28 (0, 0))) ∧ Aside0 (Below w.heap.size w wc))
  case first =>
   have H := HC12.out
   clear HC12
   replace H := Option.bind_eq_some_iff.mp H
   obtain ⟨t435, A330, H⟩ := H
   replace H : (if t435 = true then (laws_FnExactLeastSlope.j0 k l0 t424 (t433 != t422)) else (laws_FnExactLeastSlope.j0 k l0 t424 true)) = some r := H
   have A33 := Aside0.mk A330
   clear A330
   by_cases c34 : t435 = true
   ·subst c34
    have H1 : (laws_FnExactLeastSlope.j0 k l0 t424 (t433 != t422)) = some r := by rw [if_pos rfl] at H; exact H
    clear H
    have H := H1
    clear H1
    have H' := Aside0.mk H
    clear H
    have hnb35 := NB434_411.out
    have hnc35 := NB411_434.out
    have hnb36 := NB434_423.out
    have hnc36 := NB423_434.out
    have hcz37_0 : w29.cell? ⟨gb434, 0, none⟩ = some (.int .i64 0) := (blk_cell BK434.out 0).trans rfl
    have hcz37_1 : w29.cell? ⟨gb434, 1, none⟩ = some (.int .i64 0) := (blk_cell BK434.out 1).trans rfl
    have hfz37_0 := blk_frozen BK434.out 0
    have hfz37_1 := blk_frozen BK434.out 1
    have hnb38 := NB423_411.out
    have hnc38 := NB411_423.out
    have hcz39_0 : w29.cell? ⟨gb423, 0, none⟩ = some (.int .i64 t420) := (blk_cell BK423.out 0).trans rfl
    have hcz39_1 : w29.cell? ⟨gb423, 1, none⟩ = some (.int .i64 t421) := (blk_cell BK423.out 1).trans rfl
    have hfz39_0 := blk_frozen BK423.out 0
    have hfz39_1 := blk_frozen BK423.out 1
    go_wp2_with (first | ((with_reducible refine gate_callee (f := 17) rfl ?_); refine gl 35 Try.func17 #[.agg #[.int .i64 t431, .int .i64 t432], .agg #[.int .i64 t420, .int .i64 t421]] ?_; (with_reducible refine (laws_eqRat.calls t431 t432 t420 t421 true _ A33.out).mono ?_); rintro e w40 ⟨rfl, hb⟩; refine ⟨_, rfl, ?_⟩; replace HO415 := Aside0.mk (Kd.R_below (by (with_reducible repeat (first | apply Kd.R_alloc | apply Kd.R_drewN | apply Kd.R_drew)); exact (Kd.R_mono (Kd.R_far (p := ⟨gb434, 1, none⟩) (Kd.R_far (p := ⟨gb434, 0, none⟩) (Kd.R_types HO415.out BK434.out (by decide)) (fun _ hk => hk.2) (.int .i64 t431)) (fun _ hk => hk.2) (.int .i64 t432)) (fun _ h_ => h_.1))) hb); replace HO426 := Aside0.mk (Kd.R_below (by (with_reducible repeat (first | apply Kd.R_alloc | apply Kd.R_drewN | apply Kd.R_drew)); exact (Kd.R_mono (Kd.R_far (p := ⟨gb434, 1, none⟩) (Kd.R_far (p := ⟨gb434, 0, none⟩) (Kd.R_types HO426.out BK434.out (by decide)) (fun _ hk => hk.2) (.int .i64 t431)) (fun _ hk => hk.2) (.int .i64 t432)) (fun _ h_ => h_.1))) hb); replace BK411 := Aside0.mk (blk_below (g := gb411) (o := .cells #[.int .i64 a1_0, .int .i64 a1_1, .int .i64 a1_2, .int .i64 a1_3] 26 (0, 0)) (by (with_reducible repeat (first | refine blk_drewN ?_ _ | refine blk_drew ?_ | refine blk_alloc ?_ _)); refine blk_far ?_ NB411_434.out _; (with_reducible repeat (first | refine blk_drewN ?_ _ | refine blk_drew ?_ | refine blk_alloc ?_ _)); refine blk_far ?_ NB411_434.out _; (with_reducible repeat (first | refine blk_drewN ?_ _ | refine blk_drew ?_ | refine blk_alloc ?_ _)); exact BK411.out) hb); replace BK423 := Aside0.mk (blk_below (g := gb423) (o := .cells #[.int .i64 t420, .int .i64 t421] 28 (0, 0)) (by (with_reducible repeat (first | refine blk_drewN ?_ _ | refine blk_drew ?_ | refine blk_alloc ?_ _)); refine blk_far ?_ NB423_434.out _; (with_reducible repeat (first | refine blk_drewN ?_ _ | refine blk_drew ?_ | refine blk_alloc ?_ _)); refine blk_far ?_ NB423_434.out _; (with_reducible repeat (first | refine blk_drewN ?_ _ | refine blk_drew ?_ | refine blk_alloc ?_ _)); exact BK423.out) hb); replace BK434 := Aside0.mk (blk_below (g := gb434) (o := .cells #[.int .i64 t431, .int .i64 t432] 28 (0, 0)) (by (with_reducible repeat (first | refine blk_drewN ?_ _ | refine blk_drew ?_ | refine blk_alloc ?_ _)); refine blk_put (cs := #[.int .i64 t431, .int .i64 0]) ?_ 1 _ rfl; (with_reducible repeat (first | refine blk_drewN ?_ _ | refine blk_drew ?_ | refine blk_alloc ?_ _)); refine blk_put (cs := #[.int .i64 0, .int .i64 0]) ?_ 0 _ rfl; (with_reducible repeat (first | refine blk_drewN ?_ _ | refine blk_drew ?_ | refine blk_alloc ?_ _)); exact BK434.out) hb); replace HB := Aside0.mk (bs hb); (try clear hb); (try clear hb2); (try clear hk); (try clear hi)))
    go_meet
    case rel => exact ⟨_, ((t433 != t422)), (by first | rfl | (simp; done) | (simp [*]; done)), H', ⟨by first | omega | exact Nat.le_refl _⟩, ⟨by (with_reducible repeat (first | apply Kd.R_alloc | apply Kd.R_drewN | apply Kd.R_drew)); exact Kd.R_mono HO426.out (fun _ hk => trivial)⟩, ⟨by (with_reducible repeat (first | refine blk_drewN ?_ _ | refine blk_drew ?_ | refine blk_alloc ?_ _)); exact BK411.out⟩, ⟨by (with_reducible repeat (first | refine blk_drewN ?_ _ | refine blk_drew ?_ | refine blk_alloc ?_ _)); exact BK423.out⟩, ⟨by (with_reducible repeat (first | refine blk_drewN ?_ _ | refine blk_drew ?_ | refine blk_alloc ?_ _)); exact BK434.out⟩, ⟨bl⟩⟩
   ·replace c34 := Bool.eq_false_iff.mpr c34
    subst c34
    have H1 : (laws_FnExactLeastSlope.j0 k l0 t424 true) = some r := by rw [if_neg (show ¬ (false = true) by decide)] at H; exact H
    clear H
    have H := H1
    clear H1
    have H' := Aside0.mk H
    clear H
    have hnb41 := NB434_411.out
    have hnc41 := NB411_434.out
    have hnb42 := NB434_423.out
    have hnc42 := NB423_434.out
    have hcz43_0 : w29.cell? ⟨gb434, 0, none⟩ = some (.int .i64 0) := (blk_cell BK434.out 0).trans rfl
    have hcz43_1 : w29.cell? ⟨gb434, 1, none⟩ = some (.int .i64 0) := (blk_cell BK434.out 1).trans rfl
    have hfz43_0 := blk_frozen BK434.out 0
    have hfz43_1 := blk_frozen BK434.out 1
    have hnb44 := NB423_411.out
    have hnc44 := NB411_423.out
    have hcz45_0 : w29.cell? ⟨gb423, 0, none⟩ = some (.int .i64 t420) := (blk_cell BK423.out 0).trans rfl
    have hcz45_1 : w29.cell? ⟨gb423, 1, none⟩ = some (.int .i64 t421) := (blk_cell BK423.out 1).trans rfl
    have hfz45_0 := blk_frozen BK423.out 0
    have hfz45_1 := blk_frozen BK423.out 1
    go_wp2_with (first | ((with_reducible refine gate_callee (f := 17) rfl ?_); refine gl 35 Try.func17 #[.agg #[.int .i64 t431, .int .i64 t432], .agg #[.int .i64 t420, .int .i64 t421]] ?_; (with_reducible refine (laws_eqRat.calls t431 t432 t420 t421 false _ A33.out).mono ?_); rintro e w46 ⟨rfl, hb⟩; refine ⟨_, rfl, ?_⟩; replace HO415 := Aside0.mk (Kd.R_below (by (with_reducible repeat (first | apply Kd.R_alloc | apply Kd.R_drewN | apply Kd.R_drew)); exact (Kd.R_mono (Kd.R_far (p := ⟨gb434, 1, none⟩) (Kd.R_far (p := ⟨gb434, 0, none⟩) (Kd.R_types HO415.out BK434.out (by decide)) (fun _ hk => hk.2) (.int .i64 t431)) (fun _ hk => hk.2) (.int .i64 t432)) (fun _ h_ => h_.1))) hb); replace HO426 := Aside0.mk (Kd.R_below (by (with_reducible repeat (first | apply Kd.R_alloc | apply Kd.R_drewN | apply Kd.R_drew)); exact (Kd.R_mono (Kd.R_far (p := ⟨gb434, 1, none⟩) (Kd.R_far (p := ⟨gb434, 0, none⟩) (Kd.R_types HO426.out BK434.out (by decide)) (fun _ hk => hk.2) (.int .i64 t431)) (fun _ hk => hk.2) (.int .i64 t432)) (fun _ h_ => h_.1))) hb); replace BK411 := Aside0.mk (blk_below (g := gb411) (o := .cells #[.int .i64 a1_0, .int .i64 a1_1, .int .i64 a1_2, .int .i64 a1_3] 26 (0, 0)) (by (with_reducible repeat (first | refine blk_drewN ?_ _ | refine blk_drew ?_ | refine blk_alloc ?_ _)); refine blk_far ?_ NB411_434.out _; (with_reducible repeat (first | refine blk_drewN ?_ _ | refine blk_drew ?_ | refine blk_alloc ?_ _)); refine blk_far ?_ NB411_434.out _; (with_reducible repeat (first | refine blk_drewN ?_ _ | refine blk_drew ?_ | refine blk_alloc ?_ _)); exact BK411.out) hb); replace BK423 := Aside0.mk (blk_below (g := gb423) (o := .cells #[.int .i64 t420, .int .i64 t421] 28 (0, 0)) (by (with_reducible repeat (first | refine blk_drewN ?_ _ | refine blk_drew ?_ | refine blk_alloc ?_ _)); refine blk_far ?_ NB423_434.out _; (with_reducible repeat (first | refine blk_drewN ?_ _ | refine blk_drew ?_ | refine blk_alloc ?_ _)); refine blk_far ?_ NB423_434.out _; (with_reducible repeat (first | refine blk_drewN ?_ _ | refine blk_drew ?_ | refine blk_alloc ?_ _)); exact BK423.out) hb); replace BK434 := Aside0.mk (blk_below (g := gb434) (o := .cells #[.int .i64 t431, .int .i64 t432] 28 (0, 0)) (by (with_reducible repeat (first | refine blk_drewN ?_ _ | refine blk_drew ?_ | refine blk_alloc ?_ _)); refine blk_put (cs := #[.int .i64 t431, .int .i64 0]) ?_ 1 _ rfl; (with_reducible repeat (first | refine blk_drewN ?_ _ | refine blk_drew ?_ | refine blk_alloc ?_ _)); refine blk_put (cs := #[.int .i64 0, .int .i64 0]) ?_ 0 _ rfl; (with_reducible repeat (first | refine blk_drewN ?_ _ | refine blk_drew ?_ | refine blk_alloc ?_ _)); exact BK434.out) hb); replace HB := Aside0.mk (bs hb); (try clear hb); (try clear hb2); (try clear hk); (try clear hi)))
    go_meet
    case rel => exact ⟨_, (true), (by first | rfl | (simp; done) | (simp [*]; done)), H', ⟨by first | omega | exact Nat.le_refl _⟩, ⟨by (with_reducible repeat (first | apply Kd.R_alloc | apply Kd.R_drewN | apply Kd.R_drew)); exact Kd.R_mono HO426.out (fun _ hk => trivial)⟩, ⟨by (with_reducible repeat (first | refine blk_drewN ?_ _ | refine blk_drew ?_ | refine blk_alloc ?_ _)); exact BK411.out⟩, ⟨by (with_reducible repeat (first | refine blk_drewN ?_ _ | refine blk_drew ?_ | refine blk_alloc ?_ _)); exact BK423.out⟩, ⟨by (with_reducible repeat (first | refine blk_drewN ?_ _ | refine blk_drew ?_ | refine blk_alloc ?_ _)); exact BK434.out⟩, ⟨bl⟩⟩
  case rest =>
   clear HC12
   try clear c1
   try clear c2
   try clear p2
   try clear c3
   try clear c4
   try clear c13
   try clear c14
   try clear c15
   try clear c16
   try clear c17
   try clear c24
   try clear c30
   try clear c31
   try clear c34
   try clear c35
   try clear c36
   try clear c38
   try clear c41
   try clear c42
   try clear c44
   try clear hcz25_0
   try clear hcz25_1
   try clear hcz25_2
   try clear hcz25_3
   try clear hcz32_0
   try clear hcz32_1
   try clear hcz37_0
   try clear hcz37_1
   try clear hcz39_0
   try clear hcz39_1
   try clear hcz43_0
   try clear hcz43_1
   try clear hcz45_0
   try clear hcz45_1
   try clear hfz25_0
   try clear hfz25_1
   try clear hfz25_2
   try clear hfz25_3
   try clear hfz32_0
   try clear hfz32_1
   try clear hfz37_0
   try clear hfz37_1
   try clear hfz39_0
   try clear hfz39_1
   try clear hfz43_0
   try clear hfz43_1
   try clear hfz45_0
   try clear hfz45_1
   obtain ⟨kq, x41_11, rfl, HA, HJ11, HO_8, BK411, BK423, BK434, HB⟩ := hcut
   cases kq with
   | zero => exact absurd HA.out (by simp [laws_FnExactLeastSlope.j0])
   | succ kj11 =>
    have H := HA.out
    clear HA
    simp only [laws_FnExactLeastSlope.j0] at H
    by_cases c47 : x41_11 = true
    ·subst c47
     have H1 : (some false) = some r := by rw [if_pos rfl] at H; exact H
     clear H
     have H := H1
     clear H1
     obtain rfl := Option.some.inj H
     go_wp2
     go_ret
     exact ⟨by first | rfl | (simp [errW_none, errW_some] <;> rfl) | (simp [*, errW_none, errW_some] <;> rfl), bl⟩
    ·replace c47 := Bool.eq_false_iff.mpr c47
     subst c47
     have H1 : ((laws_toPointS.f kj11 l0).bind fun t436 => ((laws_eqPointS.f kj11 t424 t436).bind fun t439 => (if t439 = true then (some true) else (some false)))) = some r := by rw [if_neg (show ¬ (false = true) by decide)] at H; exact H
     clear H
     have H := H1
     clear H1
     replace H := Option.bind_eq_some_iff.mp H
     obtain ⟨t436, A480, H⟩ := H
     replace H : ((laws_eqPointS.f kj11 t424 t436).bind fun t439 => (if t439 = true then (some true) else (some false))) = some r := H
     have A48 := Aside0.mk A480
     clear A480
     replace H := Option.bind_eq_some_iff.mp H
     obtain ⟨t439, A490, H⟩ := H
     replace H : (if t439 = true then (some true) else (some false)) = some r := H
     have A49 := Aside0.mk A490
     clear A490
     by_cases c50 : t439 = true
     ·subst c50
      have H1 : (some true) = some r := by rw [if_pos rfl] at H; exact H
      clear H
      have H := H1
      clear H1
      obtain rfl := Option.some.inj H
      go_wp2_with (first | ((with_reducible refine gate_callee (f := 14) rfl ?_); refine gl 44 Try.func14 #[.slice A0 l0.length c0] ?_; (with_reducible refine (laws_toPointS.calls kj11 _ _ l0 t436 _ ?side1 ?side2 A48.out).mono ?_); (case side1 => repeat (first | exact (Kd.C_below HR0.out HB.out) | (with_reducible refine Kd.C_alloc ?_ _) | (with_reducible refine Kd.C_drewN ?_ _) | (with_reducible refine Kd.C_drew ?_))); (case side2 => exact HC0.out); rintro e w51 ⟨v437, rfl, ho0, hb⟩; refine ⟨_, rfl, ?_⟩; have HO438 := Aside0.mk (Kd.R_lower (Kd.R_new' ho0 (Kd.R_lt (by (with_reducible repeat (first | apply Kd.R_alloc | apply Kd.R_drewN | apply Kd.R_drew)); exact HO_8.out))) (below_size bl)); replace HO_8 := Aside0.mk (Kd.R_elder' (by (with_reducible repeat (first | apply Kd.R_alloc | apply Kd.R_drewN | apply Kd.R_drew)); exact HO_8.out) (Kd.R_base ho0) hb); replace BK411 := Aside0.mk (bb gb411 hb); replace BK423 := Aside0.mk (bb gb423 hb); replace BK434 := Aside0.mk (bb gb434 hb); replace HB := Aside0.mk (bs hb); (try clear hb); (try clear hb2); (try clear hk); (try clear hi); (try clear ho0); obtain ⟨Ao52, co52, eo52⟩ := Kd.R_slice HO438.out; subst eo52) | ((with_reducible refine gate_callee (f := 18) rfl ?_); refine gl 45 Try.func18 #[.slice Ao27 t424.length co27, .slice Ao52 t436.length co52] ?_; (with_reducible refine (laws_eqPointS.calls kj11 _ _ t424 _ _ t436 true _ ?side1 ?side2 ?side3 ?side4 A49.out).mono ?_); (case side1 => repeat (first | exact (Kd.R_reads' HO_8.out).2.2 | (with_reducible refine Kd.C_alloc ?_ _) | (with_reducible refine Kd.C_drewN ?_ _) | (with_reducible refine Kd.C_drew ?_))); (case side2 => exact (Kd.R_reads' HO_8.out).2.1); (case side3 => repeat (first | exact (Kd.R_reads' HO438.out).2.2 | (with_reducible refine Kd.C_alloc ?_ _) | (with_reducible refine Kd.C_drewN ?_ _) | (with_reducible refine Kd.C_drew ?_))); (case side4 => exact (Kd.R_reads' HO438.out).2.1); rintro e w53 ⟨rfl, hb⟩; refine ⟨_, rfl, ?_⟩; replace HO_8 := Aside0.mk (Kd.R_below (by (with_reducible repeat (first | apply Kd.R_alloc | apply Kd.R_drewN | apply Kd.R_drew)); exact HO_8.out) hb); replace HO438 := Aside0.mk (Kd.R_below (by (with_reducible repeat (first | apply Kd.R_alloc | apply Kd.R_drewN | apply Kd.R_drew)); exact HO438.out) hb); replace BK411 := Aside0.mk (bb gb411 hb); replace BK423 := Aside0.mk (bb gb423 hb); replace BK434 := Aside0.mk (bb gb434 hb); replace HB := Aside0.mk (bs hb); (try clear hb); (try clear hb2); (try clear hk); (try clear hi)))
      go_ret
      exact ⟨by first | rfl | (simp [errW_none, errW_some] <;> rfl) | (simp [*, errW_none, errW_some] <;> rfl), bl⟩
     ·replace c50 := Bool.eq_false_iff.mpr c50
      subst c50
      have H1 : (some false) = some r := by rw [if_neg (show ¬ (false = true) by decide)] at H; exact H
      clear H
      have H := H1
      clear H1
      obtain rfl := Option.some.inj H
      go_wp2_with (first | ((with_reducible refine gate_callee (f := 14) rfl ?_); refine gl 44 Try.func14 #[.slice A0 l0.length c0] ?_; (with_reducible refine (laws_toPointS.calls kj11 _ _ l0 t436 _ ?side1 ?side2 A48.out).mono ?_); (case side1 => repeat (first | exact (Kd.C_below HR0.out HB.out) | (with_reducible refine Kd.C_alloc ?_ _) | (with_reducible refine Kd.C_drewN ?_ _) | (with_reducible refine Kd.C_drew ?_))); (case side2 => exact HC0.out); rintro e w54 ⟨v437, rfl, ho0, hb⟩; refine ⟨_, rfl, ?_⟩; have HO438 := Aside0.mk (Kd.R_lower (Kd.R_new' ho0 (Kd.R_lt (by (with_reducible repeat (first | apply Kd.R_alloc | apply Kd.R_drewN | apply Kd.R_drew)); exact HO_8.out))) (below_size bl)); replace HO_8 := Aside0.mk (Kd.R_elder' (by (with_reducible repeat (first | apply Kd.R_alloc | apply Kd.R_drewN | apply Kd.R_drew)); exact HO_8.out) (Kd.R_base ho0) hb); replace BK411 := Aside0.mk (bb gb411 hb); replace BK423 := Aside0.mk (bb gb423 hb); replace BK434 := Aside0.mk (bb gb434 hb); replace HB := Aside0.mk (bs hb); (try clear hb); (try clear hb2); (try clear hk); (try clear hi); (try clear ho0); obtain ⟨Ao55, co55, eo55⟩ := Kd.R_slice HO438.out; subst eo55) | ((with_reducible refine gate_callee (f := 18) rfl ?_); refine gl 45 Try.func18 #[.slice Ao27 t424.length co27, .slice Ao55 t436.length co55] ?_; (with_reducible refine (laws_eqPointS.calls kj11 _ _ t424 _ _ t436 false _ ?side1 ?side2 ?side3 ?side4 A49.out).mono ?_); (case side1 => repeat (first | exact (Kd.R_reads' HO_8.out).2.2 | (with_reducible refine Kd.C_alloc ?_ _) | (with_reducible refine Kd.C_drewN ?_ _) | (with_reducible refine Kd.C_drew ?_))); (case side2 => exact (Kd.R_reads' HO_8.out).2.1); (case side3 => repeat (first | exact (Kd.R_reads' HO438.out).2.2 | (with_reducible refine Kd.C_alloc ?_ _) | (with_reducible refine Kd.C_drewN ?_ _) | (with_reducible refine Kd.C_drew ?_))); (case side4 => exact (Kd.R_reads' HO438.out).2.1); rintro e w56 ⟨rfl, hb⟩; refine ⟨_, rfl, ?_⟩; replace HO_8 := Aside0.mk (Kd.R_below (by (with_reducible repeat (first | apply Kd.R_alloc | apply Kd.R_drewN | apply Kd.R_drew)); exact HO_8.out) hb); replace HO438 := Aside0.mk (Kd.R_below (by (with_reducible repeat (first | apply Kd.R_alloc | apply Kd.R_drewN | apply Kd.R_drew)); exact HO438.out) hb); replace BK411 := Aside0.mk (bb gb411 hb); replace BK423 := Aside0.mk (bb gb423 hb); replace BK434 := Aside0.mk (bb gb434 hb); replace HB := Aside0.mk (bs hb); (try clear hb); (try clear hb2); (try clear hk); (try clear hi)))
      go_ret
      exact ⟨by first | rfl | (simp [errW_none, errW_some] <;> rfl) | (simp [*, errW_none, errW_some] <;> rfl), bl⟩

/-- THE ONE PURE STATEMENT of laws_FnExactLeastSlope: yours. -/
def laws_FnExactLeastSlope.Pure : Prop := ∀ (l0 : List (S72)) (a1_0 : Int) (a1_1 : Int) (a1_2 : Int) (a1_3 : Int), l0.length ≤ maxLen → l0.length * 32 ≤ 140737488351232 → (∀ x ∈ l0, (Lit.int .i64 x.f0.f0).wf = true ∧ (Lit.int .i64 x.f0.f1).wf = true ∧ (Lit.int .i64 x.f1.f0).wf = true ∧ (Lit.int .i64 x.f1.f1).wf = true) → (Lit.int .i64 a1_0).wf = true → (Lit.int .i64 a1_1).wf = true → (Lit.int .i64 a1_2).wf = true → (Lit.int .i64 a1_3).wf = true → ∃ k, laws_FnExactLeastSlope.f k l0 a1_0 a1_1 a1_2 a1_3 = some true

end Go.Proofs.Ytmecnnnagallnaa.PFnExactLeastSlope
