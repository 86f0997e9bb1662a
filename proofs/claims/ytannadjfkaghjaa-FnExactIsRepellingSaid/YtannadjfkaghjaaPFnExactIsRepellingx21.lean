-- Written by this session's program wip/pp (the kit's print tool with additions) 35421559b90ae4d0a3588c463048766b98c2df88dd9212a6774a882060cdf62d
import Derived.Test.YtannadjfkaghjaaPFnExactIsRepellingx0
import Derived.Test.YtannadjfkaghjaaPFnExactIsRepellingx2
import Derived.Test.YtannadjfkaghjaaPFnExactIsRepellingx10
import Derived.Test.YtannadjfkaghjaaPFnExactIsRepellingx20
namespace Go.Proofs.Ytannadjfkaghjaa.PFnExactIsRepelling
open Go.RowKit Go.Proofs.YtannadjfkaghjaaW.PrintWords Go.Proofs.YtannadjfkaghjaaW.PrintLast Go.Proofs.YtannadjfkaghjaaW.PrintMore
attribute [local go_sem] max2_int min2_int max_two min_two max_three min_three max_four min_four   -- for this text's walks alone
set_option linter.unusedVariables false
set_option linter.unusedSimpArgs false

/-! ### laws_FnExactIsRepelling: function 6 -/
def laws_FnExactIsRepelling.j0 : Nat → List (S76) → List (S73) → Bool → Option (Bool)
 | 0, _, _, _ => none
 | k + 1, x0, x10, x44 => if x44 = true then (some false) else ((laws_toPointS.f k x0).bind fun t599 => ((laws_eqPointS.f k x10 t599).bind fun t602 => (if t602 = true then (some true) else (some false))))
def laws_FnExactIsRepelling.f (k : Nat) (l0 : List (S76)) (a1_0 : Int) (a1_1 : Int) (a2 : Int) : Option (Bool) := (laws_szPointS.f l0 1048576).bind fun t584 => (if t584 < 0 then (some true) else ((laws_toPointS.f k l0).bind fun t585 => ((laws_toRat.f a1_0 a1_1).bind fun bt588 => ((spec_IsRepelling.f k t585 bt588.1 bt588.2 a2).bind fun bt590 => ((laws_toPointS.f k l0).bind fun t592 => ((laws_toRat.f a1_0 a1_1).bind fun bt595 => ((impl_IsRepelling.f k t592 bt595.1 bt595.2 a2).bind fun bt597 => (if (bt597.1 != bt590.1) = true then (laws_FnExactIsRepelling.j0 k l0 t592 true) else (laws_FnExactIsRepelling.j0 k l0 t592 (bt597.2 != bt590.2))))))))))
def laws_FnExactIsRepelling.T5 : Bool × List (List Nat × List Nat) := (true, [([], []), ([0], [0]), ([], []), ([2, 1], [2]), ([], []), ([1, 3, 4, 3], [1, 3, 4]), ([5], [5]), ([6], [6]), ([6], [6]), ([7, 5, 0, 1, 2, 3, 4, 5, 6, 7], [7]), ([8, 9, 0, 1, 2, 3, 4, 5, 6, 7, 8, 9], [8])])
def laws_FnExactIsRepelling.B5 : List Nat := [0, 1, 0, 7, 0, 31, 63, 127, 127, 255, 1023]
theorem laws_FnExactIsRepelling.tab5 : rtab .any (opsOf Try.f6 5) = laws_FnExactIsRepelling.T5 := by kernel_rfl
theorem laws_FnExactIsRepelling.bits5 : waitsOk laws_FnExactIsRepelling.T5.2 laws_FnExactIsRepelling.B5 = true := by kernel_rfl
set_option maxHeartbeats 8000000 in
set_option maxRecDepth 100000 in
theorem laws_FnExactIsRepelling.calls (k : Nat) (A0 : Option Addr) (c0 : Nat) (l0 : List (S76)) (a1_0 : Int) (a1_1 : Int) (a2 : Int) (r : Bool) (w : World) (hr0 : Kd.C k76 w A0 l0.length l0) (hc0 : l0.length ≤ c0) (h : laws_FnExactIsRepelling.f k l0 a1_0 a1_1 a2 = some r) :
  Calls Try.prog 6 #[.slice A0 l0.length c0, .agg #[.int .i64 a1_0, .int .i64 a1_1], .int .i64 a2] w fun e w' => e = .returned (.bool r) ∧ Below w.heap.size w w' := by
 have hu48 := Try.underlying48
 have HR0 := Aside0.mk hr0
 have HC0 := Aside0.mk hc0
 clear hr0 hc0
 have HB := Aside0.mk (Below.refl w.heap.size w)
 have H : ((laws_szPointS.f l0 1048576).bind fun t584 => (if t584 < 0 then (some true) else ((laws_toPointS.f k l0).bind fun t585 => ((laws_toRat.f a1_0 a1_1).bind fun bt588 => ((spec_IsRepelling.f k t585 bt588.1 bt588.2 a2).bind fun bt590 => ((laws_toPointS.f k l0).bind fun t592 => ((laws_toRat.f a1_0 a1_1).bind fun bt595 => ((impl_IsRepelling.f k t592 bt595.1 bt595.2 a2).bind fun bt597 => (if (bt597.1 != bt590.1) = true then (laws_FnExactIsRepelling.j0 k l0 t592 true) else (laws_FnExactIsRepelling.j0 k l0 t592 (bt597.2 != bt590.2))))))))))) = some r := h
 clear h
 replace H := Option.bind_eq_some_iff.mp H
 obtain ⟨t584, A40, H⟩ := H
 replace H : (if t584 < 0 then (some true) else ((laws_toPointS.f k l0).bind fun t585 => ((laws_toRat.f a1_0 a1_1).bind fun bt588 => ((spec_IsRepelling.f k t585 bt588.1 bt588.2 a2).bind fun bt590 => ((laws_toPointS.f k l0).bind fun t592 => ((laws_toRat.f a1_0 a1_1).bind fun bt595 => ((impl_IsRepelling.f k t592 bt595.1 bt595.2 a2).bind fun bt597 => (if (bt597.1 != bt590.1) = true then (laws_FnExactIsRepelling.j0 k l0 t592 true) else (laws_FnExactIsRepelling.j0 k l0 t592 (bt597.2 != bt590.2)))))))))) = some r := H
 have A4 := Aside0.mk A40
 clear A40
 by_cases c5 : t584 < 0
 ·rw [if_pos c5] at H
  have c5b0 : decide (t584 < 0) = true := decide_eq_true c5
  clear c5
  obtain rfl := Option.some.inj H
  go_enter Try.func6, Try.ntmps6
  go_wp2_with (first | ((with_reducible refine gate_dst (N := 4) rfl ?_); refine bx 4 #[.int .i64 a1_0, .int .i64 a1_1] 48 ?_; intro gb583 hg w6 hbox hb; have BK583 := Aside0.mk (hbox); have GW583 := Aside0.mk (bz hg); have GE583 := GW583; replace HB := kh hb; clear hb hbox hg) | ((with_reducible refine gate_callee (f := 33) rfl ?_); refine gl 15 Try.func33 #[.slice A0 l0.length c0, .int .i64 1048576] ?_; (with_reducible refine (laws_szPointS.calls _ _ l0 1048576 t584 _ ?side1 ?side2 A4.out).mono ?_); (case side1 => repeat (first | exact (Kd.C_below HR0.out HB.out) | (with_reducible refine Kd.C_alloc ?_ _) | (with_reducible refine Kd.C_drewN ?_ _) | (with_reducible refine Kd.C_drew ?_))); (case side2 => exact HC0.out); rintro e w' ⟨rfl, ⟨nd, rfl⟩⟩; refine ⟨_, rfl, ?_⟩))
  go_ret
  exact ⟨rt, bl⟩
 ·rw [if_neg c5] at H
  have c5b0 : decide (t584 < 0) = false := decide_eq_false c5
  clear c5
  replace H := Option.bind_eq_some_iff.mp H
  obtain ⟨t585, A70, H⟩ := H
  replace H : ((laws_toRat.f a1_0 a1_1).bind fun bt588 => ((spec_IsRepelling.f k t585 bt588.1 bt588.2 a2).bind fun bt590 => ((laws_toPointS.f k l0).bind fun t592 => ((laws_toRat.f a1_0 a1_1).bind fun bt595 => ((impl_IsRepelling.f k t592 bt595.1 bt595.2 a2).bind fun bt597 => (if (bt597.1 != bt590.1) = true then (laws_FnExactIsRepelling.j0 k l0 t592 true) else (laws_FnExactIsRepelling.j0 k l0 t592 (bt597.2 != bt590.2)))))))) = some r := H
  have A7 := Aside0.mk A70
  clear A70
  replace H := Option.bind_eq_some_iff.mp H
  obtain ⟨⟨t588, t589⟩, A80, H⟩ := H
  replace H : ((spec_IsRepelling.f k t585 t588 t589 a2).bind fun bt590 => ((laws_toPointS.f k l0).bind fun t592 => ((laws_toRat.f a1_0 a1_1).bind fun bt595 => ((impl_IsRepelling.f k t592 bt595.1 bt595.2 a2).bind fun bt597 => (if (bt597.1 != bt590.1) = true then (laws_FnExactIsRepelling.j0 k l0 t592 true) else (laws_FnExactIsRepelling.j0 k l0 t592 (bt597.2 != bt590.2))))))) = some r := H
  have A8 := Aside0.mk A80
  clear A80
  replace H := Option.bind_eq_some_iff.mp H
  obtain ⟨⟨t590, t591⟩, A90, H⟩ := H
  replace H : ((laws_toPointS.f k l0).bind fun t592 => ((laws_toRat.f a1_0 a1_1).bind fun bt595 => ((impl_IsRepelling.f k t592 bt595.1 bt595.2 a2).bind fun bt597 => (if (bt597.1 != t590) = true then (laws_FnExactIsRepelling.j0 k l0 t592 true) else (laws_FnExactIsRepelling.j0 k l0 t592 (bt597.2 != t591)))))) = some r := H
  have A9 := Aside0.mk A90
  clear A90
  replace H := Option.bind_eq_some_iff.mp H
  obtain ⟨t592, A100, H⟩ := H
  replace H : ((laws_toRat.f a1_0 a1_1).bind fun bt595 => ((impl_IsRepelling.f k t592 bt595.1 bt595.2 a2).bind fun bt597 => (if (bt597.1 != t590) = true then (laws_FnExactIsRepelling.j0 k l0 t592 true) else (laws_FnExactIsRepelling.j0 k l0 t592 (bt597.2 != t591))))) = some r := H
  have A10 := Aside0.mk A100
  clear A100
  replace H := Option.bind_eq_some_iff.mp H
  obtain ⟨⟨t595, t596⟩, A110, H⟩ := H
  replace H : ((impl_IsRepelling.f k t592 t595 t596 a2).bind fun bt597 => (if (bt597.1 != t590) = true then (laws_FnExactIsRepelling.j0 k l0 t592 true) else (laws_FnExactIsRepelling.j0 k l0 t592 (bt597.2 != t591)))) = some r := H
  have A11 := Aside0.mk A110
  clear A110
  replace H := Option.bind_eq_some_iff.mp H
  obtain ⟨⟨t597, t598⟩, A120, H⟩ := H
  replace H : (if (t597 != t590) = true then (laws_FnExactIsRepelling.j0 k l0 t592 true) else (laws_FnExactIsRepelling.j0 k l0 t592 (t598 != t591))) = some r := H
  have A12 := Aside0.mk A120
  clear A120
  have HC13 := Aside0.mk H
  clear H
  go_enter Try.func6, Try.ntmps6
  try go_wp2_with (first | ((with_reducible refine gate_dst (N := 4) rfl ?_); refine bx 4 #[.int .i64 a1_0, .int .i64 a1_1] 48 ?_; intro gb583 hg w14 hbox hb; have BK583 := Aside0.mk (hbox); have GW583 := Aside0.mk (bz hg); have GE583 := GW583; replace HB := kh hb; clear hb hbox hg) | ((with_reducible refine gate_callee (f := 33) rfl ?_); refine gl 15 Try.func33 #[.slice A0 l0.length c0, .int .i64 1048576] ?_; (with_reducible refine (laws_szPointS.calls _ _ l0 1048576 t584 _ ?side1 ?side2 A4.out).mono ?_); (case side1 => repeat (first | exact (Kd.C_below HR0.out HB.out) | (with_reducible refine Kd.C_alloc ?_ _) | (with_reducible refine Kd.C_drewN ?_ _) | (with_reducible refine Kd.C_drew ?_))); (case side2 => exact HC0.out); rintro e w' ⟨rfl, ⟨nd, rfl⟩⟩; refine ⟨_, rfl, ?_⟩))
  (try (rw [drewN_self w14]; generalize hq_ : World.drewN w14 _ = w14; have n0_ : Aside0 (w14.heap[gb583]? = some (.cells #[.int .i64 a1_0, .int .i64 a1_1] 48 (0, 0))) := ⟨by rw [← hq_]; exact (bo gb583)⟩; have n1_ : Aside0 (Below w.heap.size w w14) := ⟨by rw [← hq_]; exact bl⟩; clear BK583 HB hq_; have BK583 := n0_; have HB := n1_; clear n0_ n1_))
  replace BK583 := Aside0.mk (blk_drew BK583.out)
  replace HB := Aside0.mk (below_drew1 HB.out)
  refine start_ (n := 11) (S := fun w' => w'.cell? ⟨gb583, 0, none⟩ = some (.int .i64 a1_0) ∧ w'.cell? ⟨gb583, 1, none⟩ = some (.int .i64 a1_1)) (ds := []) (tb 0 11) (by kernel_rfl) rfl rfl ⟨(blk_cell BK583.out 0).trans rfl, (blk_cell BK583.out 1).trans rfl⟩ (fun hHeld => ?_); refine with_tabW laws_FnExactIsRepelling.tab5 laws_FnExactIsRepelling.bits5 (fun HT_ HW_ => ?_)
  generalize w14.drew = w15 at BK583 HB hHeld ⊢
  refine pu 0 19 (tb 1 10) ?_
  refine pu 4 23 #[true, false, false, false, true, false, false, false, false, false, false] ?_
  refine tk 2 21 #[true, false, true, false, true, false, false, false, false, false, false] (hy := by rintro w' ⟨s0, s1⟩; go_simp; with_reducible rfl) (h := ?_)
  refine on 1 20 #[true, true, true, false, true, false, false, false, false, false, false] (fun K hK => ?_)
  refine gs Try.func35 #[.slice A0 l0.length c0] ?_
  with_reducible refine (laws_toPointS.calls k _ _ l0 t585 _ ?side1 ?side2 A7.out).mono ?_
  (case side1 => repeat (first | exact (Kd.C_below HR0.out HB.out) | (with_reducible refine Kd.C_alloc ?_ _) | (with_reducible refine Kd.C_drewN ?_ _) | (with_reducible refine Kd.C_drew ?_)))
  (case side2 => exact HC0.out)
  rintro e w16 ⟨v586, rfl, ho0, hb⟩
  refine ⟨_, rfl, ?_⟩
  have HO587 := Aside0.mk (Kd.R_lower ho0 (below_size bl))
  replace BK583 := kb BK583 hb
  replace HB := kh hb
  (try clear hb)
  (try clear hb2)
  (try clear hk)
  (try clear hi)
  (try clear ho0)
  refine hK.out _ _ ⟨(blk_cell BK583.out 0).trans rfl, (blk_cell BK583.out 1).trans rfl⟩ (fun hHeld => ?_)
  clear hK K
  refine nm 20 ?_
  refine on 3 22 (tb 5 6) (fun K hK => ?_)
  refine gs Try.func36 #[.agg #[.int .i64 a1_0, .int .i64 a1_1]] ?_
  with_reducible refine (laws_toRat.calls a1_0 a1_1 t588 t589 _ A8.out).mono ?_
  rintro e w17 ⟨rfl, hb⟩
  refine ⟨_, rfl, ?_⟩
  replace HO587 := Aside0.mk (Kd.R_below (by (with_reducible repeat (first | apply Kd.R_alloc | apply Kd.R_drewN | apply Kd.R_drew)); exact HO587.out) hb)
  replace BK583 := kb BK583 hb
  replace HB := kh hb
  (try clear hb)
  (try clear hb2)
  (try clear hk)
  (try clear hi)
  obtain ⟨Ao18, co18, eo18⟩ := Kd.R_slice HO587.out
  (first | subst eo18 | (injection eo18 with f1_ f2_ f3_; have f4_ := f1_.symm; have f5_ := f3_.symm; clear f1_ f2_ f3_; subst f4_; subst f5_))
  refine hK.out _ _ ⟨(blk_cell BK583.out 0).trans rfl, (blk_cell BK583.out 1).trans rfl⟩ (fun hHeld => ?_)
  clear hK K
  refine nm 22 ?_
  refine on 5 24 (tb 6 5) (fun K hK => ?_)
  refine gs Try.func34 #[.slice Ao18 t585.length co18, .agg #[.int .i64 t588, .int .i64 t589], .int .i64 a2] ?_
  with_reducible refine (spec_IsRepelling.calls k _ _ t585 t588 t589 a2 t590 t591 _ ?side1 ?side2 A9.out).mono ?_
  (case side1 => repeat (first | exact (Kd.R_reads' HO587.out).2.2 | (with_reducible refine Kd.C_alloc ?_ _) | (with_reducible refine Kd.C_drewN ?_ _) | (with_reducible refine Kd.C_drew ?_)))
  (case side2 => exact (Kd.R_reads' HO587.out).2.1)
  rintro e w19 ⟨rfl, hb⟩
  refine ⟨_, rfl, ?_⟩
  replace HO587 := Aside0.mk (Kd.R_below (by (with_reducible repeat (first | apply Kd.R_alloc | apply Kd.R_drewN | apply Kd.R_drew)); exact HO587.out) hb)
  replace BK583 := kb BK583 hb
  replace HB := kh hb
  (try clear hb)
  (try clear hb2)
  (try clear hk)
  (try clear hi)
  refine hK.out _ _ ⟨(blk_cell BK583.out 0).trans rfl, (blk_cell BK583.out 1).trans rfl⟩ (fun hHeld => ?_)
  clear hK K
  refine nm 24 ?_
  refine pu 6 18 (tb 7 4) ?_
  refine pu 7 25 (tb 8 3) ?_
  refine pu 8 26 (tb 9 2) ?_
  refine pu 9 8 (tb 10 1) ?_
  refine pu 10 9 (tb 11 0) ?_
  refine done_ (done_of HT_.out (by kernel_rfl)) ?_
  go_upto_region 8 with (first | ((with_reducible refine gate_callee (f := 35) rfl ?_); refine gl 28 Try.func35 #[.slice A0 l0.length c0] ?_; (with_reducible refine (laws_toPointS.calls k _ _ l0 t592 _ ?side1 ?side2 A10.out).mono ?_); (case side1 => repeat (first | exact (Kd.C_below HR0.out HB.out) | (with_reducible refine Kd.C_alloc ?_ _) | (with_reducible refine Kd.C_drewN ?_ _) | (with_reducible refine Kd.C_drew ?_))); (case side2 => exact HC0.out); rintro e w20 ⟨v593, rfl, ho0, hb⟩; refine ⟨_, rfl, ?_⟩; have HO594 := Aside0.mk (Kd.R_lower (Kd.R_new' ho0 (Kd.R_lt (by (with_reducible repeat (first | apply Kd.R_alloc | apply Kd.R_drewN | apply Kd.R_drew)); exact HO587.out))) (below_size bl)); replace HO587 := Aside0.mk (Kd.R_elder' (by (with_reducible repeat (first | apply Kd.R_alloc | apply Kd.R_drewN | apply Kd.R_drew)); exact HO587.out) (Kd.R_base ho0) hb); replace BK583 := kb BK583 hb; replace HB := kh hb; (try clear hb); (try clear hb2); (try clear hk); (try clear hi); (try clear ho0); obtain ⟨hcz21_0, hcz21_1, hfz21_0, hfz21_1⟩ := b2 BK583) | ((with_reducible refine gate_callee (f := 36) rfl ?_); refine gl 32 Try.func36 #[.agg #[.int .i64 a1_0, .int .i64 a1_1]] ?_; (with_reducible refine (laws_toRat.calls a1_0 a1_1 t595 t596 _ A11.out).mono ?_); rintro e w22 ⟨rfl, hb⟩; refine ⟨_, rfl, ?_⟩; replace HO587 := Aside0.mk (Kd.R_below (by (with_reducible repeat (first | apply Kd.R_alloc | apply Kd.R_drewN | apply Kd.R_drew)); exact HO587.out) hb); replace HO594 := Aside0.mk (Kd.R_below (by (with_reducible repeat (first | apply Kd.R_alloc | apply Kd.R_drewN | apply Kd.R_drew)); exact HO594.out) hb); replace BK583 := kb BK583 hb; replace HB := kh hb; (try clear hb); (try clear hb2); (try clear hk); (try clear hi); obtain ⟨Ao23, co23, eo23⟩ := Kd.R_slice HO594.out; subst eo23) | ((with_reducible refine gate_callee (f := 37) rfl ?_); refine gl 34 Try.func37 #[.slice Ao23 t592.length co23, .agg #[.int .i64 t595, .int .i64 t596], .int .i64 a2] ?_; (with_reducible refine (impl_IsRepelling.calls k _ _ t592 t595 t596 a2 t597 t598 _ ?side1 ?side2 A12.out).mono ?_); (case side1 => repeat (first | exact (Kd.R_reads' HO594.out).2.2 | (with_reducible refine Kd.C_alloc ?_ _) | (with_reducible refine Kd.C_drewN ?_ _) | (with_reducible refine Kd.C_drew ?_))); (case side2 => exact (Kd.R_reads' HO594.out).2.1); rintro e w24 ⟨rfl, hb⟩; refine ⟨_, rfl, ?_⟩; replace HO587 := Aside0.mk (Kd.R_below (by (with_reducible repeat (first | apply Kd.R_alloc | apply Kd.R_drewN | apply Kd.R_drew)); exact HO587.out) hb); replace HO594 := Aside0.mk (Kd.R_below (by (with_reducible repeat (first | apply Kd.R_alloc | apply Kd.R_drewN | apply Kd.R_drew)); exact HO594.out) hb); replace BK583 := kb BK583 hb; replace HB := kh hb; (try clear hb); (try clear hb2); (try clear hk); (try clear hi)))
  (try simp only [Act.put, List.setIfInBounds_toArray, List.set_cons_zero, List.set_cons_succ])
  go_cut [44] (fun v44 wc => ∃ (kq : Nat) (x44_12 : Bool), v44 = .bool x44_12 ∧ Aside0 (laws_FnExactIsRepelling.j0 kq l0 t592 x44_12 = some r) ∧ Aside0 (kq ≤ k) ∧ Aside0 (Kd.R k73 73 wc w.heap.size (fun _ => True) (.slice Ao23 t592.length co23) t592) ∧ Aside0 (wc.heap[gb583]? = some (.cells #[.int .i64 a1_0, .int .i64 a1_1] 48 (0, 0))) ∧ Aside0 (Below w.heap.size w wc))
  case first =>
   have H := HC13.out
   clear HC13
   by_cases c25 : (t597 != t590) = true
   ·rw [if_pos c25] at H
    have c25b0 : (t597 != t590) = true := c25
    (try (have c25b1 : decide (t597 = t590) = false := by simpa using c25))
    (try (have c25b2 : (t597 == t590) = false := by simpa using c25))
    (try (have c25b3 : ¬ (t597 = t590) := by simpa using c25))
    clear c25
    (first | rw [c25b0] | (simp only [i64_w, i32_w]; rw [c25b0]) | skip)
    have H' := Aside0.mk H
    clear H
    go_wp2
    go_meet
    case rel => exact ⟨_, (true), rs, H', ⟨by first | omega | exact Nat.le_refl _⟩, ⟨by (with_reducible repeat (first | apply Kd.R_alloc | apply Kd.R_drewN | apply Kd.R_drew)); exact Kd.R_mono HO594.out (fun _ hk => trivial)⟩, ⟨by (with_reducible repeat (first | refine blk_drewN ?_ _ | refine blk_drew ?_ | refine blk_alloc ?_ _)); exact BK583.out⟩, ⟨bl⟩⟩
   ·rw [if_neg c25] at H
    have c25b0 : (t597 != t590) = false := by simpa using c25
    (try (have c25b1 : decide (t597 = t590) = true := by simpa using c25))
    (try (have c25b2 : (t597 == t590) = true := by simpa using c25))
    clear c25
    (first | rw [c25b0] | (simp only [i64_w, i32_w]; rw [c25b0]) | skip)
    have H' := Aside0.mk H
    clear H
    go_wp2
    go_meet
    case rel => exact ⟨_, ((t598 != t591)), rs, H', ⟨by first | omega | exact Nat.le_refl _⟩, ⟨by (with_reducible repeat (first | apply Kd.R_alloc | apply Kd.R_drewN | apply Kd.R_drew)); exact Kd.R_mono HO594.out (fun _ hk => trivial)⟩, ⟨by (with_reducible repeat (first | refine blk_drewN ?_ _ | refine blk_drew ?_ | refine blk_alloc ?_ _)); exact BK583.out⟩, ⟨bl⟩⟩
  case rest =>
   clear HC13
   try clear c2
   try clear p2
   try clear c3
   try clear c5
   try clear c5b0
   try clear c6
   try clear c25
   try clear c25b0
   try clear c25b1
   try clear c25b2
   try clear hcz21_0
   try clear hcz21_1
   try clear hfz21_0
   try clear hfz21_1
   obtain ⟨kq, x44_12, rfl, HA, HJ12, HO_10, BK583, HB⟩ := hcut
   cases kq with
   | zero => exact absurd HA.out (by simp [laws_FnExactIsRepelling.j0])
   | succ kj12 =>
    have H := HA.out
    clear HA
    simp only [laws_FnExactIsRepelling.j0] at H
    by_cases c26 : x44_12 = true
    ·subst c26
     have H1 : (some false) = some r := by rw [if_pos rfl] at H; exact H
     clear H
     have H := H1
     clear H1
     obtain rfl := Option.some.inj H
     go_wp2
     go_ret
     exact ⟨rt, bl⟩
    ·replace c26 := Bool.eq_false_iff.mpr c26
     subst c26
     have H1 : ((laws_toPointS.f kj12 l0).bind fun t599 => ((laws_eqPointS.f kj12 t592 t599).bind fun t602 => (if t602 = true then (some true) else (some false)))) = some r := by rw [if_neg (show ¬ (false = true) by decide)] at H; exact H
     clear H
     have H := H1
     clear H1
     replace H := Option.bind_eq_some_iff.mp H
     obtain ⟨t599, A270, H⟩ := H
     replace H : ((laws_eqPointS.f kj12 t592 t599).bind fun t602 => (if t602 = true then (some true) else (some false))) = some r := H
     have A27 := Aside0.mk A270
     clear A270
     replace H := Option.bind_eq_some_iff.mp H
     obtain ⟨t602, A280, H⟩ := H
     replace H : (if t602 = true then (some true) else (some false)) = some r := H
     have A28 := Aside0.mk A280
     clear A280
     by_cases c29 : t602 = true
     ·subst c29
      have H1 : (some true) = some r := by rw [if_pos rfl] at H; exact H
      clear H
      have H := H1
      clear H1
      obtain rfl := Option.some.inj H
      go_wp2_with (first | ((with_reducible refine gate_callee (f := 35) rfl ?_); refine gl 47 Try.func35 #[.slice A0 l0.length c0] ?_; (with_reducible refine (laws_toPointS.calls kj12 _ _ l0 t599 _ ?side1 ?side2 A27.out).mono ?_); (case side1 => repeat (first | exact (Kd.C_below HR0.out HB.out) | (with_reducible refine Kd.C_alloc ?_ _) | (with_reducible refine Kd.C_drewN ?_ _) | (with_reducible refine Kd.C_drew ?_))); (case side2 => exact HC0.out); rintro e w30 ⟨v600, rfl, ho0, hb⟩; refine ⟨_, rfl, ?_⟩; have HO601 := Aside0.mk (Kd.R_lower (Kd.R_new' ho0 (Kd.R_lt (by (with_reducible repeat (first | apply Kd.R_alloc | apply Kd.R_drewN | apply Kd.R_drew)); exact HO_10.out))) (below_size bl)); replace HO_10 := Aside0.mk (Kd.R_elder' (by (with_reducible repeat (first | apply Kd.R_alloc | apply Kd.R_drewN | apply Kd.R_drew)); exact HO_10.out) (Kd.R_base ho0) hb); replace BK583 := kb BK583 hb; replace HB := kh hb; (try clear hb); (try clear hb2); (try clear hk); (try clear hi); (try clear ho0); obtain ⟨Ao31, co31, eo31⟩ := Kd.R_slice HO601.out; subst eo31) | ((with_reducible refine gate_callee (f := 38) rfl ?_); refine gl 48 Try.func38 #[.slice Ao23 t592.length co23, .slice Ao31 t599.length co31] ?_; (with_reducible refine (laws_eqPointS.calls kj12 _ _ t592 _ _ t599 true _ ?side1 ?side2 ?side3 ?side4 A28.out).mono ?_); (case side1 => repeat (first | exact (Kd.R_reads' HO_10.out).2.2 | (with_reducible refine Kd.C_alloc ?_ _) | (with_reducible refine Kd.C_drewN ?_ _) | (with_reducible refine Kd.C_drew ?_))); (case side2 => exact (Kd.R_reads' HO_10.out).2.1); (case side3 => repeat (first | exact (Kd.R_reads' HO601.out).2.2 | (with_reducible refine Kd.C_alloc ?_ _) | (with_reducible refine Kd.C_drewN ?_ _) | (with_reducible refine Kd.C_drew ?_))); (case side4 => exact (Kd.R_reads' HO601.out).2.1); rintro e w32 ⟨rfl, hb⟩; refine ⟨_, rfl, ?_⟩; replace HO_10 := Aside0.mk (Kd.R_below (by (with_reducible repeat (first | apply Kd.R_alloc | apply Kd.R_drewN | apply Kd.R_drew)); exact HO_10.out) hb); replace HO601 := Aside0.mk (Kd.R_below (by (with_reducible repeat (first | apply Kd.R_alloc | apply Kd.R_drewN | apply Kd.R_drew)); exact HO601.out) hb); replace BK583 := kb BK583 hb; replace HB := kh hb; (try clear hb); (try clear hb2); (try clear hk); (try clear hi)))
      go_ret
      exact ⟨rt, bl⟩
     ·replace c29 := Bool.eq_false_iff.mpr c29
      subst c29
      have H1 : (some false) = some r := by rw [if_neg (show ¬ (false = true) by decide)] at H; exact H
      clear H
      have H := H1
      clear H1
      obtain rfl := Option.some.inj H
      go_wp2_with (first | ((with_reducible refine gate_callee (f := 35) rfl ?_); refine gl 47 Try.func35 #[.slice A0 l0.length c0] ?_; (with_reducible refine (laws_toPointS.calls kj12 _ _ l0 t599 _ ?side1 ?side2 A27.out).mono ?_); (case side1 => repeat (first | exact (Kd.C_below HR0.out HB.out) | (with_reducible refine Kd.C_alloc ?_ _) | (with_reducible refine Kd.C_drewN ?_ _) | (with_reducible refine Kd.C_drew ?_))); (case side2 => exact HC0.out); rintro e w33 ⟨v600, rfl, ho0, hb⟩; refine ⟨_, rfl, ?_⟩; have HO601 := Aside0.mk (Kd.R_lower (Kd.R_new' ho0 (Kd.R_lt (by (with_reducible repeat (first | apply Kd.R_alloc | apply Kd.R_drewN | apply Kd.R_drew)); exact HO_10.out))) (below_size bl)); replace HO_10 := Aside0.mk (Kd.R_elder' (by (with_reducible repeat (first | apply Kd.R_alloc | apply Kd.R_drewN | apply Kd.R_drew)); exact HO_10.out) (Kd.R_base ho0) hb); replace BK583 := kb BK583 hb; replace HB := kh hb; (try clear hb); (try clear hb2); (try clear hk); (try clear hi); (try clear ho0); obtain ⟨Ao34, co34, eo34⟩ := Kd.R_slice HO601.out; subst eo34) | ((with_reducible refine gate_callee (f := 38) rfl ?_); refine gl 48 Try.func38 #[.slice Ao23 t592.length co23, .slice Ao34 t599.length co34] ?_; (with_reducible refine (laws_eqPointS.calls kj12 _ _ t592 _ _ t599 false _ ?side1 ?side2 ?side3 ?side4 A28.out).mono ?_); (case side1 => repeat (first | exact (Kd.R_reads' HO_10.out).2.2 | (with_reducible refine Kd.C_alloc ?_ _) | (with_reducible refine Kd.C_drewN ?_ _) | (with_reducible refine Kd.C_drew ?_))); (case side2 => exact (Kd.R_reads' HO_10.out).2.1); (case side3 => repeat (first | exact (Kd.R_reads' HO601.out).2.2 | (with_reducible refine Kd.C_alloc ?_ _) | (with_reducible refine Kd.C_drewN ?_ _) | (with_reducible refine Kd.C_drew ?_))); (case side4 => exact (Kd.R_reads' HO601.out).2.1); rintro e w35 ⟨rfl, hb⟩; refine ⟨_, rfl, ?_⟩; replace HO_10 := Aside0.mk (Kd.R_below (by (with_reducible repeat (first | apply Kd.R_alloc | apply Kd.R_drewN | apply Kd.R_drew)); exact HO_10.out) hb); replace HO601 := Aside0.mk (Kd.R_below (by (with_reducible repeat (first | apply Kd.R_alloc | apply Kd.R_drewN | apply Kd.R_drew)); exact HO601.out) hb); replace BK583 := kb BK583 hb; replace HB := kh hb; (try clear hb); (try clear hb2); (try clear hk); (try clear hi)))
      go_ret
      exact ⟨rt, bl⟩

/-- THE ONE PURE STATEMENT of laws_FnExactIsRepelling: yours. -/
def laws_FnExactIsRepelling.Pure : Prop := ∀ (l0 : List (S76)) (a1_0 : Int) (a1_1 : Int) (a2 : Int), l0.length ≤ maxLen → l0.length * 32 ≤ 140737488351232 → (∀ x ∈ l0, (Lit.int .i64 x.f0.f0).wf = true ∧ (Lit.int .i64 x.f0.f1).wf = true ∧ (Lit.int .i64 x.f1.f0).wf = true ∧ (Lit.int .i64 x.f1.f1).wf = true) → (Lit.int .i64 a1_0).wf = true → (Lit.int .i64 a1_1).wf = true → (Lit.int .i64 a2).wf = true → ∃ k, laws_FnExactIsRepelling.f k l0 a1_0 a1_1 a2 = some true

end Go.Proofs.Ytannadjfkaghjaa.PFnExactIsRepelling
