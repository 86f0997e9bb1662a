-- Written by this session's program wip/pp (the kit's print tool with additions) 35421559b90ae4d0a3588c463048766b98c2df88dd9212a6774a882060cdf62d
import Derived.Test.YtmecnnnagallnaaPFnExactItineraryOfx0
import Derived.Test.YtmecnnnagallnaaPFnExactItineraryOfx2
import Derived.Test.YtmecnnnagallnaaPFnExactItineraryOfx3
import Derived.Test.YtmecnnnagallnaaPFnExactItineraryOfx10
import Derived.Test.YtmecnnnagallnaaPFnExactItineraryOfx19
namespace Go.Proofs.Ytmecnnnagallnaa.PFnExactItineraryOf
open Go.RowKit Go.Proofs.YtmecnnnagallnaaW.PrintWords Go.Proofs.YtmecnnnagallnaaW.PrintLast Go.Proofs.YtmecnnnagallnaaW.PrintMore
attribute [local go_sem] max2_int min2_int max_two min_two max_three min_three max_four min_four   -- for this text's walks alone
set_option linter.unusedVariables false
set_option linter.unusedSimpArgs false

/-! ### laws_FnExactItineraryOf: function 11 -/
mutual
def laws_FnExactItineraryOf.j0 : Nat → List (S72) → Int → List Int → Bool → List (S68) → List Int → Bool → Bool → Int → Int → Option (Bool)
 | 0, _, _, _, _, _, _, _, _, _, _ => none
 | k + 1, x0, x2, x8, x9, x10, x11, x12, x50, x577000, x577001 => if x50 = true then (some false) else ((laws_toPointS.f k x0).bind fun t597 => ((laws_eqPointS.f k x10 t597).bind fun t600 => (if t600 = true then ((laws_markPointS.f k x10 1).bind fun bt601 => (if bt601.1 < 0 then (laws_FnExactItineraryOf.j1 k x0 x2 x8 x9 x11 true x577000 x577001) else ((laws_eqIntS.f k x11 x8).bind fun t603 => (if t603 = true then (laws_FnExactItineraryOf.j1 k x0 x2 x8 x9 x11 (x12 != x9) x577000 x577001) else (laws_FnExactItineraryOf.j1 k x0 x2 x8 x9 x11 true x577000 x577001))))) else (some false))))
def laws_FnExactItineraryOf.j1 : Nat → List (S72) → Int → List Int → Bool → List Int → Bool → Int → Int → Option (Bool)
 | 0, _, _, _, _, _, _, _, _ => none
 | k + 1, x0, x2, x8, x9, x11, x71, x577000, x577001 => if x71 = true then (some false) else ((laws_markIntS.f k x11 1).bind fun bt604 => ((laws_heldIntS.f k bt604.2 1).bind fun t606 => (if t606 < 0 then (some false) else (if t606 = bt604.1 then ((laws_toPointS.f k x0).bind fun t607 => ((laws_toRat.f x577000 x577001).bind fun bt610 => ((impl_ItineraryOf.f k t607 bt610.1 bt610.2 x2).bind fun bt612 => ((laws_eqIntS.f k bt612.1 x8).bind fun t616 => (if t616 = true then (laws_FnExactItineraryOf.j2 k bt604.2 bt604.1 (bt612.2 != x9)) else (laws_FnExactItineraryOf.j2 k bt604.2 bt604.1 true)))))) else (some false)))))
def laws_FnExactItineraryOf.j2 : Nat → List Int → Int → Bool → Option (Bool)
 | 0, _, _, _ => none
 | k + 1, x11, x14, x100 => if x100 = true then (some false) else ((laws_heldIntS.f k x11 1).bind fun t617 => (if t617 < 0 then (some false) else (if t617 = x14 then (some true) else (some false))))
end
def laws_FnExactItineraryOf.f (k : Nat) (l0 : List (S72)) (a1_0 : Int) (a1_1 : Int) (a2 : Int) : Option (Bool) := (laws_szPointS.f l0 1048576).bind fun t577 => (if t577 < 0 then (some true) else ((laws_toPointS.f k l0).bind fun t578 => ((laws_toRat.f a1_0 a1_1).bind fun bt581 => ((spec_ItineraryOf.f k t578 bt581.1 bt581.2 a2).bind fun bt583 => ((laws_toPointS.f k l0).bind fun t587 => ((laws_toRat.f a1_0 a1_1).bind fun bt590 => ((impl_ItineraryOf.f k t587 bt590.1 bt590.2 a2).bind fun bt592 => ((laws_eqIntS.f k bt592.1 bt583.1).bind fun t596 => (if t596 = true then (laws_FnExactItineraryOf.j0 k l0 a2 bt583.1 bt583.2 t587 bt592.1 bt592.2 (bt592.2 != bt583.2) a1_0 a1_1) else (laws_FnExactItineraryOf.j0 k l0 a2 bt583.1 bt583.2 t587 bt592.1 bt592.2 true a1_0 a1_1))))))))))
def laws_FnExactItineraryOf.T5 : Bool × List (List Nat × List Nat) := (true, [([], []), ([0], [0]), ([], []), ([2, 1], [2]), ([], []), ([1, 3, 4, 3], [1, 3, 4]), ([5], [5]), ([6], [6]), ([6], [6]), ([7, 5, 0, 1, 2, 3, 4, 5, 6, 7], [7]), ([8, 9, 0, 1, 2, 3, 4, 5, 6, 7, 8, 9], [8])])
def laws_FnExactItineraryOf.B5 : List Nat := [0, 1, 0, 7, 0, 31, 63, 127, 127, 255, 1023]
theorem laws_FnExactItineraryOf.tab5 : rtab .any (opsOf Try.f11 5) = laws_FnExactItineraryOf.T5 := by kernel_rfl
theorem laws_FnExactItineraryOf.bits5 : waitsOk laws_FnExactItineraryOf.T5.2 laws_FnExactItineraryOf.B5 = true := by kernel_rfl
def laws_FnExactItineraryOf.T24 : Bool × List (List Nat × List Nat) := (true, [([], []), ([0], [0]), ([], []), ([2, 1], [2]), ([], []), ([1, 3, 4, 3], [1, 3, 4]), ([5], [5]), ([6], [6]), ([6], [6]), ([7, 5, 0, 1, 2, 3, 4, 5, 6, 7], [7]), ([8, 9, 0, 1, 2, 3, 4, 5, 6, 7, 8, 9], [8])])
def laws_FnExactItineraryOf.B24 : List Nat := [0, 1, 0, 7, 0, 31, 63, 127, 127, 255, 1023]
theorem laws_FnExactItineraryOf.tab24 : rtab .any (opsOf Try.f11 24) = laws_FnExactItineraryOf.T24 := by kernel_rfl
theorem laws_FnExactItineraryOf.bits24 : waitsOk laws_FnExactItineraryOf.T24.2 laws_FnExactItineraryOf.B24 = true := by kernel_rfl
set_option maxHeartbeats 8000000 in
set_option maxRecDepth 100000 in
theorem laws_FnExactItineraryOf.calls (k : Nat) (A0 : Option Addr) (c0 : Nat) (l0 : List (S72)) (a1_0 : Int) (a1_1 : Int) (a2 : Int) (r : Bool) (w : World) (hr0 : Kd.C k72 w A0 l0.length l0) (hc0 : l0.length ≤ c0) (h : laws_FnExactItineraryOf.f k l0 a1_0 a1_1 a2 = some r) :
  Calls Try.prog 11 #[.slice A0 l0.length c0, .agg #[.int .i64 a1_0, .int .i64 a1_1], .int .i64 a2] w fun e w' => e = .returned (.bool r) ∧ Below w.heap.size w w' := by
 have hu24 := Try.underlying24
 have HR0 := Aside0.mk hr0
 have HC0 := Aside0.mk hc0
 clear hr0 hc0
 have HB := Aside0.mk (Below.refl w.heap.size w)
 have H : ((laws_szPointS.f l0 1048576).bind fun t577 => (if t577 < 0 then (some true) else ((laws_toPointS.f k l0).bind fun t578 => ((laws_toRat.f a1_0 a1_1).bind fun bt581 => ((spec_ItineraryOf.f k t578 bt581.1 bt581.2 a2).bind fun bt583 => ((laws_toPointS.f k l0).bind fun t587 => ((laws_toRat.f a1_0 a1_1).bind fun bt590 => ((impl_ItineraryOf.f k t587 bt590.1 bt590.2 a2).bind fun bt592 => ((laws_eqIntS.f k bt592.1 bt583.1).bind fun t596 => (if t596 = true then (laws_FnExactItineraryOf.j0 k l0 a2 bt583.1 bt583.2 t587 bt592.1 bt592.2 (bt592.2 != bt583.2) a1_0 a1_1) else (laws_FnExactItineraryOf.j0 k l0 a2 bt583.1 bt583.2 t587 bt592.1 bt592.2 true a1_0 a1_1))))))))))) = some r := h
 clear h
 replace H := Option.bind_eq_some_iff.mp H
 obtain ⟨t577, A40, H⟩ := H
 replace H : (if t577 < 0 then (some true) else ((laws_toPointS.f k l0).bind fun t578 => ((laws_toRat.f a1_0 a1_1).bind fun bt581 => ((spec_ItineraryOf.f k t578 bt581.1 bt581.2 a2).bind fun bt583 => ((laws_toPointS.f k l0).bind fun t587 => ((laws_toRat.f a1_0 a1_1).bind fun bt590 => ((impl_ItineraryOf.f k t587 bt590.1 bt590.2 a2).bind fun bt592 => ((laws_eqIntS.f k bt592.1 bt583.1).bind fun t596 => (if t596 = true then (laws_FnExactItineraryOf.j0 k l0 a2 bt583.1 bt583.2 t587 bt592.1 bt592.2 (bt592.2 != bt583.2) a1_0 a1_1) else (laws_FnExactItineraryOf.j0 k l0 a2 bt583.1 bt583.2 t587 bt592.1 bt592.2 true a1_0 a1_1)))))))))) = some r := H
 have A4 := Aside0.mk A40
 clear A40
 by_cases c5 : t577 < 0
 ·rw [if_pos c5] at H
  have c5b0 : decide (t577 < 0) = true := decide_eq_true c5
  clear c5
  obtain rfl := Option.some.inj H
  go_enter Try.func11, Try.ntmps11
  go_wp2_with (first | ((with_reducible refine gate_dst (N := 4) rfl ?_); refine bx 4 #[.int .i64 a1_0, .int .i64 a1_1] 24 ?_; intro gb576 hg w6 hbox hb; have BK576 := Aside0.mk (hbox); have GW576 := Aside0.mk (bz hg); have GE576 := GW576; replace HB := kh hb; clear hb hbox hg) | ((with_reducible refine gate_callee (f := 12) rfl ?_); refine gl 20 Try.func12 #[.slice A0 l0.length c0, .int .i64 1048576] ?_; (with_reducible refine (laws_szPointS.calls _ _ l0 1048576 t577 _ ?side1 ?side2 A4.out).mono ?_); (case side1 => repeat (first | exact (Kd.C_below HR0.out HB.out) | (with_reducible refine Kd.C_alloc ?_ _) | (with_reducible refine Kd.C_drewN ?_ _) | (with_reducible refine Kd.C_drew ?_))); (case side2 => exact HC0.out); rintro e w' ⟨rfl, ⟨nd, rfl⟩⟩; refine ⟨_, rfl, ?_⟩))
  go_ret
  exact ⟨rt, bl⟩
 ·rw [if_neg c5] at H
  have c5b0 : decide (t577 < 0) = false := decide_eq_false c5
  clear c5
  replace H := Option.bind_eq_some_iff.mp H
  obtain ⟨t578, A70, H⟩ := H
  replace H : ((laws_toRat.f a1_0 a1_1).bind fun bt581 => ((spec_ItineraryOf.f k t578 bt581.1 bt581.2 a2).bind fun bt583 => ((laws_toPointS.f k l0).bind fun t587 => ((laws_toRat.f a1_0 a1_1).bind fun bt590 => ((impl_ItineraryOf.f k t587 bt590.1 bt590.2 a2).bind fun bt592 => ((laws_eqIntS.f k bt592.1 bt583.1).bind fun t596 => (if t596 = true then (laws_FnExactItineraryOf.j0 k l0 a2 bt583.1 bt583.2 t587 bt592.1 bt592.2 (bt592.2 != bt583.2) a1_0 a1_1) else (laws_FnExactItineraryOf.j0 k l0 a2 bt583.1 bt583.2 t587 bt592.1 bt592.2 true a1_0 a1_1)))))))) = some r := H
  have A7 := Aside0.mk A70
  clear A70
  replace H := Option.bind_eq_some_iff.mp H
  obtain ⟨⟨t581, t582⟩, A80, H⟩ := H
  replace H : ((spec_ItineraryOf.f k t578 t581 t582 a2).bind fun bt583 => ((laws_toPointS.f k l0).bind fun t587 => ((laws_toRat.f a1_0 a1_1).bind fun bt590 => ((impl_ItineraryOf.f k t587 bt590.1 bt590.2 a2).bind fun bt592 => ((laws_eqIntS.f k bt592.1 bt583.1).bind fun t596 => (if t596 = true then (laws_FnExactItineraryOf.j0 k l0 a2 bt583.1 bt583.2 t587 bt592.1 bt592.2 (bt592.2 != bt583.2) a1_0 a1_1) else (laws_FnExactItineraryOf.j0 k l0 a2 bt583.1 bt583.2 t587 bt592.1 bt592.2 true a1_0 a1_1))))))) = some r := H
  have A8 := Aside0.mk A80
  clear A80
  replace H := Option.bind_eq_some_iff.mp H
  obtain ⟨⟨t583, t586⟩, A90, H⟩ := H
  replace H : ((laws_toPointS.f k l0).bind fun t587 => ((laws_toRat.f a1_0 a1_1).bind fun bt590 => ((impl_ItineraryOf.f k t587 bt590.1 bt590.2 a2).bind fun bt592 => ((laws_eqIntS.f k bt592.1 t583).bind fun t596 => (if t596 = true then (laws_FnExactItineraryOf.j0 k l0 a2 t583 t586 t587 bt592.1 bt592.2 (bt592.2 != t586) a1_0 a1_1) else (laws_FnExactItineraryOf.j0 k l0 a2 t583 t586 t587 bt592.1 bt592.2 true a1_0 a1_1)))))) = some r := H
  have A9 := Aside0.mk A90
  clear A90
  replace H := Option.bind_eq_some_iff.mp H
  obtain ⟨t587, A100, H⟩ := H
  replace H : ((laws_toRat.f a1_0 a1_1).bind fun bt590 => ((impl_ItineraryOf.f k t587 bt590.1 bt590.2 a2).bind fun bt592 => ((laws_eqIntS.f k bt592.1 t583).bind fun t596 => (if t596 = true then (laws_FnExactItineraryOf.j0 k l0 a2 t583 t586 t587 bt592.1 bt592.2 (bt592.2 != t586) a1_0 a1_1) else (laws_FnExactItineraryOf.j0 k l0 a2 t583 t586 t587 bt592.1 bt592.2 true a1_0 a1_1))))) = some r := H
  have A10 := Aside0.mk A100
  clear A100
  replace H := Option.bind_eq_some_iff.mp H
  obtain ⟨⟨t590, t591⟩, A110, H⟩ := H
  replace H : ((impl_ItineraryOf.f k t587 t590 t591 a2).bind fun bt592 => ((laws_eqIntS.f k bt592.1 t583).bind fun t596 => (if t596 = true then (laws_FnExactItineraryOf.j0 k l0 a2 t583 t586 t587 bt592.1 bt592.2 (bt592.2 != t586) a1_0 a1_1) else (laws_FnExactItineraryOf.j0 k l0 a2 t583 t586 t587 bt592.1 bt592.2 true a1_0 a1_1)))) = some r := H
  have A11 := Aside0.mk A110
  clear A110
  replace H := Option.bind_eq_some_iff.mp H
  obtain ⟨⟨t592, t595⟩, A120, H⟩ := H
  replace H : ((laws_eqIntS.f k t592 t583).bind fun t596 => (if t596 = true then (laws_FnExactItineraryOf.j0 k l0 a2 t583 t586 t587 t592 t595 (t595 != t586) a1_0 a1_1) else (laws_FnExactItineraryOf.j0 k l0 a2 t583 t586 t587 t592 t595 true a1_0 a1_1))) = some r := H
  have A12 := Aside0.mk A120
  clear A120
  have HC13 := Aside0.mk H
  clear H
  go_enter Try.func11, Try.ntmps11
  try go_wp2_with (first | ((with_reducible refine gate_dst (N := 4) rfl ?_); refine bx 4 #[.int .i64 a1_0, .int .i64 a1_1] 24 ?_; intro gb576 hg w14 hbox hb; have BK576 := Aside0.mk (hbox); have GW576 := Aside0.mk (bz hg); have GE576 := GW576; replace HB := kh hb; clear hb hbox hg) | ((with_reducible refine gate_callee (f := 12) rfl ?_); refine gl 20 Try.func12 #[.slice A0 l0.length c0, .int .i64 1048576] ?_; (with_reducible refine (laws_szPointS.calls _ _ l0 1048576 t577 _ ?side1 ?side2 A4.out).mono ?_); (case side1 => repeat (first | exact (Kd.C_below HR0.out HB.out) | (with_reducible refine Kd.C_alloc ?_ _) | (with_reducible refine Kd.C_drewN ?_ _) | (with_reducible refine Kd.C_drew ?_))); (case side2 => exact HC0.out); rintro e w' ⟨rfl, ⟨nd, rfl⟩⟩; refine ⟨_, rfl, ?_⟩))
  (try (rw [drewN_self w14]; generalize hq_ : World.drewN w14 _ = w14; have n0_ : Aside0 (w14.heap[gb576]? = some (.cells #[.int .i64 a1_0, .int .i64 a1_1] 24 (0, 0))) := ⟨by rw [← hq_]; exact (bo gb576)⟩; have n1_ : Aside0 (Below w.heap.size w w14) := ⟨by rw [← hq_]; exact bl⟩; clear BK576 HB hq_; have BK576 := n0_; have HB := n1_; clear n0_ n1_))
  replace BK576 := Aside0.mk (blk_drew BK576.out)
  replace HB := Aside0.mk (below_drew1 HB.out)
  refine start_ (n := 11) (S := fun w' => w'.cell? ⟨gb576, 0, none⟩ = some (.int .i64 a1_0) ∧ w'.cell? ⟨gb576, 1, none⟩ = some (.int .i64 a1_1)) (ds := []) (tb 0 11) (by kernel_rfl) rfl rfl ⟨(blk_cell BK576.out 0).trans rfl, (blk_cell BK576.out 1).trans rfl⟩ (fun hHeld => ?_); refine with_tabW laws_FnExactItineraryOf.tab5 laws_FnExactItineraryOf.bits5 (fun HT_ HW_ => ?_)
  generalize w14.drew = w15 at BK576 HB hHeld ⊢
  refine pu 0 24 (tb 1 10) ?_
  refine pu 4 28 #[true, false, false, false, true, false, false, false, false, false, false] ?_
  refine tk 2 26 #[true, false, true, false, true, false, false, false, false, false, false] (hy := by rintro w' ⟨s0, s1⟩; go_simp; with_reducible rfl) (h := ?_)
  refine on 1 25 #[true, true, true, false, true, false, false, false, false, false, false] (fun K hK => ?_)
  refine gs Try.func14 #[.slice A0 l0.length c0] ?_
  with_reducible refine (laws_toPointS.calls k _ _ l0 t578 _ ?side1 ?side2 A7.out).mono ?_
  (case side1 => repeat (first | exact (Kd.C_below HR0.out HB.out) | (with_reducible refine Kd.C_alloc ?_ _) | (with_reducible refine Kd.C_drewN ?_ _) | (with_reducible refine Kd.C_drew ?_)))
  (case side2 => exact HC0.out)
  rintro e w16 ⟨v579, rfl, ho0, hb⟩
  refine ⟨_, rfl, ?_⟩
  have HO580 := Aside0.mk (Kd.R_lower ho0 (below_size bl))
  replace BK576 := kb BK576 hb
  replace HB := kh hb
  (try clear hb)
  (try clear hb2)
  (try clear hk)
  (try clear hi)
  (try clear ho0)
  refine hK.out _ _ ⟨(blk_cell BK576.out 0).trans rfl, (blk_cell BK576.out 1).trans rfl⟩ (fun hHeld => ?_)
  clear hK K
  refine nm 25 ?_
  refine on 3 27 (tb 5 6) (fun K hK => ?_)
  refine gs Try.func30 #[.agg #[.int .i64 a1_0, .int .i64 a1_1]] ?_
  with_reducible refine (laws_toRat.calls a1_0 a1_1 t581 t582 _ A8.out).mono ?_
  rintro e w17 ⟨rfl, hb⟩
  refine ⟨_, rfl, ?_⟩
  replace HO580 := Aside0.mk (Kd.R_below (by (with_reducible repeat (first | apply Kd.R_alloc | apply Kd.R_drewN | apply Kd.R_drew)); exact HO580.out) hb)
  replace BK576 := kb BK576 hb
  replace HB := kh hb
  (try clear hb)
  (try clear hb2)
  (try clear hk)
  (try clear hi)
  obtain ⟨Ao18, co18, eo18⟩ := Kd.R_slice HO580.out
  (first | subst eo18 | (injection eo18 with f1_ f2_ f3_; have f4_ := f1_.symm; have f5_ := f3_.symm; clear f1_ f2_ f3_; subst f4_; subst f5_))
  refine hK.out _ _ ⟨(blk_cell BK576.out 0).trans rfl, (blk_cell BK576.out 1).trans rfl⟩ (fun hHeld => ?_)
  clear hK K
  refine nm 27 ?_
  refine on 5 29 (tb 6 5) (fun K hK => ?_)
  refine gs Try.func40 #[.slice Ao18 t578.length co18, .agg #[.int .i64 t581, .int .i64 t582], .int .i64 a2] ?_
  with_reducible refine (spec_ItineraryOf.calls k _ _ t578 t581 t582 a2 t583 t586 _ ?side1 ?side2 A9.out).mono ?_
  (case side1 => repeat (first | exact (Kd.R_reads' HO580.out).2.2 | (with_reducible refine Kd.C_alloc ?_ _) | (with_reducible refine Kd.C_drewN ?_ _) | (with_reducible refine Kd.C_drew ?_)))
  (case side2 => exact (Kd.R_reads' HO580.out).2.1)
  rintro e w19 ⟨v584, rfl, ho0, hb⟩
  refine ⟨_, rfl, ?_⟩
  have HO585 := Aside0.mk (Kd.R_lower ho0 (below_size bl))
  replace HO580 := Aside0.mk (Kd.R_below (by (with_reducible repeat (first | apply Kd.R_alloc | apply Kd.R_drewN | apply Kd.R_drew)); exact HO580.out) hb)
  replace BK576 := kb BK576 hb
  replace HB := kh hb
  (try clear hb)
  (try clear hb2)
  (try clear hk)
  (try clear hi)
  (try clear ho0)
  refine hK.out _ _ ⟨(blk_cell BK576.out 0).trans rfl, (blk_cell BK576.out 1).trans rfl⟩ (fun hHeld => ?_)
  clear hK K
  refine nm 29 ?_
  refine pu 6 23 (tb 7 4) ?_
  refine pu 7 30 (tb 8 3) ?_
  refine pu 8 31 (tb 9 2) ?_
  refine pu 9 8 (tb 10 1) ?_
  refine pu 10 9 (tb 11 0) ?_
  refine done_ (done_of HT_.out (by kernel_rfl)) ?_
  go_upto_region 8 with (first | ((with_reducible refine gate_callee (f := 14) rfl ?_); refine gl 33 Try.func14 #[.slice A0 l0.length c0] ?_; (with_reducible refine (laws_toPointS.calls k _ _ l0 t587 _ ?side1 ?side2 A10.out).mono ?_); (case side1 => repeat (first | exact (Kd.C_below HR0.out HB.out) | (with_reducible refine Kd.C_alloc ?_ _) | (with_reducible refine Kd.C_drewN ?_ _) | (with_reducible refine Kd.C_drew ?_))); (case side2 => exact HC0.out); rintro e w20 ⟨v588, rfl, ho0, hb⟩; refine ⟨_, rfl, ?_⟩; have HO589 := Aside0.mk (Kd.R_lower (Kd.R_new' ho0 (Kd.R_lt (by (with_reducible repeat (first | apply Kd.R_alloc | apply Kd.R_drewN | apply Kd.R_drew)); exact HO580.out))) (below_size bl)); replace HO580 := Aside0.mk (Kd.R_elder' (by (with_reducible repeat (first | apply Kd.R_alloc | apply Kd.R_drewN | apply Kd.R_drew)); exact HO580.out) (Kd.R_base ho0) hb); replace HO585 := Aside0.mk (Kd.R_below (by (with_reducible repeat (first | apply Kd.R_alloc | apply Kd.R_drewN | apply Kd.R_drew)); exact HO585.out) hb); replace BK576 := kb BK576 hb; replace HB := kh hb; (try clear hb); (try clear hb2); (try clear hk); (try clear hi); (try clear ho0); obtain ⟨hcz21_0, hcz21_1, hfz21_0, hfz21_1⟩ := b2 BK576) | ((with_reducible refine gate_callee (f := 30) rfl ?_); refine gl 37 Try.func30 #[.agg #[.int .i64 a1_0, .int .i64 a1_1]] ?_; (with_reducible refine (laws_toRat.calls a1_0 a1_1 t590 t591 _ A11.out).mono ?_); rintro e w22 ⟨rfl, hb⟩; refine ⟨_, rfl, ?_⟩; replace HO580 := Aside0.mk (Kd.R_below (by (with_reducible repeat (first | apply Kd.R_alloc | apply Kd.R_drewN | apply Kd.R_drew)); exact HO580.out) hb); replace HO585 := Aside0.mk (Kd.R_below (by (with_reducible repeat (first | apply Kd.R_alloc | apply Kd.R_drewN | apply Kd.R_drew)); exact HO585.out) hb); replace HO589 := Aside0.mk (Kd.R_below (by (with_reducible repeat (first | apply Kd.R_alloc | apply Kd.R_drewN | apply Kd.R_drew)); exact HO589.out) hb); replace BK576 := kb BK576 hb; replace HB := kh hb; (try clear hb); (try clear hb2); (try clear hk); (try clear hi); obtain ⟨Ao23, co23, eo23⟩ := Kd.R_slice HO589.out; subst eo23) | ((with_reducible refine gate_callee (f := 41) rfl ?_); refine gl 39 Try.func41 #[.slice Ao23 t587.length co23, .agg #[.int .i64 t590, .int .i64 t591], .int .i64 a2] ?_; (with_reducible refine (impl_ItineraryOf.calls k _ _ t587 t590 t591 a2 t592 t595 _ ?side1 ?side2 A12.out).mono ?_); (case side1 => repeat (first | exact (Kd.R_reads' HO589.out).2.2 | (with_reducible refine Kd.C_alloc ?_ _) | (with_reducible refine Kd.C_drewN ?_ _) | (with_reducible refine Kd.C_drew ?_))); (case side2 => exact (Kd.R_reads' HO589.out).2.1); rintro e w24 ⟨v593, rfl, ho0, hb⟩; refine ⟨_, rfl, ?_⟩; have HO594 := Aside0.mk (Kd.R_lower (Kd.R_new' ho0 (Kd.R_lt (by (with_reducible repeat (first | apply Kd.R_alloc | apply Kd.R_drewN | apply Kd.R_drew)); exact HO585.out))) (below_size bl)); replace HO580 := Aside0.mk (Kd.R_below (by (with_reducible repeat (first | apply Kd.R_alloc | apply Kd.R_drewN | apply Kd.R_drew)); exact HO580.out) hb); replace HO585 := Aside0.mk (Kd.R_elder' (by (with_reducible repeat (first | apply Kd.R_alloc | apply Kd.R_drewN | apply Kd.R_drew)); exact HO585.out) (Kd.R_base ho0) hb); replace HO589 := Aside0.mk (Kd.R_below (by (with_reducible repeat (first | apply Kd.R_alloc | apply Kd.R_drewN | apply Kd.R_drew)); exact HO589.out) hb); replace BK576 := kb BK576 hb; replace HB := kh hb; (try clear hb); (try clear hb2); (try clear hk); (try clear hi); (try clear ho0)))
  (try simp only [Act.put, List.setIfInBounds_toArray, List.set_cons_zero, List.set_cons_succ])
  go_cut [50] (fun v50 wc => ∃ (kq : Nat) (x50_12 : Bool), v50 = .bool x50_12 ∧ Aside0 (laws_FnExactItineraryOf.j0 kq l0 a2 t583 t586 t587 t592 t595 x50_12 a1_0 a1_1 = some r) ∧ Aside0 (kq ≤ k) ∧ Aside0 (Kd.R (Kd.int .i64) 3 wc w.heap.size (fun k_ => some k_ ≠ (v593 : Value).ownBlock) v584 t583) ∧ Aside0 (Kd.R k68 68 wc w.heap.size (fun _ => True) (.slice Ao23 t587.length co23) t587) ∧ Aside0 (Kd.R (Kd.int .i64) 3 wc w.heap.size (fun k_ => some k_ ≠ (v584 : Value).ownBlock) v593 t592) ∧ Aside0 (wc.heap[gb576]? = some (.cells #[.int .i64 a1_0, .int .i64 a1_1] 24 (0, 0))) ∧ Aside0 (Below w.heap.size w wc))
  case first =>
   have H := HC13.out
   clear HC13
   replace H := Option.bind_eq_some_iff.mp H
   obtain ⟨t596, A250, H⟩ := H
   replace H : (if t596 = true then (laws_FnExactItineraryOf.j0 k l0 a2 t583 t586 t587 t592 t595 (t595 != t586) a1_0 a1_1) else (laws_FnExactItineraryOf.j0 k l0 a2 t583 t586 t587 t592 t595 true a1_0 a1_1)) = some r := H
   have A25 := Aside0.mk A250
   clear A250
   by_cases c26 : t596 = true
   ·subst c26
    have H1 : (laws_FnExactItineraryOf.j0 k l0 a2 t583 t586 t587 t592 t595 (t595 != t586) a1_0 a1_1) = some r := by rw [if_pos rfl] at H; exact H
    clear H
    have H := H1
    clear H1
    have H' := Aside0.mk H
    clear H
    obtain ⟨Ao27, co27, eo27⟩ := Kd.R_slice HO594.out
    subst eo27
    obtain ⟨Ao28, co28, eo28⟩ := Kd.R_slice HO585.out
    subst eo28
    go_wp2_with (first | ((with_reducible refine gate_callee (f := 22) rfl ?_); refine gl 44 Try.func22 #[.slice Ao27 t592.length co27, .slice Ao28 t583.length co28] ?_; (with_reducible refine (laws_eqIntS.calls k _ _ t592 _ _ t583 true _ ?side1 ?side2 ?side3 ?side4 A25.out).mono ?_); (case side1 => repeat (first | exact (Kd.R_reads' HO594.out).2.2 | (with_reducible refine Kd.C_alloc ?_ _) | (with_reducible refine Kd.C_drewN ?_ _) | (with_reducible refine Kd.C_drew ?_))); (case side2 => exact (Kd.R_reads' HO594.out).2.1); (case side3 => repeat (first | exact (Kd.R_reads' HO585.out).2.2 | (with_reducible refine Kd.C_alloc ?_ _) | (with_reducible refine Kd.C_drewN ?_ _) | (with_reducible refine Kd.C_drew ?_))); (case side4 => exact (Kd.R_reads' HO585.out).2.1); rintro e w' ⟨rfl, ⟨nd, rfl⟩⟩; refine ⟨_, rfl, ?_⟩))
    go_meet
    case rel => exact ⟨_, ((t595 != t586)), rs, H', ⟨by first | omega | exact Nat.le_refl _⟩, ⟨by (with_reducible repeat (first | apply Kd.R_alloc | apply Kd.R_drewN | apply Kd.R_drew)); exact Kd.R_mono HO585.out (fun _ hk => hk.2)⟩, ⟨by (with_reducible repeat (first | apply Kd.R_alloc | apply Kd.R_drewN | apply Kd.R_drew)); exact Kd.R_mono HO589.out (fun _ hk => trivial)⟩, ⟨by (with_reducible repeat (first | apply Kd.R_alloc | apply Kd.R_drewN | apply Kd.R_drew)); exact Kd.R_mono HO594.out (fun _ hk => hk.2)⟩, ⟨by (with_reducible repeat (first | refine blk_drewN ?_ _ | refine blk_drew ?_ | refine blk_alloc ?_ _)); exact BK576.out⟩, ⟨bl⟩⟩
   ·replace c26 := Bool.eq_false_iff.mpr c26
    subst c26
    have H1 : (laws_FnExactItineraryOf.j0 k l0 a2 t583 t586 t587 t592 t595 true a1_0 a1_1) = some r := by rw [if_neg (show ¬ (false = true) by decide)] at H; exact H
    clear H
    have H := H1
    clear H1
    have H' := Aside0.mk H
    clear H
    obtain ⟨Ao29, co29, eo29⟩ := Kd.R_slice HO594.out
    subst eo29
    obtain ⟨Ao30, co30, eo30⟩ := Kd.R_slice HO585.out
    subst eo30
    go_wp2_with (first | ((with_reducible refine gate_callee (f := 22) rfl ?_); refine gl 44 Try.func22 #[.slice Ao29 t592.length co29, .slice Ao30 t583.length co30] ?_; (with_reducible refine (laws_eqIntS.calls k _ _ t592 _ _ t583 false _ ?side1 ?side2 ?side3 ?side4 A25.out).mono ?_); (case side1 => repeat (first | exact (Kd.R_reads' HO594.out).2.2 | (with_reducible refine Kd.C_alloc ?_ _) | (with_reducible refine Kd.C_drewN ?_ _) | (with_reducible refine Kd.C_drew ?_))); (case side2 => exact (Kd.R_reads' HO594.out).2.1); (case side3 => repeat (first | exact (Kd.R_reads' HO585.out).2.2 | (with_reducible refine Kd.C_alloc ?_ _) | (with_reducible refine Kd.C_drewN ?_ _) | (with_reducible refine Kd.C_drew ?_))); (case side4 => exact (Kd.R_reads' HO585.out).2.1); rintro e w' ⟨rfl, ⟨nd, rfl⟩⟩; refine ⟨_, rfl, ?_⟩))
    go_meet
    case rel => exact ⟨_, (true), rs, H', ⟨by first | omega | exact Nat.le_refl _⟩, ⟨by (with_reducible repeat (first | apply Kd.R_alloc | apply Kd.R_drewN | apply Kd.R_drew)); exact Kd.R_mono HO585.out (fun _ hk => hk.2)⟩, ⟨by (with_reducible repeat (first | apply Kd.R_alloc | apply Kd.R_drewN | apply Kd.R_drew)); exact Kd.R_mono HO589.out (fun _ hk => trivial)⟩, ⟨by (with_reducible repeat (first | apply Kd.R_alloc | apply Kd.R_drewN | apply Kd.R_drew)); exact Kd.R_mono HO594.out (fun _ hk => hk.2)⟩, ⟨by (with_reducible repeat (first | refine blk_drewN ?_ _ | refine blk_drew ?_ | refine blk_alloc ?_ _)); exact BK576.out⟩, ⟨bl⟩⟩
  case rest =>
   clear HC13
   try clear c1
   try clear c2
   try clear p2
   try clear c3
   try clear c4
   try clear c5
   try clear c5b0
   try clear c11
   try clear c12
   try clear c14
   try clear c22
   try clear c26
   try clear c30
   try clear hcz21_0
   try clear hcz21_1
   try clear hfz21_0
   try clear hfz21_1
   obtain ⟨kq, x50_12, rfl, HA, HJ12, HO_8, HO_10, HO_11, BK576, HB⟩ := hcut
   cases kq with
   | zero => exact absurd HA.out (by simp [laws_FnExactItineraryOf.j0])
   | succ kj12 =>
    have H := HA.out
    clear HA
    simp only [laws_FnExactItineraryOf.j0] at H
    by_cases c31 : x50_12 = true
    ·subst c31
     have H1 : (some false) = some r := by rw [if_pos rfl] at H; exact H
     clear H
     have H := H1
     clear H1
     obtain rfl := Option.some.inj H
     go_wp2
     go_ret
     exact ⟨rt, bl⟩
    ·replace c31 := Bool.eq_false_iff.mpr c31
     subst c31
     have H1 : ((laws_toPointS.f kj12 l0).bind fun t597 => ((laws_eqPointS.f kj12 t587 t597).bind fun t600 => (if t600 = true then ((laws_markPointS.f kj12 t587 1).bind fun bt601 => (if bt601.1 < 0 then (laws_FnExactItineraryOf.j1 kj12 l0 a2 t583 t586 t592 true a1_0 a1_1) else ((laws_eqIntS.f kj12 t592 t583).bind fun t603 => (if t603 = true then (laws_FnExactItineraryOf.j1 kj12 l0 a2 t583 t586 t592 (t595 != t586) a1_0 a1_1) else (laws_FnExactItineraryOf.j1 kj12 l0 a2 t583 t586 t592 true a1_0 a1_1))))) else (some false)))) = some r := by rw [if_neg (show ¬ (false = true) by decide)] at H; exact H
     clear H
     have H := H1
     clear H1
     replace H := Option.bind_eq_some_iff.mp H
     obtain ⟨t597, A320, H⟩ := H
     replace H : ((laws_eqPointS.f kj12 t587 t597).bind fun t600 => (if t600 = true then ((laws_markPointS.f kj12 t587 1).bind fun bt601 => (if bt601.1 < 0 then (laws_FnExactItineraryOf.j1 kj12 l0 a2 t583 t586 t592 true a1_0 a1_1) else ((laws_eqIntS.f kj12 t592 t583).bind fun t603 => (if t603 = true then (laws_FnExactItineraryOf.j1 kj12 l0 a2 t583 t586 t592 (t595 != t586) a1_0 a1_1) else (laws_FnExactItineraryOf.j1 kj12 l0 a2 t583 t586 t592 true a1_0 a1_1))))) else (some false))) = some r := H
     have A32 := Aside0.mk A320
     clear A320
     replace H := Option.bind_eq_some_iff.mp H
     obtain ⟨t600, A330, H⟩ := H
     replace H : (if t600 = true then ((laws_markPointS.f kj12 t587 1).bind fun bt601 => (if bt601.1 < 0 then (laws_FnExactItineraryOf.j1 kj12 l0 a2 t583 t586 t592 true a1_0 a1_1) else ((laws_eqIntS.f kj12 t592 t583).bind fun t603 => (if t603 = true then (laws_FnExactItineraryOf.j1 kj12 l0 a2 t583 t586 t592 (t595 != t586) a1_0 a1_1) else (laws_FnExactItineraryOf.j1 kj12 l0 a2 t583 t586 t592 true a1_0 a1_1))))) else (some false)) = some r := H
     have A33 := Aside0.mk A330
     clear A330
     by_cases c34 : t600 = true
     ·subst c34
      have H1 : ((laws_markPointS.f kj12 t587 1).bind fun bt601 => (if bt601.1 < 0 then (laws_FnExactItineraryOf.j1 kj12 l0 a2 t583 t586 t592 true a1_0 a1_1) else ((laws_eqIntS.f kj12 t592 t583).bind fun t603 => (if t603 = true then (laws_FnExactItineraryOf.j1 kj12 l0 a2 t583 t586 t592 (t595 != t586) a1_0 a1_1) else (laws_FnExactItineraryOf.j1 kj12 l0 a2 t583 t586 t592 true a1_0 a1_1))))) = some r := by rw [if_pos rfl] at H; exact H
      clear H
      have H := H1
      clear H1
      replace H := Option.bind_eq_some_iff.mp H
      obtain ⟨⟨t601, t602⟩, A350, H⟩ := H
      replace H : (if t601 < 0 then (laws_FnExactItineraryOf.j1 kj12 l0 a2 t583 t586 t592 true a1_0 a1_1) else ((laws_eqIntS.f kj12 t592 t583).bind fun t603 => (if t603 = true then (laws_FnExactItineraryOf.j1 kj12 l0 a2 t583 t586 t592 (t595 != t586) a1_0 a1_1) else (laws_FnExactItineraryOf.j1 kj12 l0 a2 t583 t586 t592 true a1_0 a1_1)))) = some r := H
      have A35 := Aside0.mk A350
      clear A350
      have HC36 := Aside0.mk H
      clear H
      go_upto_region 14 with (first | ((with_reducible refine gate_callee (f := 14) rfl ?_); refine gl 53 Try.func14 #[.slice A0 l0.length c0] ?_; (with_reducible refine (laws_toPointS.calls kj12 _ _ l0 t597 _ ?side1 ?side2 A32.out).mono ?_); (case side1 => repeat (first | exact (Kd.C_below HR0.out HB.out) | (with_reducible refine Kd.C_alloc ?_ _) | (with_reducible refine Kd.C_drewN ?_ _) | (with_reducible refine Kd.C_drew ?_))); (case side2 => exact HC0.out); rintro e w37 ⟨v598, rfl, ho0, hb⟩; refine ⟨_, rfl, ?_⟩; have HO599 := Aside0.mk (Kd.R_lower (Kd.R_new' ho0 (Kd.R_lt (by (with_reducible repeat (first | apply Kd.R_alloc | apply Kd.R_drewN | apply Kd.R_drew)); exact HO_10.out))) (below_size bl)); replace HO_8 := Aside0.mk (Kd.R_below (by (with_reducible repeat (first | apply Kd.R_alloc | apply Kd.R_drewN | apply Kd.R_drew)); exact HO_8.out) hb); replace HO_10 := Aside0.mk (Kd.R_elder' (by (with_reducible repeat (first | apply Kd.R_alloc | apply Kd.R_drewN | apply Kd.R_drew)); exact HO_10.out) (Kd.R_base ho0) hb); replace HO_11 := Aside0.mk (Kd.R_below (by (with_reducible repeat (first | apply Kd.R_alloc | apply Kd.R_drewN | apply Kd.R_drew)); exact HO_11.out) hb); replace BK576 := kb BK576 hb; replace HB := kh hb; (try clear hb); (try clear hb2); (try clear hk); (try clear hi); (try clear ho0); obtain ⟨Ao38, co38, eo38⟩ := Kd.R_slice HO599.out; subst eo38) | ((with_reducible refine gate_callee (f := 18) rfl ?_); refine gl 54 Try.func18 #[.slice Ao23 t587.length co23, .slice Ao38 t597.length co38] ?_; (with_reducible refine (laws_eqPointS.calls kj12 _ _ t587 _ _ t597 true _ ?side1 ?side2 ?side3 ?side4 A33.out).mono ?_); (case side1 => repeat (first | exact (Kd.R_reads' HO_10.out).2.2 | (with_reducible refine Kd.C_alloc ?_ _) | (with_reducible refine Kd.C_drewN ?_ _) | (with_reducible refine Kd.C_drew ?_))); (case side2 => exact (Kd.R_reads' HO_10.out).2.1); (case side3 => repeat (first | exact (Kd.R_reads' HO599.out).2.2 | (with_reducible refine Kd.C_alloc ?_ _) | (with_reducible refine Kd.C_drewN ?_ _) | (with_reducible refine Kd.C_drew ?_))); (case side4 => exact (Kd.R_reads' HO599.out).2.1); rintro e w39 ⟨rfl, hb⟩; refine ⟨_, rfl, ?_⟩; replace HO_8 := Aside0.mk (Kd.R_below (by (with_reducible repeat (first | apply Kd.R_alloc | apply Kd.R_drewN | apply Kd.R_drew)); exact HO_8.out) hb); replace HO_10 := Aside0.mk (Kd.R_below (by (with_reducible repeat (first | apply Kd.R_alloc | apply Kd.R_drewN | apply Kd.R_drew)); exact HO_10.out) hb); replace HO_11 := Aside0.mk (Kd.R_below (by (with_reducible repeat (first | apply Kd.R_alloc | apply Kd.R_drewN | apply Kd.R_drew)); exact HO_11.out) hb); replace HO599 := Aside0.mk (Kd.R_below (by (with_reducible repeat (first | apply Kd.R_alloc | apply Kd.R_drewN | apply Kd.R_drew)); exact HO599.out) hb); replace BK576 := kb BK576 hb; replace HB := kh hb; (try clear hb); (try clear hb2); (try clear hk); (try clear hi)) | ((with_reducible refine gate_callee (f := 32) rfl ?_); refine gl 58 Try.func32 #[.slice Ao23 t587.length co23, .int .i64 1] ?_; (with_reducible refine (laws_markPointS.calls kj12 (fun k_ => some k_ = (.slice Ao23 t587.length co23 : Value).ownBlock) (.slice Ao23 t587.length co23) t587 1 t601 t602 w _ ?side1 ?side2 A35.out).mono ?_); (case side1 => repeat (first | (with_reducible first | exact HB.out | apply below_alloc | apply pw_below_drewN | apply below_drew1 | refine below_set ?_ GE576.out) | exact HB.out)); (case side2 => exact Kd.R_tight rfl HO_10.out); rintro e w40 ⟨rfl, hy0, hb, hkp⟩; refine ⟨_, rfl, ?_⟩; replace HO_8 := Aside0.mk (Kd.R_mono (ok' := fun k_ => some k_ ≠ (v593 : Value).ownBlock) (Kd.R_keptB ((Kd.R_apart' HO_8.out (Kd.R_typed HO_10.out) (by decide))) hkp (fun k_ hk_ hs_ => (hk_.2) hs_)) (fun k_ hk_ => hk_.1.1)); replace HO_11 := Aside0.mk (Kd.R_mono (ok' := fun k_ => some k_ ≠ (v584 : Value).ownBlock) (Kd.R_keptB ((Kd.R_apart' HO_11.out (Kd.R_typed HO_10.out) (by decide))) hkp (fun k_ hk_ hs_ => (hk_.2) hs_)) (fun k_ hk_ => hk_.1.1)); replace BK576 := Aside0.mk (blk_kept (bo gb576) hkp (fun hs_ => (fun e_ => (Kd.R_ne HO_10.out BK576.out (by decide)) e_) hs_)); replace HO_10 := Aside0.mk (Kd.R_reok rfl hy0 (fun k_ e_ => HO_10.out.1 k_ e_)); replace HO599 := Aside0.mk (Kd.R_mono (ok' := fun k_ => some k_ ≠ (.slice Ao23 t587.length co23 : Value).ownBlock) (Kd.R_keptB (HO599.out) hkp (fun k_ hk_ hs_ => (hk_.2) hs_)) (fun k_ hk_ => hk_.1.2)); replace HB := Aside0.mk (hb); (try clear hb); (try clear hkp); (try clear hy0)))
      (try simp only [Act.put, List.setIfInBounds_toArray, List.set_cons_zero, List.set_cons_succ])
      go_cut [71] (fun v71 wc => ∃ (kq : Nat) (x71_35 : Bool), v71 = .bool x71_35 ∧ Aside0 (laws_FnExactItineraryOf.j1 kq l0 a2 t583 t586 t592 x71_35 a1_0 a1_1 = some r) ∧ Aside0 (kq ≤ kj12) ∧ Aside0 (Kd.R (Kd.int .i64) 3 wc w.heap.size (fun k_ => some k_ ≠ (v593 : Value).ownBlock) v584 t583) ∧ Aside0 (Kd.R (Kd.int .i64) 3 wc w.heap.size (fun k_ => some k_ ≠ (v584 : Value).ownBlock) v593 t592) ∧ Aside0 (wc.heap[gb576]? = some (.cells #[.int .i64 a1_0, .int .i64 a1_1] 24 (0, 0))) ∧ Aside0 (Below w.heap.size w wc))
      case first =>
       have H := HC36.out
       clear HC36
       by_cases c41 : t601 < 0
       ·rw [if_pos c41] at H
        have c41b0 : decide (t601 < 0) = true := decide_eq_true c41
        clear c41
        (first | rw [c41b0] | (simp only [i64_w, i32_w]; rw [c41b0]) | skip)
        have H' := Aside0.mk H
        clear H
        go_wp2
        go_meet
        case rel => exact ⟨_, (true), rs, H', ⟨by have := HJ12.out; first | omega | exact Nat.le_refl _⟩, ⟨by (with_reducible repeat (first | apply Kd.R_alloc | apply Kd.R_drewN | apply Kd.R_drew)); exact HO_8.out⟩, ⟨by (with_reducible repeat (first | apply Kd.R_alloc | apply Kd.R_drewN | apply Kd.R_drew)); exact HO_11.out⟩, ⟨by (with_reducible repeat (first | refine blk_drewN ?_ _ | refine blk_drew ?_ | refine blk_alloc ?_ _)); exact BK576.out⟩, ⟨bl⟩⟩
       ·rw [if_neg c41] at H
        have c41b0 : decide (t601 < 0) = false := decide_eq_false c41
        clear c41
        (first | rw [c41b0] | (simp only [i64_w, i32_w]; rw [c41b0]) | skip)
        replace H := Option.bind_eq_some_iff.mp H
        obtain ⟨t603, A420, H⟩ := H
        replace H : (if t603 = true then (laws_FnExactItineraryOf.j1 kj12 l0 a2 t583 t586 t592 (t595 != t586) a1_0 a1_1) else (laws_FnExactItineraryOf.j1 kj12 l0 a2 t583 t586 t592 true a1_0 a1_1)) = some r := H
        have A42 := Aside0.mk A420
        clear A420
        by_cases c43 : t603 = true
        ·subst c43
         have H1 : (laws_FnExactItineraryOf.j1 kj12 l0 a2 t583 t586 t592 (t595 != t586) a1_0 a1_1) = some r := by rw [if_pos rfl] at H; exact H
         clear H
         have H := H1
         clear H1
         have H' := Aside0.mk H
         clear H
         obtain ⟨Ao44, co44, eo44⟩ := Kd.R_slice HO_11.out
         subst eo44
         obtain ⟨Ao45, co45, eo45⟩ := Kd.R_slice HO_8.out
         subst eo45
         go_wp2_with (first | (go_at_call 22; (with_reducible refine (laws_eqIntS.calls kj12 _ _ t592 _ _ t583 true _ ?side1 ?side2 ?side3 ?side4 A42.out).mono ?_); (case side1 => repeat (first | exact (Kd.R_reads' HO_11.out).2.2 | (with_reducible refine Kd.C_alloc ?_ _) | (with_reducible refine Kd.C_drewN ?_ _) | (with_reducible refine Kd.C_drew ?_))); (case side2 => exact (Kd.R_reads' HO_11.out).2.1); (case side3 => repeat (first | exact (Kd.R_reads' HO_8.out).2.2 | (with_reducible refine Kd.C_alloc ?_ _) | (with_reducible refine Kd.C_drewN ?_ _) | (with_reducible refine Kd.C_drew ?_))); (case side4 => exact (Kd.R_reads' HO_8.out).2.1); rintro e w' ⟨rfl, ⟨nd, rfl⟩⟩))
         go_meet
         case rel => exact ⟨_, ((t595 != t586)), rs, H', ⟨by have := HJ12.out; first | omega | exact Nat.le_refl _⟩, ⟨by (with_reducible repeat (first | apply Kd.R_alloc | apply Kd.R_drewN | apply Kd.R_drew)); exact HO_8.out⟩, ⟨by (with_reducible repeat (first | apply Kd.R_alloc | apply Kd.R_drewN | apply Kd.R_drew)); exact HO_11.out⟩, ⟨by (with_reducible repeat (first | refine blk_drewN ?_ _ | refine blk_drew ?_ | refine blk_alloc ?_ _)); exact BK576.out⟩, ⟨bl⟩⟩
        ·replace c43 := Bool.eq_false_iff.mpr c43
         subst c43
         have H1 : (laws_FnExactItineraryOf.j1 kj12 l0 a2 t583 t586 t592 true a1_0 a1_1) = some r := by rw [if_neg (show ¬ (false = true) by decide)] at H; exact H
         clear H
         have H := H1
         clear H1
         have H' := Aside0.mk H
         clear H
         obtain ⟨Ao46, co46, eo46⟩ := Kd.R_slice HO_11.out
         subst eo46
         obtain ⟨Ao47, co47, eo47⟩ := Kd.R_slice HO_8.out
         subst eo47
         go_wp2_with (first | (go_at_call 22; (with_reducible refine (laws_eqIntS.calls kj12 _ _ t592 _ _ t583 false _ ?side1 ?side2 ?side3 ?side4 A42.out).mono ?_); (case side1 => repeat (first | exact (Kd.R_reads' HO_11.out).2.2 | (with_reducible refine Kd.C_alloc ?_ _) | (with_reducible refine Kd.C_drewN ?_ _) | (with_reducible refine Kd.C_drew ?_))); (case side2 => exact (Kd.R_reads' HO_11.out).2.1); (case side3 => repeat (first | exact (Kd.R_reads' HO_8.out).2.2 | (with_reducible refine Kd.C_alloc ?_ _) | (with_reducible refine Kd.C_drewN ?_ _) | (with_reducible refine Kd.C_drew ?_))); (case side4 => exact (Kd.R_reads' HO_8.out).2.1); rintro e w' ⟨rfl, ⟨nd, rfl⟩⟩))
         go_meet
         case rel => exact ⟨_, (true), rs, H', ⟨by have := HJ12.out; first | omega | exact Nat.le_refl _⟩, ⟨by (with_reducible repeat (first | apply Kd.R_alloc | apply Kd.R_drewN | apply Kd.R_drew)); exact HO_8.out⟩, ⟨by (with_reducible repeat (first | apply Kd.R_alloc | apply Kd.R_drewN | apply Kd.R_drew)); exact HO_11.out⟩, ⟨by (with_reducible repeat (first | refine blk_drewN ?_ _ | refine blk_drew ?_ | refine blk_alloc ?_ _)); exact BK576.out⟩, ⟨bl⟩⟩
      case rest =>
       clear HC36
       try clear c1
       try clear c2
       try clear p2
       try clear c3
       try clear c4
       try clear c5
       try clear c5b0
       try clear c11
       try clear c12
       try clear c14
       try clear c18
       try clear c22
       try clear c26
       try clear c30
       try clear c31
       try clear c32
       try clear c34
       try clear c40
       try clear c41
       try clear c41b0
       try clear c43
       try clear hcz21_0
       try clear hcz21_1
       try clear hfz21_0
       try clear hfz21_1
       try clear p2
       obtain ⟨kq, x71_35, rfl, HA, HJ35, HO_8, HO_11, BK576, HB⟩ := hcut
       cases kq with
       | zero => exact absurd HA.out (by simp [laws_FnExactItineraryOf.j1])
       | succ kj35 =>
        have H := HA.out
        clear HA
        simp only [laws_FnExactItineraryOf.j1] at H
        by_cases c48 : x71_35 = true
        ·subst c48
         have H1 : (some false) = some r := by rw [if_pos rfl] at H; exact H
         clear H
         have H := H1
         clear H1
         obtain rfl := Option.some.inj H
         go_wp2
         go_ret
         exact ⟨rt, bl⟩
        ·replace c48 := Bool.eq_false_iff.mpr c48
         subst c48
         have H1 : ((laws_markIntS.f kj35 t592 1).bind fun bt604 => ((laws_heldIntS.f kj35 bt604.2 1).bind fun t606 => (if t606 < 0 then (some false) else (if t606 = bt604.1 then ((laws_toPointS.f kj35 l0).bind fun t607 => ((laws_toRat.f a1_0 a1_1).bind fun bt610 => ((impl_ItineraryOf.f kj35 t607 bt610.1 bt610.2 a2).bind fun bt612 => ((laws_eqIntS.f kj35 bt612.1 t583).bind fun t616 => (if t616 = true then (laws_FnExactItineraryOf.j2 kj35 bt604.2 bt604.1 (bt612.2 != t586)) else (laws_FnExactItineraryOf.j2 kj35 bt604.2 bt604.1 true)))))) else (some false))))) = some r := by rw [if_neg (show ¬ (false = true) by decide)] at H; exact H
         clear H
         have H := H1
         clear H1
         replace H := Option.bind_eq_some_iff.mp H
         obtain ⟨⟨t604, t605⟩, A490, H⟩ := H
         replace H : ((laws_heldIntS.f kj35 t605 1).bind fun t606 => (if t606 < 0 then (some false) else (if t606 = t604 then ((laws_toPointS.f kj35 l0).bind fun t607 => ((laws_toRat.f a1_0 a1_1).bind fun bt610 => ((impl_ItineraryOf.f kj35 t607 bt610.1 bt610.2 a2).bind fun bt612 => ((laws_eqIntS.f kj35 bt612.1 t583).bind fun t616 => (if t616 = true then (laws_FnExactItineraryOf.j2 kj35 t605 t604 (bt612.2 != t586)) else (laws_FnExactItineraryOf.j2 kj35 t605 t604 true)))))) else (some false)))) = some r := H
         have A49 := Aside0.mk A490
         clear A490
         replace H := Option.bind_eq_some_iff.mp H
         obtain ⟨t606, A500, H⟩ := H
         replace H : (if t606 < 0 then (some false) else (if t606 = t604 then ((laws_toPointS.f kj35 l0).bind fun t607 => ((laws_toRat.f a1_0 a1_1).bind fun bt610 => ((impl_ItineraryOf.f kj35 t607 bt610.1 bt610.2 a2).bind fun bt612 => ((laws_eqIntS.f kj35 bt612.1 t583).bind fun t616 => (if t616 = true then (laws_FnExactItineraryOf.j2 kj35 t605 t604 (bt612.2 != t586)) else (laws_FnExactItineraryOf.j2 kj35 t605 t604 true)))))) else (some false))) = some r := H
         have A50 := Aside0.mk A500
         clear A500
         by_cases c51 : t606 < 0
         ·rw [if_pos c51] at H
          have c51b0 : decide (t606 < 0) = true := decide_eq_true c51
          clear c51
          obtain rfl := Option.some.inj H
          obtain ⟨Ao52, co52, eo52⟩ := Kd.R_slice HO_11.out
          subst eo52
          go_wp2_with (first | ((with_reducible refine gate_callee (f := 33) rfl ?_); refine gl 74 Try.func33 #[.slice Ao52 t592.length co52, .int .i64 1] ?_; (with_reducible refine (laws_markIntS.calls kj35 (fun k_ => some k_ = (.slice Ao52 t592.length co52 : Value).ownBlock) (.slice Ao52 t592.length co52) t592 1 t604 t605 w _ ?side1 ?side2 A49.out).mono ?_); (case side1 => repeat (first | (with_reducible first | exact HB.out | apply below_alloc | apply pw_below_drewN | apply below_drew1 | refine below_set ?_ GE576.out) | exact HB.out)); (case side2 => exact Kd.R_tight rfl HO_11.out); rintro e w53 ⟨rfl, hy0, hb, hkp⟩; refine ⟨_, rfl, ?_⟩; replace HO_8 := Aside0.mk (Kd.R_mono (ok' := fun k_ => some k_ ≠ (.slice Ao52 t592.length co52 : Value).ownBlock) (Kd.R_keptB (HO_8.out) hkp (fun k_ hk_ hs_ => (hk_) hs_)) (fun k_ hk_ => hk_.1)); replace BK576 := Aside0.mk (blk_kept (bo gb576) hkp (fun hs_ => (fun e_ => (Kd.R_ne HO_11.out BK576.out (by decide)) e_) hs_)); replace HO_11 := Aside0.mk (Kd.R_reok rfl hy0 (fun k_ e_ => HO_11.out.1 k_ e_)); replace HB := Aside0.mk (hb); (try clear hb); (try clear hkp); (try clear hy0)) | ((with_reducible refine gate_callee (f := 34) rfl ?_); refine goesL_ (some 77) rfl rfl Try.func34 (by kernel_rfl) rfl #[.slice Ao52 t605.length co52, .int .i64 1] rfl (by (try simp only [List.map_toArray, List.map_cons, List.map_nil]); first | done | (rw [show t605.length = t592.length from (Kd.R_reads' HO_11.out).1.symm] <;> rfl) | rfl | (simp only [List.length_drop, List.length_take]; rfl)) ?_; (with_reducible refine (laws_heldIntS.calls kj35 _ _ t605 1 t606 _ ?side1 ?side2 A50.out).mono ?_); (case side1 => repeat (first | exact (Kd.R_reads' HO_11.out).2.2 | (with_reducible refine Kd.C_alloc ?_ _) | (with_reducible refine Kd.C_drewN ?_ _) | (with_reducible refine Kd.C_drew ?_))); (case side2 => rw [show t605.length = t592.length from (Kd.R_reads' HO_11.out).1.symm]; exact (Kd.R_reads' HO_11.out).2.1); rintro e w' ⟨rfl, ⟨nd, rfl⟩⟩; refine ⟨_, rfl, ?_⟩))
          go_ret
          exact ⟨rt, bl⟩
         ·rw [if_neg c51] at H
          have c51b0 : decide (t606 < 0) = false := decide_eq_false c51
          clear c51
          by_cases c54 : t606 = t604
          ·rw [if_pos c54] at H
           have c54b0 : (t606 == t604) = true := beq_iff_eq.mpr c54
           have c54b1 : (t606 != t604) = false := bne_eq_false_iff_eq.mpr c54
           clear c54
           replace H := Option.bind_eq_some_iff.mp H
           obtain ⟨t607, A550, H⟩ := H
           replace H : ((laws_toRat.f a1_0 a1_1).bind fun bt610 => ((impl_ItineraryOf.f kj35 t607 bt610.1 bt610.2 a2).bind fun bt612 => ((laws_eqIntS.f kj35 bt612.1 t583).bind fun t616 => (if t616 = true then (laws_FnExactItineraryOf.j2 kj35 t605 t604 (bt612.2 != t586)) else (laws_FnExactItineraryOf.j2 kj35 t605 t604 true))))) = some r := H
           have A55 := Aside0.mk A550
           clear A550
           replace H := Option.bind_eq_some_iff.mp H
           obtain ⟨⟨t610, t611⟩, A560, H⟩ := H
           replace H : ((impl_ItineraryOf.f kj35 t607 t610 t611 a2).bind fun bt612 => ((laws_eqIntS.f kj35 bt612.1 t583).bind fun t616 => (if t616 = true then (laws_FnExactItineraryOf.j2 kj35 t605 t604 (bt612.2 != t586)) else (laws_FnExactItineraryOf.j2 kj35 t605 t604 true)))) = some r := H
           have A56 := Aside0.mk A560
           clear A560
           replace H := Option.bind_eq_some_iff.mp H
           obtain ⟨⟨t612, t615⟩, A570, H⟩ := H
           replace H : ((laws_eqIntS.f kj35 t612 t583).bind fun t616 => (if t616 = true then (laws_FnExactItineraryOf.j2 kj35 t605 t604 (t615 != t586)) else (laws_FnExactItineraryOf.j2 kj35 t605 t604 true))) = some r := H
           have A57 := Aside0.mk A570
           clear A570
           have HC58 := Aside0.mk H
           clear H
           obtain ⟨Ao59, co59, eo59⟩ := Kd.R_slice HO_11.out
           subst eo59
           try go_wp2_with (first | ((with_reducible refine gate_callee (f := 33) rfl ?_); refine gl 74 Try.func33 #[.slice Ao59 t592.length co59, .int .i64 1] ?_; (with_reducible refine (laws_markIntS.calls kj35 (fun k_ => some k_ = (.slice Ao59 t592.length co59 : Value).ownBlock) (.slice Ao59 t592.length co59) t592 1 t604 t605 w _ ?side1 ?side2 A49.out).mono ?_); (case side1 => repeat (first | (with_reducible first | exact HB.out | apply below_alloc | apply pw_below_drewN | apply below_drew1 | refine below_set ?_ GE576.out) | exact HB.out)); (case side2 => exact Kd.R_tight rfl HO_11.out); rintro e w60 ⟨rfl, hy0, hb, hkp⟩; refine ⟨_, rfl, ?_⟩; replace HO_8 := Aside0.mk (Kd.R_mono (ok' := fun k_ => some k_ ≠ (.slice Ao59 t592.length co59 : Value).ownBlock) (Kd.R_keptB (HO_8.out) hkp (fun k_ hk_ hs_ => (hk_) hs_)) (fun k_ hk_ => hk_.1)); replace BK576 := Aside0.mk (blk_kept (bo gb576) hkp (fun hs_ => (fun e_ => (Kd.R_ne HO_11.out BK576.out (by decide)) e_) hs_)); replace HO_11 := Aside0.mk (Kd.R_reok rfl hy0 (fun k_ e_ => HO_11.out.1 k_ e_)); replace HB := Aside0.mk (hb); (try clear hb); (try clear hkp); (try clear hy0)) | ((with_reducible refine gate_callee (f := 34) rfl ?_); refine goesL_ (some 77) rfl rfl Try.func34 (by kernel_rfl) rfl #[.slice Ao59 t605.length co59, .int .i64 1] rfl (by (try simp only [List.map_toArray, List.map_cons, List.map_nil]); first | done | (rw [show t605.length = t592.length from (Kd.R_reads' HO_11.out).1.symm] <;> rfl) | rfl | (simp only [List.length_drop, List.length_take]; rfl)) ?_; (with_reducible refine (laws_heldIntS.calls kj35 _ _ t605 1 t606 _ ?side1 ?side2 A50.out).mono ?_); (case side1 => repeat (first | exact (Kd.R_reads' HO_11.out).2.2 | (with_reducible refine Kd.C_alloc ?_ _) | (with_reducible refine Kd.C_drewN ?_ _) | (with_reducible refine Kd.C_drew ?_))); (case side2 => rw [show t605.length = t592.length from (Kd.R_reads' HO_11.out).1.symm]; exact (Kd.R_reads' HO_11.out).2.1); rintro e w' ⟨rfl, ⟨nd, rfl⟩⟩; refine ⟨_, rfl, ?_⟩))
           (try (rw [drewN_self w60]; generalize hq_ : World.drewN w60 _ = w60; have n0_ : Aside0 (Kd.R (Kd.int .i64) 3 w60 w.heap.size (fun k_ => some k_ ≠ (v584 : Value).ownBlock) (.slice Ao59 t592.length co59) t605) := ⟨by rw [← hq_]; exact (by (with_reducible repeat (first | apply Kd.R_alloc | apply Kd.R_drewN | apply Kd.R_drew)); exact HO_11.out)⟩; have n1_ : Aside0 (Kd.R (Kd.int .i64) 3 w60 w.heap.size (fun k_ => some k_ ≠ (.slice Ao59 t592.length co59 : Value).ownBlock) v584 t583) := ⟨by rw [← hq_]; exact (by (with_reducible repeat (first | apply Kd.R_alloc | apply Kd.R_drewN | apply Kd.R_drew)); exact HO_8.out)⟩; have n2_ : Aside0 (w60.heap[gb576]? = some (.cells #[.int .i64 a1_0, .int .i64 a1_1] 24 (0, 0))) := ⟨by rw [← hq_]; exact (bo gb576)⟩; have n3_ : Aside0 (Below w.heap.size w w60) := ⟨by rw [← hq_]; exact bl⟩; clear HO_11 HO_8 BK576 HB hq_; have HO_11 := n0_; have HO_8 := n1_; have BK576 := n2_; have HB := n3_; clear n0_ n1_ n2_ n3_))
           replace HO_8 := Aside0.mk (Kd.R_drew HO_8.out)
           replace HO_11 := Aside0.mk (Kd.R_drew HO_11.out)
           replace BK576 := Aside0.mk (blk_drew BK576.out)
           replace HB := Aside0.mk (below_drew1 HB.out)
           refine start_ (n := 11) (S := fun w' => w'.cell? ⟨gb576, 0, none⟩ = some (.int .i64 a1_0) ∧ w'.cell? ⟨gb576, 1, none⟩ = some (.int .i64 a1_1)) (ds := []) (tb 0 11) (by kernel_rfl) rfl rfl ⟨(blk_cell BK576.out 0).trans rfl, (blk_cell BK576.out 1).trans rfl⟩ (fun hHeld => ?_); refine with_tabW laws_FnExactItineraryOf.tab24 laws_FnExactItineraryOf.bits24 (fun HT_ HW_ => ?_)
           generalize w60.drew = w61 at HO_8 HO_11 BK576 HB hHeld ⊢
           refine pu 0 84 (tb 1 10) ?_
           refine pu 4 88 #[true, false, false, false, true, false, false, false, false, false, false] ?_
           refine tk 2 86 #[true, false, true, false, true, false, false, false, false, false, false] (hy := by rintro w' ⟨s0, s1⟩; go_simp; with_reducible rfl) (h := ?_)
           refine on 1 85 #[true, true, true, false, true, false, false, false, false, false, false] (fun K hK => ?_)
           refine gs Try.func14 #[.slice A0 l0.length c0] ?_
           with_reducible refine (laws_toPointS.calls kj35 _ _ l0 t607 _ ?side1 ?side2 A55.out).mono ?_
           (case side1 => repeat (first | exact (Kd.C_below HR0.out HB.out) | (with_reducible refine Kd.C_alloc ?_ _) | (with_reducible refine Kd.C_drewN ?_ _) | (with_reducible refine Kd.C_drew ?_)))
           (case side2 => exact HC0.out)
           rintro e w62 ⟨v608, rfl, ho0, hb⟩
           refine ⟨_, rfl, ?_⟩
           have HO609 := Aside0.mk (Kd.R_lower ho0 (below_size bl))
           replace HO_8 := Aside0.mk (Kd.R_below (by (with_reducible repeat (first | apply Kd.R_alloc | apply Kd.R_drewN | apply Kd.R_drew)); exact HO_8.out) hb)
           replace HO_11 := Aside0.mk (Kd.R_below (by (with_reducible repeat (first | apply Kd.R_alloc | apply Kd.R_drewN | apply Kd.R_drew)); exact HO_11.out) hb)
           replace BK576 := kb BK576 hb
           replace HB := kh hb
           (try clear hb)
           (try clear hb2)
           (try clear hk)
           (try clear hi)
           (try clear ho0)
           refine hK.out _ _ ⟨(blk_cell BK576.out 0).trans rfl, (blk_cell BK576.out 1).trans rfl⟩ (fun hHeld => ?_)
           clear hK K
           refine nm 85 ?_
           refine on 3 87 (tb 5 6) (fun K hK => ?_)
           refine gs Try.func30 #[.agg #[.int .i64 a1_0, .int .i64 a1_1]] ?_
           with_reducible refine (laws_toRat.calls a1_0 a1_1 t610 t611 _ A56.out).mono ?_
           rintro e w63 ⟨rfl, hb⟩
           refine ⟨_, rfl, ?_⟩
           replace HO_8 := Aside0.mk (Kd.R_below (by (with_reducible repeat (first | apply Kd.R_alloc | apply Kd.R_drewN | apply Kd.R_drew)); exact HO_8.out) hb)
           replace HO_11 := Aside0.mk (Kd.R_below (by (with_reducible repeat (first | apply Kd.R_alloc | apply Kd.R_drewN | apply Kd.R_drew)); exact HO_11.out) hb)
           replace HO609 := Aside0.mk (Kd.R_below (by (with_reducible repeat (first | apply Kd.R_alloc | apply Kd.R_drewN | apply Kd.R_drew)); exact HO609.out) hb)
           replace BK576 := kb BK576 hb
           replace HB := kh hb
           (try clear hb)
           (try clear hb2)
           (try clear hk)
           (try clear hi)
           obtain ⟨Ao64, co64, eo64⟩ := Kd.R_slice HO609.out
           (first | subst eo64 | (injection eo64 with f1_ f2_ f3_; have f4_ := f1_.symm; have f5_ := f3_.symm; clear f1_ f2_ f3_; subst f4_; subst f5_))
           refine hK.out _ _ ⟨(blk_cell BK576.out 0).trans rfl, (blk_cell BK576.out 1).trans rfl⟩ (fun hHeld => ?_)
           clear hK K
           refine nm 87 ?_
           refine on 5 89 (tb 6 5) (fun K hK => ?_)
           refine gs Try.func41 #[.slice Ao64 t607.length co64, .agg #[.int .i64 t610, .int .i64 t611], .int .i64 a2] ?_
           with_reducible refine (impl_ItineraryOf.calls kj35 _ _ t607 t610 t611 a2 t612 t615 _ ?side1 ?side2 A57.out).mono ?_
           (case side1 => repeat (first | exact (Kd.R_reads' HO609.out).2.2 | (with_reducible refine Kd.C_alloc ?_ _) | (with_reducible refine Kd.C_drewN ?_ _) | (with_reducible refine Kd.C_drew ?_)))
           (case side2 => exact (Kd.R_reads' HO609.out).2.1)
           rintro e w65 ⟨v613, rfl, ho0, hb⟩
           refine ⟨_, rfl, ?_⟩
           have HO614 := Aside0.mk (Kd.R_lower (Kd.R_new' (Kd.R_new' ho0 (Kd.R_lt (by (with_reducible repeat (first | apply Kd.R_alloc | apply Kd.R_drewN | apply Kd.R_drew)); exact HO_8.out))) (Kd.R_lt (by (with_reducible repeat (first | apply Kd.R_alloc | apply Kd.R_drewN | apply Kd.R_drew)); exact HO_11.out))) (below_size bl))
           replace HO_8 := Aside0.mk (Kd.R_elder' (by (with_reducible repeat (first | apply Kd.R_alloc | apply Kd.R_drewN | apply Kd.R_drew)); exact HO_8.out) (Kd.R_base ho0) hb)
           replace HO_11 := Aside0.mk (Kd.R_elder' (by (with_reducible repeat (first | apply Kd.R_alloc | apply Kd.R_drewN | apply Kd.R_drew)); exact HO_11.out) (Kd.R_base ho0) hb)
           replace HO609 := Aside0.mk (Kd.R_below (by (with_reducible repeat (first | apply Kd.R_alloc | apply Kd.R_drewN | apply Kd.R_drew)); exact HO609.out) hb)
           replace BK576 := kb BK576 hb
           replace HB := kh hb
           (try clear hb)
           (try clear hb2)
           (try clear hk)
           (try clear hi)
           (try clear ho0)
           refine hK.out _ _ ⟨(blk_cell BK576.out 0).trans rfl, (blk_cell BK576.out 1).trans rfl⟩ (fun hHeld => ?_)
           clear hK K
           refine nm 89 ?_
           refine pu 6 83 (tb 7 4) ?_
           refine pu 7 90 (tb 8 3) ?_
           refine pu 8 91 (tb 9 2) ?_
           refine pu 9 16 (tb 10 1) ?_
           refine pu 10 17 (tb 11 0) ?_
           refine done_ (done_of HT_.out (by kernel_rfl)) ?_
           go_upto_region 25 with (fail)
           go_cut [100] (fun v100 wc => ∃ (kq : Nat) (x100_57 : Bool), v100 = .bool x100_57 ∧ Aside0 (laws_FnExactItineraryOf.j2 kq t605 t604 x100_57 = some r) ∧ Aside0 (kq ≤ kj35) ∧ Aside0 (Kd.R (Kd.int .i64) 3 wc w.heap.size (fun _ => True) (.slice Ao59 t592.length co59) t605) ∧ Aside0 (wc.heap[gb576]? = some (.cells #[.int .i64 a1_0, .int .i64 a1_1] 24 (0, 0))) ∧ Aside0 (Below w.heap.size w wc))
           case first =>
            have H := HC58.out
            clear HC58
            replace H := Option.bind_eq_some_iff.mp H
            obtain ⟨t616, A660, H⟩ := H
            replace H : (if t616 = true then (laws_FnExactItineraryOf.j2 kj35 t605 t604 (t615 != t586)) else (laws_FnExactItineraryOf.j2 kj35 t605 t604 true)) = some r := H
            have A66 := Aside0.mk A660
            clear A660
            by_cases c67 : t616 = true
            ·subst c67
             have H1 : (laws_FnExactItineraryOf.j2 kj35 t605 t604 (t615 != t586)) = some r := by rw [if_pos rfl] at H; exact H
             clear H
             have H := H1
             clear H1
             have H' := Aside0.mk H
             clear H
             obtain ⟨Ao68, co68, eo68⟩ := Kd.R_slice HO614.out
             subst eo68
             obtain ⟨Ao69, co69, eo69⟩ := Kd.R_slice HO_8.out
             subst eo69
             go_wp2_with (first | ((with_reducible refine gate_callee (f := 22) rfl ?_); refine gl 94 Try.func22 #[.slice Ao68 t612.length co68, .slice Ao69 t583.length co69] ?_; (with_reducible refine (laws_eqIntS.calls kj35 _ _ t612 _ _ t583 true _ ?side1 ?side2 ?side3 ?side4 A66.out).mono ?_); (case side1 => repeat (first | exact (Kd.R_reads' HO614.out).2.2 | (with_reducible refine Kd.C_alloc ?_ _) | (with_reducible refine Kd.C_drewN ?_ _) | (with_reducible refine Kd.C_drew ?_))); (case side2 => exact (Kd.R_reads' HO614.out).2.1); (case side3 => repeat (first | exact (Kd.R_reads' HO_8.out).2.2 | (with_reducible refine Kd.C_alloc ?_ _) | (with_reducible refine Kd.C_drewN ?_ _) | (with_reducible refine Kd.C_drew ?_))); (case side4 => exact (Kd.R_reads' HO_8.out).2.1); rintro e w' ⟨rfl, ⟨nd, rfl⟩⟩; refine ⟨_, rfl, ?_⟩))
             go_meet
             case rel => exact ⟨_, ((t615 != t586)), rs, H', ⟨by have := HJ12.out; have := HJ35.out; first | omega | exact Nat.le_refl _⟩, ⟨by (with_reducible repeat (first | apply Kd.R_alloc | apply Kd.R_drewN | apply Kd.R_drew)); exact Kd.R_mono HO_11.out (fun _ hk => trivial)⟩, ⟨by (with_reducible repeat (first | refine blk_drewN ?_ _ | refine blk_drew ?_ | refine blk_alloc ?_ _)); exact BK576.out⟩, ⟨bl⟩⟩
            ·replace c67 := Bool.eq_false_iff.mpr c67
             subst c67
             have H1 : (laws_FnExactItineraryOf.j2 kj35 t605 t604 true) = some r := by rw [if_neg (show ¬ (false = true) by decide)] at H; exact H
             clear H
             have H := H1
             clear H1
             have H' := Aside0.mk H
             clear H
             obtain ⟨Ao70, co70, eo70⟩ := Kd.R_slice HO614.out
             subst eo70
             obtain ⟨Ao71, co71, eo71⟩ := Kd.R_slice HO_8.out
             subst eo71
             go_wp2_with (first | ((with_reducible refine gate_callee (f := 22) rfl ?_); refine gl 94 Try.func22 #[.slice Ao70 t612.length co70, .slice Ao71 t583.length co71] ?_; (with_reducible refine (laws_eqIntS.calls kj35 _ _ t612 _ _ t583 false _ ?side1 ?side2 ?side3 ?side4 A66.out).mono ?_); (case side1 => repeat (first | exact (Kd.R_reads' HO614.out).2.2 | (with_reducible refine Kd.C_alloc ?_ _) | (with_reducible refine Kd.C_drewN ?_ _) | (with_reducible refine Kd.C_drew ?_))); (case side2 => exact (Kd.R_reads' HO614.out).2.1); (case side3 => repeat (first | exact (Kd.R_reads' HO_8.out).2.2 | (with_reducible refine Kd.C_alloc ?_ _) | (with_reducible refine Kd.C_drewN ?_ _) | (with_reducible refine Kd.C_drew ?_))); (case side4 => exact (Kd.R_reads' HO_8.out).2.1); rintro e w' ⟨rfl, ⟨nd, rfl⟩⟩; refine ⟨_, rfl, ?_⟩))
             go_meet
             case rel => exact ⟨_, (true), rs, H', ⟨by have := HJ12.out; have := HJ35.out; first | omega | exact Nat.le_refl _⟩, ⟨by (with_reducible repeat (first | apply Kd.R_alloc | apply Kd.R_drewN | apply Kd.R_drew)); exact Kd.R_mono HO_11.out (fun _ hk => trivial)⟩, ⟨by (with_reducible repeat (first | refine blk_drewN ?_ _ | refine blk_drew ?_ | refine blk_alloc ?_ _)); exact BK576.out⟩, ⟨bl⟩⟩
           case rest =>
            clear HC58
            try clear c1
            try clear c2
            try clear p2
            try clear c3
            try clear c4
            try clear c5
            try clear c5b0
            try clear c6
            try clear c11
            try clear c12
            try clear c14
            try clear c18
            try clear c22
            try clear c26
            try clear c30
            try clear c31
            try clear c32
            try clear c33
            try clear c34
            try clear c40
            try clear c41
            try clear c41b0
            try clear c43
            try clear c48
            try clear c51
            try clear c51b0
            try clear c54
            try clear c54b0
            try clear c54b1
            try clear c67
            try clear hcz21_0
            try clear hcz21_1
            try clear hfz21_0
            try clear hfz21_1
            try clear p2
            obtain ⟨kq, x100_57, rfl, HA, HJ57, HO_11, BK576, HB⟩ := hcut
            have hl11_57 := (Kd.R_reads' HO_11.out).1
            rw [hl11_57] at HO_11
            (try simp only [hl11_57])
            (try simp only [hl11_57] at BK576)
            cases kq with
            | zero => exact absurd HA.out (by simp [laws_FnExactItineraryOf.j2])
            | succ kj57 =>
             have H := HA.out
             clear HA
             simp only [laws_FnExactItineraryOf.j2] at H
             by_cases c72 : x100_57 = true
             ·subst c72
              have H1 : (some false) = some r := by rw [if_pos rfl] at H; exact H
              clear H
              have H := H1
              clear H1
              obtain rfl := Option.some.inj H
              go_wp2
              go_ret
              exact ⟨rt, bl⟩
             ·replace c72 := Bool.eq_false_iff.mpr c72
              subst c72
              have H1 : ((laws_heldIntS.f kj57 t605 1).bind fun t617 => (if t617 < 0 then (some false) else (if t617 = t604 then (some true) else (some false)))) = some r := by rw [if_neg (show ¬ (false = true) by decide)] at H; exact H
              clear H
              have H := H1
              clear H1
              replace H := Option.bind_eq_some_iff.mp H
              obtain ⟨t617, A730, H⟩ := H
              replace H : (if t617 < 0 then (some false) else (if t617 = t604 then (some true) else (some false))) = some r := H
              have A73 := Aside0.mk A730
              clear A730
              by_cases c74 : t617 < 0
              ·rw [if_pos c74] at H
               have c74b0 : decide (t617 < 0) = true := decide_eq_true c74
               clear c74
               obtain rfl := Option.some.inj H
               go_wp2_with (first | ((with_reducible refine gate_callee (f := 34) rfl ?_); refine gl 103 Try.func34 #[.slice Ao59 t605.length co59, .int .i64 1] ?_; (with_reducible refine (laws_heldIntS.calls kj57 _ _ t605 1 t617 _ ?side1 ?side2 A73.out).mono ?_); (case side1 => repeat (first | exact (Kd.R_reads' HO_11.out).2.2 | (with_reducible refine Kd.C_alloc ?_ _) | (with_reducible refine Kd.C_drewN ?_ _) | (with_reducible refine Kd.C_drew ?_))); (case side2 => exact (Kd.R_reads' HO_11.out).2.1); rintro e w' ⟨rfl, ⟨nd, rfl⟩⟩; refine ⟨_, rfl, ?_⟩))
               go_ret
               exact ⟨rt, bl⟩
              ·rw [if_neg c74] at H
               have c74b0 : decide (t617 < 0) = false := decide_eq_false c74
               clear c74
               by_cases c75 : t617 = t604
               ·rw [if_pos c75] at H
                have c75b0 : (t617 == t604) = true := beq_iff_eq.mpr c75
                have c75b1 : (t617 != t604) = false := bne_eq_false_iff_eq.mpr c75
                clear c75
                obtain rfl := Option.some.inj H
                go_wp2_with (first | ((with_reducible refine gate_callee (f := 34) rfl ?_); refine gl 103 Try.func34 #[.slice Ao59 t605.length co59, .int .i64 1] ?_; (with_reducible refine (laws_heldIntS.calls kj57 _ _ t605 1 t617 _ ?side1 ?side2 A73.out).mono ?_); (case side1 => repeat (first | exact (Kd.R_reads' HO_11.out).2.2 | (with_reducible refine Kd.C_alloc ?_ _) | (with_reducible refine Kd.C_drewN ?_ _) | (with_reducible refine Kd.C_drew ?_))); (case side2 => exact (Kd.R_reads' HO_11.out).2.1); rintro e w' ⟨rfl, ⟨nd, rfl⟩⟩; refine ⟨_, rfl, ?_⟩))
                go_ret
                exact ⟨rt, bl⟩
               ·rw [if_neg c75] at H
                have c75b0 : (t617 == t604) = false := beq_eq_false_iff_ne.mpr c75
                have c75b1 : (t617 != t604) = true := bne_iff_ne.mpr c75
                obtain rfl := Option.some.inj H
                go_wp2_with (first | ((with_reducible refine gate_callee (f := 34) rfl ?_); refine gl 103 Try.func34 #[.slice Ao59 t605.length co59, .int .i64 1] ?_; (with_reducible refine (laws_heldIntS.calls kj57 _ _ t605 1 t617 _ ?side1 ?side2 A73.out).mono ?_); (case side1 => repeat (first | exact (Kd.R_reads' HO_11.out).2.2 | (with_reducible refine Kd.C_alloc ?_ _) | (with_reducible refine Kd.C_drewN ?_ _) | (with_reducible refine Kd.C_drew ?_))); (case side2 => exact (Kd.R_reads' HO_11.out).2.1); rintro e w' ⟨rfl, ⟨nd, rfl⟩⟩; refine ⟨_, rfl, ?_⟩))
                go_ret
                exact ⟨rt, bl⟩
          ·rw [if_neg c54] at H
           have c54b0 : (t606 == t604) = false := beq_eq_false_iff_ne.mpr c54
           have c54b1 : (t606 != t604) = true := bne_iff_ne.mpr c54
           obtain rfl := Option.some.inj H
           obtain ⟨Ao76, co76, eo76⟩ := Kd.R_slice HO_11.out
           subst eo76
           go_wp2_with (first | ((with_reducible refine gate_callee (f := 33) rfl ?_); refine gl 74 Try.func33 #[.slice Ao76 t592.length co76, .int .i64 1] ?_; (with_reducible refine (laws_markIntS.calls kj35 (fun k_ => some k_ = (.slice Ao76 t592.length co76 : Value).ownBlock) (.slice Ao76 t592.length co76) t592 1 t604 t605 w _ ?side1 ?side2 A49.out).mono ?_); (case side1 => repeat (first | (with_reducible first | exact HB.out | apply below_alloc | apply pw_below_drewN | apply below_drew1 | refine below_set ?_ GE576.out) | exact HB.out)); (case side2 => exact Kd.R_tight rfl HO_11.out); rintro e w77 ⟨rfl, hy0, hb, hkp⟩; refine ⟨_, rfl, ?_⟩; replace HO_8 := Aside0.mk (Kd.R_mono (ok' := fun k_ => some k_ ≠ (.slice Ao76 t592.length co76 : Value).ownBlock) (Kd.R_keptB (HO_8.out) hkp (fun k_ hk_ hs_ => (hk_) hs_)) (fun k_ hk_ => hk_.1)); replace BK576 := Aside0.mk (blk_kept (bo gb576) hkp (fun hs_ => (fun e_ => (Kd.R_ne HO_11.out BK576.out (by decide)) e_) hs_)); replace HO_11 := Aside0.mk (Kd.R_reok rfl hy0 (fun k_ e_ => HO_11.out.1 k_ e_)); replace HB := Aside0.mk (hb); (try clear hb); (try clear hkp); (try clear hy0)) | ((with_reducible refine gate_callee (f := 34) rfl ?_); refine goesL_ (some 77) rfl rfl Try.func34 (by kernel_rfl) rfl #[.slice Ao76 t605.length co76, .int .i64 1] rfl (by (try simp only [List.map_toArray, List.map_cons, List.map_nil]); first | done | (rw [show t605.length = t592.length from (Kd.R_reads' HO_11.out).1.symm] <;> rfl) | rfl | (simp only [List.length_drop, List.length_take]; rfl)) ?_; (with_reducible refine (laws_heldIntS.calls kj35 _ _ t605 1 t606 _ ?side1 ?side2 A50.out).mono ?_); (case side1 => repeat (first | exact (Kd.R_reads' HO_11.out).2.2 | (with_reducible refine Kd.C_alloc ?_ _) | (with_reducible refine Kd.C_drewN ?_ _) | (with_reducible refine Kd.C_drew ?_))); (case side2 => rw [show t605.length = t592.length from (Kd.R_reads' HO_11.out).1.symm]; exact (Kd.R_reads' HO_11.out).2.1); rintro e w' ⟨rfl, ⟨nd, rfl⟩⟩; refine ⟨_, rfl, ?_⟩))
           go_ret
           exact ⟨rt, bl⟩
     ·replace c34 := Bool.eq_false_iff.mpr c34
      subst c34
      have H1 : (some false) = some r := by rw [if_neg (show ¬ (false = true) by decide)] at H; exact H
      clear H
      have H := H1
      clear H1
      obtain rfl := Option.some.inj H
      go_wp2_with (first | ((with_reducible refine gate_callee (f := 14) rfl ?_); refine gl 53 Try.func14 #[.slice A0 l0.length c0] ?_; (with_reducible refine (laws_toPointS.calls kj12 _ _ l0 t597 _ ?side1 ?side2 A32.out).mono ?_); (case side1 => repeat (first | exact (Kd.C_below HR0.out HB.out) | (with_reducible refine Kd.C_alloc ?_ _) | (with_reducible refine Kd.C_drewN ?_ _) | (with_reducible refine Kd.C_drew ?_))); (case side2 => exact HC0.out); rintro e w78 ⟨v598, rfl, ho0, hb⟩; refine ⟨_, rfl, ?_⟩; have HO599 := Aside0.mk (Kd.R_lower (Kd.R_new' ho0 (Kd.R_lt (by (with_reducible repeat (first | apply Kd.R_alloc | apply Kd.R_drewN | apply Kd.R_drew)); exact HO_10.out))) (below_size bl)); replace HO_8 := Aside0.mk (Kd.R_below (by (with_reducible repeat (first | apply Kd.R_alloc | apply Kd.R_drewN | apply Kd.R_drew)); exact HO_8.out) hb); replace HO_10 := Aside0.mk (Kd.R_elder' (by (with_reducible repeat (first | apply Kd.R_alloc | apply Kd.R_drewN | apply Kd.R_drew)); exact HO_10.out) (Kd.R_base ho0) hb); replace HO_11 := Aside0.mk (Kd.R_below (by (with_reducible repeat (first | apply Kd.R_alloc | apply Kd.R_drewN | apply Kd.R_drew)); exact HO_11.out) hb); replace BK576 := kb BK576 hb; replace HB := kh hb; (try clear hb); (try clear hb2); (try clear hk); (try clear hi); (try clear ho0); obtain ⟨Ao79, co79, eo79⟩ := Kd.R_slice HO599.out; subst eo79) | ((with_reducible refine gate_callee (f := 18) rfl ?_); refine gl 54 Try.func18 #[.slice Ao23 t587.length co23, .slice Ao79 t597.length co79] ?_; (with_reducible refine (laws_eqPointS.calls kj12 _ _ t587 _ _ t597 false _ ?side1 ?side2 ?side3 ?side4 A33.out).mono ?_); (case side1 => repeat (first | exact (Kd.R_reads' HO_10.out).2.2 | (with_reducible refine Kd.C_alloc ?_ _) | (with_reducible refine Kd.C_drewN ?_ _) | (with_reducible refine Kd.C_drew ?_))); (case side2 => exact (Kd.R_reads' HO_10.out).2.1); (case side3 => repeat (first | exact (Kd.R_reads' HO599.out).2.2 | (with_reducible refine Kd.C_alloc ?_ _) | (with_reducible refine Kd.C_drewN ?_ _) | (with_reducible refine Kd.C_drew ?_))); (case side4 => exact (Kd.R_reads' HO599.out).2.1); rintro e w80 ⟨rfl, hb⟩; refine ⟨_, rfl, ?_⟩; replace HO_8 := Aside0.mk (Kd.R_below (by (with_reducible repeat (first | apply Kd.R_alloc | apply Kd.R_drewN | apply Kd.R_drew)); exact HO_8.out) hb); replace HO_10 := Aside0.mk (Kd.R_below (by (with_reducible repeat (first | apply Kd.R_alloc | apply Kd.R_drewN | apply Kd.R_drew)); exact HO_10.out) hb); replace HO_11 := Aside0.mk (Kd.R_below (by (with_reducible repeat (first | apply Kd.R_alloc | apply Kd.R_drewN | apply Kd.R_drew)); exact HO_11.out) hb); replace HO599 := Aside0.mk (Kd.R_below (by (with_reducible repeat (first | apply Kd.R_alloc | apply Kd.R_drewN | apply Kd.R_drew)); exact HO599.out) hb); replace BK576 := kb BK576 hb; replace HB := kh hb; (try clear hb); (try clear hb2); (try clear hk); (try clear hi)))
      go_ret
      exact ⟨rt, bl⟩

/-- THE ONE PURE STATEMENT of laws_FnExactItineraryOf: yours. -/
def laws_FnExactItineraryOf.Pure : Prop := ∀ (l0 : List (S72)) (a1_0 : Int) (a1_1 : Int) (a2 : Int), l0.length ≤ maxLen → l0.length * 32 ≤ 140737488351232 → (∀ x ∈ l0, (Lit.int .i64 x.f0.f0).wf = true ∧ (Lit.int .i64 x.f0.f1).wf = true ∧ (Lit.int .i64 x.f1.f0).wf = true ∧ (Lit.int .i64 x.f1.f1).wf = true) → (Lit.int .i64 a1_0).wf = true → (Lit.int .i64 a1_1).wf = true → (Lit.int .i64 a2).wf = true → ∃ k, laws_FnExactItineraryOf.f k l0 a1_0 a1_1 a2 = some true

end Go.Proofs.Ytmecnnnagallnaa.PFnExactItineraryOf
