-- Written by this session's program wip/pp (the kit's print tool with additions) 35421559b90ae4d0a3588c463048766b98c2df88dd9212a6774a882060cdf62d
import Derived.Test.YtmecnnnagallnaaPFnExactPiecesOfx0
import Derived.Test.YtmecnnnagallnaaPFnExactPiecesOfx2
import Derived.Test.YtmecnnnagallnaaPFnExactPiecesOfx8
import Derived.Test.YtmecnnnagallnaaPFnExactPiecesOfx15
import Derived.Test.YtmecnnnagallnaaPFnExactPiecesOfx16
namespace Go.Proofs.Ytmecnnnagallnaa.PFnExactPiecesOf
open Go.RowKit Go.Proofs.YtmecnnnagallnaaW.PrintWords Go.Proofs.YtmecnnnagallnaaW.PrintLast Go.Proofs.YtmecnnnagallnaaW.PrintMore
attribute [local go_sem] max2_int min2_int max_two min_two max_three min_three max_four min_four   -- for this text's walks alone
set_option linter.unusedVariables false
set_option linter.unusedSimpArgs false

/-! ### laws_FnExactPiecesOf: function 8 -/
mutual
def laws_FnExactPiecesOf.j0 : Nat → List (S72) → Int → List Int → Bool → List (S68) → List Int → Bool → Bool → Int → Int → Option (Bool)
 | 0, _, _, _, _, _, _, _, _, _, _ => none
 | k + 1, x0, x2, x8, x9, x10, x11, x12, x50, x469000, x469001 => if x50 = true then (some false) else ((laws_toPointS.f k x0).bind fun t489 => ((laws_eqPointS.f k x10 t489).bind fun t492 => (if t492 = true then ((laws_markPointS.f k x10 1).bind fun bt493 => (if bt493.1 < 0 then (laws_FnExactPiecesOf.j1 k x0 x2 x8 x9 x11 true x469000 x469001) else ((laws_eqIntS.f k x11 x8).bind fun t495 => (if t495 = true then (laws_FnExactPiecesOf.j1 k x0 x2 x8 x9 x11 (x12 != x9) x469000 x469001) else (laws_FnExactPiecesOf.j1 k x0 x2 x8 x9 x11 true x469000 x469001))))) else (some false))))
def laws_FnExactPiecesOf.j1 : Nat → List (S72) → Int → List Int → Bool → List Int → Bool → Int → Int → Option (Bool)
 | 0, _, _, _, _, _, _, _, _ => none
 | k + 1, x0, x2, x8, x9, x11, x71, x469000, x469001 => if x71 = true then (some false) else ((laws_markIntS.f k x11 1).bind fun bt496 => ((laws_heldIntS.f k bt496.2 1).bind fun t498 => (if t498 < 0 then (some false) else (if t498 = bt496.1 then ((laws_toPointS.f k x0).bind fun t499 => ((laws_toRat.f x469000 x469001).bind fun bt502 => ((impl_PiecesOf.f k t499 bt502.1 bt502.2 x2).bind fun bt504 => ((laws_eqIntS.f k bt504.1 x8).bind fun t508 => (if t508 = true then (laws_FnExactPiecesOf.j2 k bt496.2 bt496.1 (bt504.2 != x9)) else (laws_FnExactPiecesOf.j2 k bt496.2 bt496.1 true)))))) else (some false)))))
def laws_FnExactPiecesOf.j2 : Nat → List Int → Int → Bool → Option (Bool)
 | 0, _, _, _ => none
 | k + 1, x11, x14, x100 => if x100 = true then (some false) else ((laws_heldIntS.f k x11 1).bind fun t509 => (if t509 < 0 then (some false) else (if t509 = x14 then (some true) else (some false))))
end
def laws_FnExactPiecesOf.f (k : Nat) (l0 : List (S72)) (a1_0 : Int) (a1_1 : Int) (a2 : Int) : Option (Bool) := (laws_szPointS.f l0 1048576).bind fun t469 => (if t469 < 0 then (some true) else ((laws_toPointS.f k l0).bind fun t470 => ((laws_toRat.f a1_0 a1_1).bind fun bt473 => ((spec_PiecesOf.f k t470 bt473.1 bt473.2 a2).bind fun bt475 => ((laws_toPointS.f k l0).bind fun t479 => ((laws_toRat.f a1_0 a1_1).bind fun bt482 => ((impl_PiecesOf.f k t479 bt482.1 bt482.2 a2).bind fun bt484 => ((laws_eqIntS.f k bt484.1 bt475.1).bind fun t488 => (if t488 = true then (laws_FnExactPiecesOf.j0 k l0 a2 bt475.1 bt475.2 t479 bt484.1 bt484.2 (bt484.2 != bt475.2) a1_0 a1_1) else (laws_FnExactPiecesOf.j0 k l0 a2 bt475.1 bt475.2 t479 bt484.1 bt484.2 true a1_0 a1_1))))))))))
def laws_FnExactPiecesOf.T5 : Bool × List (List Nat × List Nat) := (true, [([], []), ([0], [0]), ([], []), ([2, 1], [2]), ([], []), ([1, 3, 4, 3], [1, 3, 4]), ([5], [5]), ([6], [6]), ([6], [6]), ([7, 5, 0, 1, 2, 3, 4, 5, 6, 7], [7]), ([8, 9, 0, 1, 2, 3, 4, 5, 6, 7, 8, 9], [8])])
def laws_FnExactPiecesOf.B5 : List Nat := [0, 1, 0, 7, 0, 31, 63, 127, 127, 255, 1023]
theorem laws_FnExactPiecesOf.tab5 : rtab .any (opsOf Try.f8 5) = laws_FnExactPiecesOf.T5 := by kernel_rfl
theorem laws_FnExactPiecesOf.bits5 : waitsOk laws_FnExactPiecesOf.T5.2 laws_FnExactPiecesOf.B5 = true := by kernel_rfl
def laws_FnExactPiecesOf.T24 : Bool × List (List Nat × List Nat) := (true, [([], []), ([0], [0]), ([], []), ([2, 1], [2]), ([], []), ([1, 3, 4, 3], [1, 3, 4]), ([5], [5]), ([6], [6]), ([6], [6]), ([7, 5, 0, 1, 2, 3, 4, 5, 6, 7], [7]), ([8, 9, 0, 1, 2, 3, 4, 5, 6, 7, 8, 9], [8])])
def laws_FnExactPiecesOf.B24 : List Nat := [0, 1, 0, 7, 0, 31, 63, 127, 127, 255, 1023]
theorem laws_FnExactPiecesOf.tab24 : rtab .any (opsOf Try.f8 24) = laws_FnExactPiecesOf.T24 := by kernel_rfl
theorem laws_FnExactPiecesOf.bits24 : waitsOk laws_FnExactPiecesOf.T24.2 laws_FnExactPiecesOf.B24 = true := by kernel_rfl
set_option maxHeartbeats 8000000 in
set_option maxRecDepth 100000 in
theorem laws_FnExactPiecesOf.calls (k : Nat) (A0 : Option Addr) (c0 : Nat) (l0 : List (S72)) (a1_0 : Int) (a1_1 : Int) (a2 : Int) (r : Bool) (w : World) (hr0 : Kd.C k72 w A0 l0.length l0) (hc0 : l0.length ≤ c0) (h : laws_FnExactPiecesOf.f k l0 a1_0 a1_1 a2 = some r) :
  Calls Try.prog 8 #[.slice A0 l0.length c0, .agg #[.int .i64 a1_0, .int .i64 a1_1], .int .i64 a2] w fun e w' => e = .returned (.bool r) ∧ Below w.heap.size w w' := by
 have hu24 := Try.underlying24
 have HR0 := Aside0.mk hr0
 have HC0 := Aside0.mk hc0
 clear hr0 hc0
 have HB := Aside0.mk (Below.refl w.heap.size w)
 have H : ((laws_szPointS.f l0 1048576).bind fun t469 => (if t469 < 0 then (some true) else ((laws_toPointS.f k l0).bind fun t470 => ((laws_toRat.f a1_0 a1_1).bind fun bt473 => ((spec_PiecesOf.f k t470 bt473.1 bt473.2 a2).bind fun bt475 => ((laws_toPointS.f k l0).bind fun t479 => ((laws_toRat.f a1_0 a1_1).bind fun bt482 => ((impl_PiecesOf.f k t479 bt482.1 bt482.2 a2).bind fun bt484 => ((laws_eqIntS.f k bt484.1 bt475.1).bind fun t488 => (if t488 = true then (laws_FnExactPiecesOf.j0 k l0 a2 bt475.1 bt475.2 t479 bt484.1 bt484.2 (bt484.2 != bt475.2) a1_0 a1_1) else (laws_FnExactPiecesOf.j0 k l0 a2 bt475.1 bt475.2 t479 bt484.1 bt484.2 true a1_0 a1_1))))))))))) = some r := h
 clear h
 replace H := Option.bind_eq_some_iff.mp H
 obtain ⟨t469, A40, H⟩ := H
 replace H : (if t469 < 0 then (some true) else ((laws_toPointS.f k l0).bind fun t470 => ((laws_toRat.f a1_0 a1_1).bind fun bt473 => ((spec_PiecesOf.f k t470 bt473.1 bt473.2 a2).bind fun bt475 => ((laws_toPointS.f k l0).bind fun t479 => ((laws_toRat.f a1_0 a1_1).bind fun bt482 => ((impl_PiecesOf.f k t479 bt482.1 bt482.2 a2).bind fun bt484 => ((laws_eqIntS.f k bt484.1 bt475.1).bind fun t488 => (if t488 = true then (laws_FnExactPiecesOf.j0 k l0 a2 bt475.1 bt475.2 t479 bt484.1 bt484.2 (bt484.2 != bt475.2) a1_0 a1_1) else (laws_FnExactPiecesOf.j0 k l0 a2 bt475.1 bt475.2 t479 bt484.1 bt484.2 true a1_0 a1_1)))))))))) = some r := H
 have A4 := Aside0.mk A40
 clear A40
 by_cases c5 : t469 < 0
 ·rw [if_pos c5] at H
  have c5b0 : decide (t469 < 0) = true := decide_eq_true c5
  clear c5
  obtain rfl := Option.some.inj H
  go_enter Try.func8, Try.ntmps8
  go_wp2_with (first | ((with_reducible refine gate_dst (N := 4) rfl ?_); refine bx 4 #[.int .i64 a1_0, .int .i64 a1_1] 24 ?_; intro gb468 hg w6 hbox hb; have BK468 := Aside0.mk (hbox); have GW468 := Aside0.mk (bz hg); have GE468 := GW468; replace HB := Aside0.mk (bs hb); clear hb hbox hg) | ((with_reducible refine gate_callee (f := 12) rfl ?_); refine gl 20 Try.func12 #[.slice A0 l0.length c0, .int .i64 1048576] ?_; (with_reducible refine (laws_szPointS.calls _ _ l0 1048576 t469 _ ?side1 ?side2 A4.out).mono ?_); (case side1 => repeat (first | exact (Kd.C_below HR0.out HB.out) | (with_reducible refine Kd.C_alloc ?_ _) | (with_reducible refine Kd.C_drewN ?_ _) | (with_reducible refine Kd.C_drew ?_))); (case side2 => exact HC0.out); rintro e w' ⟨rfl, ⟨nd, rfl⟩⟩; refine ⟨_, rfl, ?_⟩))
  go_ret
  exact ⟨by first | rfl | (simp [errW_none, errW_some] <;> rfl) | (simp [*, errW_none, errW_some] <;> rfl), bl⟩
 ·rw [if_neg c5] at H
  have c5b0 : decide (t469 < 0) = false := decide_eq_false c5
  clear c5
  replace H := Option.bind_eq_some_iff.mp H
  obtain ⟨t470, A70, H⟩ := H
  replace H : ((laws_toRat.f a1_0 a1_1).bind fun bt473 => ((spec_PiecesOf.f k t470 bt473.1 bt473.2 a2).bind fun bt475 => ((laws_toPointS.f k l0).bind fun t479 => ((laws_toRat.f a1_0 a1_1).bind fun bt482 => ((impl_PiecesOf.f k t479 bt482.1 bt482.2 a2).bind fun bt484 => ((laws_eqIntS.f k bt484.1 bt475.1).bind fun t488 => (if t488 = true then (laws_FnExactPiecesOf.j0 k l0 a2 bt475.1 bt475.2 t479 bt484.1 bt484.2 (bt484.2 != bt475.2) a1_0 a1_1) else (laws_FnExactPiecesOf.j0 k l0 a2 bt475.1 bt475.2 t479 bt484.1 bt484.2 true a1_0 a1_1)))))))) = some r := H
  have A7 := Aside0.mk A70
  clear A70
  replace H := Option.bind_eq_some_iff.mp H
  obtain ⟨⟨t473, t474⟩, A80, H⟩ := H
  replace H : ((spec_PiecesOf.f k t470 t473 t474 a2).bind fun bt475 => ((laws_toPointS.f k l0).bind fun t479 => ((laws_toRat.f a1_0 a1_1).bind fun bt482 => ((impl_PiecesOf.f k t479 bt482.1 bt482.2 a2).bind fun bt484 => ((laws_eqIntS.f k bt484.1 bt475.1).bind fun t488 => (if t488 = true then (laws_FnExactPiecesOf.j0 k l0 a2 bt475.1 bt475.2 t479 bt484.1 bt484.2 (bt484.2 != bt475.2) a1_0 a1_1) else (laws_FnExactPiecesOf.j0 k l0 a2 bt475.1 bt475.2 t479 bt484.1 bt484.2 true a1_0 a1_1))))))) = some r := H
  have A8 := Aside0.mk A80
  clear A80
  replace H := Option.bind_eq_some_iff.mp H
  obtain ⟨⟨t475, t478⟩, A90, H⟩ := H
  replace H : ((laws_toPointS.f k l0).bind fun t479 => ((laws_toRat.f a1_0 a1_1).bind fun bt482 => ((impl_PiecesOf.f k t479 bt482.1 bt482.2 a2).bind fun bt484 => ((laws_eqIntS.f k bt484.1 t475).bind fun t488 => (if t488 = true then (laws_FnExactPiecesOf.j0 k l0 a2 t475 t478 t479 bt484.1 bt484.2 (bt484.2 != t478) a1_0 a1_1) else (laws_FnExactPiecesOf.j0 k l0 a2 t475 t478 t479 bt484.1 bt484.2 true a1_0 a1_1)))))) = some r := H
  have A9 := Aside0.mk A90
  clear A90
  replace H := Option.bind_eq_some_iff.mp H
  obtain ⟨t479, A100, H⟩ := H
  replace H : ((laws_toRat.f a1_0 a1_1).bind fun bt482 => ((impl_PiecesOf.f k t479 bt482.1 bt482.2 a2).bind fun bt484 => ((laws_eqIntS.f k bt484.1 t475).bind fun t488 => (if t488 = true then (laws_FnExactPiecesOf.j0 k l0 a2 t475 t478 t479 bt484.1 bt484.2 (bt484.2 != t478) a1_0 a1_1) else (laws_FnExactPiecesOf.j0 k l0 a2 t475 t478 t479 bt484.1 bt484.2 true a1_0 a1_1))))) = some r := H
  have A10 := Aside0.mk A100
  clear A100
  replace H := Option.bind_eq_some_iff.mp H
  obtain ⟨⟨t482, t483⟩, A110, H⟩ := H
  replace H : ((impl_PiecesOf.f k t479 t482 t483 a2).bind fun bt484 => ((laws_eqIntS.f k bt484.1 t475).bind fun t488 => (if t488 = true then (laws_FnExactPiecesOf.j0 k l0 a2 t475 t478 t479 bt484.1 bt484.2 (bt484.2 != t478) a1_0 a1_1) else (laws_FnExactPiecesOf.j0 k l0 a2 t475 t478 t479 bt484.1 bt484.2 true a1_0 a1_1)))) = some r := H
  have A11 := Aside0.mk A110
  clear A110
  replace H := Option.bind_eq_some_iff.mp H
  obtain ⟨⟨t484, t487⟩, A120, H⟩ := H
  replace H : ((laws_eqIntS.f k t484 t475).bind fun t488 => (if t488 = true then (laws_FnExactPiecesOf.j0 k l0 a2 t475 t478 t479 t484 t487 (t487 != t478) a1_0 a1_1) else (laws_FnExactPiecesOf.j0 k l0 a2 t475 t478 t479 t484 t487 true a1_0 a1_1))) = some r := H
  have A12 := Aside0.mk A120
  clear A120
  have HC13 := Aside0.mk H
  clear H
  go_enter Try.func8, Try.ntmps8
  try go_wp2_with (first | ((with_reducible refine gate_dst (N := 4) rfl ?_); refine bx 4 #[.int .i64 a1_0, .int .i64 a1_1] 24 ?_; intro gb468 hg w14 hbox hb; have BK468 := Aside0.mk (hbox); have GW468 := Aside0.mk (bz hg); have GE468 := GW468; replace HB := Aside0.mk (bs hb); clear hb hbox hg) | ((with_reducible refine gate_callee (f := 12) rfl ?_); refine gl 20 Try.func12 #[.slice A0 l0.length c0, .int .i64 1048576] ?_; (with_reducible refine (laws_szPointS.calls _ _ l0 1048576 t469 _ ?side1 ?side2 A4.out).mono ?_); (case side1 => repeat (first | exact (Kd.C_below HR0.out HB.out) | (with_reducible refine Kd.C_alloc ?_ _) | (with_reducible refine Kd.C_drewN ?_ _) | (with_reducible refine Kd.C_drew ?_))); (case side2 => exact HC0.out); rintro e w' ⟨rfl, ⟨nd, rfl⟩⟩; refine ⟨_, rfl, ?_⟩))
  (try (rw [drewN_self w14]; generalize hq_ : World.drewN w14 _ = w14; have n0_ : Aside0 (w14.heap[gb468]? = some (.cells #[.int .i64 a1_0, .int .i64 a1_1] 24 (0, 0))) := ⟨by rw [← hq_]; exact (bo gb468)⟩; have n1_ : Aside0 (Below w.heap.size w w14) := ⟨by rw [← hq_]; exact bl⟩; clear BK468 HB hq_; have BK468 := n0_; have HB := n1_; clear n0_ n1_))
  replace BK468 := Aside0.mk (blk_drew BK468.out)
  replace HB := Aside0.mk (below_drew1 HB.out)
  refine start_ (n := 11) (S := fun w' => w'.cell? ⟨gb468, 0, none⟩ = some (.int .i64 a1_0) ∧ w'.cell? ⟨gb468, 1, none⟩ = some (.int .i64 a1_1)) (ds := []) (tb 0 11) (by kernel_rfl) rfl rfl ⟨(blk_cell BK468.out 0).trans rfl, (blk_cell BK468.out 1).trans rfl⟩ (fun hHeld => ?_); refine with_tabW laws_FnExactPiecesOf.tab5 laws_FnExactPiecesOf.bits5 (fun HT_ HW_ => ?_)
  generalize w14.drew = w15 at BK468 HB hHeld ⊢
  refine pu 0 24 (tb 1 10) ?_
  refine pu 4 28 #[true, false, false, false, true, false, false, false, false, false, false] ?_
  refine tk 2 26 #[true, false, true, false, true, false, false, false, false, false, false] (hy := by rintro w' ⟨s0, s1⟩; go_simp; with_reducible rfl) (h := ?_)
  refine on 1 25 #[true, true, true, false, true, false, false, false, false, false, false] (fun K hK => ?_)
  refine gs Try.func14 #[.slice A0 l0.length c0] ?_
  with_reducible refine (laws_toPointS.calls k _ _ l0 t470 _ ?side1 ?side2 A7.out).mono ?_
  (case side1 => repeat (first | exact (Kd.C_below HR0.out HB.out) | (with_reducible refine Kd.C_alloc ?_ _) | (with_reducible refine Kd.C_drewN ?_ _) | (with_reducible refine Kd.C_drew ?_)))
  (case side2 => exact HC0.out)
  rintro e w16 ⟨v471, rfl, ho0, hb⟩
  refine ⟨_, rfl, ?_⟩
  have HO472 := Aside0.mk (Kd.R_lower ho0 (below_size bl))
  replace BK468 := Aside0.mk (bb gb468 hb)
  replace HB := Aside0.mk (bs hb)
  (try clear hb)
  (try clear hb2)
  (try clear hk)
  (try clear hi)
  (try clear ho0)
  refine hK.out _ _ ⟨(blk_cell BK468.out 0).trans rfl, (blk_cell BK468.out 1).trans rfl⟩ (fun hHeld => ?_)
  clear hK K
  refine nm 25 ?_
  refine on 3 27 (tb 5 6) (fun K hK => ?_)
  refine gs Try.func30 #[.agg #[.int .i64 a1_0, .int .i64 a1_1]] ?_
  with_reducible refine (laws_toRat.calls a1_0 a1_1 t473 t474 _ A8.out).mono ?_
  rintro e w17 ⟨rfl, hb⟩
  refine ⟨_, rfl, ?_⟩
  replace HO472 := Aside0.mk (Kd.R_below (by (with_reducible repeat (first | apply Kd.R_alloc | apply Kd.R_drewN | apply Kd.R_drew)); exact HO472.out) hb)
  replace BK468 := Aside0.mk (bb gb468 hb)
  replace HB := Aside0.mk (bs hb)
  (try clear hb)
  (try clear hb2)
  (try clear hk)
  (try clear hi)
  obtain ⟨Ao18, co18, eo18⟩ := Kd.R_slice HO472.out
  (first | subst eo18 | (injection eo18 with f1_ f2_ f3_; have f4_ := f1_.symm; have f5_ := f3_.symm; clear f1_ f2_ f3_; subst f4_; subst f5_))
  refine hK.out _ _ ⟨(blk_cell BK468.out 0).trans rfl, (blk_cell BK468.out 1).trans rfl⟩ (fun hHeld => ?_)
  clear hK K
  refine nm 27 ?_
  refine on 5 29 (tb 6 5) (fun K hK => ?_)
  refine gs Try.func29 #[.slice Ao18 t470.length co18, .agg #[.int .i64 t473, .int .i64 t474], .int .i64 a2] ?_
  with_reducible refine (spec_PiecesOf.calls k _ _ t470 t473 t474 a2 t475 t478 _ ?side1 ?side2 A9.out).mono ?_
  (case side1 => repeat (first | exact (Kd.R_reads' HO472.out).2.2 | (with_reducible refine Kd.C_alloc ?_ _) | (with_reducible refine Kd.C_drewN ?_ _) | (with_reducible refine Kd.C_drew ?_)))
  (case side2 => exact (Kd.R_reads' HO472.out).2.1)
  rintro e w19 ⟨v476, rfl, ho0, hb⟩
  refine ⟨_, rfl, ?_⟩
  have HO477 := Aside0.mk (Kd.R_lower ho0 (below_size bl))
  replace HO472 := Aside0.mk (Kd.R_below (by (with_reducible repeat (first | apply Kd.R_alloc | apply Kd.R_drewN | apply Kd.R_drew)); exact HO472.out) hb)
  replace BK468 := Aside0.mk (bb gb468 hb)
  replace HB := Aside0.mk (bs hb)
  (try clear hb)
  (try clear hb2)
  (try clear hk)
  (try clear hi)
  (try clear ho0)
  refine hK.out _ _ ⟨(blk_cell BK468.out 0).trans rfl, (blk_cell BK468.out 1).trans rfl⟩ (fun hHeld => ?_)
  clear hK K
  refine nm 29 ?_
  refine pu 6 23 (tb 7 4) ?_
  refine pu 7 30 (tb 8 3) ?_
  refine pu 8 31 (tb 9 2) ?_
  refine pu 9 8 (tb 10 1) ?_
  refine pu 10 9 (tb 11 0) ?_
  refine done_ (done_of HT_.out (by kernel_rfl)) ?_
  go_upto_region 8 with (first | ((with_reducible refine gate_callee (f := 14) rfl ?_); refine gl 33 Try.func14 #[.slice A0 l0.length c0] ?_; (with_reducible refine (laws_toPointS.calls k _ _ l0 t479 _ ?side1 ?side2 A10.out).mono ?_); (case side1 => repeat (first | exact (Kd.C_below HR0.out HB.out) | (with_reducible refine Kd.C_alloc ?_ _) | (with_reducible refine Kd.C_drewN ?_ _) | (with_reducible refine Kd.C_drew ?_))); (case side2 => exact HC0.out); rintro e w20 ⟨v480, rfl, ho0, hb⟩; refine ⟨_, rfl, ?_⟩; have HO481 := Aside0.mk (Kd.R_lower (Kd.R_new' ho0 (Kd.R_lt (by (with_reducible repeat (first | apply Kd.R_alloc | apply Kd.R_drewN | apply Kd.R_drew)); exact HO472.out))) (below_size bl)); replace HO472 := Aside0.mk (Kd.R_elder' (by (with_reducible repeat (first | apply Kd.R_alloc | apply Kd.R_drewN | apply Kd.R_drew)); exact HO472.out) (Kd.R_base ho0) hb); replace HO477 := Aside0.mk (Kd.R_below (by (with_reducible repeat (first | apply Kd.R_alloc | apply Kd.R_drewN | apply Kd.R_drew)); exact HO477.out) hb); replace BK468 := Aside0.mk (bb gb468 hb); replace HB := Aside0.mk (bs hb); (try clear hb); (try clear hb2); (try clear hk); (try clear hi); (try clear ho0); have hcz21_0 : w20.cell? ⟨gb468, 0, none⟩ = some (.int .i64 a1_0) := (blk_cell BK468.out 0).trans rfl; have hcz21_1 : w20.cell? ⟨gb468, 1, none⟩ = some (.int .i64 a1_1) := (blk_cell BK468.out 1).trans rfl; have hfz21_0 := blk_frozen BK468.out 0; have hfz21_1 := blk_frozen BK468.out 1) | ((with_reducible refine gate_callee (f := 30) rfl ?_); refine gl 37 Try.func30 #[.agg #[.int .i64 a1_0, .int .i64 a1_1]] ?_; (with_reducible refine (laws_toRat.calls a1_0 a1_1 t482 t483 _ A11.out).mono ?_); rintro e w22 ⟨rfl, hb⟩; refine ⟨_, rfl, ?_⟩; replace HO472 := Aside0.mk (Kd.R_below (by (with_reducible repeat (first | apply Kd.R_alloc | apply Kd.R_drewN | apply Kd.R_drew)); exact HO472.out) hb); replace HO477 := Aside0.mk (Kd.R_below (by (with_reducible repeat (first | apply Kd.R_alloc | apply Kd.R_drewN | apply Kd.R_drew)); exact HO477.out) hb); replace HO481 := Aside0.mk (Kd.R_below (by (with_reducible repeat (first | apply Kd.R_alloc | apply Kd.R_drewN | apply Kd.R_drew)); exact HO481.out) hb); replace BK468 := Aside0.mk (bb gb468 hb); replace HB := Aside0.mk (bs hb); (try clear hb); (try clear hb2); (try clear hk); (try clear hi); obtain ⟨Ao23, co23, eo23⟩ := Kd.R_slice HO481.out; subst eo23) | ((with_reducible refine gate_callee (f := 31) rfl ?_); refine gl 39 Try.func31 #[.slice Ao23 t479.length co23, .agg #[.int .i64 t482, .int .i64 t483], .int .i64 a2] ?_; (with_reducible refine (impl_PiecesOf.calls k _ _ t479 t482 t483 a2 t484 t487 _ ?side1 ?side2 A12.out).mono ?_); (case side1 => repeat (first | exact (Kd.R_reads' HO481.out).2.2 | (with_reducible refine Kd.C_alloc ?_ _) | (with_reducible refine Kd.C_drewN ?_ _) | (with_reducible refine Kd.C_drew ?_))); (case side2 => exact (Kd.R_reads' HO481.out).2.1); rintro e w24 ⟨v485, rfl, ho0, hb⟩; refine ⟨_, rfl, ?_⟩; have HO486 := Aside0.mk (Kd.R_lower (Kd.R_new' ho0 (Kd.R_lt (by (with_reducible repeat (first | apply Kd.R_alloc | apply Kd.R_drewN | apply Kd.R_drew)); exact HO477.out))) (below_size bl)); replace HO472 := Aside0.mk (Kd.R_below (by (with_reducible repeat (first | apply Kd.R_alloc | apply Kd.R_drewN | apply Kd.R_drew)); exact HO472.out) hb); replace HO477 := Aside0.mk (Kd.R_elder' (by (with_reducible repeat (first | apply Kd.R_alloc | apply Kd.R_drewN | apply Kd.R_drew)); exact HO477.out) (Kd.R_base ho0) hb); replace HO481 := Aside0.mk (Kd.R_below (by (with_reducible repeat (first | apply Kd.R_alloc | apply Kd.R_drewN | apply Kd.R_drew)); exact HO481.out) hb); replace BK468 := Aside0.mk (bb gb468 hb); replace HB := Aside0.mk (bs hb); (try clear hb); (try clear hb2); (try clear hk); (try clear hi); (try clear ho0)))
  (try simp only [Act.put, List.setIfInBounds_toArray, List.set_cons_zero, List.set_cons_succ])
  go_cut [50] (fun v50 wc => ∃ (kq : Nat) (x50_12 : Bool), v50 = .bool x50_12 ∧ Aside0 (laws_FnExactPiecesOf.j0 kq l0 a2 t475 t478 t479 t484 t487 x50_12 a1_0 a1_1 = some r) ∧ Aside0 (kq ≤ k) ∧ Aside0 (Kd.R (Kd.int .i64) 3 wc w.heap.size (fun k_ => some k_ ≠ (v485 : Value).ownBlock) v476 t475) ∧ Aside0 (Kd.R k68 68 wc w.heap.size (fun _ => True) (.slice Ao23 t479.length co23) t479) ∧ Aside0 (Kd.R (Kd.int .i64) 3 wc w.heap.size (fun k_ => some k_ ≠ (v476 : Value).ownBlock) v485 t484) ∧ Aside0 (wc.heap[gb468]? = some (.cells #[.int .i64 a1_0, .int .i64 a1_1] 24 (0, 0))) ∧ Aside0 (Below w.heap.size w wc))
  case first =>
   have H := HC13.out
   clear HC13
   replace H := Option.bind_eq_some_iff.mp H
   obtain ⟨t488, A250, H⟩ := H
   replace H : (if t488 = true then (laws_FnExactPiecesOf.j0 k l0 a2 t475 t478 t479 t484 t487 (t487 != t478) a1_0 a1_1) else (laws_FnExactPiecesOf.j0 k l0 a2 t475 t478 t479 t484 t487 true a1_0 a1_1)) = some r := H
   have A25 := Aside0.mk A250
   clear A250
   by_cases c26 : t488 = true
   ·subst c26
    have H1 : (laws_FnExactPiecesOf.j0 k l0 a2 t475 t478 t479 t484 t487 (t487 != t478) a1_0 a1_1) = some r := by rw [if_pos rfl] at H; exact H
    clear H
    have H := H1
    clear H1
    have H' := Aside0.mk H
    clear H
    obtain ⟨Ao27, co27, eo27⟩ := Kd.R_slice HO486.out
    subst eo27
    obtain ⟨Ao28, co28, eo28⟩ := Kd.R_slice HO477.out
    subst eo28
    go_wp2_with (first | ((with_reducible refine gate_callee (f := 22) rfl ?_); refine gl 44 Try.func22 #[.slice Ao27 t484.length co27, .slice Ao28 t475.length co28] ?_; (with_reducible refine (laws_eqIntS.calls k _ _ t484 _ _ t475 true _ ?side1 ?side2 ?side3 ?side4 A25.out).mono ?_); (case side1 => repeat (first | exact (Kd.R_reads' HO486.out).2.2 | (with_reducible refine Kd.C_alloc ?_ _) | (with_reducible refine Kd.C_drewN ?_ _) | (with_reducible refine Kd.C_drew ?_))); (case side2 => exact (Kd.R_reads' HO486.out).2.1); (case side3 => repeat (first | exact (Kd.R_reads' HO477.out).2.2 | (with_reducible refine Kd.C_alloc ?_ _) | (with_reducible refine Kd.C_drewN ?_ _) | (with_reducible refine Kd.C_drew ?_))); (case side4 => exact (Kd.R_reads' HO477.out).2.1); rintro e w' ⟨rfl, ⟨nd, rfl⟩⟩; refine ⟨_, rfl, ?_⟩))
    go_meet
    case rel => exact ⟨_, ((t487 != t478)), (by first | rfl | (simp; done) | (simp [*]; done)), H', ⟨by first | omega | exact Nat.le_refl _⟩, ⟨by (with_reducible repeat (first | apply Kd.R_alloc | apply Kd.R_drewN | apply Kd.R_drew)); exact Kd.R_mono HO477.out (fun _ hk => hk.2)⟩, ⟨by (with_reducible repeat (first | apply Kd.R_alloc | apply Kd.R_drewN | apply Kd.R_drew)); exact Kd.R_mono HO481.out (fun _ hk => trivial)⟩, ⟨by (with_reducible repeat (first | apply Kd.R_alloc | apply Kd.R_drewN | apply Kd.R_drew)); exact Kd.R_mono HO486.out (fun _ hk => hk.2)⟩, ⟨by (with_reducible repeat (first | refine blk_drewN ?_ _ | refine blk_drew ?_ | refine blk_alloc ?_ _)); exact BK468.out⟩, ⟨bl⟩⟩
   ·replace c26 := Bool.eq_false_iff.mpr c26
    subst c26
    have H1 : (laws_FnExactPiecesOf.j0 k l0 a2 t475 t478 t479 t484 t487 true a1_0 a1_1) = some r := by rw [if_neg (show ¬ (false = true) by decide)] at H; exact H
    clear H
    have H := H1
    clear H1
    have H' := Aside0.mk H
    clear H
    obtain ⟨Ao29, co29, eo29⟩ := Kd.R_slice HO486.out
    subst eo29
    obtain ⟨Ao30, co30, eo30⟩ := Kd.R_slice HO477.out
    subst eo30
    go_wp2_with (first | ((with_reducible refine gate_callee (f := 22) rfl ?_); refine gl 44 Try.func22 #[.slice Ao29 t484.length co29, .slice Ao30 t475.length co30] ?_; (with_reducible refine (laws_eqIntS.calls k _ _ t484 _ _ t475 false _ ?side1 ?side2 ?side3 ?side4 A25.out).mono ?_); (case side1 => repeat (first | exact (Kd.R_reads' HO486.out).2.2 | (with_reducible refine Kd.C_alloc ?_ _) | (with_reducible refine Kd.C_drewN ?_ _) | (with_reducible refine Kd.C_drew ?_))); (case side2 => exact (Kd.R_reads' HO486.out).2.1); (case side3 => repeat (first | exact (Kd.R_reads' HO477.out).2.2 | (with_reducible refine Kd.C_alloc ?_ _) | (with_reducible refine Kd.C_drewN ?_ _) | (with_reducible refine Kd.C_drew ?_))); (case side4 => exact (Kd.R_reads' HO477.out).2.1); rintro e w' ⟨rfl, ⟨nd, rfl⟩⟩; refine ⟨_, rfl, ?_⟩))
    go_meet
    case rel => exact ⟨_, (true), (by first | rfl | (simp; done) | (simp [*]; done)), H', ⟨by first | omega | exact Nat.le_refl _⟩, ⟨by (with_reducible repeat (first | apply Kd.R_alloc | apply Kd.R_drewN | apply Kd.R_drew)); exact Kd.R_mono HO477.out (fun _ hk => hk.2)⟩, ⟨by (with_reducible repeat (first | apply Kd.R_alloc | apply Kd.R_drewN | apply Kd.R_drew)); exact Kd.R_mono HO481.out (fun _ hk => trivial)⟩, ⟨by (with_reducible repeat (first | apply Kd.R_alloc | apply Kd.R_drewN | apply Kd.R_drew)); exact Kd.R_mono HO486.out (fun _ hk => hk.2)⟩, ⟨by (with_reducible repeat (first | refine blk_drewN ?_ _ | refine blk_drew ?_ | refine blk_alloc ?_ _)); exact BK468.out⟩, ⟨bl⟩⟩
  case rest =>
   clear HC13
   try clear c1
   try clear c2
   try clear p2
   try clear c3
   try clear c5
   try clear c5b0
   try clear c8
   try clear c12
   try clear c14
   try clear c22
   try clear c26
   try clear c29
   try clear c30
   try clear hcz21_0
   try clear hcz21_1
   try clear hfz21_0
   try clear hfz21_1
   obtain ⟨kq, x50_12, rfl, HA, HJ12, HO_8, HO_10, HO_11, BK468, HB⟩ := hcut
   cases kq with
   | zero => exact absurd HA.out (by simp [laws_FnExactPiecesOf.j0])
   | succ kj12 =>
    have H := HA.out
    clear HA
    simp only [laws_FnExactPiecesOf.j0] at H
    by_cases c31 : x50_12 = true
    ·subst c31
     have H1 : (some false) = some r := by rw [if_pos rfl] at H; exact H
     clear H
     have H := H1
     clear H1
     obtain rfl := Option.some.inj H
     go_wp2
     go_ret
     exact ⟨by first | rfl | (simp [errW_none, errW_some] <;> rfl) | (simp [*, errW_none, errW_some] <;> rfl), bl⟩
    ·replace c31 := Bool.eq_false_iff.mpr c31
     subst c31
     have H1 : ((laws_toPointS.f kj12 l0).bind fun t489 => ((laws_eqPointS.f kj12 t479 t489).bind fun t492 => (if t492 = true then ((laws_markPointS.f kj12 t479 1).bind fun bt493 => (if bt493.1 < 0 then (laws_FnExactPiecesOf.j1 kj12 l0 a2 t475 t478 t484 true a1_0 a1_1) else ((laws_eqIntS.f kj12 t484 t475).bind fun t495 => (if t495 = true then (laws_FnExactPiecesOf.j1 kj12 l0 a2 t475 t478 t484 (t487 != t478) a1_0 a1_1) else (laws_FnExactPiecesOf.j1 kj12 l0 a2 t475 t478 t484 true a1_0 a1_1))))) else (some false)))) = some r := by rw [if_neg (show ¬ (false = true) by decide)] at H; exact H
     clear H
     have H := H1
     clear H1
     replace H := Option.bind_eq_some_iff.mp H
     obtain ⟨t489, A320, H⟩ := H
     replace H : ((laws_eqPointS.f kj12 t479 t489).bind fun t492 => (if t492 = true then ((laws_markPointS.f kj12 t479 1).bind fun bt493 => (if bt493.1 < 0 then (laws_FnExactPiecesOf.j1 kj12 l0 a2 t475 t478 t484 true a1_0 a1_1) else ((laws_eqIntS.f kj12 t484 t475).bind fun t495 => (if t495 = true then (laws_FnExactPiecesOf.j1 kj12 l0 a2 t475 t478 t484 (t487 != t478) a1_0 a1_1) else (laws_FnExactPiecesOf.j1 kj12 l0 a2 t475 t478 t484 true a1_0 a1_1))))) else (some false))) = some r := H
     have A32 := Aside0.mk A320
     clear A320
     replace H := Option.bind_eq_some_iff.mp H
     obtain ⟨t492, A330, H⟩ := H
     replace H : (if t492 = true then ((laws_markPointS.f kj12 t479 1).bind fun bt493 => (if bt493.1 < 0 then (laws_FnExactPiecesOf.j1 kj12 l0 a2 t475 t478 t484 true a1_0 a1_1) else ((laws_eqIntS.f kj12 t484 t475).bind fun t495 => (if t495 = true then (laws_FnExactPiecesOf.j1 kj12 l0 a2 t475 t478 t484 (t487 != t478) a1_0 a1_1) else (laws_FnExactPiecesOf.j1 kj12 l0 a2 t475 t478 t484 true a1_0 a1_1))))) else (some false)) = some r := H
     have A33 := Aside0.mk A330
     clear A330
     by_cases c34 : t492 = true
     ·subst c34
      have H1 : ((laws_markPointS.f kj12 t479 1).bind fun bt493 => (if bt493.1 < 0 then (laws_FnExactPiecesOf.j1 kj12 l0 a2 t475 t478 t484 true a1_0 a1_1) else ((laws_eqIntS.f kj12 t484 t475).bind fun t495 => (if t495 = true then (laws_FnExactPiecesOf.j1 kj12 l0 a2 t475 t478 t484 (t487 != t478) a1_0 a1_1) else (laws_FnExactPiecesOf.j1 kj12 l0 a2 t475 t478 t484 true a1_0 a1_1))))) = some r := by rw [if_pos rfl] at H; exact H
      clear H
      have H := H1
      clear H1
      replace H := Option.bind_eq_some_iff.mp H
      obtain ⟨⟨t493, t494⟩, A350, H⟩ := H
      replace H : (if t493 < 0 then (laws_FnExactPiecesOf.j1 kj12 l0 a2 t475 t478 t484 true a1_0 a1_1) else ((laws_eqIntS.f kj12 t484 t475).bind fun t495 => (if t495 = true then (laws_FnExactPiecesOf.j1 kj12 l0 a2 t475 t478 t484 (t487 != t478) a1_0 a1_1) else (laws_FnExactPiecesOf.j1 kj12 l0 a2 t475 t478 t484 true a1_0 a1_1)))) = some r := H
      have A35 := Aside0.mk A350
      clear A350
      have HC36 := Aside0.mk H
      clear H
      go_upto_region 14 with (first | ((with_reducible refine gate_callee (f := 14) rfl ?_); refine gl 53 Try.func14 #[.slice A0 l0.length c0] ?_; (with_reducible refine (laws_toPointS.calls kj12 _ _ l0 t489 _ ?side1 ?side2 A32.out).mono ?_); (case side1 => repeat (first | exact (Kd.C_below HR0.out HB.out) | (with_reducible refine Kd.C_alloc ?_ _) | (with_reducible refine Kd.C_drewN ?_ _) | (with_reducible refine Kd.C_drew ?_))); (case side2 => exact HC0.out); rintro e w37 ⟨v490, rfl, ho0, hb⟩; refine ⟨_, rfl, ?_⟩; have HO491 := Aside0.mk (Kd.R_lower (Kd.R_new' ho0 (Kd.R_lt (by (with_reducible repeat (first | apply Kd.R_alloc | apply Kd.R_drewN | apply Kd.R_drew)); exact HO_10.out))) (below_size bl)); replace HO_8 := Aside0.mk (Kd.R_below (by (with_reducible repeat (first | apply Kd.R_alloc | apply Kd.R_drewN | apply Kd.R_drew)); exact HO_8.out) hb); replace HO_10 := Aside0.mk (Kd.R_elder' (by (with_reducible repeat (first | apply Kd.R_alloc | apply Kd.R_drewN | apply Kd.R_drew)); exact HO_10.out) (Kd.R_base ho0) hb); replace HO_11 := Aside0.mk (Kd.R_below (by (with_reducible repeat (first | apply Kd.R_alloc | apply Kd.R_drewN | apply Kd.R_drew)); exact HO_11.out) hb); replace BK468 := Aside0.mk (bb gb468 hb); replace HB := Aside0.mk (bs hb); (try clear hb); (try clear hb2); (try clear hk); (try clear hi); (try clear ho0); obtain ⟨Ao38, co38, eo38⟩ := Kd.R_slice HO491.out; subst eo38) | ((with_reducible refine gate_callee (f := 18) rfl ?_); refine gl 54 Try.func18 #[.slice Ao23 t479.length co23, .slice Ao38 t489.length co38] ?_; (with_reducible refine (laws_eqPointS.calls kj12 _ _ t479 _ _ t489 true _ ?side1 ?side2 ?side3 ?side4 A33.out).mono ?_); (case side1 => repeat (first | exact (Kd.R_reads' HO_10.out).2.2 | (with_reducible refine Kd.C_alloc ?_ _) | (with_reducible refine Kd.C_drewN ?_ _) | (with_reducible refine Kd.C_drew ?_))); (case side2 => exact (Kd.R_reads' HO_10.out).2.1); (case side3 => repeat (first | exact (Kd.R_reads' HO491.out).2.2 | (with_reducible refine Kd.C_alloc ?_ _) | (with_reducible refine Kd.C_drewN ?_ _) | (with_reducible refine Kd.C_drew ?_))); (case side4 => exact (Kd.R_reads' HO491.out).2.1); rintro e w39 ⟨rfl, hb⟩; refine ⟨_, rfl, ?_⟩; replace HO_8 := Aside0.mk (Kd.R_below (by (with_reducible repeat (first | apply Kd.R_alloc | apply Kd.R_drewN | apply Kd.R_drew)); exact HO_8.out) hb); replace HO_10 := Aside0.mk (Kd.R_below (by (with_reducible repeat (first | apply Kd.R_alloc | apply Kd.R_drewN | apply Kd.R_drew)); exact HO_10.out) hb); replace HO_11 := Aside0.mk (Kd.R_below (by (with_reducible repeat (first | apply Kd.R_alloc | apply Kd.R_drewN | apply Kd.R_drew)); exact HO_11.out) hb); replace HO491 := Aside0.mk (Kd.R_below (by (with_reducible repeat (first | apply Kd.R_alloc | apply Kd.R_drewN | apply Kd.R_drew)); exact HO491.out) hb); replace BK468 := Aside0.mk (bb gb468 hb); replace HB := Aside0.mk (bs hb); (try clear hb); (try clear hb2); (try clear hk); (try clear hi)) | ((with_reducible refine gate_callee (f := 32) rfl ?_); refine gl 58 Try.func32 #[.slice Ao23 t479.length co23, .int .i64 1] ?_; (with_reducible refine (laws_markPointS.calls kj12 (fun k_ => some k_ = (.slice Ao23 t479.length co23 : Value).ownBlock) (.slice Ao23 t479.length co23) t479 1 t493 t494 w _ ?side1 ?side2 A35.out).mono ?_); (case side1 => repeat (first | (with_reducible first | exact HB.out | apply below_alloc | apply pw_below_drewN | apply below_drew1 | refine below_set ?_ GE468.out) | exact HB.out)); (case side2 => exact Kd.R_tight rfl HO_10.out); rintro e w40 ⟨rfl, hy0, hb, hkp⟩; refine ⟨_, rfl, ?_⟩; replace HO_8 := Aside0.mk (Kd.R_mono (ok' := fun k_ => some k_ ≠ (v485 : Value).ownBlock) (Kd.R_keptB ((Kd.R_apart' HO_8.out (Kd.R_typed HO_10.out) (by decide))) hkp (fun k_ hk_ hs_ => (hk_.2) hs_)) (fun k_ hk_ => hk_.1.1)); replace HO_11 := Aside0.mk (Kd.R_mono (ok' := fun k_ => some k_ ≠ (v476 : Value).ownBlock) (Kd.R_keptB ((Kd.R_apart' HO_11.out (Kd.R_typed HO_10.out) (by decide))) hkp (fun k_ hk_ hs_ => (hk_.2) hs_)) (fun k_ hk_ => hk_.1.1)); replace BK468 := Aside0.mk (blk_kept (bo gb468) hkp (fun hs_ => (fun e_ => (Kd.R_ne HO_10.out BK468.out (by decide)) e_) hs_)); replace HO_10 := Aside0.mk (Kd.R_reok rfl hy0 (fun k_ e_ => HO_10.out.1 k_ e_)); replace HO491 := Aside0.mk (Kd.R_mono (ok' := fun k_ => some k_ ≠ (.slice Ao23 t479.length co23 : Value).ownBlock) (Kd.R_keptB (HO491.out) hkp (fun k_ hk_ hs_ => (hk_.2) hs_)) (fun k_ hk_ => hk_.1.2)); replace HB := Aside0.mk (hb); (try clear hb); (try clear hkp); (try clear hy0)))
      (try simp only [Act.put, List.setIfInBounds_toArray, List.set_cons_zero, List.set_cons_succ])
      go_cut [71] (fun v71 wc => ∃ (kq : Nat) (x71_35 : Bool), v71 = .bool x71_35 ∧ Aside0 (laws_FnExactPiecesOf.j1 kq l0 a2 t475 t478 t484 x71_35 a1_0 a1_1 = some r) ∧ Aside0 (kq ≤ kj12) ∧ Aside0 (Kd.R (Kd.int .i64) 3 wc w.heap.size (fun k_ => some k_ ≠ (v485 : Value).ownBlock) v476 t475) ∧ Aside0 (Kd.R (Kd.int .i64) 3 wc w.heap.size (fun k_ => some k_ ≠ (v476 : Value).ownBlock) v485 t484) ∧ Aside0 (wc.heap[gb468]? = some (.cells #[.int .i64 a1_0, .int .i64 a1_1] 24 (0, 0))) ∧ Aside0 (Below w.heap.size w wc))
      case first =>
       have H := HC36.out
       clear HC36
       by_cases c41 : t493 < 0
       ·rw [if_pos c41] at H
        have c41b0 : decide (t493 < 0) = true := decide_eq_true c41
        clear c41
        (first | rw [c41b0] | (simp only [i64_w, i32_w]; rw [c41b0]) | skip)
        have H' := Aside0.mk H
        clear H
        go_wp2
        go_meet
        case rel => exact ⟨_, (true), (by first | rfl | (simp; done) | (simp [*]; done)), H', ⟨by have := HJ12.out; first | omega | exact Nat.le_refl _⟩, ⟨by (with_reducible repeat (first | apply Kd.R_alloc | apply Kd.R_drewN | apply Kd.R_drew)); exact HO_8.out⟩, ⟨by (with_reducible repeat (first | apply Kd.R_alloc | apply Kd.R_drewN | apply Kd.R_drew)); exact HO_11.out⟩, ⟨by (with_reducible repeat (first | refine blk_drewN ?_ _ | refine blk_drew ?_ | refine blk_alloc ?_ _)); exact BK468.out⟩, ⟨bl⟩⟩
       ·rw [if_neg c41] at H
        have c41b0 : decide (t493 < 0) = false := decide_eq_false c41
        clear c41
        (first | rw [c41b0] | (simp only [i64_w, i32_w]; rw [c41b0]) | skip)
        replace H := Option.bind_eq_some_iff.mp H
        obtain ⟨t495, A420, H⟩ := H
        replace H : (if t495 = true then (laws_FnExactPiecesOf.j1 kj12 l0 a2 t475 t478 t484 (t487 != t478) a1_0 a1_1) else (laws_FnExactPiecesOf.j1 kj12 l0 a2 t475 t478 t484 true a1_0 a1_1)) = some r := H
        have A42 := Aside0.mk A420
        clear A420
        by_cases c43 : t495 = true
        ·subst c43
         have H1 : (laws_FnExactPiecesOf.j1 kj12 l0 a2 t475 t478 t484 (t487 != t478) a1_0 a1_1) = some r := by rw [if_pos rfl] at H; exact H
         clear H
         have H := H1
         clear H1
         have H' := Aside0.mk H
         clear H
         obtain ⟨Ao44, co44, eo44⟩ := Kd.R_slice HO_11.out
         subst eo44
         obtain ⟨Ao45, co45, eo45⟩ := Kd.R_slice HO_8.out
         subst eo45
         go_wp2_with (first | (go_at_call 22; (with_reducible refine (laws_eqIntS.calls kj12 _ _ t484 _ _ t475 true _ ?side1 ?side2 ?side3 ?side4 A42.out).mono ?_); (case side1 => repeat (first | exact (Kd.R_reads' HO_11.out).2.2 | (with_reducible refine Kd.C_alloc ?_ _) | (with_reducible refine Kd.C_drewN ?_ _) | (with_reducible refine Kd.C_drew ?_))); (case side2 => exact (Kd.R_reads' HO_11.out).2.1); (case side3 => repeat (first | exact (Kd.R_reads' HO_8.out).2.2 | (with_reducible refine Kd.C_alloc ?_ _) | (with_reducible refine Kd.C_drewN ?_ _) | (with_reducible refine Kd.C_drew ?_))); (case side4 => exact (Kd.R_reads' HO_8.out).2.1); rintro e w' ⟨rfl, ⟨nd, rfl⟩⟩))
         go_meet
         case rel => exact ⟨_, ((t487 != t478)), (by first | rfl | (simp; done) | (simp [*]; done)), H', ⟨by have := HJ12.out; first | omega | exact Nat.le_refl _⟩, ⟨by (with_reducible repeat (first | apply Kd.R_alloc | apply Kd.R_drewN | apply Kd.R_drew)); exact HO_8.out⟩, ⟨by (with_reducible repeat (first | apply Kd.R_alloc | apply Kd.R_drewN | apply Kd.R_drew)); exact HO_11.out⟩, ⟨by (with_reducible repeat (first | refine blk_drewN ?_ _ | refine blk_drew ?_ | refine blk_alloc ?_ _)); exact BK468.out⟩, ⟨bl⟩⟩
        ·replace c43 := Bool.eq_false_iff.mpr c43
         subst c43
         have H1 : (laws_FnExactPiecesOf.j1 kj12 l0 a2 t475 t478 t484 true a1_0 a1_1) = some r := by rw [if_neg (show ¬ (false = true) by decide)] at H; exact H
         clear H
         have H := H1
         clear H1
         have H' := Aside0.mk H
         clear H
         obtain ⟨Ao46, co46, eo46⟩ := Kd.R_slice HO_11.out
         subst eo46
         obtain ⟨Ao47, co47, eo47⟩ := Kd.R_slice HO_8.out
         subst eo47
         go_wp2_with (first | (go_at_call 22; (with_reducible refine (laws_eqIntS.calls kj12 _ _ t484 _ _ t475 false _ ?side1 ?side2 ?side3 ?side4 A42.out).mono ?_); (case side1 => repeat (first | exact (Kd.R_reads' HO_11.out).2.2 | (with_reducible refine Kd.C_alloc ?_ _) | (with_reducible refine Kd.C_drewN ?_ _) | (with_reducible refine Kd.C_drew ?_))); (case side2 => exact (Kd.R_reads' HO_11.out).2.1); (case side3 => repeat (first | exact (Kd.R_reads' HO_8.out).2.2 | (with_reducible refine Kd.C_alloc ?_ _) | (with_reducible refine Kd.C_drewN ?_ _) | (with_reducible refine Kd.C_drew ?_))); (case side4 => exact (Kd.R_reads' HO_8.out).2.1); rintro e w' ⟨rfl, ⟨nd, rfl⟩⟩))
         go_meet
         case rel => exact ⟨_, (true), (by first | rfl | (simp; done) | (simp [*]; done)), H', ⟨by have := HJ12.out; first | omega | exact Nat.le_refl _⟩, ⟨by (with_reducible repeat (first | apply Kd.R_alloc | apply Kd.R_drewN | apply Kd.R_drew)); exact HO_8.out⟩, ⟨by (with_reducible repeat (first | apply Kd.R_alloc | apply Kd.R_drewN | apply Kd.R_drew)); exact HO_11.out⟩, ⟨by (with_reducible repeat (first | refine blk_drewN ?_ _ | refine blk_drew ?_ | refine blk_alloc ?_ _)); exact BK468.out⟩, ⟨bl⟩⟩
      case rest =>
       clear HC36
       try clear c1
       try clear c2
       try clear p2
       try clear c3
       try clear c4
       try clear c5
       try clear c5b0
       try clear c8
       try clear c12
       try clear c14
       try clear c18
       try clear c22
       try clear c26
       try clear c29
       try clear c30
       try clear c31
       try clear c32
       try clear c34
       try clear c41
       try clear c41b0
       try clear c43
       try clear hcz21_0
       try clear hcz21_1
       try clear hfz21_0
       try clear hfz21_1
       try clear p2
       obtain ⟨kq, x71_35, rfl, HA, HJ35, HO_8, HO_11, BK468, HB⟩ := hcut
       cases kq with
       | zero => exact absurd HA.out (by simp [laws_FnExactPiecesOf.j1])
       | succ kj35 =>
        have H := HA.out
        clear HA
        simp only [laws_FnExactPiecesOf.j1] at H
        by_cases c48 : x71_35 = true
        ·subst c48
         have H1 : (some false) = some r := by rw [if_pos rfl] at H; exact H
         clear H
         have H := H1
         clear H1
         obtain rfl := Option.some.inj H
         go_wp2
         go_ret
         exact ⟨by first | rfl | (simp [errW_none, errW_some] <;> rfl) | (simp [*, errW_none, errW_some] <;> rfl), bl⟩
        ·replace c48 := Bool.eq_false_iff.mpr c48
         subst c48
         have H1 : ((laws_markIntS.f kj35 t484 1).bind fun bt496 => ((laws_heldIntS.f kj35 bt496.2 1).bind fun t498 => (if t498 < 0 then (some false) else (if t498 = bt496.1 then ((laws_toPointS.f kj35 l0).bind fun t499 => ((laws_toRat.f a1_0 a1_1).bind fun bt502 => ((impl_PiecesOf.f kj35 t499 bt502.1 bt502.2 a2).bind fun bt504 => ((laws_eqIntS.f kj35 bt504.1 t475).bind fun t508 => (if t508 = true then (laws_FnExactPiecesOf.j2 kj35 bt496.2 bt496.1 (bt504.2 != t478)) else (laws_FnExactPiecesOf.j2 kj35 bt496.2 bt496.1 true)))))) else (some false))))) = some r := by rw [if_neg (show ¬ (false = true) by decide)] at H; exact H
         clear H
         have H := H1
         clear H1
         replace H := Option.bind_eq_some_iff.mp H
         obtain ⟨⟨t496, t497⟩, A490, H⟩ := H
         replace H : ((laws_heldIntS.f kj35 t497 1).bind fun t498 => (if t498 < 0 then (some false) else (if t498 = t496 then ((laws_toPointS.f kj35 l0).bind fun t499 => ((laws_toRat.f a1_0 a1_1).bind fun bt502 => ((impl_PiecesOf.f kj35 t499 bt502.1 bt502.2 a2).bind fun bt504 => ((laws_eqIntS.f kj35 bt504.1 t475).bind fun t508 => (if t508 = true then (laws_FnExactPiecesOf.j2 kj35 t497 t496 (bt504.2 != t478)) else (laws_FnExactPiecesOf.j2 kj35 t497 t496 true)))))) else (some false)))) = some r := H
         have A49 := Aside0.mk A490
         clear A490
         replace H := Option.bind_eq_some_iff.mp H
         obtain ⟨t498, A500, H⟩ := H
         replace H : (if t498 < 0 then (some false) else (if t498 = t496 then ((laws_toPointS.f kj35 l0).bind fun t499 => ((laws_toRat.f a1_0 a1_1).bind fun bt502 => ((impl_PiecesOf.f kj35 t499 bt502.1 bt502.2 a2).bind fun bt504 => ((laws_eqIntS.f kj35 bt504.1 t475).bind fun t508 => (if t508 = true then (laws_FnExactPiecesOf.j2 kj35 t497 t496 (bt504.2 != t478)) else (laws_FnExactPiecesOf.j2 kj35 t497 t496 true)))))) else (some false))) = some r := H
         have A50 := Aside0.mk A500
         clear A500
         by_cases c51 : t498 < 0
         ·rw [if_pos c51] at H
          have c51b0 : decide (t498 < 0) = true := decide_eq_true c51
          clear c51
          obtain rfl := Option.some.inj H
          obtain ⟨Ao52, co52, eo52⟩ := Kd.R_slice HO_11.out
          subst eo52
          go_wp2_with (first | ((with_reducible refine gate_callee (f := 33) rfl ?_); refine gl 74 Try.func33 #[.slice Ao52 t484.length co52, .int .i64 1] ?_; (with_reducible refine (laws_markIntS.calls kj35 (fun k_ => some k_ = (.slice Ao52 t484.length co52 : Value).ownBlock) (.slice Ao52 t484.length co52) t484 1 t496 t497 w _ ?side1 ?side2 A49.out).mono ?_); (case side1 => repeat (first | (with_reducible first | exact HB.out | apply below_alloc | apply pw_below_drewN | apply below_drew1 | refine below_set ?_ GE468.out) | exact HB.out)); (case side2 => exact Kd.R_tight rfl HO_11.out); rintro e w53 ⟨rfl, hy0, hb, hkp⟩; refine ⟨_, rfl, ?_⟩; replace HO_8 := Aside0.mk (Kd.R_mono (ok' := fun k_ => some k_ ≠ (.slice Ao52 t484.length co52 : Value).ownBlock) (Kd.R_keptB (HO_8.out) hkp (fun k_ hk_ hs_ => (hk_) hs_)) (fun k_ hk_ => hk_.1)); replace BK468 := Aside0.mk (blk_kept (bo gb468) hkp (fun hs_ => (fun e_ => (Kd.R_ne HO_11.out BK468.out (by decide)) e_) hs_)); replace HO_11 := Aside0.mk (Kd.R_reok rfl hy0 (fun k_ e_ => HO_11.out.1 k_ e_)); replace HB := Aside0.mk (hb); (try clear hb); (try clear hkp); (try clear hy0)) | ((with_reducible refine gate_callee (f := 34) rfl ?_); refine goesL_ (some 77) rfl rfl Try.func34 (by kernel_rfl) rfl #[.slice Ao52 t497.length co52, .int .i64 1] rfl (by (try simp only [List.map_toArray, List.map_cons, List.map_nil]); first | done | (rw [show t497.length = t484.length from (Kd.R_reads' HO_11.out).1.symm] <;> rfl) | rfl | (simp only [List.length_drop, List.length_take]; rfl)) ?_; (with_reducible refine (laws_heldIntS.calls kj35 _ _ t497 1 t498 _ ?side1 ?side2 A50.out).mono ?_); (case side1 => repeat (first | exact (Kd.R_reads' HO_11.out).2.2 | (with_reducible refine Kd.C_alloc ?_ _) | (with_reducible refine Kd.C_drewN ?_ _) | (with_reducible refine Kd.C_drew ?_))); (case side2 => rw [show t497.length = t484.length from (Kd.R_reads' HO_11.out).1.symm]; exact (Kd.R_reads' HO_11.out).2.1); rintro e w' ⟨rfl, ⟨nd, rfl⟩⟩; refine ⟨_, rfl, ?_⟩))
          go_ret
          exact ⟨by first | rfl | (simp [errW_none, errW_some] <;> rfl) | (simp [*, errW_none, errW_some] <;> rfl), bl⟩
         ·rw [if_neg c51] at H
          have c51b0 : decide (t498 < 0) = false := decide_eq_false c51
          clear c51
          by_cases c54 : t498 = t496
          ·rw [if_pos c54] at H
           have c54b0 : (t498 == t496) = true := beq_iff_eq.mpr c54
           have c54b1 : (t498 != t496) = false := bne_eq_false_iff_eq.mpr c54
           clear c54
           replace H := Option.bind_eq_some_iff.mp H
           obtain ⟨t499, A550, H⟩ := H
           replace H : ((laws_toRat.f a1_0 a1_1).bind fun bt502 => ((impl_PiecesOf.f kj35 t499 bt502.1 bt502.2 a2).bind fun bt504 => ((laws_eqIntS.f kj35 bt504.1 t475).bind fun t508 => (if t508 = true then (laws_FnExactPiecesOf.j2 kj35 t497 t496 (bt504.2 != t478)) else (laws_FnExactPiecesOf.j2 kj35 t497 t496 true))))) = some r := H
           have A55 := Aside0.mk A550
           clear A550
           replace H := Option.bind_eq_some_iff.mp H
           obtain ⟨⟨t502, t503⟩, A560, H⟩ := H
           replace H : ((impl_PiecesOf.f kj35 t499 t502 t503 a2).bind fun bt504 => ((laws_eqIntS.f kj35 bt504.1 t475).bind fun t508 => (if t508 = true then (laws_FnExactPiecesOf.j2 kj35 t497 t496 (bt504.2 != t478)) else (laws_FnExactPiecesOf.j2 kj35 t497 t496 true)))) = some r := H
           have A56 := Aside0.mk A560
           clear A560
           replace H := Option.bind_eq_some_iff.mp H
           obtain ⟨⟨t504, t507⟩, A570, H⟩ := H
           replace H : ((laws_eqIntS.f kj35 t504 t475).bind fun t508 => (if t508 = true then (laws_FnExactPiecesOf.j2 kj35 t497 t496 (t507 != t478)) else (laws_FnExactPiecesOf.j2 kj35 t497 t496 true))) = some r := H
           have A57 := Aside0.mk A570
           clear A570
           have HC58 := Aside0.mk H
           clear H
           obtain ⟨Ao59, co59, eo59⟩ := Kd.R_slice HO_11.out
           subst eo59
           try go_wp2_with (first | ((with_reducible refine gate_callee (f := 33) rfl ?_); refine gl 74 Try.func33 #[.slice Ao59 t484.length co59, .int .i64 1] ?_; (with_reducible refine (laws_markIntS.calls kj35 (fun k_ => some k_ = (.slice Ao59 t484.length co59 : Value).ownBlock) (.slice Ao59 t484.length co59) t484 1 t496 t497 w _ ?side1 ?side2 A49.out).mono ?_); (case side1 => repeat (first | (with_reducible first | exact HB.out | apply below_alloc | apply pw_below_drewN | apply below_drew1 | refine below_set ?_ GE468.out) | exact HB.out)); (case side2 => exact Kd.R_tight rfl HO_11.out); rintro e w60 ⟨rfl, hy0, hb, hkp⟩; refine ⟨_, rfl, ?_⟩; replace HO_8 := Aside0.mk (Kd.R_mono (ok' := fun k_ => some k_ ≠ (.slice Ao59 t484.length co59 : Value).ownBlock) (Kd.R_keptB (HO_8.out) hkp (fun k_ hk_ hs_ => (hk_) hs_)) (fun k_ hk_ => hk_.1)); replace BK468 := Aside0.mk (blk_kept (bo gb468) hkp (fun hs_ => (fun e_ => (Kd.R_ne HO_11.out BK468.out (by decide)) e_) hs_)); replace HO_11 := Aside0.mk (Kd.R_reok rfl hy0 (fun k_ e_ => HO_11.out.1 k_ e_)); replace HB := Aside0.mk (hb); (try clear hb); (try clear hkp); (try clear hy0)) | ((with_reducible refine gate_callee (f := 34) rfl ?_); refine goesL_ (some 77) rfl rfl Try.func34 (by kernel_rfl) rfl #[.slice Ao59 t497.length co59, .int .i64 1] rfl (by (try simp only [List.map_toArray, List.map_cons, List.map_nil]); first | done | (rw [show t497.length = t484.length from (Kd.R_reads' HO_11.out).1.symm] <;> rfl) | rfl | (simp only [List.length_drop, List.length_take]; rfl)) ?_; (with_reducible refine (laws_heldIntS.calls kj35 _ _ t497 1 t498 _ ?side1 ?side2 A50.out).mono ?_); (case side1 => repeat (first | exact (Kd.R_reads' HO_11.out).2.2 | (with_reducible refine Kd.C_alloc ?_ _) | (with_reducible refine Kd.C_drewN ?_ _) | (with_reducible refine Kd.C_drew ?_))); (case side2 => rw [show t497.length = t484.length from (Kd.R_reads' HO_11.out).1.symm]; exact (Kd.R_reads' HO_11.out).2.1); rintro e w' ⟨rfl, ⟨nd, rfl⟩⟩; refine ⟨_, rfl, ?_⟩))
           (try (rw [drewN_self w60]; generalize hq_ : World.drewN w60 _ = w60; have n0_ : Aside0 (Kd.R (Kd.int .i64) 3 w60 w.heap.size (fun k_ => some k_ ≠ (v476 : Value).ownBlock) (.slice Ao59 t484.length co59) t497) := ⟨by rw [← hq_]; exact (by (with_reducible repeat (first | apply Kd.R_alloc | apply Kd.R_drewN | apply Kd.R_drew)); exact HO_11.out)⟩; have n1_ : Aside0 (Kd.R (Kd.int .i64) 3 w60 w.heap.size (fun k_ => some k_ ≠ (.slice Ao59 t484.length co59 : Value).ownBlock) v476 t475) := ⟨by rw [← hq_]; exact (by (with_reducible repeat (first | apply Kd.R_alloc | apply Kd.R_drewN | apply Kd.R_drew)); exact HO_8.out)⟩; have n2_ : Aside0 (w60.heap[gb468]? = some (.cells #[.int .i64 a1_0, .int .i64 a1_1] 24 (0, 0))) := ⟨by rw [← hq_]; exact (bo gb468)⟩; have n3_ : Aside0 (Below w.heap.size w w60) := ⟨by rw [← hq_]; exact bl⟩; clear HO_11 HO_8 BK468 HB hq_; have HO_11 := n0_; have HO_8 := n1_; have BK468 := n2_; have HB := n3_; clear n0_ n1_ n2_ n3_))
           replace HO_8 := Aside0.mk (Kd.R_drew HO_8.out)
           replace HO_11 := Aside0.mk (Kd.R_drew HO_11.out)
           replace BK468 := Aside0.mk (blk_drew BK468.out)
           replace HB := Aside0.mk (below_drew1 HB.out)
           refine start_ (n := 11) (S := fun w' => w'.cell? ⟨gb468, 0, none⟩ = some (.int .i64 a1_0) ∧ w'.cell? ⟨gb468, 1, none⟩ = some (.int .i64 a1_1)) (ds := []) (tb 0 11) (by kernel_rfl) rfl rfl ⟨(blk_cell BK468.out 0).trans rfl, (blk_cell BK468.out 1).trans rfl⟩ (fun hHeld => ?_); refine with_tabW laws_FnExactPiecesOf.tab24 laws_FnExactPiecesOf.bits24 (fun HT_ HW_ => ?_)
           generalize w60.drew = w61 at HO_8 HO_11 BK468 HB hHeld ⊢
           refine pu 0 84 (tb 1 10) ?_
           refine pu 4 88 #[true, false, false, false, true, false, false, false, false, false, false] ?_
           refine tk 2 86 #[true, false, true, false, true, false, false, false, false, false, false] (hy := by rintro w' ⟨s0, s1⟩; go_simp; with_reducible rfl) (h := ?_)
           refine on 1 85 #[true, true, true, false, true, false, false, false, false, false, false] (fun K hK => ?_)
           refine gs Try.func14 #[.slice A0 l0.length c0] ?_
           with_reducible refine (laws_toPointS.calls kj35 _ _ l0 t499 _ ?side1 ?side2 A55.out).mono ?_
           (case side1 => repeat (first | exact (Kd.C_below HR0.out HB.out) | (with_reducible refine Kd.C_alloc ?_ _) | (with_reducible refine Kd.C_drewN ?_ _) | (with_reducible refine Kd.C_drew ?_)))
           (case side2 => exact HC0.out)
           rintro e w62 ⟨v500, rfl, ho0, hb⟩
           refine ⟨_, rfl, ?_⟩
           have HO501 := Aside0.mk (Kd.R_lower ho0 (below_size bl))
           replace HO_8 := Aside0.mk (Kd.R_below (by (with_reducible repeat (first | apply Kd.R_alloc | apply Kd.R_drewN | apply Kd.R_drew)); exact HO_8.out) hb)
           replace HO_11 := Aside0.mk (Kd.R_below (by (with_reducible repeat (first | apply Kd.R_alloc | apply Kd.R_drewN | apply Kd.R_drew)); exact HO_11.out) hb)
           replace BK468 := Aside0.mk (bb gb468 hb)
           replace HB := Aside0.mk (bs hb)
           (try clear hb)
           (try clear hb2)
           (try clear hk)
           (try clear hi)
           (try clear ho0)
           refine hK.out _ _ ⟨(blk_cell BK468.out 0).trans rfl, (blk_cell BK468.out 1).trans rfl⟩ (fun hHeld => ?_)
           clear hK K
           refine nm 85 ?_
           refine on 3 87 (tb 5 6) (fun K hK => ?_)
           refine gs Try.func30 #[.agg #[.int .i64 a1_0, .int .i64 a1_1]] ?_
           with_reducible refine (laws_toRat.calls a1_0 a1_1 t502 t503 _ A56.out).mono ?_
           rintro e w63 ⟨rfl, hb⟩
           refine ⟨_, rfl, ?_⟩
           replace HO_8 := Aside0.mk (Kd.R_below (by (with_reducible repeat (first | apply Kd.R_alloc | apply Kd.R_drewN | apply Kd.R_drew)); exact HO_8.out) hb)
           replace HO_11 := Aside0.mk (Kd.R_below (by (with_reducible repeat (first | apply Kd.R_alloc | apply Kd.R_drewN | apply Kd.R_drew)); exact HO_11.out) hb)
           replace HO501 := Aside0.mk (Kd.R_below (by (with_reducible repeat (first | apply Kd.R_alloc | apply Kd.R_drewN | apply Kd.R_drew)); exact HO501.out) hb)
           replace BK468 := Aside0.mk (bb gb468 hb)
           replace HB := Aside0.mk (bs hb)
           (try clear hb)
           (try clear hb2)
           (try clear hk)
           (try clear hi)
           obtain ⟨Ao64, co64, eo64⟩ := Kd.R_slice HO501.out
           (first | subst eo64 | (injection eo64 with f1_ f2_ f3_; have f4_ := f1_.symm; have f5_ := f3_.symm; clear f1_ f2_ f3_; subst f4_; subst f5_))
           refine hK.out _ _ ⟨(blk_cell BK468.out 0).trans rfl, (blk_cell BK468.out 1).trans rfl⟩ (fun hHeld => ?_)
           clear hK K
           refine nm 87 ?_
           refine on 5 89 (tb 6 5) (fun K hK => ?_)
           refine gs Try.func31 #[.slice Ao64 t499.length co64, .agg #[.int .i64 t502, .int .i64 t503], .int .i64 a2] ?_
           with_reducible refine (impl_PiecesOf.calls kj35 _ _ t499 t502 t503 a2 t504 t507 _ ?side1 ?side2 A57.out).mono ?_
           (case side1 => repeat (first | exact (Kd.R_reads' HO501.out).2.2 | (with_reducible refine Kd.C_alloc ?_ _) | (with_reducible refine Kd.C_drewN ?_ _) | (with_reducible refine Kd.C_drew ?_)))
           (case side2 => exact (Kd.R_reads' HO501.out).2.1)
           rintro e w65 ⟨v505, rfl, ho0, hb⟩
           refine ⟨_, rfl, ?_⟩
           have HO506 := Aside0.mk (Kd.R_lower (Kd.R_new' (Kd.R_new' ho0 (Kd.R_lt (by (with_reducible repeat (first | apply Kd.R_alloc | apply Kd.R_drewN | apply Kd.R_drew)); exact HO_8.out))) (Kd.R_lt (by (with_reducible repeat (first | apply Kd.R_alloc | apply Kd.R_drewN | apply Kd.R_drew)); exact HO_11.out))) (below_size bl))
           replace HO_8 := Aside0.mk (Kd.R_elder' (by (with_reducible repeat (first | apply Kd.R_alloc | apply Kd.R_drewN | apply Kd.R_drew)); exact HO_8.out) (Kd.R_base ho0) hb)
           replace HO_11 := Aside0.mk (Kd.R_elder' (by (with_reducible repeat (first | apply Kd.R_alloc | apply Kd.R_drewN | apply Kd.R_drew)); exact HO_11.out) (Kd.R_base ho0) hb)
           replace HO501 := Aside0.mk (Kd.R_below (by (with_reducible repeat (first | apply Kd.R_alloc | apply Kd.R_drewN | apply Kd.R_drew)); exact HO501.out) hb)
           replace BK468 := Aside0.mk (bb gb468 hb)
           replace HB := Aside0.mk (bs hb)
           (try clear hb)
           (try clear hb2)
           (try clear hk)
           (try clear hi)
           (try clear ho0)
           refine hK.out _ _ ⟨(blk_cell BK468.out 0).trans rfl, (blk_cell BK468.out 1).trans rfl⟩ (fun hHeld => ?_)
           clear hK K
           refine nm 89 ?_
           refine pu 6 83 (tb 7 4) ?_
           refine pu 7 90 (tb 8 3) ?_
           refine pu 8 91 (tb 9 2) ?_
           refine pu 9 16 (tb 10 1) ?_
           refine pu 10 17 (tb 11 0) ?_
           refine done_ (done_of HT_.out (by kernel_rfl)) ?_
           go_upto_region 25 with (fail)
           go_cut [100] (fun v100 wc => ∃ (kq : Nat) (x100_57 : Bool), v100 = .bool x100_57 ∧ Aside0 (laws_FnExactPiecesOf.j2 kq t497 t496 x100_57 = some r) ∧ Aside0 (kq ≤ kj35) ∧ Aside0 (Kd.R (Kd.int .i64) 3 wc w.heap.size (fun _ => True) (.slice Ao59 t484.length co59) t497) ∧ Aside0 (wc.heap[gb468]? = some (.cells #[.int .i64 a1_0, .int .i64 a1_1] 24 (0, 0))) ∧ Aside0 (Below w.heap.size w wc))
           case first =>
            have H := HC58.out
            clear HC58
            replace H := Option.bind_eq_some_iff.mp H
            obtain ⟨t508, A660, H⟩ := H
            replace H : (if t508 = true then (laws_FnExactPiecesOf.j2 kj35 t497 t496 (t507 != t478)) else (laws_FnExactPiecesOf.j2 kj35 t497 t496 true)) = some r := H
            have A66 := Aside0.mk A660
            clear A660
            by_cases c67 : t508 = true
            ·subst c67
             have H1 : (laws_FnExactPiecesOf.j2 kj35 t497 t496 (t507 != t478)) = some r := by rw [if_pos rfl] at H; exact H
             clear H
             have H := H1
             clear H1
             have H' := Aside0.mk H
             clear H
             obtain ⟨Ao68, co68, eo68⟩ := Kd.R_slice HO506.out
             subst eo68
             obtain ⟨Ao69, co69, eo69⟩ := Kd.R_slice HO_8.out
             subst eo69
             go_wp2_with (first | ((with_reducible refine gate_callee (f := 22) rfl ?_); refine gl 94 Try.func22 #[.slice Ao68 t504.length co68, .slice Ao69 t475.length co69] ?_; (with_reducible refine (laws_eqIntS.calls kj35 _ _ t504 _ _ t475 true _ ?side1 ?side2 ?side3 ?side4 A66.out).mono ?_); (case side1 => repeat (first | exact (Kd.R_reads' HO506.out).2.2 | (with_reducible refine Kd.C_alloc ?_ _) | (with_reducible refine Kd.C_drewN ?_ _) | (with_reducible refine Kd.C_drew ?_))); (case side2 => exact (Kd.R_reads' HO506.out).2.1); (case side3 => repeat (first | exact (Kd.R_reads' HO_8.out).2.2 | (with_reducible refine Kd.C_alloc ?_ _) | (with_reducible refine Kd.C_drewN ?_ _) | (with_reducible refine Kd.C_drew ?_))); (case side4 => exact (Kd.R_reads' HO_8.out).2.1); rintro e w' ⟨rfl, ⟨nd, rfl⟩⟩; refine ⟨_, rfl, ?_⟩))
             go_meet
             case rel => exact ⟨_, ((t507 != t478)), (by first | rfl | (simp; done) | (simp [*]; done)), H', ⟨by have := HJ12.out; have := HJ35.out; first | omega | exact Nat.le_refl _⟩, ⟨by (with_reducible repeat (first | apply Kd.R_alloc | apply Kd.R_drewN | apply Kd.R_drew)); exact Kd.R_mono HO_11.out (fun _ hk => trivial)⟩, ⟨by (with_reducible repeat (first | refine blk_drewN ?_ _ | refine blk_drew ?_ | refine blk_alloc ?_ _)); exact BK468.out⟩, ⟨bl⟩⟩
            ·replace c67 := Bool.eq_false_iff.mpr c67
             subst c67
             have H1 : (laws_FnExactPiecesOf.j2 kj35 t497 t496 true) = some r := by rw [if_neg (show ¬ (false = true) by decide)] at H; exact H
             clear H
             have H := H1
             clear H1
             have H' := Aside0.mk H
             clear H
             obtain ⟨Ao70, co70, eo70⟩ := Kd.R_slice HO506.out
             subst eo70
             obtain ⟨Ao71, co71, eo71⟩ := Kd.R_slice HO_8.out
             subst eo71
             go_wp2_with (first | ((with_reducible refine gate_callee (f := 22) rfl ?_); refine gl 94 Try.func22 #[.slice Ao70 t504.length co70, .slice Ao71 t475.length co71] ?_; (with_reducible refine (laws_eqIntS.calls kj35 _ _ t504 _ _ t475 false _ ?side1 ?side2 ?side3 ?side4 A66.out).mono ?_); (case side1 => repeat (first | exact (Kd.R_reads' HO506.out).2.2 | (with_reducible refine Kd.C_alloc ?_ _) | (with_reducible refine Kd.C_drewN ?_ _) | (with_reducible refine Kd.C_drew ?_))); (case side2 => exact (Kd.R_reads' HO506.out).2.1); (case side3 => repeat (first | exact (Kd.R_reads' HO_8.out).2.2 | (with_reducible refine Kd.C_alloc ?_ _) | (with_reducible refine Kd.C_drewN ?_ _) | (with_reducible refine Kd.C_drew ?_))); (case side4 => exact (Kd.R_reads' HO_8.out).2.1); rintro e w' ⟨rfl, ⟨nd, rfl⟩⟩; refine ⟨_, rfl, ?_⟩))
             go_meet
             case rel => exact ⟨_, (true), (by first | rfl | (simp; done) | (simp [*]; done)), H', ⟨by have := HJ12.out; have := HJ35.out; first | omega | exact Nat.le_refl _⟩, ⟨by (with_reducible repeat (first | apply Kd.R_alloc | apply Kd.R_drewN | apply Kd.R_drew)); exact Kd.R_mono HO_11.out (fun _ hk => trivial)⟩, ⟨by (with_reducible repeat (first | refine blk_drewN ?_ _ | refine blk_drew ?_ | refine blk_alloc ?_ _)); exact BK468.out⟩, ⟨bl⟩⟩
           case rest =>
            clear HC58
            try clear c1
            try clear c2
            try clear p2
            try clear c3
            try clear c4
            try clear c5
            try clear c5b0
            try clear c6
            try clear c8
            try clear c12
            try clear c14
            try clear c18
            try clear c22
            try clear c26
            try clear c29
            try clear c30
            try clear c31
            try clear c32
            try clear c33
            try clear c34
            try clear c41
            try clear c41b0
            try clear c43
            try clear c48
            try clear c51
            try clear c51b0
            try clear c54
            try clear c54b0
            try clear c54b1
            try clear c67
            try clear hcz21_0
            try clear hcz21_1
            try clear hfz21_0
            try clear hfz21_1
            try clear p2
            obtain ⟨kq, x100_57, rfl, HA, HJ57, HO_11, BK468, HB⟩ := hcut
            have hl11_57 := (Kd.R_reads' HO_11.out).1
            rw [hl11_57] at HO_11
            (try simp only [hl11_57])
            (try simp only [hl11_57] at BK468)
            cases kq with
            | zero => exact absurd HA.out (by simp [laws_FnExactPiecesOf.j2])
            | succ kj57 =>
             have H := HA.out
             clear HA
             simp only [laws_FnExactPiecesOf.j2] at H
             by_cases c72 : x100_57 = true
             ·subst c72
              have H1 : (some false) = some r := by rw [if_pos rfl] at H; exact H
              clear H
              have H := H1
              clear H1
              obtain rfl := Option.some.inj H
              go_wp2
              go_ret
              exact ⟨by first | rfl | (simp [errW_none, errW_some] <;> rfl) | (simp [*, errW_none, errW_some] <;> rfl), bl⟩
             ·replace c72 := Bool.eq_false_iff.mpr c72
              subst c72
              have H1 : ((laws_heldIntS.f kj57 t497 1).bind fun t509 => (if t509 < 0 then (some false) else (if t509 = t496 then (some true) else (some false)))) = some r := by rw [if_neg (show ¬ (false = true) by decide)] at H; exact H
              clear H
              have H := H1
              clear H1
              replace H := Option.bind_eq_some_iff.mp H
              obtain ⟨t509, A730, H⟩ := H
              replace H : (if t509 < 0 then (some false) else (if t509 = t496 then (some true) else (some false))) = some r := H
              have A73 := Aside0.mk A730
              clear A730
              by_cases c74 : t509 < 0
              ·rw [if_pos c74] at H
               have c74b0 : decide (t509 < 0) = true := decide_eq_true c74
               clear c74
               obtain rfl := Option.some.inj H
               go_wp2_with (first | ((with_reducible refine gate_callee (f := 34) rfl ?_); refine gl 103 Try.func34 #[.slice Ao59 t497.length co59, .int .i64 1] ?_; (with_reducible refine (laws_heldIntS.calls kj57 _ _ t497 1 t509 _ ?side1 ?side2 A73.out).mono ?_); (case side1 => repeat (first | exact (Kd.R_reads' HO_11.out).2.2 | (with_reducible refine Kd.C_alloc ?_ _) | (with_reducible refine Kd.C_drewN ?_ _) | (with_reducible refine Kd.C_drew ?_))); (case side2 => exact (Kd.R_reads' HO_11.out).2.1); rintro e w' ⟨rfl, ⟨nd, rfl⟩⟩; refine ⟨_, rfl, ?_⟩))
               go_ret
               exact ⟨by first | rfl | (simp [errW_none, errW_some] <;> rfl) | (simp [*, errW_none, errW_some] <;> rfl), bl⟩
              ·rw [if_neg c74] at H
               have c74b0 : decide (t509 < 0) = false := decide_eq_false c74
               clear c74
               by_cases c75 : t509 = t496
               ·rw [if_pos c75] at H
                have c75b0 : (t509 == t496) = true := beq_iff_eq.mpr c75
                have c75b1 : (t509 != t496) = false := bne_eq_false_iff_eq.mpr c75
                clear c75
                obtain rfl := Option.some.inj H
                go_wp2_with (first | ((with_reducible refine gate_callee (f := 34) rfl ?_); refine gl 103 Try.func34 #[.slice Ao59 t497.length co59, .int .i64 1] ?_; (with_reducible refine (laws_heldIntS.calls kj57 _ _ t497 1 t509 _ ?side1 ?side2 A73.out).mono ?_); (case side1 => repeat (first | exact (Kd.R_reads' HO_11.out).2.2 | (with_reducible refine Kd.C_alloc ?_ _) | (with_reducible refine Kd.C_drewN ?_ _) | (with_reducible refine Kd.C_drew ?_))); (case side2 => exact (Kd.R_reads' HO_11.out).2.1); rintro e w' ⟨rfl, ⟨nd, rfl⟩⟩; refine ⟨_, rfl, ?_⟩))
                go_ret
                exact ⟨by first | rfl | (simp [errW_none, errW_some] <;> rfl) | (simp [*, errW_none, errW_some] <;> rfl), bl⟩
               ·rw [if_neg c75] at H
                have c75b0 : (t509 == t496) = false := beq_eq_false_iff_ne.mpr c75
                have c75b1 : (t509 != t496) = true := bne_iff_ne.mpr c75
                obtain rfl := Option.some.inj H
                go_wp2_with (first | ((with_reducible refine gate_callee (f := 34) rfl ?_); refine gl 103 Try.func34 #[.slice Ao59 t497.length co59, .int .i64 1] ?_; (with_reducible refine (laws_heldIntS.calls kj57 _ _ t497 1 t509 _ ?side1 ?side2 A73.out).mono ?_); (case side1 => repeat (first | exact (Kd.R_reads' HO_11.out).2.2 | (with_reducible refine Kd.C_alloc ?_ _) | (with_reducible refine Kd.C_drewN ?_ _) | (with_reducible refine Kd.C_drew ?_))); (case side2 => exact (Kd.R_reads' HO_11.out).2.1); rintro e w' ⟨rfl, ⟨nd, rfl⟩⟩; refine ⟨_, rfl, ?_⟩))
                go_ret
                exact ⟨by first | rfl | (simp [errW_none, errW_some] <;> rfl) | (simp [*, errW_none, errW_some] <;> rfl), bl⟩
          ·rw [if_neg c54] at H
           have c54b0 : (t498 == t496) = false := beq_eq_false_iff_ne.mpr c54
           have c54b1 : (t498 != t496) = true := bne_iff_ne.mpr c54
           obtain rfl := Option.some.inj H
           obtain ⟨Ao76, co76, eo76⟩ := Kd.R_slice HO_11.out
           subst eo76
           go_wp2_with (first | ((with_reducible refine gate_callee (f := 33) rfl ?_); refine gl 74 Try.func33 #[.slice Ao76 t484.length co76, .int .i64 1] ?_; (with_reducible refine (laws_markIntS.calls kj35 (fun k_ => some k_ = (.slice Ao76 t484.length co76 : Value).ownBlock) (.slice Ao76 t484.length co76) t484 1 t496 t497 w _ ?side1 ?side2 A49.out).mono ?_); (case side1 => repeat (first | (with_reducible first | exact HB.out | apply below_alloc | apply pw_below_drewN | apply below_drew1 | refine below_set ?_ GE468.out) | exact HB.out)); (case side2 => exact Kd.R_tight rfl HO_11.out); rintro e w77 ⟨rfl, hy0, hb, hkp⟩; refine ⟨_, rfl, ?_⟩; replace HO_8 := Aside0.mk (Kd.R_mono (ok' := fun k_ => some k_ ≠ (.slice Ao76 t484.length co76 : Value).ownBlock) (Kd.R_keptB (HO_8.out) hkp (fun k_ hk_ hs_ => (hk_) hs_)) (fun k_ hk_ => hk_.1)); replace BK468 := Aside0.mk (blk_kept (bo gb468) hkp (fun hs_ => (fun e_ => (Kd.R_ne HO_11.out BK468.out (by decide)) e_) hs_)); replace HO_11 := Aside0.mk (Kd.R_reok rfl hy0 (fun k_ e_ => HO_11.out.1 k_ e_)); replace HB := Aside0.mk (hb); (try clear hb); (try clear hkp); (try clear hy0)) | ((with_reducible refine gate_callee (f := 34) rfl ?_); refine goesL_ (some 77) rfl rfl Try.func34 (by kernel_rfl) rfl #[.slice Ao76 t497.length co76, .int .i64 1] rfl (by (try simp only [List.map_toArray, List.map_cons, List.map_nil]); first | done | (rw [show t497.length = t484.length from (Kd.R_reads' HO_11.out).1.symm] <;> rfl) | rfl | (simp only [List.length_drop, List.length_take]; rfl)) ?_; (with_reducible refine (laws_heldIntS.calls kj35 _ _ t497 1 t498 _ ?side1 ?side2 A50.out).mono ?_); (case side1 => repeat (first | exact (Kd.R_reads' HO_11.out).2.2 | (with_reducible refine Kd.C_alloc ?_ _) | (with_reducible refine Kd.C_drewN ?_ _) | (with_reducible refine Kd.C_drew ?_))); (case side2 => rw [show t497.length = t484.length from (Kd.R_reads' HO_11.out).1.symm]; exact (Kd.R_reads' HO_11.out).2.1); rintro e w' ⟨rfl, ⟨nd, rfl⟩⟩; refine ⟨_, rfl, ?_⟩))
           go_ret
           exact ⟨by first | rfl | (simp [errW_none, errW_some] <;> rfl) | (simp [*, errW_none, errW_some] <;> rfl), bl⟩
     ·replace c34 := Bool.eq_false_iff.mpr c34
      subst c34
      have H1 : (some false) = some r := by rw [if_neg (show ¬ (false = true) by decide)] at H; exact H
      clear H
      have H := H1
      clear H1
      obtain rfl := Option.some.inj H
      go_wp2_with (first | ((with_reducible refine gate_callee (f := 14) rfl ?_); refine gl 53 Try.func14 #[.slice A0 l0.length c0] ?_; (with_reducible refine (laws_toPointS.calls kj12 _ _ l0 t489 _ ?side1 ?side2 A32.out).mono ?_); (case side1 => repeat (first | exact (Kd.C_below HR0.out HB.out) | (with_reducible refine Kd.C_alloc ?_ _) | (with_reducible refine Kd.C_drewN ?_ _) | (with_reducible refine Kd.C_drew ?_))); (case side2 => exact HC0.out); rintro e w78 ⟨v490, rfl, ho0, hb⟩; refine ⟨_, rfl, ?_⟩; have HO491 := Aside0.mk (Kd.R_lower (Kd.R_new' ho0 (Kd.R_lt (by (with_reducible repeat (first | apply Kd.R_alloc | apply Kd.R_drewN | apply Kd.R_drew)); exact HO_10.out))) (below_size bl)); replace HO_8 := Aside0.mk (Kd.R_below (by (with_reducible repeat (first | apply Kd.R_alloc | apply Kd.R_drewN | apply Kd.R_drew)); exact HO_8.out) hb); replace HO_10 := Aside0.mk (Kd.R_elder' (by (with_reducible repeat (first | apply Kd.R_alloc | apply Kd.R_drewN | apply Kd.R_drew)); exact HO_10.out) (Kd.R_base ho0) hb); replace HO_11 := Aside0.mk (Kd.R_below (by (with_reducible repeat (first | apply Kd.R_alloc | apply Kd.R_drewN | apply Kd.R_drew)); exact HO_11.out) hb); replace BK468 := Aside0.mk (bb gb468 hb); replace HB := Aside0.mk (bs hb); (try clear hb); (try clear hb2); (try clear hk); (try clear hi); (try clear ho0); obtain ⟨Ao79, co79, eo79⟩ := Kd.R_slice HO491.out; subst eo79) | ((with_reducible refine gate_callee (f := 18) rfl ?_); refine gl 54 Try.func18 #[.slice Ao23 t479.length co23, .slice Ao79 t489.length co79] ?_; (with_reducible refine (laws_eqPointS.calls kj12 _ _ t479 _ _ t489 false _ ?side1 ?side2 ?side3 ?side4 A33.out).mono ?_); (case side1 => repeat (first | exact (Kd.R_reads' HO_10.out).2.2 | (with_reducible refine Kd.C_alloc ?_ _) | (with_reducible refine Kd.C_drewN ?_ _) | (with_reducible refine Kd.C_drew ?_))); (case side2 => exact (Kd.R_reads' HO_10.out).2.1); (case side3 => repeat (first | exact (Kd.R_reads' HO491.out).2.2 | (with_reducible refine Kd.C_alloc ?_ _) | (with_reducible refine Kd.C_drewN ?_ _) | (with_reducible refine Kd.C_drew ?_))); (case side4 => exact (Kd.R_reads' HO491.out).2.1); rintro e w80 ⟨rfl, hb⟩; refine ⟨_, rfl, ?_⟩; replace HO_8 := Aside0.mk (Kd.R_below (by (with_reducible repeat (first | apply Kd.R_alloc | apply Kd.R_drewN | apply Kd.R_drew)); exact HO_8.out) hb); replace HO_10 := Aside0.mk (Kd.R_below (by (with_reducible repeat (first | apply Kd.R_alloc | apply Kd.R_drewN | apply Kd.R_drew)); exact HO_10.out) hb); replace HO_11 := Aside0.mk (Kd.R_below (by (with_reducible repeat (first | apply Kd.R_alloc | apply Kd.R_drewN | apply Kd.R_drew)); exact HO_11.out) hb); replace HO491 := Aside0.mk (Kd.R_below (by (with_reducible repeat (first | apply Kd.R_alloc | apply Kd.R_drewN | apply Kd.R_drew)); exact HO491.out) hb); replace BK468 := Aside0.mk (bb gb468 hb); replace HB := Aside0.mk (bs hb); (try clear hb); (try clear hb2); (try clear hk); (try clear hi)))
      go_ret
      exact ⟨by first | rfl | (simp [errW_none, errW_some] <;> rfl) | (simp [*, errW_none, errW_some] <;> rfl), bl⟩

/-- THE ONE PURE STATEMENT of laws_FnExactPiecesOf: yours. -/
def laws_FnExactPiecesOf.Pure : Prop := ∀ (l0 : List (S72)) (a1_0 : Int) (a1_1 : Int) (a2 : Int), l0.length ≤ maxLen → l0.length * 32 ≤ 140737488351232 → (∀ x ∈ l0, (Lit.int .i64 x.f0.f0).wf = true ∧ (Lit.int .i64 x.f0.f1).wf = true ∧ (Lit.int .i64 x.f1.f0).wf = true ∧ (Lit.int .i64 x.f1.f1).wf = true) → (Lit.int .i64 a1_0).wf = true → (Lit.int .i64 a1_1).wf = true → (Lit.int .i64 a2).wf = true → ∃ k, laws_FnExactPiecesOf.f k l0 a1_0 a1_1 a2 = some true

end Go.Proofs.Ytmecnnnagallnaa.PFnExactPiecesOf
