-- Written by this session's program wip/pp (the kit's print tool with additions) 35421559b90ae4d0a3588c463048766b98c2df88dd9212a6774a882060cdf62d
import Derived.Test.YtmecnnnagallnaaPFnExactPiecesOfx0
import Derived.Test.YtmecnnnagallnaaPFnExactPiecesOfx8
import Derived.Test.YtmecnnnagallnaaPFnExactPiecesOfx9
import Derived.Test.YtmecnnnagallnaaPFnExactPiecesOfx11
import Derived.Test.YtmecnnnagallnaaPFnExactPiecesOfx12
import Derived.Test.YtmecnnnagallnaaPFnExactPiecesOfx14
namespace Go.Proofs.Ytmecnnnagallnaa.PFnExactPiecesOf
open Go.RowKit Go.Proofs.YtmecnnnagallnaaW.PrintWords Go.Proofs.YtmecnnnagallnaaW.PrintLast Go.Proofs.YtmecnnnagallnaaW.PrintMore
attribute [local go_sem] max2_int min2_int max_two min_two max_three min_three max_four min_four   -- for this text's walks alone
set_option linter.unusedVariables false
set_option linter.unusedSimpArgs false

/-! ### impl_calc_value: function 117 -/
def impl_calc_value.f (k : Nat) (s0_0 : Bool) (l1 : List (S68)) (a2_0 : Int) (a2_1 : Int) : Option (Int × Int × Bool) := (impl_pieceAt.f k l1 a2_0 a2_1).bind fun t428 => (if 0 ≤ t428 then (if t428 < (l1.length : Int) then (if 0 ≤ (wrap64 (t428 + 1)) then (if (wrap64 (t428 + 1)) < (l1.length : Int) then ((impl_calc_slope.f k s0_0 ((rd_T68 l1 t428).f0.f0) ((rd_T68 l1 t428).f0.f1) ((rd_T68 l1 t428).f1.f0) ((rd_T68 l1 t428).f1.f1) ((rd_T68 l1 (wrap64 (t428 + 1))).f0.f0) ((rd_T68 l1 (wrap64 (t428 + 1))).f0.f1) ((rd_T68 l1 (wrap64 (t428 + 1))).f1.f0) ((rd_T68 l1 (wrap64 (t428 + 1))).f1.f1)).bind fun bt432 => ((impl_calc_line.f k bt432.2.2 ((rd_T68 l1 t428).f0.f0) ((rd_T68 l1 t428).f0.f1) ((rd_T68 l1 t428).f1.f0) ((rd_T68 l1 t428).f1.f1) bt432.1 bt432.2.1 a2_0 a2_1).bind fun bt435 => (some (bt435.1, bt435.2.1, bt435.2.2)))) else (none)) else (none)) else (none)) else (none))
def impl_calc_value.T2 : Bool × List (List Nat × List Nat) := (true, [([], []), ([], []), ([], []), ([1, 2], [1, 2]), ([3], [3]), ([], []), ([], []), ([], []), ([6, 7], [6, 7]), ([8], [8]), ([], []), ([], []), ([11], [11]), ([10, 12], [10, 12]), ([13], [13]), ([5, 9, 14], [5, 9, 14]), ([], []), ([0, 4, 15, 16, 15], [0, 4, 15, 16]), ([17, 17, 0, 1, 2, 3, 4, 5, 6, 7, 8, 9, 10, 11, 12, 13, 14, 15, 16, 17], [17])])
def impl_calc_value.B2 : List Nat := [0, 0, 0, 6, 14, 0, 0, 0, 192, 448, 0, 0, 2048, 7168, 15360, 32736, 0, 131071, 262143]
theorem impl_calc_value.tab2 : rtab .any (opsOf Try.f117 2) = impl_calc_value.T2 := by kernel_rfl
theorem impl_calc_value.bits2 : waitsOk impl_calc_value.T2.2 impl_calc_value.B2 = true := by kernel_rfl
set_option maxHeartbeats 8000000 in
set_option maxRecDepth 100000 in
theorem impl_calc_value.calls (k : Nat) (g : Nat) (s0_0 : Bool) (A1 : Option Addr) (c1 : Nat) (l1 : List (S68)) (a2_0 : Int) (a2_1 : Int) (r1 : Int) (r2 : Int) (r3 : Bool) (w0 w : World) (hI : IsS78 w0 w g s0_0) (hB : Below w0.heap.size w0 w) (hr1 : ∀ W_, KeepBut w W_ g none → Kd.C k68 W_ A1 l1.length l1) (hc1 : l1.length ≤ c1) (h : impl_calc_value.f k s0_0 l1 a2_0 a2_1 = some (r1, r2, r3)) :
  Calls Try.prog 117 #[.pointer (some ⟨g, 0, none⟩), .slice A1 l1.length c1, .agg #[.int .i64 a2_0, .int .i64 a2_1]] w fun e w' => e = .returned (.agg #[.int .i64 r1, .int .i64 r2]) ∧ IsS78 w0 w' g r3 ∧ Below w0.heap.size w0 w' ∧ KeepBut w w' g none := by
 have hu28 := Try.underlying28
 have hu68 := Try.underlying68
 have HR1 := Aside0.mk hr1
 have HC1 := Aside0.mk hc1
 clear hr1 hc1
 have HI0 := Aside0.mk hI
 have HK := Aside0.mk (KeepBut.refl w g none)
 have HL := Aside0.mk hB.size
 clear hI
 have HW0 := Aside0.mk hB.size
 have HB := Aside0.mk hB
 clear hB
 have H : ((impl_pieceAt.f k l1 a2_0 a2_1).bind fun t428 => (if 0 ≤ t428 then (if t428 < (l1.length : Int) then (if 0 ≤ (wrap64 (t428 + 1)) then (if (wrap64 (t428 + 1)) < (l1.length : Int) then ((impl_calc_slope.f k s0_0 ((rd_T68 l1 t428).f0.f0) ((rd_T68 l1 t428).f0.f1) ((rd_T68 l1 t428).f1.f0) ((rd_T68 l1 t428).f1.f1) ((rd_T68 l1 (wrap64 (t428 + 1))).f0.f0) ((rd_T68 l1 (wrap64 (t428 + 1))).f0.f1) ((rd_T68 l1 (wrap64 (t428 + 1))).f1.f0) ((rd_T68 l1 (wrap64 (t428 + 1))).f1.f1)).bind fun bt432 => ((impl_calc_line.f k bt432.2.2 ((rd_T68 l1 t428).f0.f0) ((rd_T68 l1 t428).f0.f1) ((rd_T68 l1 t428).f1.f0) ((rd_T68 l1 t428).f1.f1) bt432.1 bt432.2.1 a2_0 a2_1).bind fun bt435 => (some (bt435.1, bt435.2.1, bt435.2.2)))) else (none)) else (none)) else (none)) else (none))) = some (r1, r2, r3) := h
 clear h
 replace H := Option.bind_eq_some_iff.mp H
 obtain ⟨t428, A40, H⟩ := H
 replace H : (if 0 ≤ t428 then (if t428 < (l1.length : Int) then (if 0 ≤ (wrap64 (t428 + 1)) then (if (wrap64 (t428 + 1)) < (l1.length : Int) then ((impl_calc_slope.f k s0_0 ((rd_T68 l1 t428).f0.f0) ((rd_T68 l1 t428).f0.f1) ((rd_T68 l1 t428).f1.f0) ((rd_T68 l1 t428).f1.f1) ((rd_T68 l1 (wrap64 (t428 + 1))).f0.f0) ((rd_T68 l1 (wrap64 (t428 + 1))).f0.f1) ((rd_T68 l1 (wrap64 (t428 + 1))).f1.f0) ((rd_T68 l1 (wrap64 (t428 + 1))).f1.f1)).bind fun bt432 => ((impl_calc_line.f k bt432.2.2 ((rd_T68 l1 t428).f0.f0) ((rd_T68 l1 t428).f0.f1) ((rd_T68 l1 t428).f1.f0) ((rd_T68 l1 t428).f1.f1) bt432.1 bt432.2.1 a2_0 a2_1).bind fun bt435 => (some (bt435.1, bt435.2.1, bt435.2.2)))) else (none)) else (none)) else (none)) else (none)) = some (r1, r2, r3) := H
 have A4 := Aside0.mk A40
 clear A40
 by_cases c5 : 0 ≤ t428
 ·rw [if_pos c5] at H
  have c5b0 : decide (0 ≤ t428) = true := decide_eq_true c5
  clear c5
  by_cases c6 : t428 < (l1.length : Int)
  ·rw [if_pos c6] at H
   have c6b0 : decide (t428 < (l1.length : Int)) = true := decide_eq_true c6
   clear c6
   obtain ⟨ji7, hji7⟩ : ∃ j_ : Int, (wrap64 (t428 + 1)) = j_ := ⟨_, rfl⟩
   replace H : (if 0 ≤ (ji7) then (if (ji7) < (l1.length : Int) then ((impl_calc_slope.f k s0_0 ((rd_T68 l1 t428).f0.f0) ((rd_T68 l1 t428).f0.f1) ((rd_T68 l1 t428).f1.f0) ((rd_T68 l1 t428).f1.f1) ((rd_T68 l1 (ji7)).f0.f0) ((rd_T68 l1 (ji7)).f0.f1) ((rd_T68 l1 (ji7)).f1.f0) ((rd_T68 l1 (ji7)).f1.f1)).bind fun bt432 => ((impl_calc_line.f k bt432.2.2 ((rd_T68 l1 t428).f0.f0) ((rd_T68 l1 t428).f0.f1) ((rd_T68 l1 t428).f1.f0) ((rd_T68 l1 t428).f1.f1) bt432.1 bt432.2.1 a2_0 a2_1).bind fun bt435 => (some (bt435.1, bt435.2.1, bt435.2.2)))) else (none)) else (none)) = some (r1, r2, r3) := by first | (rw [hji7] at H; exact H) | (simp only [hji7] at H ⊢; exact H)
   (try rw [hji7] at A4)
   have hji7w : (IntKind.i64.wrap (t428 + 1)) = ji7 := (i64_w _).trans hji7
   by_cases c8 : 0 ≤ (ji7)
   ·rw [if_pos c8] at H
    have c8b0 : decide (0 ≤ (ji7)) = true := decide_eq_true c8
    clear c8
    by_cases c9 : (ji7) < (l1.length : Int)
    ·rw [if_pos c9] at H
     have c9b0 : decide ((ji7) < (l1.length : Int)) = true := decide_eq_true c9
     clear c9
     replace H := Option.bind_eq_some_iff.mp H
     obtain ⟨⟨t432, t433, t434⟩, A100, H⟩ := H
     replace H : ((impl_calc_line.f k t434 ((rd_T68 l1 t428).f0.f0) ((rd_T68 l1 t428).f0.f1) ((rd_T68 l1 t428).f1.f0) ((rd_T68 l1 t428).f1.f1) t432 t433 a2_0 a2_1).bind fun bt435 => (some (bt435.1, bt435.2.1, bt435.2.2))) = some (r1, r2, r3) := H
     have A10 := Aside0.mk A100
     clear A100
     replace H := Option.bind_eq_some_iff.mp H
     obtain ⟨⟨t435, t436, t437⟩, A110, H⟩ := H
     replace H : (some (t435, t436, t437)) = some (r1, r2, r3) := H
     have A11 := Aside0.mk A110
     clear A110
     simp only [Option.some.injEq, Prod.mk.injEq] at H
     obtain ⟨rfl, rfl, rfl⟩ := H
     go_enter Try.func117, Try.ntmps117
     try go_wp2_with (first | ((with_reducible refine gate_dst (N := 5) rfl ?_); refine bx 5 #[.int .i64 a2_0, .int .i64 a2_1] 28 ?_; intro gb426 hg w12 hbox hb; have BK426 := Aside0.mk (hbox); have GW426 := Aside0.mk ((by rw [hg]; exact (keep_size (w := w) (g := g) (row := none) (by repeat (first | (with_reducible first | exact HK.out | apply KeepBut.set_ | apply keep_drewN | apply keep_drew | apply keep_alloc) | exact HK.out))) : w.heap.size ≤ gb426)); have GE426 := Aside0.mk ((Nat.le_trans HW0.out GW426.out : w0.heap.size ≤ gb426)); have NB0_426 := Aside0.mk ((by rw [hg]; exact Nat.ne_of_lt (IsS78.lt (show IsS78 w0 _ g s0_0 from by repeat (first | (with_reducible first | exact HI0.out | apply IsS78.alloc | apply IsS78.drewN | apply IsS78.drew | apply IsS78.set_0) | exact HI0.out))) : g ≠ gb426)); have NB426_0 := Aside0.mk NB0_426.out.symm; replace HK := Aside0.mk (KeepBut.trans (by repeat (first | (with_reducible first | exact HK.out | apply KeepBut.set_ | apply keep_drewN | apply keep_drew | apply keep_alloc) | exact HK.out)) (KeepBut.of_below hb g none) (.inl rfl)); replace HB := Aside0.mk (below_step (by repeat (first | (with_reducible first | exact HB.out | apply below_alloc | apply pw_below_drewN | apply below_drew1 | refine below_set ?_ (IsS78.ge HI0.out)) | exact HB.out)) hb); replace HI0 := Aside0.mk (IsS78.below (by repeat (first | (with_reducible first | exact HI0.out | apply IsS78.alloc | apply IsS78.drewN | apply IsS78.drew | apply IsS78.set_0) | exact HI0.out)) hb); clear hb hbox hg) | ((with_reducible refine gate_dst (N := 6) rfl ?_); refine bx 6 #[.int .i64 0, .int .i64 0] 28 ?_; intro gb427 hg w13 hbox hb; have BK427 := Aside0.mk (hbox); have GW427 := Aside0.mk ((by rw [hg]; exact (keep_size (w := w) (g := g) (row := none) (by repeat (first | (with_reducible first | exact HK.out | apply KeepBut.set_ | apply keep_drewN | apply keep_drew | apply keep_alloc | refine keep_far ?_ GW426.out _) | exact HK.out))) : w.heap.size ≤ gb427)); have GE427 := Aside0.mk ((Nat.le_trans HW0.out GW427.out : w0.heap.size ≤ gb427)); have NB426_427 := Aside0.mk (bn gb426 hg); have NB427_426 := Aside0.mk NB426_427.out.symm; have NB0_427 := Aside0.mk ((by rw [hg]; exact Nat.ne_of_lt (IsS78.lt (show IsS78 w0 _ g s0_0 from by repeat (first | (with_reducible first | exact HI0.out | apply IsS78.alloc | apply IsS78.drewN | apply IsS78.drew | apply IsS78.set_0 | refine IsS78.far ?_ NB0_426.out _) | exact HI0.out))) : g ≠ gb427)); have NB427_0 := Aside0.mk NB0_427.out.symm; replace BK426 := Aside0.mk (bb gb426 hb); replace HK := Aside0.mk (KeepBut.trans (by repeat (first | (with_reducible first | exact HK.out | apply KeepBut.set_ | apply keep_drewN | apply keep_drew | apply keep_alloc | refine keep_far ?_ GW426.out _) | exact HK.out)) (KeepBut.of_below hb g none) (.inl rfl)); replace HB := Aside0.mk (below_step (by repeat (first | (with_reducible first | exact HB.out | apply below_alloc | apply pw_below_drewN | apply below_drew1 | refine below_set ?_ (IsS78.ge HI0.out) | refine below_set ?_ GE426.out) | exact HB.out)) hb); replace HI0 := Aside0.mk (IsS78.below (by repeat (first | (with_reducible first | exact HI0.out | apply IsS78.alloc | apply IsS78.drewN | apply IsS78.drew | apply IsS78.set_0 | refine IsS78.far ?_ NB0_426.out _) | exact HI0.out)) hb); clear hb hbox hg; have hnb14 := NB426_427.out; have hnc14 := NB427_426.out; have hnb15 := NB426_0.out; have hnc15 := NB0_426.out; have hcz16_0 : w13.cell? ⟨gb426, 0, none⟩ = some (.int .i64 a2_0) := (blk_cell BK426.out 0).trans rfl; have hcz16_1 : w13.cell? ⟨gb426, 1, none⟩ = some (.int .i64 a2_1) := (blk_cell BK426.out 1).trans rfl; have hfz16_0 := blk_frozen BK426.out 0; have hfz16_1 := blk_frozen BK426.out 1) | ((with_reducible refine gate_callee (f := 74) rfl ?_); refine gl 10 Try.func74 #[.slice A1 l1.length c1, .agg #[.int .i64 a2_0, .int .i64 a2_1]] ?_; (with_reducible refine (impl_pieceAt.calls k _ _ l1 a2_0 a2_1 t428 _ ?side1 ?side2 A4.out).mono ?_); (case side1 => exact Kd.C_foot_now HR1.out (by repeat (first | (with_reducible first | exact HK.out | apply KeepBut.set_ | apply keep_drewN | apply keep_drew | apply keep_alloc | refine keep_far ?_ GW426.out _ | refine keep_far ?_ GW427.out _) | exact HK.out))); (case side2 => exact HC1.out); rintro e w17 ⟨rfl, hb⟩; refine ⟨_, rfl, ?_⟩; replace BK426 := Aside0.mk (bb gb426 hb); replace BK427 := Aside0.mk (bb gb427 hb); replace HK := Aside0.mk (KeepBut.trans (by repeat (first | (with_reducible first | exact HK.out | apply KeepBut.set_ | apply keep_drewN | apply keep_drew | apply keep_alloc | refine keep_far ?_ GW426.out _ | refine keep_far ?_ GW427.out _) | exact HK.out)) (KeepBut.of_below hb g none) (.inl rfl)); replace HB := Aside0.mk (below_step (by repeat (first | (with_reducible first | exact HB.out | apply below_alloc | apply pw_below_drewN | apply below_drew1 | refine below_set ?_ (IsS78.ge HI0.out) | refine below_set ?_ GE426.out | refine below_set ?_ GE427.out) | exact HB.out)) hb); replace HI0 := Aside0.mk (IsS78.below (by repeat (first | (with_reducible first | exact HI0.out | apply IsS78.alloc | apply IsS78.drewN | apply IsS78.drew | apply IsS78.set_0 | refine IsS78.far ?_ NB0_426.out _ | refine IsS78.far ?_ NB0_427.out _) | exact HI0.out)) hb); (try clear hb); (try clear hb2); (try clear hk); (try clear hi)))
     replace BK426 := Aside0.mk (blk_drew BK426.out)
     replace BK427 := Aside0.mk (blk_drew BK427.out)
     replace HI0 := Aside0.mk (IsS78.drew HI0.out)
     replace HK := Aside0.mk (keep_drew HK.out)
     replace HB := Aside0.mk (below_drew1 HB.out)
     have p429 : 0 ≤ (t428 : Int) := da
     have q429 : t428 < (l1.length : Int) := da
     obtain ⟨ad429, e429, hx429_0, hx429_1, hx429_2, hx429_3⟩ := at_T68 (Kd.C_foot_now HR1.out HK.out) t428 p429 q429
     have hw429_3 := hx429_3
     have hw429_2 := hx429_2
     have hw429_1 := hx429_1
     have hw429_0 := hx429_0
     cases e429
     have hne429_3 := (show (⟨(ad429.add ((t428).toNat * 4)).block, (ad429.add ((t428).toNat * 4)).off + 3, none⟩ : Addr).block ≠ g from by first | (rw [add_block]; exact Kd.foot_ne HR1.out (by omega) (by decide)) | (show (Addr.add _ _).block ≠ _; rw [add_block]; exact Kd.foot_ne HR1.out (by omega) (by decide)) | exact Kd.foot_ne HR1.out (by omega) (by decide) | (dsimp only; exact Kd.foot_ne HR1.out (by omega) (by decide)))
     have hlt429_3 := (Kd.foot_lt HR1.out (by omega) (by decide))
     have hne429_2 := (show (⟨(ad429.add ((t428).toNat * 4)).block, (ad429.add ((t428).toNat * 4)).off + 2, none⟩ : Addr).block ≠ g from by first | (rw [add_block]; exact Kd.foot_ne HR1.out (by omega) (by decide)) | (show (Addr.add _ _).block ≠ _; rw [add_block]; exact Kd.foot_ne HR1.out (by omega) (by decide)) | exact Kd.foot_ne HR1.out (by omega) (by decide) | (dsimp only; exact Kd.foot_ne HR1.out (by omega) (by decide)))
     have hlt429_2 := (Kd.foot_lt HR1.out (by omega) (by decide))
     have hne429_1 := (show (⟨(ad429.add ((t428).toNat * 4)).block, (ad429.add ((t428).toNat * 4)).off + 1, none⟩ : Addr).block ≠ g from by first | (rw [add_block]; exact Kd.foot_ne HR1.out (by omega) (by decide)) | (show (Addr.add _ _).block ≠ _; rw [add_block]; exact Kd.foot_ne HR1.out (by omega) (by decide)) | exact Kd.foot_ne HR1.out (by omega) (by decide) | (dsimp only; exact Kd.foot_ne HR1.out (by omega) (by decide)))
     have hlt429_1 := (Kd.foot_lt HR1.out (by omega) (by decide))
     have hne429_0 := (show ((ad429.add ((t428).toNat * 4)) : Addr).block ≠ g from by first | (rw [add_block]; exact Kd.foot_ne HR1.out (by omega) (by decide)) | (show (Addr.add _ _).block ≠ _; rw [add_block]; exact Kd.foot_ne HR1.out (by omega) (by decide)) | exact Kd.foot_ne HR1.out (by omega) (by decide) | (dsimp only; exact Kd.foot_ne HR1.out (by omega) (by decide)))
     have hlt429_0 := (Kd.foot_lt HR1.out (by omega) (by decide))
     replace p429 := eq_true p429
     replace q429 := eq_true q429
     have p430 : 0 ≤ (t428 : Int) := da
     have q430 : t428 < (l1.length : Int) := da
     obtain ⟨ad430, e430, hx430_0, hx430_1, hx430_2, hx430_3⟩ := at_T68 (Kd.C_foot_now HR1.out HK.out) t428 p430 q430
     have hw430_3 := hx430_3
     have hw430_2 := hx430_2
     have hw430_1 := hx430_1
     have hw430_0 := hx430_0
     obtain rfl : ad429 = ad430 := (by injection e430)
     have hne430_3 := (show (⟨(ad429.add ((t428).toNat * 4)).block, (ad429.add ((t428).toNat * 4)).off + 3, none⟩ : Addr).block ≠ g from by first | (rw [add_block]; exact Kd.foot_ne HR1.out (by omega) (by decide)) | (show (Addr.add _ _).block ≠ _; rw [add_block]; exact Kd.foot_ne HR1.out (by omega) (by decide)) | exact Kd.foot_ne HR1.out (by omega) (by decide) | (dsimp only; exact Kd.foot_ne HR1.out (by omega) (by decide)))
     have hlt430_3 := (Kd.foot_lt HR1.out (by omega) (by decide))
     have hne430_2 := (show (⟨(ad429.add ((t428).toNat * 4)).block, (ad429.add ((t428).toNat * 4)).off + 2, none⟩ : Addr).block ≠ g from by first | (rw [add_block]; exact Kd.foot_ne HR1.out (by omega) (by decide)) | (show (Addr.add _ _).block ≠ _; rw [add_block]; exact Kd.foot_ne HR1.out (by omega) (by decide)) | exact Kd.foot_ne HR1.out (by omega) (by decide) | (dsimp only; exact Kd.foot_ne HR1.out (by omega) (by decide)))
     have hlt430_2 := (Kd.foot_lt HR1.out (by omega) (by decide))
     have hne430_1 := (show (⟨(ad429.add ((t428).toNat * 4)).block, (ad429.add ((t428).toNat * 4)).off + 1, none⟩ : Addr).block ≠ g from by first | (rw [add_block]; exact Kd.foot_ne HR1.out (by omega) (by decide)) | (show (Addr.add _ _).block ≠ _; rw [add_block]; exact Kd.foot_ne HR1.out (by omega) (by decide)) | exact Kd.foot_ne HR1.out (by omega) (by decide) | (dsimp only; exact Kd.foot_ne HR1.out (by omega) (by decide)))
     have hlt430_1 := (Kd.foot_lt HR1.out (by omega) (by decide))
     have hne430_0 := (show ((ad429.add ((t428).toNat * 4)) : Addr).block ≠ g from by first | (rw [add_block]; exact Kd.foot_ne HR1.out (by omega) (by decide)) | (show (Addr.add _ _).block ≠ _; rw [add_block]; exact Kd.foot_ne HR1.out (by omega) (by decide)) | exact Kd.foot_ne HR1.out (by omega) (by decide) | (dsimp only; exact Kd.foot_ne HR1.out (by omega) (by decide)))
     have hlt430_0 := (Kd.foot_lt HR1.out (by omega) (by decide))
     replace p430 := eq_true p430
     replace q430 := eq_true q430
     have p431 : 0 ≤ ((ji7) : Int) := da
     have q431 : (ji7) < (l1.length : Int) := da
     obtain ⟨ad431, e431, hx431_0, hx431_1, hx431_2, hx431_3⟩ := at_T68 (Kd.C_foot_now HR1.out HK.out) (ji7) p431 q431
     have hw431_3 := hx431_3
     have hw431_2 := hx431_2
     have hw431_1 := hx431_1
     have hw431_0 := hx431_0
     obtain rfl : ad429 = ad431 := (by injection e431)
     have hne431_3 := (show (⟨(ad429.add (((ji7)).toNat * 4)).block, (ad429.add (((ji7)).toNat * 4)).off + 3, none⟩ : Addr).block ≠ g from by first | (rw [add_block]; exact Kd.foot_ne HR1.out (by omega) (by decide)) | (show (Addr.add _ _).block ≠ _; rw [add_block]; exact Kd.foot_ne HR1.out (by omega) (by decide)) | exact Kd.foot_ne HR1.out (by omega) (by decide) | (dsimp only; exact Kd.foot_ne HR1.out (by omega) (by decide)))
     have hlt431_3 := (Kd.foot_lt HR1.out (by omega) (by decide))
     have hne431_2 := (show (⟨(ad429.add (((ji7)).toNat * 4)).block, (ad429.add (((ji7)).toNat * 4)).off + 2, none⟩ : Addr).block ≠ g from by first | (rw [add_block]; exact Kd.foot_ne HR1.out (by omega) (by decide)) | (show (Addr.add _ _).block ≠ _; rw [add_block]; exact Kd.foot_ne HR1.out (by omega) (by decide)) | exact Kd.foot_ne HR1.out (by omega) (by decide) | (dsimp only; exact Kd.foot_ne HR1.out (by omega) (by decide)))
     have hlt431_2 := (Kd.foot_lt HR1.out (by omega) (by decide))
     have hne431_1 := (show (⟨(ad429.add (((ji7)).toNat * 4)).block, (ad429.add (((ji7)).toNat * 4)).off + 1, none⟩ : Addr).block ≠ g from by first | (rw [add_block]; exact Kd.foot_ne HR1.out (by omega) (by decide)) | (show (Addr.add _ _).block ≠ _; rw [add_block]; exact Kd.foot_ne HR1.out (by omega) (by decide)) | exact Kd.foot_ne HR1.out (by omega) (by decide) | (dsimp only; exact Kd.foot_ne HR1.out (by omega) (by decide)))
     have hlt431_1 := (Kd.foot_lt HR1.out (by omega) (by decide))
     have hne431_0 := (show ((ad429.add (((ji7)).toNat * 4)) : Addr).block ≠ g from by first | (rw [add_block]; exact Kd.foot_ne HR1.out (by omega) (by decide)) | (show (Addr.add _ _).block ≠ _; rw [add_block]; exact Kd.foot_ne HR1.out (by omega) (by decide)) | exact Kd.foot_ne HR1.out (by omega) (by decide) | (dsimp only; exact Kd.foot_ne HR1.out (by omega) (by decide)))
     have hlt431_0 := (Kd.foot_lt HR1.out (by omega) (by decide))
     replace p431 := eq_true p431
     replace q431 := eq_true q431
     refine start_ (n := 19) (S := fun w' => w'.cell? ⟨gb426, 0, none⟩ = some (.int .i64 a2_0) ∧ w'.cell? ⟨gb426, 1, none⟩ = some (.int .i64 a2_1) ∧ w'.cell? (ad429.add ((t428).toNat * 4)) = some (.int .i64 ((rd_T68 l1 t428).f0.f0)) ∧ w'.cell? ⟨(ad429.add ((t428).toNat * 4)).block, (ad429.add ((t428).toNat * 4)).off + 1, none⟩ = some (.int .i64 ((rd_T68 l1 t428).f0.f1)) ∧ w'.cell? ⟨(ad429.add ((t428).toNat * 4)).block, (ad429.add ((t428).toNat * 4)).off + 2, none⟩ = some (.int .i64 ((rd_T68 l1 t428).f1.f0)) ∧ w'.cell? ⟨(ad429.add ((t428).toNat * 4)).block, (ad429.add ((t428).toNat * 4)).off + 3, none⟩ = some (.int .i64 ((rd_T68 l1 t428).f1.f1)) ∧ w'.cell? (ad429.add ((t428).toNat * 4)) = some (.int .i64 ((rd_T68 l1 t428).f0.f0)) ∧ w'.cell? ⟨(ad429.add ((t428).toNat * 4)).block, (ad429.add ((t428).toNat * 4)).off + 1, none⟩ = some (.int .i64 ((rd_T68 l1 t428).f0.f1)) ∧ w'.cell? ⟨(ad429.add ((t428).toNat * 4)).block, (ad429.add ((t428).toNat * 4)).off + 2, none⟩ = some (.int .i64 ((rd_T68 l1 t428).f1.f0)) ∧ w'.cell? ⟨(ad429.add ((t428).toNat * 4)).block, (ad429.add ((t428).toNat * 4)).off + 3, none⟩ = some (.int .i64 ((rd_T68 l1 t428).f1.f1)) ∧ w'.cell? (ad429.add (((ji7)).toNat * 4)) = some (.int .i64 ((rd_T68 l1 (ji7)).f0.f0)) ∧ w'.cell? ⟨(ad429.add (((ji7)).toNat * 4)).block, (ad429.add (((ji7)).toNat * 4)).off + 1, none⟩ = some (.int .i64 ((rd_T68 l1 (ji7)).f0.f1)) ∧ w'.cell? ⟨(ad429.add (((ji7)).toNat * 4)).block, (ad429.add (((ji7)).toNat * 4)).off + 2, none⟩ = some (.int .i64 ((rd_T68 l1 (ji7)).f1.f0)) ∧ w'.cell? ⟨(ad429.add (((ji7)).toNat * 4)).block, (ad429.add (((ji7)).toNat * 4)).off + 3, none⟩ = some (.int .i64 ((rd_T68 l1 (ji7)).f1.f1))) (ds := []) (tb 0 19) (by kernel_rfl) rfl rfl ⟨(blk_cell BK426.out 0).trans rfl, (blk_cell BK426.out 1).trans rfl, hx429_0, hx429_1, hx429_2, hx429_3, hx430_0, hx430_1, hx430_2, hx430_3, hx431_0, hx431_1, hx431_2, hx431_3⟩ (fun hHeld => ?_); refine with_tabW impl_calc_value.tab2 impl_calc_value.bits2 (fun HT_ HW_ => ?_)
     generalize w17.drew = w18 at BK426 BK427 HI0 HK HB hx429_0 hx429_1 hx429_2 hx429_3 hx430_0 hx430_1 hx430_2 hx430_3 hx431_0 hx431_1 hx431_2 hx431_3 hHeld ⊢
     refine pu 0 11 (tb 1 18) ?_
     refine pu 1 12 (tb 2 17) ?_
     refine pu 2 13 (tb 3 16) ?_
     refine pu 3 14 (tb 4 15) ?_
     refine pu 5 16 #[true, true, true, true, false, true, false, false, false, false, false, false, false, false, false, false, false, false, false] ?_
     refine pu 6 17 #[true, true, true, true, false, true, true, false, false, false, false, false, false, false, false, false, false, false, false] ?_
     refine pu 7 18 #[true, true, true, true, false, true, true, true, false, false, false, false, false, false, false, false, false, false, false] ?_
     refine pu 8 19 #[true, true, true, true, false, true, true, true, true, false, false, false, false, false, false, false, false, false, false] ?_
     refine pu 10 21 #[true, true, true, true, false, true, true, true, true, false, true, false, false, false, false, false, false, false, false] ?_
     refine pu 11 22 #[true, true, true, true, false, true, true, true, true, false, true, true, false, false, false, false, false, false, false] ?_
     refine pu 12 23 #[true, true, true, true, false, true, true, true, true, false, true, true, true, false, false, false, false, false, false] ?_
     refine pu 13 24 #[true, true, true, true, false, true, true, true, true, false, true, true, true, true, false, false, false, false, false] ?_
     refine tk 4 15 #[true, true, true, true, true, true, true, true, true, false, true, true, true, true, false, false, false, false, false] (hy := by rintro w' ⟨s0, s1, s2, s3, s4, s5, s6, s7, s8, s9, s10, s11, s12, s13⟩; go_simp; with_reducible rfl) (h := ?_)
     refine tk 9 20 (tb 14 5) (hy := by rintro w' ⟨s0, s1, s2, s3, s4, s5, s6, s7, s8, s9, s10, s11, s12, s13⟩; go_simp; with_reducible rfl) (h := ?_)
     refine tk 14 25 (tb 15 4) (hy := by rintro w' ⟨s0, s1, s2, s3, s4, s5, s6, s7, s8, s9, s10, s11, s12, s13⟩; go_simp; with_reducible rfl) (h := ?_)
     refine tk 16 27 #[true, true, true, true, true, true, true, true, true, true, true, true, true, true, true, false, true, false, false] (hy := by rintro w' ⟨s0, s1, s2, s3, s4, s5, s6, s7, s8, s9, s10, s11, s12, s13⟩; go_simp; with_reducible rfl) (h := ?_)
     refine on 15 26 (tb 17 2) (fun K hK => ?_)
     refine goes_ Try.func96 (by kernel_rfl) rfl #[.pointer (some ⟨g, 0, none⟩), .agg #[.int .i64 ((rd_T68 l1 t428).f0.f0), .int .i64 ((rd_T68 l1 t428).f0.f1), .int .i64 ((rd_T68 l1 t428).f1.f0), .int .i64 ((rd_T68 l1 t428).f1.f1)], .agg #[.int .i64 ((rd_T68 l1 (ji7)).f0.f0), .int .i64 ((rd_T68 l1 (ji7)).f0.f1), .int .i64 ((rd_T68 l1 (ji7)).f1.f0), .int .i64 ((rd_T68 l1 (ji7)).f1.f1)]] (by rfl) rfl rfl (by (try simp only [List.map_toArray, List.map_cons, List.map_nil]); first | done | (simp only [hji7]; rfl) | rfl | (simp only [List.length_drop, List.length_take]; rfl)) ?_
     with_reducible refine (impl_calc_slope.calls k g s0_0 ((rd_T68 l1 t428).f0.f0) ((rd_T68 l1 t428).f0.f1) ((rd_T68 l1 t428).f1.f0) ((rd_T68 l1 t428).f1.f1) ((rd_T68 l1 (ji7)).f0.f0) ((rd_T68 l1 (ji7)).f0.f1) ((rd_T68 l1 (ji7)).f1.f0) ((rd_T68 l1 (ji7)).f1.f1) t432 t433 t434 w0 _ ?side1 ?side2 A10.out).mono ?_
     (case side1 => repeat (first | (with_reducible first | exact HI0.out | apply IsS78.alloc | apply IsS78.drewN | apply IsS78.drew | apply IsS78.set_0 | refine IsS78.far ?_ NB0_426.out _ | refine IsS78.far ?_ NB0_427.out _) | exact HI0.out))
     (case side2 => repeat (first | (with_reducible first | exact HB.out | apply below_alloc | apply pw_below_drewN | apply below_drew1 | refine below_set ?_ (IsS78.ge HI0.out) | refine below_set ?_ GE426.out | refine below_set ?_ GE427.out) | exact HB.out))
     rintro e w19 ⟨rfl, hi, hb, hk⟩
     have HS2_ := keep_cell hk (hHeld.2.2.1) (by first | (rw [add_block]; exact hne429_0) | (show (Addr.add _ _).block ≠ _; rw [add_block]; exact hne429_0) | exact hne429_0)
     have HS3_ := keep_cell hk (hHeld.2.2.2.1) (by first | (rw [add_block]; exact hne429_1) | (show (Addr.add _ _).block ≠ _; rw [add_block]; exact hne429_1) | exact hne429_1)
     have HS4_ := keep_cell hk (hHeld.2.2.2.2.1) (by first | (rw [add_block]; exact hne429_2) | (show (Addr.add _ _).block ≠ _; rw [add_block]; exact hne429_2) | exact hne429_2)
     have HS5_ := keep_cell hk (hHeld.2.2.2.2.2.1) (by first | (rw [add_block]; exact hne429_3) | (show (Addr.add _ _).block ≠ _; rw [add_block]; exact hne429_3) | exact hne429_3)
     have HS6_ := keep_cell hk (hHeld.2.2.2.2.2.2.1) (by first | (rw [add_block]; exact hne430_0) | (show (Addr.add _ _).block ≠ _; rw [add_block]; exact hne430_0) | exact hne430_0)
     have HS7_ := keep_cell hk (hHeld.2.2.2.2.2.2.2.1) (by first | (rw [add_block]; exact hne430_1) | (show (Addr.add _ _).block ≠ _; rw [add_block]; exact hne430_1) | exact hne430_1)
     have HS8_ := keep_cell hk (hHeld.2.2.2.2.2.2.2.2.1) (by first | (rw [add_block]; exact hne430_2) | (show (Addr.add _ _).block ≠ _; rw [add_block]; exact hne430_2) | exact hne430_2)
     have HS9_ := keep_cell hk (hHeld.2.2.2.2.2.2.2.2.2.1) (by first | (rw [add_block]; exact hne430_3) | (show (Addr.add _ _).block ≠ _; rw [add_block]; exact hne430_3) | exact hne430_3)
     have HS10_ := keep_cell hk (hHeld.2.2.2.2.2.2.2.2.2.2.1) (by first | (rw [add_block]; exact hne431_0) | (show (Addr.add _ _).block ≠ _; rw [add_block]; exact hne431_0) | exact hne431_0)
     have HS11_ := keep_cell hk (hHeld.2.2.2.2.2.2.2.2.2.2.2.1) (by first | (rw [add_block]; exact hne431_1) | (show (Addr.add _ _).block ≠ _; rw [add_block]; exact hne431_1) | exact hne431_1)
     have HS12_ := keep_cell hk (hHeld.2.2.2.2.2.2.2.2.2.2.2.2.1) (by first | (rw [add_block]; exact hne431_2) | (show (Addr.add _ _).block ≠ _; rw [add_block]; exact hne431_2) | exact hne431_2)
     have HS13_ := keep_cell hk (hHeld.2.2.2.2.2.2.2.2.2.2.2.2.2) (by first | (rw [add_block]; exact hne431_3) | (show (Addr.add _ _).block ≠ _; rw [add_block]; exact hne431_3) | exact hne431_3)
     refine ⟨_, rfl, ?_⟩
     replace BK426 := Aside0.mk (KeepBut.blk hk (g' := gb426) (o := .cells #[.int .i64 a2_0, .int .i64 a2_1] 28 (0, 0)) (bo gb426) NB426_0.out (by simp))
     replace BK427 := Aside0.mk (KeepBut.blk hk (g' := gb427) (o := .cells #[.int .i64 0, .int .i64 0] 28 (0, 0)) (bo gb427) NB427_0.out (by simp))
     replace HK := Aside0.mk (KeepBut.trans (by repeat (first | (with_reducible first | exact HK.out | apply KeepBut.set_ | apply keep_drewN | apply keep_drew | apply keep_alloc | refine keep_far ?_ GW426.out _ | refine keep_far ?_ GW427.out _) | exact HK.out)) hk (.inl rfl))
     replace HB := Aside0.mk (hb)
     replace HI0 := Aside0.mk (hi)
     (try clear hb)
     (try clear hb2)
     (try clear hk)
     (try clear hi)
     refine hK.out _ _ ⟨(blk_cell BK426.out 0).trans rfl, (blk_cell BK426.out 1).trans rfl, HS2_, HS3_, HS4_, HS5_, HS6_, HS7_, HS8_, HS9_, HS10_, HS11_, HS12_, HS13_⟩ (fun hHeld => ?_)
     clear hK K
     refine nm 26 ?_
     refine on 17 28 (tb 18 1) (fun K hK => ?_)
     refine gs Try.func137 #[.pointer (some ⟨g, 0, none⟩), .agg #[.int .i64 ((rd_T68 l1 t428).f0.f0), .int .i64 ((rd_T68 l1 t428).f0.f1), .int .i64 ((rd_T68 l1 t428).f1.f0), .int .i64 ((rd_T68 l1 t428).f1.f1)], .agg #[.int .i64 t432, .int .i64 t433], .agg #[.int .i64 a2_0, .int .i64 a2_1]] ?_
     with_reducible refine (impl_calc_line.calls k g t434 ((rd_T68 l1 t428).f0.f0) ((rd_T68 l1 t428).f0.f1) ((rd_T68 l1 t428).f1.f0) ((rd_T68 l1 t428).f1.f1) t432 t433 a2_0 a2_1 t435 t436 t437 w0 _ ?side1 ?side2 A11.out).mono ?_
     (case side1 => repeat (first | (with_reducible first | exact HI0.out | apply IsS78.alloc | apply IsS78.drewN | apply IsS78.drew | apply IsS78.set_0 | refine IsS78.far ?_ NB0_426.out _ | refine IsS78.far ?_ NB0_427.out _) | exact HI0.out))
     (case side2 => repeat (first | (with_reducible first | exact HB.out | apply below_alloc | apply pw_below_drewN | apply below_drew1 | refine below_set ?_ (IsS78.ge HI0.out) | refine below_set ?_ GE426.out | refine below_set ?_ GE427.out) | exact HB.out))
     rintro e w20 ⟨rfl, hi, hb, hk⟩
     have HS2_ := keep_cell hk (hHeld.2.2.1) (by first | (rw [add_block]; exact hne429_0) | (show (Addr.add _ _).block ≠ _; rw [add_block]; exact hne429_0) | exact hne429_0)
     have HS3_ := keep_cell hk (hHeld.2.2.2.1) (by first | (rw [add_block]; exact hne429_1) | (show (Addr.add _ _).block ≠ _; rw [add_block]; exact hne429_1) | exact hne429_1)
     have HS4_ := keep_cell hk (hHeld.2.2.2.2.1) (by first | (rw [add_block]; exact hne429_2) | (show (Addr.add _ _).block ≠ _; rw [add_block]; exact hne429_2) | exact hne429_2)
     have HS5_ := keep_cell hk (hHeld.2.2.2.2.2.1) (by first | (rw [add_block]; exact hne429_3) | (show (Addr.add _ _).block ≠ _; rw [add_block]; exact hne429_3) | exact hne429_3)
     have HS6_ := keep_cell hk (hHeld.2.2.2.2.2.2.1) (by first | (rw [add_block]; exact hne430_0) | (show (Addr.add _ _).block ≠ _; rw [add_block]; exact hne430_0) | exact hne430_0)
     have HS7_ := keep_cell hk (hHeld.2.2.2.2.2.2.2.1) (by first | (rw [add_block]; exact hne430_1) | (show (Addr.add _ _).block ≠ _; rw [add_block]; exact hne430_1) | exact hne430_1)
     have HS8_ := keep_cell hk (hHeld.2.2.2.2.2.2.2.2.1) (by first | (rw [add_block]; exact hne430_2) | (show (Addr.add _ _).block ≠ _; rw [add_block]; exact hne430_2) | exact hne430_2)
     have HS9_ := keep_cell hk (hHeld.2.2.2.2.2.2.2.2.2.1) (by first | (rw [add_block]; exact hne430_3) | (show (Addr.add _ _).block ≠ _; rw [add_block]; exact hne430_3) | exact hne430_3)
     have HS10_ := keep_cell hk (hHeld.2.2.2.2.2.2.2.2.2.2.1) (by first | (rw [add_block]; exact hne431_0) | (show (Addr.add _ _).block ≠ _; rw [add_block]; exact hne431_0) | exact hne431_0)
     have HS11_ := keep_cell hk (hHeld.2.2.2.2.2.2.2.2.2.2.2.1) (by first | (rw [add_block]; exact hne431_1) | (show (Addr.add _ _).block ≠ _; rw [add_block]; exact hne431_1) | exact hne431_1)
     have HS12_ := keep_cell hk (hHeld.2.2.2.2.2.2.2.2.2.2.2.2.1) (by first | (rw [add_block]; exact hne431_2) | (show (Addr.add _ _).block ≠ _; rw [add_block]; exact hne431_2) | exact hne431_2)
     have HS13_ := keep_cell hk (hHeld.2.2.2.2.2.2.2.2.2.2.2.2.2) (by first | (rw [add_block]; exact hne431_3) | (show (Addr.add _ _).block ≠ _; rw [add_block]; exact hne431_3) | exact hne431_3)
     refine ⟨_, rfl, ?_⟩
     replace BK426 := Aside0.mk (KeepBut.blk hk (g' := gb426) (o := .cells #[.int .i64 a2_0, .int .i64 a2_1] 28 (0, 0)) (bo gb426) NB426_0.out (by simp))
     replace BK427 := Aside0.mk (KeepBut.blk hk (g' := gb427) (o := .cells #[.int .i64 0, .int .i64 0] 28 (0, 0)) (bo gb427) NB427_0.out (by simp))
     replace HK := Aside0.mk (KeepBut.trans (by repeat (first | (with_reducible first | exact HK.out | apply KeepBut.set_ | apply keep_drewN | apply keep_drew | apply keep_alloc | refine keep_far ?_ GW426.out _ | refine keep_far ?_ GW427.out _) | exact HK.out)) hk (.inl rfl))
     replace HB := Aside0.mk (hb)
     replace HI0 := Aside0.mk (hi)
     (try clear hb)
     (try clear hb2)
     (try clear hk)
     (try clear hi)
     refine hK.out _ _ ⟨(blk_cell BK426.out 0).trans rfl, (blk_cell BK426.out 1).trans rfl, HS2_, HS3_, HS4_, HS5_, HS6_, HS7_, HS8_, HS9_, HS10_, HS11_, HS12_, HS13_⟩ (fun hHeld => ?_)
     clear hK K
     refine nm 28 ?_
     refine one_ (i := 18) (N := none) (tb 19 0) rfl rfl (one_of HT_.out (by kernel_rfl)) (by decide) (fun K hK => ?_)
     have hs21 : w20.cell? ⟨gb427, 0, none⟩ = some (.int .i64 0) := (blk_cell BK427.out 0).trans rfl
     have hfs21 := blk_frozen BK427.out 0
     have hns21_0 := NB426_427.out
     have hms21_0 := NB427_426.out
     have hs22 : w20.cell? ⟨gb427, 1, none⟩ = some (.int .i64 0) := (blk_cell BK427.out 1).trans rfl
     have hfs22 := blk_frozen BK427.out 1
     have hns22_0 := NB426_427.out
     have hms22_0 := NB427_426.out
     refine skip_ (w1 := ?_) (by rfl) rfl ?_ ?_
     rotate_left
     ·go_simp
      rfl
     refine hK.out _ _ ⟨(by (iterate 2 refine (cell_far (p := ⟨gb427, _, none⟩) NB426_427.out _).trans ?_); exact hHeld.1), (by (iterate 2 refine (cell_far (p := ⟨gb427, _, none⟩) NB426_427.out _).trans ?_); exact hHeld.2.1), (by (iterate 2 refine (cell_far (p := ⟨gb427, _, none⟩) (by first | exact Nat.ne_of_lt (Nat.lt_of_lt_of_le hlt429_0 GW427.out) | (rw [add_block]; exact Nat.ne_of_lt (Nat.lt_of_lt_of_le hlt429_0 GW427.out)) | (show (Addr.add _ _).block ≠ _; rw [add_block]; exact Nat.ne_of_lt (Nat.lt_of_lt_of_le hlt429_0 GW427.out)) | (dsimp only; exact Nat.ne_of_lt (Nat.lt_of_lt_of_le hlt429_0 GW427.out))) _).trans ?_); exact hHeld.2.2.1), (by (iterate 2 refine (cell_far (p := ⟨gb427, _, none⟩) (by first | exact Nat.ne_of_lt (Nat.lt_of_lt_of_le hlt429_1 GW427.out) | (rw [add_block]; exact Nat.ne_of_lt (Nat.lt_of_lt_of_le hlt429_1 GW427.out)) | (show (Addr.add _ _).block ≠ _; rw [add_block]; exact Nat.ne_of_lt (Nat.lt_of_lt_of_le hlt429_1 GW427.out)) | (dsimp only; exact Nat.ne_of_lt (Nat.lt_of_lt_of_le hlt429_1 GW427.out))) _).trans ?_); exact hHeld.2.2.2.1), (by (iterate 2 refine (cell_far (p := ⟨gb427, _, none⟩) (by first | exact Nat.ne_of_lt (Nat.lt_of_lt_of_le hlt429_2 GW427.out) | (rw [add_block]; exact Nat.ne_of_lt (Nat.lt_of_lt_of_le hlt429_2 GW427.out)) | (show (Addr.add _ _).block ≠ _; rw [add_block]; exact Nat.ne_of_lt (Nat.lt_of_lt_of_le hlt429_2 GW427.out)) | (dsimp only; exact Nat.ne_of_lt (Nat.lt_of_lt_of_le hlt429_2 GW427.out))) _).trans ?_); exact hHeld.2.2.2.2.1), (by (iterate 2 refine (cell_far (p := ⟨gb427, _, none⟩) (by first | exact Nat.ne_of_lt (Nat.lt_of_lt_of_le hlt429_3 GW427.out) | (rw [add_block]; exact Nat.ne_of_lt (Nat.lt_of_lt_of_le hlt429_3 GW427.out)) | (show (Addr.add _ _).block ≠ _; rw [add_block]; exact Nat.ne_of_lt (Nat.lt_of_lt_of_le hlt429_3 GW427.out)) | (dsimp only; exact Nat.ne_of_lt (Nat.lt_of_lt_of_le hlt429_3 GW427.out))) _).trans ?_); exact hHeld.2.2.2.2.2.1), (by (iterate 2 refine (cell_far (p := ⟨gb427, _, none⟩) (by first | exact Nat.ne_of_lt (Nat.lt_of_lt_of_le hlt430_0 GW427.out) | (rw [add_block]; exact Nat.ne_of_lt (Nat.lt_of_lt_of_le hlt430_0 GW427.out)) | (show (Addr.add _ _).block ≠ _; rw [add_block]; exact Nat.ne_of_lt (Nat.lt_of_lt_of_le hlt430_0 GW427.out)) | (dsimp only; exact Nat.ne_of_lt (Nat.lt_of_lt_of_le hlt430_0 GW427.out))) _).trans ?_); exact hHeld.2.2.2.2.2.2.1), (by (iterate 2 refine (cell_far (p := ⟨gb427, _, none⟩) (by first | exact Nat.ne_of_lt (Nat.lt_of_lt_of_le hlt430_1 GW427.out) | (rw [add_block]; exact Nat.ne_of_lt (Nat.lt_of_lt_of_le hlt430_1 GW427.out)) | (show (Addr.add _ _).block ≠ _; rw [add_block]; exact Nat.ne_of_lt (Nat.lt_of_lt_of_le hlt430_1 GW427.out)) | (dsimp only; exact Nat.ne_of_lt (Nat.lt_of_lt_of_le hlt430_1 GW427.out))) _).trans ?_); exact hHeld.2.2.2.2.2.2.2.1), (by (iterate 2 refine (cell_far (p := ⟨gb427, _, none⟩) (by first | exact Nat.ne_of_lt (Nat.lt_of_lt_of_le hlt430_2 GW427.out) | (rw [add_block]; exact Nat.ne_of_lt (Nat.lt_of_lt_of_le hlt430_2 GW427.out)) | (show (Addr.add _ _).block ≠ _; rw [add_block]; exact Nat.ne_of_lt (Nat.lt_of_lt_of_le hlt430_2 GW427.out)) | (dsimp only; exact Nat.ne_of_lt (Nat.lt_of_lt_of_le hlt430_2 GW427.out))) _).trans ?_); exact hHeld.2.2.2.2.2.2.2.2.1), (by (iterate 2 refine (cell_far (p := ⟨gb427, _, none⟩) (by first | exact Nat.ne_of_lt (Nat.lt_of_lt_of_le hlt430_3 GW427.out) | (rw [add_block]; exact Nat.ne_of_lt (Nat.lt_of_lt_of_le hlt430_3 GW427.out)) | (show (Addr.add _ _).block ≠ _; rw [add_block]; exact Nat.ne_of_lt (Nat.lt_of_lt_of_le hlt430_3 GW427.out)) | (dsimp only; exact Nat.ne_of_lt (Nat.lt_of_lt_of_le hlt430_3 GW427.out))) _).trans ?_); exact hHeld.2.2.2.2.2.2.2.2.2.1), (by (iterate 2 refine (cell_far (p := ⟨gb427, _, none⟩) (by first | exact Nat.ne_of_lt (Nat.lt_of_lt_of_le hlt431_0 GW427.out) | (rw [add_block]; exact Nat.ne_of_lt (Nat.lt_of_lt_of_le hlt431_0 GW427.out)) | (show (Addr.add _ _).block ≠ _; rw [add_block]; exact Nat.ne_of_lt (Nat.lt_of_lt_of_le hlt431_0 GW427.out)) | (dsimp only; exact Nat.ne_of_lt (Nat.lt_of_lt_of_le hlt431_0 GW427.out))) _).trans ?_); exact hHeld.2.2.2.2.2.2.2.2.2.2.1), (by (iterate 2 refine (cell_far (p := ⟨gb427, _, none⟩) (by first | exact Nat.ne_of_lt (Nat.lt_of_lt_of_le hlt431_1 GW427.out) | (rw [add_block]; exact Nat.ne_of_lt (Nat.lt_of_lt_of_le hlt431_1 GW427.out)) | (show (Addr.add _ _).block ≠ _; rw [add_block]; exact Nat.ne_of_lt (Nat.lt_of_lt_of_le hlt431_1 GW427.out)) | (dsimp only; exact Nat.ne_of_lt (Nat.lt_of_lt_of_le hlt431_1 GW427.out))) _).trans ?_); exact hHeld.2.2.2.2.2.2.2.2.2.2.2.1), (by (iterate 2 refine (cell_far (p := ⟨gb427, _, none⟩) (by first | exact Nat.ne_of_lt (Nat.lt_of_lt_of_le hlt431_2 GW427.out) | (rw [add_block]; exact Nat.ne_of_lt (Nat.lt_of_lt_of_le hlt431_2 GW427.out)) | (show (Addr.add _ _).block ≠ _; rw [add_block]; exact Nat.ne_of_lt (Nat.lt_of_lt_of_le hlt431_2 GW427.out)) | (dsimp only; exact Nat.ne_of_lt (Nat.lt_of_lt_of_le hlt431_2 GW427.out))) _).trans ?_); exact hHeld.2.2.2.2.2.2.2.2.2.2.2.2.1), (by (iterate 2 refine (cell_far (p := ⟨gb427, _, none⟩) (by first | exact Nat.ne_of_lt (Nat.lt_of_lt_of_le hlt431_3 GW427.out) | (rw [add_block]; exact Nat.ne_of_lt (Nat.lt_of_lt_of_le hlt431_3 GW427.out)) | (show (Addr.add _ _).block ≠ _; rw [add_block]; exact Nat.ne_of_lt (Nat.lt_of_lt_of_le hlt431_3 GW427.out)) | (dsimp only; exact Nat.ne_of_lt (Nat.lt_of_lt_of_le hlt431_3 GW427.out))) _).trans ?_); exact hHeld.2.2.2.2.2.2.2.2.2.2.2.2.2)⟩ (fun hHeld => ?_)
     clear hK K
     refine done_ (done_of HT_.out (by kernel_rfl)) ?_
     try go_wp2
     refine bodyPost_ret (results_cell_row rfl _ _ gb427 28 #[.int .i64 t435, .int .i64 t436] (0, 0) _ rfl (by (with_reducible repeat (first | refine blk_drewN ?_ _ | refine blk_drew ?_ | refine blk_alloc ?_ _)); refine blk_put (cs := #[.int .i64 t435, .int .i64 0]) ?_ 1 _ rfl; (with_reducible repeat (first | refine blk_drewN ?_ _ | refine blk_drew ?_ | refine blk_alloc ?_ _)); refine blk_put (cs := #[.int .i64 0, .int .i64 0]) ?_ 0 _ rfl; (with_reducible repeat (first | refine blk_drewN ?_ _ | refine blk_drew ?_ | refine blk_alloc ?_ _)); exact BK427.out) Try.underlying28 rfl (by kernel_rfl)) rfl ?_
     exact ⟨by first | rfl | (simp [errW_none, errW_some] <;> rfl) | (simp only [← hji7]; first | rfl | (simp [errW_none, errW_some] <;> rfl)) | (simp [*, errW_none, errW_some] <;> rfl), by repeat (first | (with_reducible first | exact HI0.out | apply IsS78.alloc | apply IsS78.drewN | apply IsS78.drew | apply IsS78.set_0 | refine IsS78.far ?_ NB0_426.out _ | refine IsS78.far ?_ NB0_427.out _) | exact HI0.out), by repeat (first | (with_reducible first | exact HB.out | apply below_alloc | apply pw_below_drewN | apply below_drew1 | refine below_set ?_ (IsS78.ge HI0.out) | refine below_set ?_ GE426.out | refine below_set ?_ GE427.out) | exact HB.out), by repeat (first | (with_reducible first | exact HK.out | apply KeepBut.set_ | apply keep_drewN | apply keep_drew | apply keep_alloc | refine keep_far ?_ GW426.out _ | refine keep_far ?_ GW427.out _) | exact HK.out)⟩
    ·rw [if_neg c9] at H
     exact absurd H (by simp)
   ·rw [if_neg c8] at H
    exact absurd H (by simp)
  ·rw [if_neg c6] at H
   exact absurd H (by simp)
 ·rw [if_neg c5] at H
  exact absurd H (by simp)

/-! ### impl_orbit: function 73 -/
def impl_orbit.l0 : Nat → List (S68) → List (S28) → Int → Int → Int → Int → Bool → Option ((List (S28)))
 | 0, _, _, _, _, _, _, _ => none
 | k + 1, x0, x7, x11, x12, x439000, x439001, x443000 => if x12 < x11 then ((impl_calc_value.f k x443000 x0 x439000 x439001).bind fun bt443 => (if bt443.2.2 = true then (some x7) else (if x7.length < 8796093022208 then (impl_orbit.l0 k x0 (x7 ++ [(⟨bt443.1, bt443.2.1⟩ : S28)]) x11 (wrap64 (x12 + 1)) bt443.1 bt443.2.1 bt443.2.2) else (none)))) else (some x7)
def impl_orbit.f (k : Nat) (l0 : List (S68)) (a1_0 : Int) (a1_1 : Int) (a2 : Int) : Option ((List (S28))) := impl_orbit.l0 k l0 (([(⟨a1_0, a1_1⟩ : S28)] : List (S28))) a2 0 a1_0 a1_1 false
set_option maxHeartbeats 8000000 in
set_option maxRecDepth 100000 in
theorem impl_orbit.calls (k : Nat) (A0 : Option Addr) (c0 : Nat) (l0 : List (S68)) (a1_0 : Int) (a1_1 : Int) (a2 : Int) (r : List (S28)) (w : World) (hr0 : Kd.C k68 w A0 l0.length l0) (hc0 : l0.length ≤ c0) (h : impl_orbit.f k l0 a1_0 a1_1 a2 = some r) :
  Calls Try.prog 73 #[.slice A0 l0.length c0, .agg #[.int .i64 a1_0, .int .i64 a1_1], .int .i64 a2] w fun e w' => ∃ v0_ : Value, e = .returned (v0_) ∧ Kd.R k28 28 w' w.heap.size (fun _ => True) v0_ r ∧ Below w.heap.size w w' := by
 have hu28 := Try.underlying28
 have hu78 := Try.underlying78
 have HR0 := Aside0.mk hr0
 have HC0 := Aside0.mk hc0
 clear hr0 hc0
 have HB := Aside0.mk (Below.refl w.heap.size w)
 have H : (impl_orbit.l0 k l0 (([(⟨a1_0, a1_1⟩ : S28)] : List (S28))) a2 0 a1_0 a1_1 false) = some r := h
 clear h
 obtain ⟨y439, hy439⟩ : ∃ y_ : List (S28), y_ = (([(⟨a1_0, a1_1⟩ : S28)] : List (S28))) := ⟨_, rfl⟩
 replace H : (impl_orbit.l0 k l0 y439 a2 0 a1_0 a1_1 false) = some r := by first | (rw [hy439]; with_reducible exact H) | (have H2_ := (Option.bind_some _ _).symm.trans H; rw [hy439]; with_reducible exact H2_) | (have H2_ := (Option.bind_some _ _).symm.trans H; with_reducible exact H2_) | with_reducible exact H | (rw [hy439]; exact H) | exact H
 have Ny439 := Aside0.mk hy439
 clear hy439
 have H' := Aside0.mk H
 clear H
 go_enter Try.func73, Try.ntmps73
 go_wp2_with (first | ((with_reducible refine gate_dst (N := 4) rfl ?_); refine bx 4 #[.int .i64 a1_0, .int .i64 a1_1] 28 ?_; intro gb438 hg w4 hbox hb; have BK438 := Aside0.mk (hbox); have GW438 := Aside0.mk (bz hg); have GE438 := GW438; replace HB := Aside0.mk (bs hb); clear hb hbox hg; have hcz5_0 : w4.cell? ⟨gb438, 0, none⟩ = some (.int .i64 a1_0) := (blk_cell BK438.out 0).trans rfl; have hcz5_1 : w4.cell? ⟨gb438, 1, none⟩ = some (.int .i64 a1_1) := (blk_cell BK438.out 1).trans rfl; have hfz5_0 := blk_frozen BK438.out 0; have hfz5_1 := blk_frozen BK438.out 1) | ((with_reducible refine gate_dst (N := 10) rfl ?_); refine Kd.R_lit k28 _ 28 ?hg (N := 10) ?hd (xs := ([(⟨a1_0, a1_1⟩ : S28)] : List (S28))) (inner := [.int .i64 a1_0, .int .i64 a1_1]) (ok := fun _ => True) (okp := fun _ => True) ?hr ?hp (fun _ hk => hk) trivial (Below.refl _ _) (Nat.le_refl _) (by simp) ?_; (case hd => rfl); (case hg => rfl); (case hr => first | (go_simp; done) | (go_simp; rfl)); (case hp => exact (Reps.c2 (show Kd.M k28 _ _ _ (⟨a1_0, a1_1⟩ : S28) [.int .i64 a1_0, .int .i64 a1_1] from (k28_mkM _ _ _ (⟨a1_0, a1_1⟩ : S28) )) (Reps.none _ _))); intro v440 w6 ho7 hb hg_ hnew_; clear hg_ hnew_; (first | rw [← Ny439.out] at ho7 | (simp only [Int.reduceToNat] at ho7; rw [← Ny439.out] at ho7)); have HO441 := Aside0.mk (Kd.R_lower (Kd.R_newB ho7 (g := gb438) (o := .cells #[.int .i64 a1_0, .int .i64 a1_1] 28 (0, 0)) (bo gb438)) (below_size bl)); replace BK438 := Aside0.mk (bb gb438 hb); replace HB := Aside0.mk (bs hb); clear hb ho7) | ((with_reducible refine gate_dst (N := 8) rfl ?_); refine bx 8 #[.bool false] 78 ?_; intro gb442 hg w8 hbox hb; have HI442 := Aside0.mk ((⟨hbox, (by rw [hg]; exact (below_size bl) : w.heap.size ≤ gb442)⟩ : IsS78 w w8 gb442 false)); have NB438_442 := Aside0.mk (bn gb438 hg); have NB442_438 := Aside0.mk NB438_442.out.symm; replace HO441 := Aside0.mk (Kd.R_below (by (with_reducible repeat (first | apply Kd.R_alloc | apply Kd.R_drewN | apply Kd.R_drew)); exact HO441.out) hb); replace BK438 := Aside0.mk (bb gb438 hb); replace HB := Aside0.mk (bs hb); clear hb hbox hg))
 go_loopg [7, 12] k (fun kq v7 v12 w' => ∃ (x7_1 : List (S28)) (x12_1 : Int) (x439000_1 : Int) (x439001_1 : Int) (x443000_1 : Bool), v12 = .int .i64 x12_1 ∧ Aside0 (impl_orbit.l0 kq l0 x7_1 a2 x12_1 x439000_1 x439001_1 x443000_1 = some r) ∧ Aside0 (kq ≤ k) ∧ Aside0 (Kd.R k28 28 w' w.heap.size (fun k_ => k_ ≠ gb438) v7 x7_1) ∧ Aside0 (w'.heap[gb438]? = some (.cells #[.int .i64 x439000_1, .int .i64 x439001_1] 28 (0, 0))) ∧ Aside0 (IsS78 w w' gb442 x443000_1) ∧ Aside0 (Below w.heap.size w w'))
 case atStart => exact ⟨(y439), (0), (a1_0), (a1_1), (false), (by first | rfl | (simp; done) | (simp [*]; done)), H', ⟨Nat.le_refl _⟩, ⟨by (with_reducible repeat (first | apply Kd.R_alloc | apply Kd.R_drewN | apply Kd.R_drew)); exact Kd.R_mono HO441.out (fun _ hk => hk.2)⟩, ⟨by (with_reducible repeat (first | refine blk_drewN ?_ _ | refine blk_drew ?_ | refine blk_alloc ?_ _)); exact BK438.out⟩, ⟨by repeat (first | (with_reducible first | exact HI442.out | apply IsS78.alloc | apply IsS78.drewN | apply IsS78.drew | apply IsS78.set_0 | refine IsS78.far ?_ NB442_438.out _) | exact HI442.out)⟩, ⟨by repeat (first | (with_reducible first | exact HB.out | apply below_alloc | apply pw_below_drewN | apply below_drew1 | refine below_set ?_ (IsS78.ge HI442.out) | refine below_set ?_ GE438.out) | exact HB.out)⟩⟩
 case round =>
  clear H'
  try clear c2
  try clear p2
  try clear c7
  try clear hcz5_0
  try clear hcz5_1
  try clear hfz5_0
  try clear hfz5_1
  obtain ⟨x7_1, x12_1, x439000_1, x439001_1, x443000_1, rfl, HA, HK1, HO_7, BK438, HI442, HB⟩ := hrel
  cases gk with
  | zero => exact absurd HA.out (by simp [impl_orbit.l0])
  | succ k1 =>
   have H := HA.out
   clear HA
   simp only [impl_orbit.l0] at H
   by_cases c9 : x12_1 < a2
   ·rw [if_pos c9] at H
    have c9b0 : decide (x12_1 < a2) = true := decide_eq_true c9
    clear c9
    replace H := Option.bind_eq_some_iff.mp H
    obtain ⟨⟨t443, t444, t445⟩, A100, H⟩ := H
    replace H : (if t445 = true then (some x7_1) else (if x7_1.length < 8796093022208 then (impl_orbit.l0 k1 l0 (x7_1 ++ [(⟨t443, t444⟩ : S28)]) a2 (wrap64 (x12_1 + 1)) t443 t444 t445) else (none))) = some r := H
    have A10 := Aside0.mk A100
    clear A100
    by_cases c11 : t445 = true
    ·subst c11
     have H1 : (some x7_1) = some r := by rw [if_pos rfl] at H; exact H
     clear H
     have H := H1
     clear H1
     obtain rfl := Option.some.inj H
     have hnb12 := NB438_442.out
     have hnc12 := NB442_438.out
     have hcz13_0 : wr.cell? ⟨gb438, 0, none⟩ = some (.int .i64 x439000_1) := (blk_cell BK438.out 0).trans rfl
     have hcz13_1 : wr.cell? ⟨gb438, 1, none⟩ = some (.int .i64 x439001_1) := (blk_cell BK438.out 1).trans rfl
     have hfz13_0 := blk_frozen BK438.out 0
     have hfz13_1 := blk_frozen BK438.out 1
     go_wp2_with (first | ((with_reducible refine gate_callee (f := 117) rfl ?_); refine gl 16 Try.func117 #[.pointer (some ⟨gb442, 0, none⟩), .slice A0 l0.length c0, .agg #[.int .i64 x439000_1, .int .i64 x439001_1]] ?_; (with_reducible refine (impl_calc_value.calls k1 gb442 x443000_1 _ _ l0 x439000_1 x439001_1 t443 t444 true w _ ?side1 ?side2 ?side3 ?side4 A10.out).mono ?_); (case side1 => repeat (first | (with_reducible first | exact HI442.out | apply IsS78.alloc | apply IsS78.drewN | apply IsS78.drew | apply IsS78.set_0 | refine IsS78.far ?_ NB442_438.out _) | exact HI442.out)); (case side2 => repeat (first | (with_reducible first | exact HB.out | apply below_alloc | apply pw_below_drewN | apply below_drew1 | refine below_set ?_ (IsS78.ge HI442.out) | refine below_set ?_ GE438.out) | exact HB.out)); (case side3 => exact Kd.C_foot_came k68_heap HR0.out (by repeat (first | (with_reducible first | exact HB.out | apply below_alloc | apply pw_below_drewN | apply below_drew1 | refine below_set ?_ (IsS78.ge HI442.out) | refine below_set ?_ GE438.out) | exact HB.out)) (IsS78.ge HI442.out)); (case side4 => exact HC0.out); rintro e w14 ⟨rfl, hi, hb, hk⟩; refine ⟨_, rfl, ?_⟩; replace HO_7 := Aside0.mk (Kd.R_mono (Kd.R_keep (IsS78.apart (show IsS78 w _ gb442 x443000_1 from by repeat (first | (with_reducible first | exact HI442.out | apply IsS78.alloc | apply IsS78.drewN | apply IsS78.drew | apply IsS78.set_0 | refine IsS78.far ?_ NB442_438.out _) | exact HI442.out)) (by (with_reducible repeat (first | apply Kd.R_alloc | apply Kd.R_drewN | apply Kd.R_drew)); exact HO_7.out) (by decide)) hk (fun _ h => h.2)) (fun _ h => h.1)); replace BK438 := Aside0.mk (KeepBut.blk hk (g' := gb438) (o := .cells #[.int .i64 x439000_1, .int .i64 x439001_1] 28 (0, 0)) (bo gb438) NB438_442.out (by simp)); replace HB := Aside0.mk (hb); replace HI442 := Aside0.mk (hi); (try clear hb); (try clear hb2); (try clear hk); (try clear hi); have hcz15_0 : w14.cell? ⟨gb438, 0, none⟩ = some (.int .i64 x439000_1) := (blk_cell BK438.out 0).trans rfl; have hcz15_1 : w14.cell? ⟨gb438, 1, none⟩ = some (.int .i64 x439001_1) := (blk_cell BK438.out 1).trans rfl; have hfz15_0 := blk_frozen BK438.out 0; have hfz15_1 := blk_frozen BK438.out 1; obtain ⟨HGz16, hgz16⟩ := HI442.out; have hcz16_0 := cellS78_0 HGz16; have hfz16_0 := blk_frozen HGz16 0; clear HGz16 hgz16))
     go_ret
     exact ⟨_, by first | rfl | (simp [errW_none, errW_some] <;> rfl) | (simp [*, errW_none, errW_some] <;> rfl), by (with_reducible repeat (first | apply Kd.R_alloc | apply Kd.R_drewN | apply Kd.R_drew)); exact Kd.R_mono (Kd.R_far (p := ⟨gb438, 1, none⟩) (Kd.R_far (p := ⟨gb438, 0, none⟩) (Kd.R_mono HO_7.out (fun k_ hk => (⟨hk, hk⟩ : _ ∧ k_ ≠ gb438))) (fun _ hk => hk.2) (.int .i64 t443)) (fun _ hk => hk.2) (.int .i64 t444)) (fun _ hk => trivial), by repeat (first | (with_reducible first | exact HB.out | apply below_alloc | apply pw_below_drewN | apply below_drew1 | refine below_set ?_ (IsS78.ge HI442.out) | refine below_set ?_ GE438.out) | exact HB.out)⟩
    ·replace c11 := Bool.eq_false_iff.mpr c11
     subst c11
     have H1 : (if x7_1.length < 8796093022208 then (impl_orbit.l0 k1 l0 (x7_1 ++ [(⟨t443, t444⟩ : S28)]) a2 (wrap64 (x12_1 + 1)) t443 t444 false) else (none)) = some r := by rw [if_neg (show ¬ (false = true) by decide)] at H; exact H
     clear H
     have H := H1
     clear H1
     by_cases c17 : x7_1.length < 8796093022208
     ·rw [if_pos c17] at H
      have LMc17 := Aside0.mk c17
      clear c17
      obtain ⟨y446, hy446⟩ : ∃ y_ : List (S28), y_ = (x7_1 ++ [(⟨t443, t444⟩ : S28)]) := ⟨_, rfl⟩
      replace H : (impl_orbit.l0 k1 l0 y446 a2 (wrap64 (x12_1 + 1)) t443 t444 false) = some r := by first | (rw [hy446]; with_reducible exact H) | (have H2_ := (Option.bind_some _ _).symm.trans H; rw [hy446]; with_reducible exact H2_) | (have H2_ := (Option.bind_some _ _).symm.trans H; with_reducible exact H2_) | with_reducible exact H | (rw [hy446]; exact H) | exact H
      have Ny446 := Aside0.mk hy446
      clear hy446
      have H' := Aside0.mk H
      clear H
      have hnb18 := NB438_442.out
      have hnc18 := NB442_438.out
      have hcz19_0 : wr.cell? ⟨gb438, 0, none⟩ = some (.int .i64 x439000_1) := (blk_cell BK438.out 0).trans rfl
      have hcz19_1 : wr.cell? ⟨gb438, 1, none⟩ = some (.int .i64 x439001_1) := (blk_cell BK438.out 1).trans rfl
      have hfz19_0 := blk_frozen BK438.out 0
      have hfz19_1 := blk_frozen BK438.out 1
      go_wp2_with (first | ((with_reducible refine gate_callee (f := 117) rfl ?_); refine gl 16 Try.func117 #[.pointer (some ⟨gb442, 0, none⟩), .slice A0 l0.length c0, .agg #[.int .i64 x439000_1, .int .i64 x439001_1]] ?_; (with_reducible refine (impl_calc_value.calls k1 gb442 x443000_1 _ _ l0 x439000_1 x439001_1 t443 t444 false w _ ?side1 ?side2 ?side3 ?side4 A10.out).mono ?_); (case side1 => repeat (first | (with_reducible first | exact HI442.out | apply IsS78.alloc | apply IsS78.drewN | apply IsS78.drew | apply IsS78.set_0 | refine IsS78.far ?_ NB442_438.out _) | exact HI442.out)); (case side2 => repeat (first | (with_reducible first | exact HB.out | apply below_alloc | apply pw_below_drewN | apply below_drew1 | refine below_set ?_ (IsS78.ge HI442.out) | refine below_set ?_ GE438.out) | exact HB.out)); (case side3 => exact Kd.C_foot_came k68_heap HR0.out (by repeat (first | (with_reducible first | exact HB.out | apply below_alloc | apply pw_below_drewN | apply below_drew1 | refine below_set ?_ (IsS78.ge HI442.out) | refine below_set ?_ GE438.out) | exact HB.out)) (IsS78.ge HI442.out)); (case side4 => exact HC0.out); rintro e w20 ⟨rfl, hi, hb, hk⟩; refine ⟨_, rfl, ?_⟩; replace HO_7 := Aside0.mk (Kd.R_mono (Kd.R_keep (IsS78.apart (show IsS78 w _ gb442 x443000_1 from by repeat (first | (with_reducible first | exact HI442.out | apply IsS78.alloc | apply IsS78.drewN | apply IsS78.drew | apply IsS78.set_0 | refine IsS78.far ?_ NB442_438.out _) | exact HI442.out)) (by (with_reducible repeat (first | apply Kd.R_alloc | apply Kd.R_drewN | apply Kd.R_drew)); exact HO_7.out) (by decide)) hk (fun _ h => h.2)) (fun _ h => h.1)); replace BK438 := Aside0.mk (KeepBut.blk hk (g' := gb438) (o := .cells #[.int .i64 x439000_1, .int .i64 x439001_1] 28 (0, 0)) (bo gb438) NB438_442.out (by simp)); replace HB := Aside0.mk (hb); replace HI442 := Aside0.mk (hi); (try clear hb); (try clear hb2); (try clear hk); (try clear hi); have hcz21_0 : w20.cell? ⟨gb438, 0, none⟩ = some (.int .i64 x439000_1) := (blk_cell BK438.out 0).trans rfl; have hcz21_1 : w20.cell? ⟨gb438, 1, none⟩ = some (.int .i64 x439001_1) := (blk_cell BK438.out 1).trans rfl; have hfz21_0 := blk_frozen BK438.out 0; have hfz21_1 := blk_frozen BK438.out 1; obtain ⟨HGz22, hgz22⟩ := HI442.out; have hcz22_0 := cellS78_0 HGz22; have hfz22_0 := blk_frozen HGz22 0; clear HGz22 hgz22) | ((with_reducible refine gate_builtin (b := .append) (xs := #[.tmp 19, .tmp 21]) rfl ?_); at_builtin; refine Kd.R_append k28 (w0 := w) w.heap.size rfl (.tmp 19) (.tmp 21) 64 28 (.agg #[(.int .i64 0), (.int .i64 0)]) 16 rfl Try.underlying64 info28 rfl (by decide) (by omega) u7 x7_1 (⟨t443, t444⟩ : S28) [.int .i64 t443, .int .i64 t444] (fun k_ => k_ ≠ gb438) (fun _ => False) rfl (by first | (go_simp; done) | (go_simp; rfl)) ?aP (fun _ hk => hk.elim) ?aF ?aO ?aB ?aS ?aL ?_; (case aP => exact k28_mkM _ _ _ (⟨t443, t444⟩ : S28)); (case aB => exact (by repeat (first | (with_reducible first | exact HB.out | apply below_alloc | apply pw_below_drewN | apply below_drew1 | refine below_set ?_ (IsS78.ge HI442.out) | refine below_set ?_ GE438.out) | exact HB.out))); (case aF => exact (fun k_ hk => Kd.freshB (g := gb438) (o := .cells #[.int .i64 t443, .int .i64 t444] 28 (0, 0)) (by (with_reducible repeat (first | refine blk_drewN ?_ _ | refine blk_drew ?_ | refine blk_alloc ?_ _)); refine blk_put (cs := #[.int .i64 t443, .int .i64 x439001_1]) ?_ 1 _ rfl; (with_reducible repeat (first | refine blk_drewN ?_ _ | refine blk_drew ?_ | refine blk_alloc ?_ _)); refine blk_put (cs := #[.int .i64 x439000_1, .int .i64 x439001_1]) ?_ 0 _ rfl; (with_reducible repeat (first | refine blk_drewN ?_ _ | refine blk_drew ?_ | refine blk_alloc ?_ _)); exact BK438.out) k_ hk)); (case aO => exact (by (with_reducible repeat (first | apply Kd.R_alloc | apply Kd.R_drewN | apply Kd.R_drew)); exact Kd.R_mono (Kd.R_far (p := ⟨gb438, 1, none⟩) (Kd.R_far (p := ⟨gb438, 0, none⟩) (Kd.R_mono HO_7.out (fun k_ hk => (⟨hk, hk⟩ : _ ∧ k_ ≠ gb438))) (fun _ hk => hk.2) (.int .i64 t443)) (fun _ hk => hk.2) (.int .i64 t444)) (fun _ hk => hk.1))); (case aS => exact (below_size (by repeat (first | (with_reducible first | exact HB.out | apply below_alloc | apply pw_below_drewN | apply below_drew1 | refine below_set ?_ (IsS78.ge HI442.out) | refine below_set ?_ GE438.out) | exact HB.out)))); (case aL => have := LMc17.out; omega); intro v447 w23 ho hb hg hat; rw [← Ny446.out] at ho; have HO448 := Aside0.mk (ho); replace BK438 := Aside0.mk (blk_grown (g := gb438) (o := .cells #[.int .i64 t443, .int .i64 t444] 28 (0, 0)) (by (with_reducible repeat (first | refine blk_drewN ?_ _ | refine blk_drew ?_ | refine blk_alloc ?_ _)); refine blk_put (cs := #[.int .i64 t443, .int .i64 x439001_1]) ?_ 1 _ rfl; (with_reducible repeat (first | refine blk_drewN ?_ _ | refine blk_drew ?_ | refine blk_alloc ?_ _)); refine blk_put (cs := #[.int .i64 x439000_1, .int .i64 x439001_1]) ?_ 0 _ rfl; (with_reducible repeat (first | refine blk_drewN ?_ _ | refine blk_drew ?_ | refine blk_alloc ?_ _)); exact BK438.out) hg (Kd.R_away HO_7.out (fun _ hk => hk))); replace HI442 := Aside0.mk (IsS78.grown (show IsS78 w _ gb442 false from by repeat (first | (with_reducible first | exact HI442.out | apply IsS78.alloc | apply IsS78.drewN | apply IsS78.drew | apply IsS78.set_0 | refine IsS78.far ?_ NB442_438.out _) | exact HI442.out)) hg (IsS78.own_ne HI442.out HO_7.out (by decide))); replace HB := Aside0.mk (hb); clear HO_7; clear ho hb hg hat))
      go_roundg k1
      case measure => have := HK1.out; omega
      case rel => exact ⟨(y446), (wrap64 (x12_1 + 1)), (t443), (t444), (false), (by first | rfl | (simp; done) | (simp [*]; done)), H', ⟨by have := HK1.out; omega⟩, ⟨by (with_reducible repeat (first | apply Kd.R_alloc | apply Kd.R_drewN | apply Kd.R_drew)); exact HO448.out⟩, ⟨by (with_reducible repeat (first | refine blk_drewN ?_ _ | refine blk_drew ?_ | refine blk_alloc ?_ _)); exact BK438.out⟩, ⟨by repeat (first | (with_reducible first | exact HI442.out | apply IsS78.alloc | apply IsS78.drewN | apply IsS78.drew | apply IsS78.set_0 | refine IsS78.far ?_ NB442_438.out _) | exact HI442.out)⟩, ⟨by repeat (first | (with_reducible first | exact HB.out | apply below_alloc | apply pw_below_drewN | apply below_drew1 | refine below_set ?_ (IsS78.ge HI442.out) | refine below_set ?_ GE438.out) | exact HB.out)⟩⟩
     ·rw [if_neg c17] at H
      exact absurd H (by simp)
   ·rw [if_neg c9] at H
    have c9b0 : decide (x12_1 < a2) = false := decide_eq_false c9
    clear c9
    obtain rfl := Option.some.inj H
    go_wp2
    go_ret
    exact ⟨_, by first | rfl | (simp [errW_none, errW_some] <;> rfl) | (simp [*, errW_none, errW_some] <;> rfl), by (with_reducible repeat (first | apply Kd.R_alloc | apply Kd.R_drewN | apply Kd.R_drew)); exact Kd.R_mono HO_7.out (fun _ hk => trivial), by repeat (first | (with_reducible first | exact HB.out | apply below_alloc | apply pw_below_drewN | apply below_drew1 | refine below_set ?_ (IsS78.ge HI442.out) | refine below_set ?_ GE438.out) | exact HB.out)⟩

/-! ### impl_PiecesOf: function 31 -/
mutual
def impl_PiecesOf.j0 : Nat → List (S68) → Int → Bool → Int → Int → Option (List Int × Bool)
 | 0, _, _, _, _, _ => none
 | k + 1, x0, x2, x24, x450000, x450001 => if x24 = true then (some (([] : List Int), false)) else ((impl_orbit.f k x0 x450000 x450001 (wrap64 (x2 - 1))).bind fun t453 => (if (t453.length : Int) < x2 then (some (([] : List Int), false)) else (impl_PiecesOf.l0 k x0 ([] : List Int) t453 (t453.length : Int) 0)))
def impl_PiecesOf.l0 : Nat → List (S68) → List Int → List (S28) → Int → Int → Option (List Int × Bool)
 | 0, _, _, _, _, _ => none
 | k + 1, x0, x9, x34, x35, x36 => if x36 < x35 then (if 0 ≤ x36 then (if x36 < (x34.length : Int) then ((impl_pieceAt.f k x0 ((rd_T28 x34 x36).f0) ((rd_T28 x34 x36).f1)).bind fun t458 => (if x9.length < 17592186044416 then (impl_PiecesOf.l0 k x0 (x9 ++ [t458]) x34 x35 (wrap64 (x36 + 1))) else (none))) else (none)) else (none)) else (some (x9, true))
end
def impl_PiecesOf.f (k : Nat) (l0 : List (S68)) (a1_0 : Int) (a1_1 : Int) (a2 : Int) : Option (List Int × Bool) := (impl_isMap.f k l0).bind fun t450 => (if t450 = true then ((impl_isUnit.f k a1_0 a1_1).bind fun t451 => (if t451 = true then ((impl_within.f a2 1 8).bind fun t452 => (impl_PiecesOf.j0 k l0 a2 (!t452) a1_0 a1_1)) else (impl_PiecesOf.j0 k l0 a2 true a1_0 a1_1))) else (impl_PiecesOf.j0 k l0 a2 true a1_0 a1_1))
set_option maxHeartbeats 8000000 in
set_option maxRecDepth 100000 in
theorem impl_PiecesOf.calls (k : Nat) (A0 : Option Addr) (c0 : Nat) (l0 : List (S68)) (a1_0 : Int) (a1_1 : Int) (a2 : Int) (r1 : List Int) (r2 : Bool) (w : World) (hr0 : Kd.C k68 w A0 l0.length l0) (hc0 : l0.length ≤ c0) (h : impl_PiecesOf.f k l0 a1_0 a1_1 a2 = some (r1, r2)) :
  Calls Try.prog 31 #[.slice A0 l0.length c0, .agg #[.int .i64 a1_0, .int .i64 a1_1], .int .i64 a2] w fun e w' => ∃ v0_ : Value, e = .returned (.tuple #[v0_, .bool r2]) ∧ Kd.R (Kd.int .i64) 3 w' w.heap.size (fun _ => True) v0_ r1 ∧ Below w.heap.size w w' := by
 have hu28 := Try.underlying28
 have HR0 := Aside0.mk hr0
 have HC0 := Aside0.mk hc0
 clear hr0 hc0
 have HB := Aside0.mk (Below.refl w.heap.size w)
 have H : ((impl_isMap.f k l0).bind fun t450 => (if t450 = true then ((impl_isUnit.f k a1_0 a1_1).bind fun t451 => (if t451 = true then ((impl_within.f a2 1 8).bind fun t452 => (impl_PiecesOf.j0 k l0 a2 (!t452) a1_0 a1_1)) else (impl_PiecesOf.j0 k l0 a2 true a1_0 a1_1))) else (impl_PiecesOf.j0 k l0 a2 true a1_0 a1_1))) = some (r1, r2) := h
 clear h
 have HC4 := Aside0.mk H
 clear H
 go_enter Try.func31, Try.ntmps31
 go_upto_region 1 with (first | ((with_reducible refine gate_dst (N := 4) rfl ?_); refine bx 4 #[.int .i64 a1_0, .int .i64 a1_1] 28 ?_; intro gb449 hg w5 hbox hb; have BK449 := Aside0.mk (hbox); have GW449 := Aside0.mk (bz hg); have GE449 := GW449; replace HB := Aside0.mk (bs hb); clear hb hbox hg))
 (try simp only [Act.put, List.setIfInBounds_toArray, List.set_cons_zero, List.set_cons_succ])
 go_cut [24] (fun v24 wc => ∃ (kq : Nat) (x24_3 : Bool), v24 = .bool x24_3 ∧ Aside0 (impl_PiecesOf.j0 kq l0 a2 x24_3 a1_0 a1_1 = some (r1, r2)) ∧ Aside0 (kq ≤ k) ∧ Aside0 (wc.heap[gb449]? = some (.cells #[.int .i64 a1_0, .int .i64 a1_1] 28 (0, 0))) ∧ Aside0 (Below w.heap.size w wc))
 case first =>
  have H := HC4.out
  clear HC4
  replace H := Option.bind_eq_some_iff.mp H
  obtain ⟨t450, A60, H⟩ := H
  replace H : (if t450 = true then ((impl_isUnit.f k a1_0 a1_1).bind fun t451 => (if t451 = true then ((impl_within.f a2 1 8).bind fun t452 => (impl_PiecesOf.j0 k l0 a2 (!t452) a1_0 a1_1)) else (impl_PiecesOf.j0 k l0 a2 true a1_0 a1_1))) else (impl_PiecesOf.j0 k l0 a2 true a1_0 a1_1)) = some (r1, r2) := H
  have A6 := Aside0.mk A60
  clear A60
  by_cases c7 : t450 = true
  ·subst c7
   have H1 : ((impl_isUnit.f k a1_0 a1_1).bind fun t451 => (if t451 = true then ((impl_within.f a2 1 8).bind fun t452 => (impl_PiecesOf.j0 k l0 a2 (!t452) a1_0 a1_1)) else (impl_PiecesOf.j0 k l0 a2 true a1_0 a1_1))) = some (r1, r2) := by rw [if_pos rfl] at H; exact H
   clear H
   have H := H1
   clear H1
   replace H := Option.bind_eq_some_iff.mp H
   obtain ⟨t451, A80, H⟩ := H
   replace H : (if t451 = true then ((impl_within.f a2 1 8).bind fun t452 => (impl_PiecesOf.j0 k l0 a2 (!t452) a1_0 a1_1)) else (impl_PiecesOf.j0 k l0 a2 true a1_0 a1_1)) = some (r1, r2) := H
   have A8 := Aside0.mk A80
   clear A80
   by_cases c9 : t451 = true
   ·subst c9
    have H1 : ((impl_within.f a2 1 8).bind fun t452 => (impl_PiecesOf.j0 k l0 a2 (!t452) a1_0 a1_1)) = some (r1, r2) := by rw [if_pos rfl] at H; exact H
    clear H
    have H := H1
    clear H1
    replace H := Option.bind_eq_some_iff.mp H
    obtain ⟨t452, A100, H⟩ := H
    replace H : (impl_PiecesOf.j0 k l0 a2 (!t452) a1_0 a1_1) = some (r1, r2) := H
    have A10 := Aside0.mk A100
    clear A100
    have H' := Aside0.mk H
    clear H
    go_wp2_with (first | ((with_reducible refine gate_callee (f := 48) rfl ?_); refine gl 13 Try.func48 #[.slice A0 l0.length c0] ?_; (with_reducible refine (impl_isMap.calls k _ _ l0 true _ ?side1 ?side2 A6.out).mono ?_); (case side1 => repeat (first | exact (Kd.C_below HR0.out HB.out) | (with_reducible refine Kd.C_alloc ?_ _) | (with_reducible refine Kd.C_drewN ?_ _) | (with_reducible refine Kd.C_drew ?_))); (case side2 => exact HC0.out); rintro e w11 ⟨rfl, hb⟩; refine ⟨_, rfl, ?_⟩; replace BK449 := Aside0.mk (bb gb449 hb); replace HB := Aside0.mk (bs hb); (try clear hb); (try clear hb2); (try clear hk); (try clear hi); have hcz12_0 : w11.cell? ⟨gb449, 0, none⟩ = some (.int .i64 a1_0) := (blk_cell BK449.out 0).trans rfl; have hcz12_1 : w11.cell? ⟨gb449, 1, none⟩ = some (.int .i64 a1_1) := (blk_cell BK449.out 1).trans rfl; have hfz12_0 := blk_frozen BK449.out 0; have hfz12_1 := blk_frozen BK449.out 1) | (go_at_call 71; (with_reducible refine (impl_isUnit.calls k a1_0 a1_1 true _ A8.out).mono ?_); rintro e w13 ⟨rfl, hb⟩; replace BK449 := Aside0.mk (bb gb449 hb); replace HB := Aside0.mk (bs hb); (try clear hb); (try clear hb2); (try clear hk); (try clear hi)) | (go_at_call 72; (with_reducible refine (impl_within.calls a2 1 8 t452 _ A10.out).mono ?_); rintro e w' ⟨rfl, ⟨nd, rfl⟩⟩))
    go_meet
    case rel => exact ⟨_, (!t452), (by first | rfl | (simp; done) | (simp [*]; done)), H', ⟨by first | omega | exact Nat.le_refl _⟩, ⟨by (with_reducible repeat (first | refine blk_drewN ?_ _ | refine blk_drew ?_ | refine blk_alloc ?_ _)); exact BK449.out⟩, ⟨bl⟩⟩
   ·replace c9 := Bool.eq_false_iff.mpr c9
    subst c9
    have H1 : (impl_PiecesOf.j0 k l0 a2 true a1_0 a1_1) = some (r1, r2) := by rw [if_neg (show ¬ (false = true) by decide)] at H; exact H
    clear H
    have H := H1
    clear H1
    have H' := Aside0.mk H
    clear H
    go_wp2_with (first | ((with_reducible refine gate_callee (f := 48) rfl ?_); refine gl 13 Try.func48 #[.slice A0 l0.length c0] ?_; (with_reducible refine (impl_isMap.calls k _ _ l0 true _ ?side1 ?side2 A6.out).mono ?_); (case side1 => repeat (first | exact (Kd.C_below HR0.out HB.out) | (with_reducible refine Kd.C_alloc ?_ _) | (with_reducible refine Kd.C_drewN ?_ _) | (with_reducible refine Kd.C_drew ?_))); (case side2 => exact HC0.out); rintro e w14 ⟨rfl, hb⟩; refine ⟨_, rfl, ?_⟩; replace BK449 := Aside0.mk (bb gb449 hb); replace HB := Aside0.mk (bs hb); (try clear hb); (try clear hb2); (try clear hk); (try clear hi); have hcz15_0 : w14.cell? ⟨gb449, 0, none⟩ = some (.int .i64 a1_0) := (blk_cell BK449.out 0).trans rfl; have hcz15_1 : w14.cell? ⟨gb449, 1, none⟩ = some (.int .i64 a1_1) := (blk_cell BK449.out 1).trans rfl; have hfz15_0 := blk_frozen BK449.out 0; have hfz15_1 := blk_frozen BK449.out 1) | (go_at_call 71; (with_reducible refine (impl_isUnit.calls k a1_0 a1_1 false _ A8.out).mono ?_); rintro e w16 ⟨rfl, hb⟩; replace BK449 := Aside0.mk (bb gb449 hb); replace HB := Aside0.mk (bs hb); (try clear hb); (try clear hb2); (try clear hk); (try clear hi)))
    go_meet
    case rel => exact ⟨_, (true), (by first | rfl | (simp; done) | (simp [*]; done)), H', ⟨by first | omega | exact Nat.le_refl _⟩, ⟨by (with_reducible repeat (first | refine blk_drewN ?_ _ | refine blk_drew ?_ | refine blk_alloc ?_ _)); exact BK449.out⟩, ⟨bl⟩⟩
  ·replace c7 := Bool.eq_false_iff.mpr c7
   subst c7
   have H1 : (impl_PiecesOf.j0 k l0 a2 true a1_0 a1_1) = some (r1, r2) := by rw [if_neg (show ¬ (false = true) by decide)] at H; exact H
   clear H
   have H := H1
   clear H1
   have H' := Aside0.mk H
   clear H
   go_wp2_with (first | ((with_reducible refine gate_callee (f := 48) rfl ?_); refine gl 13 Try.func48 #[.slice A0 l0.length c0] ?_; (with_reducible refine (impl_isMap.calls k _ _ l0 false _ ?side1 ?side2 A6.out).mono ?_); (case side1 => repeat (first | exact (Kd.C_below HR0.out HB.out) | (with_reducible refine Kd.C_alloc ?_ _) | (with_reducible refine Kd.C_drewN ?_ _) | (with_reducible refine Kd.C_drew ?_))); (case side2 => exact HC0.out); rintro e w17 ⟨rfl, hb⟩; refine ⟨_, rfl, ?_⟩; replace BK449 := Aside0.mk (bb gb449 hb); replace HB := Aside0.mk (bs hb); (try clear hb); (try clear hb2); (try clear hk); (try clear hi)))
   go_meet
   case rel => exact ⟨_, (true), (by first | rfl | (simp; done) | (simp [*]; done)), H', ⟨by first | omega | exact Nat.le_refl _⟩, ⟨by (with_reducible repeat (first | refine blk_drewN ?_ _ | refine blk_drew ?_ | refine blk_alloc ?_ _)); exact BK449.out⟩, ⟨bl⟩⟩
 case rest =>
  clear HC4
  try clear p2
  try clear c3
  try clear c4
  try clear c7
  try clear c9
  try clear hcz12_0
  try clear hcz12_1
  try clear hcz15_0
  try clear hcz15_1
  try clear hfz12_0
  try clear hfz12_1
  try clear hfz15_0
  try clear hfz15_1
  obtain ⟨kq, x24_3, rfl, HA, HJ3, BK449, HB⟩ := hcut
  cases kq with
  | zero => exact absurd HA.out (by simp [impl_PiecesOf.j0])
  | succ kj3 =>
   have H := HA.out
   clear HA
   simp only [impl_PiecesOf.j0] at H
   by_cases c18 : x24_3 = true
   ·subst c18
    have H1 : (some (([] : List Int), false)) = some (r1, r2) := by rw [if_pos rfl] at H; exact H
    clear H
    have H := H1
    clear H1
    simp only [Option.some.injEq, Prod.mk.injEq] at H
    obtain ⟨rfl, rfl⟩ := H
    go_wp2
    go_ret2
    exact ⟨_, by first | rfl | (simp [errW_none, errW_some] <;> rfl) | (simp [*, errW_none, errW_some] <;> rfl), by first | exact Kd.R_nil _ _ _ _ _ | exact Kd.N_nil _ _ _ _ _ | exact Kd.V_nil _ _ _ _ _ | exact Kd.Q_nil _ _ _ _ _ | exact Kd.S_nil _ _ _ _ _, bl⟩
   ·replace c18 := Bool.eq_false_iff.mpr c18
    subst c18
    have H1 : ((impl_orbit.f kj3 l0 a1_0 a1_1 (wrap64 (a2 - 1))).bind fun t453 => (if (t453.length : Int) < a2 then (some (([] : List Int), false)) else (impl_PiecesOf.l0 kj3 l0 ([] : List Int) t453 (t453.length : Int) 0))) = some (r1, r2) := by rw [if_neg (show ¬ (false = true) by decide)] at H; exact H
    clear H
    have H := H1
    clear H1
    replace H := Option.bind_eq_some_iff.mp H
    obtain ⟨t453, A190, H⟩ := H
    replace H : (if (t453.length : Int) < a2 then (some (([] : List Int), false)) else (impl_PiecesOf.l0 kj3 l0 ([] : List Int) t453 (t453.length : Int) 0)) = some (r1, r2) := H
    have A19 := Aside0.mk A190
    clear A190
    by_cases c20 : (t453.length : Int) < a2
    ·rw [if_pos c20] at H
     have c20b0 : decide ((t453.length : Int) < a2) = true := decide_eq_true c20
     clear c20
     simp only [Option.some.injEq, Prod.mk.injEq] at H
     obtain ⟨rfl, rfl⟩ := H
     have hcz21_0 : wc.cell? ⟨gb449, 0, none⟩ = some (.int .i64 a1_0) := (blk_cell BK449.out 0).trans rfl
     have hcz21_1 : wc.cell? ⟨gb449, 1, none⟩ = some (.int .i64 a1_1) := (blk_cell BK449.out 1).trans rfl
     have hfz21_0 := blk_frozen BK449.out 0
     have hfz21_1 := blk_frozen BK449.out 1
     go_wp2_with (first | ((with_reducible refine gate_callee (f := 73) rfl ?_); refine gl 29 Try.func73 #[.slice A0 l0.length c0, .agg #[.int .i64 a1_0, .int .i64 a1_1], .int .i64 (wrap64 (a2 - 1))] ?_; (with_reducible refine (impl_orbit.calls kj3 _ _ l0 a1_0 a1_1 (wrap64 (a2 - 1)) t453 _ ?side1 ?side2 A19.out).mono ?_); (case side1 => repeat (first | exact (Kd.C_below HR0.out HB.out) | (with_reducible refine Kd.C_alloc ?_ _) | (with_reducible refine Kd.C_drewN ?_ _) | (with_reducible refine Kd.C_drew ?_))); (case side2 => exact HC0.out); rintro e w22 ⟨v454, rfl, ho0, hb⟩; refine ⟨_, rfl, ?_⟩; have HO455 := Aside0.mk (Kd.R_lower (Kd.R_newB ho0 (g := gb449) (o := .cells #[.int .i64 a1_0, .int .i64 a1_1] 28 (0, 0)) (bo gb449)) (below_size bl)); replace BK449 := Aside0.mk (bb gb449 hb); replace HB := Aside0.mk (bs hb); (try clear hb); (try clear hb2); (try clear hk); (try clear hi); (try clear ho0); obtain ⟨Ao23, co23, eo23⟩ := Kd.R_slice HO455.out; subst eo23))
     go_ret2
     exact ⟨_, by first | rfl | (simp [errW_none, errW_some] <;> rfl) | (simp [*, errW_none, errW_some] <;> rfl), by first | exact Kd.R_nil _ _ _ _ _ | exact Kd.N_nil _ _ _ _ _ | exact Kd.V_nil _ _ _ _ _ | exact Kd.Q_nil _ _ _ _ _ | exact Kd.S_nil _ _ _ _ _, bl⟩
    ·rw [if_neg c20] at H
     have c20b0 : decide ((t453.length : Int) < a2) = false := decide_eq_false c20
     clear c20
     have H' := Aside0.mk H
     clear H
     have hcz24_0 : wc.cell? ⟨gb449, 0, none⟩ = some (.int .i64 a1_0) := (blk_cell BK449.out 0).trans rfl
     have hcz24_1 : wc.cell? ⟨gb449, 1, none⟩ = some (.int .i64 a1_1) := (blk_cell BK449.out 1).trans rfl
     have hfz24_0 := blk_frozen BK449.out 0
     have hfz24_1 := blk_frozen BK449.out 1
     go_wp2_with (first | ((with_reducible refine gate_callee (f := 73) rfl ?_); refine gl 29 Try.func73 #[.slice A0 l0.length c0, .agg #[.int .i64 a1_0, .int .i64 a1_1], .int .i64 (wrap64 (a2 - 1))] ?_; (with_reducible refine (impl_orbit.calls kj3 _ _ l0 a1_0 a1_1 (wrap64 (a2 - 1)) t453 _ ?side1 ?side2 A19.out).mono ?_); (case side1 => repeat (first | exact (Kd.C_below HR0.out HB.out) | (with_reducible refine Kd.C_alloc ?_ _) | (with_reducible refine Kd.C_drewN ?_ _) | (with_reducible refine Kd.C_drew ?_))); (case side2 => exact HC0.out); rintro e w25 ⟨v454, rfl, ho0, hb⟩; refine ⟨_, rfl, ?_⟩; have HO455 := Aside0.mk (Kd.R_lower (Kd.R_newB ho0 (g := gb449) (o := .cells #[.int .i64 a1_0, .int .i64 a1_1] 28 (0, 0)) (bo gb449)) (below_size bl)); replace BK449 := Aside0.mk (bb gb449 hb); replace HB := Aside0.mk (bs hb); (try clear hb); (try clear hb2); (try clear hk); (try clear hi); (try clear ho0); obtain ⟨Ao26, co26, eo26⟩ := Kd.R_slice HO455.out; subst eo26))
     go_loopg [9, 36] kj3 (fun kq v9 v36 w' => ∃ (x9_2 : List Int) (x36_2 : Int), v36 = .int .i64 x36_2 ∧ Aside0 (impl_PiecesOf.l0 kq l0 x9_2 t453 (t453.length : Int) x36_2 = some (r1, r2)) ∧ Aside0 (kq ≤ kj3) ∧ Aside0 (Kd.R (Kd.int .i64) 3 w' w.heap.size (fun _ => True) v9 x9_2) ∧ Aside0 (Kd.R k28 28 w' w.heap.size (fun k_ => k_ ≠ gb449) (.slice Ao26 t453.length co26) t453) ∧ Aside0 (w'.heap[gb449]? = some (.cells #[.int .i64 a1_0, .int .i64 a1_1] 28 (0, 0))) ∧ Aside0 (Below w.heap.size w w'))
     case atStart => exact ⟨(([] : List Int)), (0), (by first | rfl | (simp; done) | (simp [*]; done)), H', ⟨Nat.le_refl _⟩, ⟨by first | exact Kd.R_nil _ _ _ _ _ | exact Kd.N_nil _ _ _ _ _ | exact Kd.V_nil _ _ _ _ _ | exact Kd.Q_nil _ _ _ _ _ | exact Kd.S_nil _ _ _ _ _⟩, ⟨by (with_reducible repeat (first | apply Kd.R_alloc | apply Kd.R_drewN | apply Kd.R_drew)); exact Kd.R_mono HO455.out (fun _ hk => hk.2)⟩, ⟨by (with_reducible repeat (first | refine blk_drewN ?_ _ | refine blk_drew ?_ | refine blk_alloc ?_ _)); exact BK449.out⟩, ⟨bl⟩⟩
     case round =>
      clear H'
      try clear c1
      try clear c2
      try clear p2
      try clear c3
      try clear c4
      try clear p6
      try clear c7
      try clear c9
      try clear c18
      try clear c20
      try clear c20b0
      try clear hcz12_0
      try clear hcz12_1
      try clear hcz15_0
      try clear hcz15_1
      try clear hcz21_0
      try clear hcz21_1
      try clear hcz24_0
      try clear hcz24_1
      try clear hfz12_0
      try clear hfz12_1
      try clear hfz15_0
      try clear hfz15_1
      try clear hfz21_0
      try clear hfz21_1
      try clear hfz24_0
      try clear hfz24_1
      try clear p2
      obtain ⟨x9_2, x36_2, rfl, HA, HK2, HO_9, HO_34, BK449, HB⟩ := hrel
      cases gk with
      | zero => exact absurd HA.out (by simp [impl_PiecesOf.l0])
      | succ k2 =>
       have H := HA.out
       clear HA
       simp only [impl_PiecesOf.l0] at H
       by_cases c27 : x36_2 < (t453.length : Int)
       ·rw [if_pos c27] at H
        have c27b0 : decide (x36_2 < (t453.length : Int)) = true := decide_eq_true c27
        clear c27
        by_cases c28 : 0 ≤ x36_2
        ·rw [if_pos c28] at H
         have c28b0 : decide (0 ≤ x36_2) = true := decide_eq_true c28
         clear c28
         by_cases c29 : x36_2 < (t453.length : Int)
         ·rw [if_pos c29] at H
          have c29b0 : decide (x36_2 < (t453.length : Int)) = true := decide_eq_true c29
          clear c29
          replace H := Option.bind_eq_some_iff.mp H
          obtain ⟨t458, A300, H⟩ := H
          replace H : (if x9_2.length < 17592186044416 then (impl_PiecesOf.l0 k2 l0 (x9_2 ++ [t458]) t453 (t453.length : Int) (wrap64 (x36_2 + 1))) else (none)) = some (r1, r2) := H
          have A30 := Aside0.mk A300
          clear A300
          by_cases c31 : x9_2.length < 17592186044416
          ·rw [if_pos c31] at H
           have LMc31 := Aside0.mk c31
           clear c31
           obtain ⟨y459, hy459⟩ : ∃ y_ : List Int, y_ = (x9_2 ++ [t458]) := ⟨_, rfl⟩
           replace H : (impl_PiecesOf.l0 k2 l0 y459 t453 (t453.length : Int) (wrap64 (x36_2 + 1))) = some (r1, r2) := by first | (rw [hy459]; with_reducible exact H) | (have H2_ := (Option.bind_some _ _).symm.trans H; rw [hy459]; with_reducible exact H2_) | (have H2_ := (Option.bind_some _ _).symm.trans H; with_reducible exact H2_) | with_reducible exact H | (rw [hy459]; exact H) | exact H
           have Ny459 := Aside0.mk hy459
           clear hy459
           have H' := Aside0.mk H
           clear H
           have p456 : 0 ≤ (x36_2 : Int) := da
           have q456 : x36_2 < (t453.length : Int) := da
           obtain ⟨ad456, e456, hx456_0, hx456_1⟩ := at_T28 (Kd.R_reads' HO_34.out).2.2 x36_2 p456 q456
           cases e456
           replace p456 := eq_true p456
           replace q456 := eq_true q456
           go_wp2_with (first | ((with_reducible refine gate_dst (N := 11) rfl ?_); refine bx 11 #[.int .i64 0, .int .i64 0] 28 ?_; intro gb457 hg w32 hbox hb; have BK457 := Aside0.mk (hbox); have GW457 := Aside0.mk (bz hg); have GE457 := GW457; have NB449_457 := Aside0.mk (bn gb449 hg); have NB457_449 := Aside0.mk NB449_457.out.symm; replace HO_9 := Aside0.mk (Kd.R_below (by (with_reducible repeat (first | apply Kd.R_alloc | apply Kd.R_drewN | apply Kd.R_drew)); exact HO_9.out) hb); replace HO_34 := Aside0.mk (Kd.R_below (Kd.R_elderB (by (with_reducible repeat (first | apply Kd.R_alloc | apply Kd.R_drewN | apply Kd.R_drew)); exact HO_34.out) gb457 (Nat.le_of_eq hg.symm)) hb); replace BK449 := Aside0.mk (bb gb449 hb); replace HB := Aside0.mk (bs hb); clear hb hbox hg; have hnb33 := NB457_449.out; have hnc33 := NB449_457.out; have hcz34_0 : w32.cell? ⟨gb457, 0, none⟩ = some (.int .i64 0) := (blk_cell BK457.out 0).trans rfl; have hcz34_1 : w32.cell? ⟨gb457, 1, none⟩ = some (.int .i64 0) := (blk_cell BK457.out 1).trans rfl; have hfz34_0 := blk_frozen BK457.out 0; have hfz34_1 := blk_frozen BK457.out 1) | ((with_reducible refine gate_callee (f := 74) rfl ?_); refine gl 43 Try.func74 #[.slice A0 l0.length c0, .agg #[.int .i64 ((rd_T28 t453 x36_2).f0), .int .i64 ((rd_T28 t453 x36_2).f1)]] ?_; (with_reducible refine (impl_pieceAt.calls k2 _ _ l0 ((rd_T28 t453 x36_2).f0) ((rd_T28 t453 x36_2).f1) t458 _ ?side1 ?side2 A30.out).mono ?_); (case side1 => exact Kd.C_below HR0.out bl); (case side2 => exact HC0.out); rintro e w35 ⟨rfl, hb⟩; refine ⟨_, rfl, ?_⟩; replace HO_9 := Aside0.mk (Kd.R_below (by (with_reducible repeat (first | apply Kd.R_alloc | apply Kd.R_drewN | apply Kd.R_drew)); exact (Kd.R_mono (Kd.R_far (p := ⟨gb457, 1, none⟩) (Kd.R_far (p := ⟨gb457, 0, none⟩) (Kd.R_types HO_9.out BK457.out (by decide)) (fun _ hk => hk.2) (.int .i64 ((rd_T28 t453 x36_2).f0))) (fun _ hk => hk.2) (.int .i64 ((rd_T28 t453 x36_2).f1))) (fun _ h_ => h_.1))) hb); replace HO_34 := Aside0.mk (Kd.R_below (by (with_reducible repeat (first | apply Kd.R_alloc | apply Kd.R_drewN | apply Kd.R_drew)); exact (Kd.R_mono (Kd.R_far (p := ⟨gb457, 1, none⟩) (Kd.R_far (p := ⟨gb457, 0, none⟩) (Kd.R_mono HO_34.out (fun k_ hk => (⟨hk, hk.2⟩ : _ ∧ k_ ≠ gb457))) (fun _ hk => hk.2) (.int .i64 ((rd_T28 t453 x36_2).f0))) (fun _ hk => hk.2) (.int .i64 ((rd_T28 t453 x36_2).f1))) (fun _ h_ => h_.1))) hb); replace BK449 := Aside0.mk (blk_below (g := gb449) (o := .cells #[.int .i64 a1_0, .int .i64 a1_1] 28 (0, 0)) (by (with_reducible repeat (first | refine blk_drewN ?_ _ | refine blk_drew ?_ | refine blk_alloc ?_ _)); refine blk_far ?_ NB449_457.out _; (with_reducible repeat (first | refine blk_drewN ?_ _ | refine blk_drew ?_ | refine blk_alloc ?_ _)); refine blk_far ?_ NB449_457.out _; (with_reducible repeat (first | refine blk_drewN ?_ _ | refine blk_drew ?_ | refine blk_alloc ?_ _)); exact BK449.out) hb); replace BK457 := Aside0.mk (blk_below (g := gb457) (o := .cells #[.int .i64 ((rd_T28 t453 x36_2).f0), .int .i64 ((rd_T28 t453 x36_2).f1)] 28 (0, 0)) (by (with_reducible repeat (first | refine blk_drewN ?_ _ | refine blk_drew ?_ | refine blk_alloc ?_ _)); refine blk_put (cs := #[.int .i64 ((rd_T28 t453 x36_2).f0), .int .i64 0]) ?_ 1 _ rfl; (with_reducible repeat (first | refine blk_drewN ?_ _ | refine blk_drew ?_ | refine blk_alloc ?_ _)); refine blk_put (cs := #[.int .i64 0, .int .i64 0]) ?_ 0 _ rfl; (with_reducible repeat (first | refine blk_drewN ?_ _ | refine blk_drew ?_ | refine blk_alloc ?_ _)); exact BK457.out) hb); replace HB := Aside0.mk (bs hb); (try clear hb); (try clear hb2); (try clear hk); (try clear hi)) | ((with_reducible refine gate_builtin (b := .append) (xs := #[.tmp 40, .tmp 44]) rfl ?_); at_builtin; refine Kd.R_append (Kd.int .i64) (w0 := w) w.heap.size rfl (.tmp 40) (.tmp 44) 39 3 (.int .i64 0) 8 rfl Try.underlying39 info3 rfl (by decide) (by omega) u9 x9_2 t458 [.int .i64 t458] (fun _ => True) (fun _ => False) rfl rfl ?aP (fun _ hk => hk.elim) ?aF ?aO ?aB ?aS ?aL ?_; (case aP => exact rfl); (case aB => exact bl); (case aF => exact (fun _ _ => trivial)); (case aO => exact (by (with_reducible repeat (first | apply Kd.R_alloc | apply Kd.R_drewN | apply Kd.R_drew)); exact HO_9.out)); (case aS => exact (below_size bl)); (case aL => have := LMc31.out; omega); intro v460 w36 ho hb hg hat; rw [← Ny459.out] at ho; have HO461 := Aside0.mk (ho); replace HO_34 := Aside0.mk (Kd.R_over' (by (with_reducible repeat (first | apply Kd.R_alloc | apply Kd.R_drewN | apply Kd.R_drew)); exact HO_34.out) (Kd.R_typed (by (with_reducible repeat (first | apply Kd.R_alloc | apply Kd.R_drewN | apply Kd.R_drew)); exact HO_9.out)) (by decide) hg); replace BK449 := Aside0.mk (blk_grown (g := gb449) (o := .cells #[.int .i64 a1_0, .int .i64 a1_1] 28 (0, 0)) (bo gb449) hg (Kd.R_ne HO_9.out BK449.out (by decide))); replace BK457 := Aside0.mk (blk_grown (g := gb457) (o := .cells #[.int .i64 ((rd_T28 t453 x36_2).f0), .int .i64 ((rd_T28 t453 x36_2).f1)] 28 (0, 0)) (bo gb457) hg (Kd.R_ne HO_9.out BK457.out (by decide))); replace HB := Aside0.mk (hb); clear HO_9; clear ho hb hg hat))
           go_roundg k2
           case measure => have := HJ3.out; have := HK2.out; omega
           case rel => exact ⟨(y459), (wrap64 (x36_2 + 1)), (by first | rfl | (simp; done) | (simp [*]; done)), H', ⟨by have := HJ3.out; have := HK2.out; omega⟩, ⟨by (with_reducible repeat (first | apply Kd.R_alloc | apply Kd.R_drewN | apply Kd.R_drew)); exact HO461.out⟩, ⟨by (with_reducible repeat (first | apply Kd.R_alloc | apply Kd.R_drewN | apply Kd.R_drew)); exact Kd.R_mono HO_34.out (fun _ hk => hk.1)⟩, ⟨by (with_reducible repeat (first | refine blk_drewN ?_ _ | refine blk_drew ?_ | refine blk_alloc ?_ _)); exact BK449.out⟩, ⟨bl⟩⟩
          ·rw [if_neg c31] at H
           exact absurd H (by simp)
         ·rw [if_neg c29] at H
          exact absurd H (by simp)
        ·rw [if_neg c28] at H
         exact absurd H (by simp)
       ·rw [if_neg c27] at H
        have c27b0 : decide (x36_2 < (t453.length : Int)) = false := decide_eq_false c27
        clear c27
        simp only [Option.some.injEq, Prod.mk.injEq] at H
        obtain ⟨rfl, rfl⟩ := H
        go_wp2
        go_ret2
        exact ⟨_, by first | rfl | (simp [errW_none, errW_some] <;> rfl) | (simp [*, errW_none, errW_some] <;> rfl), by (with_reducible repeat (first | apply Kd.R_alloc | apply Kd.R_drewN | apply Kd.R_drew)); exact HO_9.out, bl⟩

end Go.Proofs.Ytmecnnnagallnaa.PFnExactPiecesOf
