-- Written by this session's program wip/pp (the kit's print tool with additions) 35421559b90ae4d0a3588c463048766b98c2df88dd9212a6774a882060cdf62d
import Derived.Test.YtannadjfkaghjaaPFnExactIsRepellingx0
import Derived.Test.YtannadjfkaghjaaPFnExactIsRepellingx1
import Derived.Test.YtannadjfkaghjaaPFnExactIsRepellingx4
import Derived.Test.YtannadjfkaghjaaPFnExactIsRepellingx6
namespace Go.Proofs.Ytannadjfkaghjaa.PFnExactIsRepelling
open Go.RowKit Go.Proofs.YtannadjfkaghjaaW.PrintWords Go.Proofs.YtannadjfkaghjaaW.PrintLast Go.Proofs.YtannadjfkaghjaaW.PrintMore
attribute [local go_sem] max2_int min2_int max_two min_two max_three min_three max_four min_four   -- for this text's walks alone
set_option linter.unusedVariables false
set_option linter.unusedSimpArgs false

attribute [local go_sem high] eqA53
/-! ### spec_imAt: function 108 -/
def spec_imAt.f (k : Nat) (l0 : List (S73)) (a1_0 : Int) (a1_1 : Int) : Option (Int × Int × Bool) := (spec_imPiece.f k l0 a1_0 a1_1).bind fun t205 => (if 0 ≤ t205 then (if t205 < (l0.length : Int) then (if 0 ≤ (wrap64 (t205 + 1)) then (if (wrap64 (t205 + 1)) < (l0.length : Int) then ((spec_imOn.f k ((rd_T73 l0 t205).f0.f0) ((rd_T73 l0 t205).f0.f1) ((rd_T73 l0 t205).f1.f0) ((rd_T73 l0 t205).f1.f1) ((rd_T73 l0 (wrap64 (t205 + 1))).f0.f0) ((rd_T73 l0 (wrap64 (t205 + 1))).f0.f1) ((rd_T73 l0 (wrap64 (t205 + 1))).f1.f0) ((rd_T73 l0 (wrap64 (t205 + 1))).f1.f1) a1_0 a1_1).bind fun bt208 => (some (bt208.1, bt208.2.1, bt208.2.2))) else (none)) else (none)) else (none)) else (none))
def spec_imAt.T2 : Bool × List (List Nat × List Nat) := (true, [([], []), ([], []), ([0, 1], [0, 1]), ([2], [2]), ([], []), ([], []), ([5], [5]), ([4, 6], [4, 6]), ([7], [7]), ([], []), ([3, 8, 9], [3, 8, 9]), ([10], [10]), ([10], [10]), ([11, 10, 0, 1, 2, 3, 4, 5, 6, 7, 8, 9, 10, 11, 12], [11]), ([12, 13, 0, 1, 2, 3, 4, 5, 6, 7, 8, 9, 10, 11, 12, 13], [12])])
def spec_imAt.B2 : List Nat := [0, 0, 3, 7, 0, 0, 32, 112, 240, 0, 1023, 2047, 2047, 8191, 16383]
theorem spec_imAt.tab2 : rtab .any (opsOf Try.f108 2) = spec_imAt.T2 := by kernel_rfl
theorem spec_imAt.bits2 : waitsOk spec_imAt.T2.2 spec_imAt.B2 = true := by kernel_rfl
set_option maxHeartbeats 8000000 in
set_option maxRecDepth 100000 in
theorem spec_imAt.calls (k : Nat) (A0 : Option Addr) (c0 : Nat) (l0 : List (S73)) (a1_0 : Int) (a1_1 : Int) (r1 : Int) (r2 : Int) (r3 : Bool) (w : World) (hr0 : Kd.C k73 w A0 l0.length l0) (hc0 : l0.length ≤ c0) (h : spec_imAt.f k l0 a1_0 a1_1 = some (r1, r2, r3)) :
  Calls Try.prog 108 #[.slice A0 l0.length c0, .agg #[.int .i64 a1_0, .int .i64 a1_1]] w fun e w' => e = .returned (.tuple #[.agg #[.int .i64 r1, .int .i64 r2], .bool r3]) ∧ Below w.heap.size w w' := by
 have hu53 := Try.underlying53
 have hu73 := Try.underlying73
 have HR0 := Aside0.mk hr0
 have HC0 := Aside0.mk hc0
 clear hr0 hc0
 have HB := Aside0.mk (Below.refl w.heap.size w)
 have H : ((spec_imPiece.f k l0 a1_0 a1_1).bind fun t205 => (if 0 ≤ t205 then (if t205 < (l0.length : Int) then (if 0 ≤ (wrap64 (t205 + 1)) then (if (wrap64 (t205 + 1)) < (l0.length : Int) then ((spec_imOn.f k ((rd_T73 l0 t205).f0.f0) ((rd_T73 l0 t205).f0.f1) ((rd_T73 l0 t205).f1.f0) ((rd_T73 l0 t205).f1.f1) ((rd_T73 l0 (wrap64 (t205 + 1))).f0.f0) ((rd_T73 l0 (wrap64 (t205 + 1))).f0.f1) ((rd_T73 l0 (wrap64 (t205 + 1))).f1.f0) ((rd_T73 l0 (wrap64 (t205 + 1))).f1.f1) a1_0 a1_1).bind fun bt208 => (some (bt208.1, bt208.2.1, bt208.2.2))) else (none)) else (none)) else (none)) else (none))) = some (r1, r2, r3) := h
 clear h
 replace H := Option.bind_eq_some_iff.mp H
 obtain ⟨t205, A30, H⟩ := H
 replace H : (if 0 ≤ t205 then (if t205 < (l0.length : Int) then (if 0 ≤ (wrap64 (t205 + 1)) then (if (wrap64 (t205 + 1)) < (l0.length : Int) then ((spec_imOn.f k ((rd_T73 l0 t205).f0.f0) ((rd_T73 l0 t205).f0.f1) ((rd_T73 l0 t205).f1.f0) ((rd_T73 l0 t205).f1.f1) ((rd_T73 l0 (wrap64 (t205 + 1))).f0.f0) ((rd_T73 l0 (wrap64 (t205 + 1))).f0.f1) ((rd_T73 l0 (wrap64 (t205 + 1))).f1.f0) ((rd_T73 l0 (wrap64 (t205 + 1))).f1.f1) a1_0 a1_1).bind fun bt208 => (some (bt208.1, bt208.2.1, bt208.2.2))) else (none)) else (none)) else (none)) else (none)) = some (r1, r2, r3) := H
 have A3 := Aside0.mk A30
 clear A30
 by_cases c4 : 0 ≤ t205
 ·rw [if_pos c4] at H
  have c4b0 : decide (0 ≤ t205) = true := decide_eq_true c4
  clear c4
  by_cases c5 : t205 < (l0.length : Int)
  ·rw [if_pos c5] at H
   have c5b0 : decide (t205 < (l0.length : Int)) = true := decide_eq_true c5
   clear c5
   obtain ⟨ji6, hji6⟩ : ∃ j_ : Int, (wrap64 (t205 + 1)) = j_ := ⟨_, rfl⟩
   replace H : (if 0 ≤ (ji6) then (if (ji6) < (l0.length : Int) then ((spec_imOn.f k ((rd_T73 l0 t205).f0.f0) ((rd_T73 l0 t205).f0.f1) ((rd_T73 l0 t205).f1.f0) ((rd_T73 l0 t205).f1.f1) ((rd_T73 l0 (ji6)).f0.f0) ((rd_T73 l0 (ji6)).f0.f1) ((rd_T73 l0 (ji6)).f1.f0) ((rd_T73 l0 (ji6)).f1.f1) a1_0 a1_1).bind fun bt208 => (some (bt208.1, bt208.2.1, bt208.2.2))) else (none)) else (none)) = some (r1, r2, r3) := by first | (rw [hji6] at H; exact H) | (simp only [hji6] at H ⊢; exact H)
   (try rw [hji6] at A3)
   have hji6w : (IntKind.i64.wrap (t205 + 1)) = ji6 := (i64_w _).trans hji6
   by_cases c7 : 0 ≤ (ji6)
   ·rw [if_pos c7] at H
    have c7b0 : decide (0 ≤ (ji6)) = true := decide_eq_true c7
    clear c7
    by_cases c8 : (ji6) < (l0.length : Int)
    ·rw [if_pos c8] at H
     have c8b0 : decide ((ji6) < (l0.length : Int)) = true := decide_eq_true c8
     clear c8
     replace H := Option.bind_eq_some_iff.mp H
     obtain ⟨⟨t208, t209, t210⟩, A90, H⟩ := H
     replace H : (some (t208, t209, t210)) = some (r1, r2, r3) := H
     have A9 := Aside0.mk A90
     clear A90
     simp only [Option.some.injEq, Prod.mk.injEq] at H
     obtain ⟨rfl, rfl, rfl⟩ := H
     go_enter Try.func108, Try.ntmps108
     try go_wp2_with (first | ((with_reducible refine gate_dst (N := 3) rfl ?_); refine bx 3 #[.int .i64 a1_0, .int .i64 a1_1] 53 ?_; intro gb203 hg w10 hbox hb; have BK203 := Aside0.mk (hbox); have GW203 := Aside0.mk (bz hg); have GE203 := GW203; replace HB := kh hb; clear hb hbox hg) | ((with_reducible refine gate_dst (N := 4) rfl ?_); refine bx 4 #[.int .i64 0, .int .i64 0] 53 ?_; intro gb204 hg w11 hbox hb; have BK204 := Aside0.mk (hbox); have GW204 := Aside0.mk (bz hg); have GE204 := GW204; have NB203_204 := Aside0.mk (bn gb203 hg); have NB204_203 := sy NB203_204; replace BK203 := kb BK203 hb; replace HB := kh hb; clear hb hbox hg; have hnb12 := NB203_204.out; have hnc12 := NB204_203.out; obtain ⟨hcz13_0, hcz13_1, hfz13_0, hfz13_1⟩ := b2 BK203) | ((with_reducible refine gate_callee (f := 95) rfl ?_); refine gl 9 Try.func95 #[.slice A0 l0.length c0, .agg #[.int .i64 a1_0, .int .i64 a1_1]] ?_; (with_reducible refine (spec_imPiece.calls k _ _ l0 a1_0 a1_1 t205 _ ?side1 ?side2 A3.out).mono ?_); (case side1 => repeat (first | exact (Kd.C_below HR0.out HB.out) | (with_reducible refine Kd.C_alloc ?_ _) | (with_reducible refine Kd.C_drewN ?_ _) | (with_reducible refine Kd.C_drew ?_))); (case side2 => exact HC0.out); rintro e w14 ⟨rfl, hb⟩; refine ⟨_, rfl, ?_⟩; replace BK203 := kb BK203 hb; replace BK204 := kb BK204 hb; replace HB := kh hb; (try clear hb); (try clear hb2); (try clear hk); (try clear hi)))
     replace BK203 := Aside0.mk (blk_drew BK203.out)
     replace BK204 := Aside0.mk (blk_drew BK204.out)
     replace HB := Aside0.mk (below_drew1 HB.out)
     have p206 : 0 ≤ (t205 : Int) := da
     have q206 : t205 < (l0.length : Int) := da
     obtain ⟨ad206, e206, hx206_0, hx206_1, hx206_2, hx206_3⟩ := at_T73 HR0.out t205 p206 q206
     have hw206_3 := hx206_3
     have hw206_2 := hx206_2
     have hw206_1 := hx206_1
     have hw206_0 := hx206_0
     cases e206
     replace hx206_0 := (hc HB hx206_0 :)
     replace hx206_1 := (hc HB hx206_1 :)
     replace hx206_2 := (hc HB hx206_2 :)
     replace hx206_3 := (hc HB hx206_3 :)
     replace p206 := eq_true p206
     replace q206 := eq_true q206
     have p207 : 0 ≤ ((ji6) : Int) := da
     have q207 : (ji6) < (l0.length : Int) := da
     obtain ⟨ad207, e207, hx207_0, hx207_1, hx207_2, hx207_3⟩ := at_T73 HR0.out (ji6) p207 q207
     have hw207_3 := hx207_3
     have hw207_2 := hx207_2
     have hw207_1 := hx207_1
     have hw207_0 := hx207_0
     obtain rfl : ad206 = ad207 := (by injection e207)
     replace hx207_0 := (hc HB hx207_0 :)
     replace hx207_1 := (hc HB hx207_1 :)
     replace hx207_2 := (hc HB hx207_2 :)
     replace hx207_3 := (hc HB hx207_3 :)
     replace p207 := eq_true p207
     replace q207 := eq_true q207
     refine start_ (n := 15) (S := fun w' => w'.cell? ⟨gb203, 0, none⟩ = some (.int .i64 a1_0) ∧ w'.cell? ⟨gb203, 1, none⟩ = some (.int .i64 a1_1) ∧ w'.cell? (ad206.add ((t205).toNat * 4)) = some (.int .i64 ((rd_T73 l0 t205).f0.f0)) ∧ w'.cell? ⟨(ad206.add ((t205).toNat * 4)).block, (ad206.add ((t205).toNat * 4)).off + 1, none⟩ = some (.int .i64 ((rd_T73 l0 t205).f0.f1)) ∧ w'.cell? ⟨(ad206.add ((t205).toNat * 4)).block, (ad206.add ((t205).toNat * 4)).off + 2, none⟩ = some (.int .i64 ((rd_T73 l0 t205).f1.f0)) ∧ w'.cell? ⟨(ad206.add ((t205).toNat * 4)).block, (ad206.add ((t205).toNat * 4)).off + 3, none⟩ = some (.int .i64 ((rd_T73 l0 t205).f1.f1)) ∧ w'.cell? (ad206.add (((ji6)).toNat * 4)) = some (.int .i64 ((rd_T73 l0 (ji6)).f0.f0)) ∧ w'.cell? ⟨(ad206.add (((ji6)).toNat * 4)).block, (ad206.add (((ji6)).toNat * 4)).off + 1, none⟩ = some (.int .i64 ((rd_T73 l0 (ji6)).f0.f1)) ∧ w'.cell? ⟨(ad206.add (((ji6)).toNat * 4)).block, (ad206.add (((ji6)).toNat * 4)).off + 2, none⟩ = some (.int .i64 ((rd_T73 l0 (ji6)).f1.f0)) ∧ w'.cell? ⟨(ad206.add (((ji6)).toNat * 4)).block, (ad206.add (((ji6)).toNat * 4)).off + 3, none⟩ = some (.int .i64 ((rd_T73 l0 (ji6)).f1.f1))) (ds := []) (tb 0 15) (by kernel_rfl) rfl rfl ⟨(blk_cell BK203.out 0).trans rfl, (blk_cell BK203.out 1).trans rfl, (hc HB hw206_0 :), (hc HB hw206_1 :), (hc HB hw206_2 :), (hc HB hw206_3 :), (hc HB hw207_0 :), (hc HB hw207_1 :), (hc HB hw207_2 :), (hc HB hw207_3 :)⟩ (fun hHeld => ?_); refine with_tabW spec_imAt.tab2 spec_imAt.bits2 (fun HT_ HW_ => ?_)
     generalize w14.drew = w15 at BK203 BK204 HB hx206_0 hx206_1 hx206_2 hx206_3 hx207_0 hx207_1 hx207_2 hx207_3 hHeld ⊢
     refine pu 0 10 (tb 1 14) ?_
     refine pu 1 11 (tb 2 13) ?_
     refine pu 2 12 (tb 3 12) ?_
     refine pu 4 14 #[true, true, true, false, true, false, false, false, false, false, false, false, false, false, false] ?_
     refine pu 5 15 #[true, true, true, false, true, true, false, false, false, false, false, false, false, false, false] ?_
     refine pu 6 16 #[true, true, true, false, true, true, true, false, false, false, false, false, false, false, false] ?_
     refine pu 7 17 #[true, true, true, false, true, true, true, true, false, false, false, false, false, false, false] ?_
     refine tk 3 13 (tb 8 7) (hy := by rintro w' ⟨s0, s1, s2, s3, s4, s5, s6, s7, s8, s9⟩; go_simp; with_reducible rfl) (h := ?_)
     refine tk 8 18 (tb 9 6) (hy := by rintro w' ⟨s0, s1, s2, s3, s4, s5, s6, s7, s8, s9⟩; go_simp; with_reducible rfl) (h := ?_)
     refine tk 9 19 (tb 10 5) (hy := by rintro w' ⟨s0, s1, s2, s3, s4, s5, s6, s7, s8, s9⟩; go_simp; with_reducible rfl) (h := ?_)
     refine on 10 20 (tb 11 4) (fun K hK => ?_)
     refine goes_ Try.func120 (by kernel_rfl) rfl #[.agg #[.int .i64 ((rd_T73 l0 t205).f0.f0), .int .i64 ((rd_T73 l0 t205).f0.f1), .int .i64 ((rd_T73 l0 t205).f1.f0), .int .i64 ((rd_T73 l0 t205).f1.f1)], .agg #[.int .i64 ((rd_T73 l0 (ji6)).f0.f0), .int .i64 ((rd_T73 l0 (ji6)).f0.f1), .int .i64 ((rd_T73 l0 (ji6)).f1.f0), .int .i64 ((rd_T73 l0 (ji6)).f1.f1)], .agg #[.int .i64 a1_0, .int .i64 a1_1]] (by rfl) rfl rfl (by (try simp only [List.map_toArray, List.map_cons, List.map_nil]); first | done | (simp only [hji6]; rfl) | rfl | (simp only [List.length_drop, List.length_take]; rfl)) ?_
     with_reducible refine (spec_imOn.calls k ((rd_T73 l0 t205).f0.f0) ((rd_T73 l0 t205).f0.f1) ((rd_T73 l0 t205).f1.f0) ((rd_T73 l0 t205).f1.f1) ((rd_T73 l0 (ji6)).f0.f0) ((rd_T73 l0 (ji6)).f0.f1) ((rd_T73 l0 (ji6)).f1.f0) ((rd_T73 l0 (ji6)).f1.f1) a1_0 a1_1 t208 t209 t210 _ A9.out).mono ?_
     rintro e w16 ⟨rfl, hb⟩
     refine ⟨_, rfl, ?_⟩
     replace BK203 := kb BK203 hb
     replace BK204 := kb BK204 hb
     replace HB := kh hb
     (try clear hb)
     (try clear hb2)
     (try clear hk)
     (try clear hi)
     refine hK.out _ _ ⟨(blk_cell BK203.out 0).trans rfl, (blk_cell BK203.out 1).trans rfl, (hc HB hw206_0 :), (hc HB hw206_1 :), (hc HB hw206_2 :), (hc HB hw206_3 :), (hc HB hw207_0 :), (hc HB hw207_1 :), (hc HB hw207_2 :), (hc HB hw207_3 :)⟩ (fun hHeld => ?_)
     clear hK K
     refine nm 20 ?_
     refine pu 11 21 (tb 12 3) ?_
     refine pu 12 22 (tb 13 2) ?_
     refine one_ (i := 13) (N := none) (tb 14 1) rfl rfl (one_of HT_.out (by kernel_rfl)) (by decide) (fun K hK => ?_)
     have hs17 : w16.cell? ⟨gb204, 0, none⟩ = some (.int .i64 0) := (blk_cell BK204.out 0).trans rfl
     have hfs17 := blk_frozen BK204.out 0
     have hns17_0 := NB203_204.out
     have hms17_0 := NB204_203.out
     have hs18 : w16.cell? ⟨gb204, 1, none⟩ = some (.int .i64 0) := (blk_cell BK204.out 1).trans rfl
     have hfs18 := blk_frozen BK204.out 1
     have hns18_0 := NB203_204.out
     have hms18_0 := NB204_203.out
     refine skip_ (w1 := ?_) (by rfl) rfl ?_ ?_
     rotate_left
     ·go_simp
      rfl
     refine hK.out _ _ ⟨(by (iterate 2 refine (cell_far (p := ⟨gb204, _, none⟩) NB203_204.out _).trans ?_); exact hHeld.1), (by (iterate 2 refine (cell_far (p := ⟨gb204, _, none⟩) NB203_204.out _).trans ?_); exact hHeld.2.1), (by (iterate 2 refine (cell_far (p := ⟨gb204, _, none⟩) (by have h_ := Nat.ne_of_lt (Nat.lt_of_lt_of_le (by have := World.block_lt_of_cell? _ _ hw206_0; first | rwa [add_block] at this | exact this) GW204.out); first | exact h_ | (rw [add_block]; exact h_) | (show (Addr.add _ _).block ≠ _; rw [add_block]; exact h_) | (dsimp only; exact h_)) _).trans ?_); exact hHeld.2.2.1), (by (iterate 2 refine (cell_far (p := ⟨gb204, _, none⟩) (by have h_ := Nat.ne_of_lt (Nat.lt_of_lt_of_le (by have := World.block_lt_of_cell? _ _ hw206_1; first | rwa [add_block] at this | exact this) GW204.out); first | exact h_ | (rw [add_block]; exact h_) | (show (Addr.add _ _).block ≠ _; rw [add_block]; exact h_) | (dsimp only; exact h_)) _).trans ?_); exact hHeld.2.2.2.1), (by (iterate 2 refine (cell_far (p := ⟨gb204, _, none⟩) (by have h_ := Nat.ne_of_lt (Nat.lt_of_lt_of_le (by have := World.block_lt_of_cell? _ _ hw206_2; first | rwa [add_block] at this | exact this) GW204.out); first | exact h_ | (rw [add_block]; exact h_) | (show (Addr.add _ _).block ≠ _; rw [add_block]; exact h_) | (dsimp only; exact h_)) _).trans ?_); exact hHeld.2.2.2.2.1), (by (iterate 2 refine (cell_far (p := ⟨gb204, _, none⟩) (by have h_ := Nat.ne_of_lt (Nat.lt_of_lt_of_le (by have := World.block_lt_of_cell? _ _ hw206_3; first | rwa [add_block] at this | exact this) GW204.out); first | exact h_ | (rw [add_block]; exact h_) | (show (Addr.add _ _).block ≠ _; rw [add_block]; exact h_) | (dsimp only; exact h_)) _).trans ?_); exact hHeld.2.2.2.2.2.1), (by (iterate 2 refine (cell_far (p := ⟨gb204, _, none⟩) (by have h_ := Nat.ne_of_lt (Nat.lt_of_lt_of_le (by have := World.block_lt_of_cell? _ _ hw207_0; first | rwa [add_block] at this | exact this) GW204.out); first | exact h_ | (rw [add_block]; exact h_) | (show (Addr.add _ _).block ≠ _; rw [add_block]; exact h_) | (dsimp only; exact h_)) _).trans ?_); exact hHeld.2.2.2.2.2.2.1), (by (iterate 2 refine (cell_far (p := ⟨gb204, _, none⟩) (by have h_ := Nat.ne_of_lt (Nat.lt_of_lt_of_le (by have := World.block_lt_of_cell? _ _ hw207_1; first | rwa [add_block] at this | exact this) GW204.out); first | exact h_ | (rw [add_block]; exact h_) | (show (Addr.add _ _).block ≠ _; rw [add_block]; exact h_) | (dsimp only; exact h_)) _).trans ?_); exact hHeld.2.2.2.2.2.2.2.1), (by (iterate 2 refine (cell_far (p := ⟨gb204, _, none⟩) (by have h_ := Nat.ne_of_lt (Nat.lt_of_lt_of_le (by have := World.block_lt_of_cell? _ _ hw207_2; first | rwa [add_block] at this | exact this) GW204.out); first | exact h_ | (rw [add_block]; exact h_) | (show (Addr.add _ _).block ≠ _; rw [add_block]; exact h_) | (dsimp only; exact h_)) _).trans ?_); exact hHeld.2.2.2.2.2.2.2.2.1), (by (iterate 2 refine (cell_far (p := ⟨gb204, _, none⟩) (by have h_ := Nat.ne_of_lt (Nat.lt_of_lt_of_le (by have := World.block_lt_of_cell? _ _ hw207_3; first | rwa [add_block] at this | exact this) GW204.out); first | exact h_ | (rw [add_block]; exact h_) | (show (Addr.add _ _).block ≠ _; rw [add_block]; exact h_) | (dsimp only; exact h_)) _).trans ?_); exact hHeld.2.2.2.2.2.2.2.2.2)⟩ (fun hHeld => ?_)
     clear hK K
     refine pu 14 5 (tb 15 0) ?_
     refine done_ (done_of HT_.out (by kernel_rfl)) ?_
     try go_wp2
     refine bodyPost_ret (results_ct rfl _ _ gb204 53 #[.int .i64 t208, .int .i64 t209] (0, 0) _ rfl (by (with_reducible repeat (first | refine blk_drewN ?_ _ | refine blk_drew ?_ | refine blk_alloc ?_ _)); refine blk_put (cs := #[.int .i64 t208, .int .i64 0]) ?_ 1 _ rfl; (with_reducible repeat (first | refine blk_drewN ?_ _ | refine blk_drew ?_ | refine blk_alloc ?_ _)); refine blk_put (cs := #[.int .i64 0, .int .i64 0]) ?_ 0 _ rfl; (with_reducible repeat (first | refine blk_drewN ?_ _ | refine blk_drew ?_ | refine blk_alloc ?_ _)); exact BK204.out) Try.underlying53 rfl (by kernel_rfl)) rfl ?_
     exact ⟨by first | rfl | (simp [errW_none, errW_some] <;> rfl) | (simp only [← hji6]; first | rfl | (simp [errW_none, errW_some] <;> rfl)) | (simp [*, errW_none, errW_some] <;> rfl), bl⟩
    ·rw [if_neg c8] at H
     exact absurd H (by simp)
   ·rw [if_neg c7] at H
    exact absurd H (by simp)
  ·rw [if_neg c5] at H
   exact absurd H (by simp)
 ·rw [if_neg c4] at H
  exact absurd H (by simp)

/-! ### spec_orRun: function 94 -/
def spec_orRun.l0 : Nat → List (S73) → Int → List (S53) → Option ((List (S53)))
 | 0, _, _, _ => none
 | k + 1, x0, x2, x7 => if (x7.length : Int) ≤ x2 then (if 0 ≤ (wrap64 ((x7.length : Int) - 1)) then (if (wrap64 ((x7.length : Int) - 1)) < (x7.length : Int) then ((spec_imAt.f k x0 ((rd_T53 x7 (wrap64 ((x7.length : Int) - 1))).f0) ((rd_T53 x7 (wrap64 ((x7.length : Int) - 1))).f1)).bind fun bt216 => (if bt216.2.2 = true then (if x7.length < 8796093022208 then (spec_orRun.l0 k x0 x2 (x7 ++ [(⟨bt216.1, bt216.2.1⟩ : S53)])) else (none)) else (some x7))) else (none)) else (none)) else (some x7)
def spec_orRun.f (k : Nat) (l0 : List (S73)) (a1_0 : Int) (a1_1 : Int) (a2 : Int) : Option ((List (S53))) := spec_orRun.l0 k l0 a2 (([(⟨a1_0, a1_1⟩ : S53)] : List (S53)))
set_option maxHeartbeats 8000000 in
set_option maxRecDepth 100000 in
theorem spec_orRun.calls (k : Nat) (A0 : Option Addr) (c0 : Nat) (l0 : List (S73)) (a1_0 : Int) (a1_1 : Int) (a2 : Int) (r : List (S53)) (w : World) (hr0 : Kd.C k73 w A0 l0.length l0) (hc0 : l0.length ≤ c0) (h : spec_orRun.f k l0 a1_0 a1_1 a2 = some r) :
  Calls Try.prog 94 #[.slice A0 l0.length c0, .agg #[.int .i64 a1_0, .int .i64 a1_1], .int .i64 a2] w fun e w' => ∃ v0_ : Value, e = .returned (v0_) ∧ Kd.R k53 53 w' w.heap.size (fun _ => True) v0_ r ∧ Below w.heap.size w w' := by
 have hu53 := Try.underlying53
 have HR0 := Aside0.mk hr0
 have HC0 := Aside0.mk hc0
 clear hr0 hc0
 have HB := Aside0.mk (Below.refl w.heap.size w)
 have H : (spec_orRun.l0 k l0 a2 (([(⟨a1_0, a1_1⟩ : S53)] : List (S53)))) = some r := h
 clear h
 obtain ⟨y212, hy212⟩ : ∃ y_ : List (S53), y_ = (([(⟨a1_0, a1_1⟩ : S53)] : List (S53))) := ⟨_, rfl⟩
 replace H : (spec_orRun.l0 k l0 a2 y212) = some r := by first | (rw [hy212]; with_reducible exact H) | (have H2_ := (Option.bind_some _ _).symm.trans H; rw [hy212]; with_reducible exact H2_) | (have H2_ := (Option.bind_some _ _).symm.trans H; with_reducible exact H2_) | with_reducible exact H | (rw [hy212]; exact H) | exact H
 have Ny212 := Aside0.mk hy212
 clear hy212
 have H' := Aside0.mk H
 clear H
 go_enter Try.func94, Try.ntmps94
 go_wp2_with (first | ((with_reducible refine gate_dst (N := 4) rfl ?_); refine bx 4 #[.int .i64 a1_0, .int .i64 a1_1] 53 ?_; intro gb211 hg w4 hbox hb; have BK211 := Aside0.mk (hbox); have GW211 := Aside0.mk (bz hg); have GE211 := GW211; replace HB := kh hb; clear hb hbox hg; obtain ⟨hcz5_0, hcz5_1, hfz5_0, hfz5_1⟩ := b2 BK211) | ((with_reducible refine gate_dst (N := 11) rfl ?_); refine Kd.R_lit k53 _ 53 ?hg (N := 11) ?hd (xs := ([(⟨a1_0, a1_1⟩ : S53)] : List (S53))) (inner := [.int .i64 a1_0, .int .i64 a1_1]) (ok := fun _ => True) (okp := fun _ => True) ?hr ?hp (fun _ hk => hk) trivial (Below.refl _ _) (Nat.le_refl _) (by simp) ?_; (case hd => rfl); (case hg => rfl); (case hr => first | (go_simp; done) | (go_simp; rfl)); (case hp => exact (Reps.c2 (show Kd.M k53 _ _ _ (⟨a1_0, a1_1⟩ : S53) [.int .i64 a1_0, .int .i64 a1_1] from (k53_mkM _ _ _ (⟨a1_0, a1_1⟩ : S53) )) (Reps.none _ _))); intro v213 w6 ho7 hb hg_ hnew_; clear hg_ hnew_; (first | rw [← Ny212.out] at ho7 | (simp only [Int.reduceToNat] at ho7; rw [← Ny212.out] at ho7)); have HO214 := Aside0.mk (Kd.R_lower (Kd.R_newB ho7 (g := gb211) (o := .cells #[.int .i64 a1_0, .int .i64 a1_1] 53 (0, 0)) (bo gb211)) (below_size bl)); replace BK211 := kb BK211 hb; replace HB := kh hb; clear hb ho7))
 go_loopg [7] k (fun kq v7 w' => ∃ (x7_1 : List (S53)), Aside0 (spec_orRun.l0 kq l0 a2 x7_1 = some r) ∧ Aside0 (kq ≤ k) ∧ Aside0 (Kd.R k53 53 w' w.heap.size (fun k_ => k_ ≠ gb211) v7 x7_1) ∧ Aside0 (w'.heap[gb211]? = some (.cells #[.int .i64 a1_0, .int .i64 a1_1] 53 (0, 0))) ∧ Aside0 (Below w.heap.size w w'))
 case atStart => exact ⟨(y212), H', ⟨Nat.le_refl _⟩, ⟨by (with_reducible repeat (first | apply Kd.R_alloc | apply Kd.R_drewN | apply Kd.R_drew)); exact Kd.R_mono HO214.out (fun _ hk => hk.2)⟩, ⟨by (with_reducible repeat (first | refine blk_drewN ?_ _ | refine blk_drew ?_ | refine blk_alloc ?_ _)); exact BK211.out⟩, ⟨bl⟩⟩
 case round =>
  clear H'
  try clear c2
  try clear p2
  try clear hcz5_0
  try clear hcz5_1
  try clear hfz5_0
  try clear hfz5_1
  obtain ⟨x7_1, HA, HK1, HO_7, BK211, HB⟩ := hrel
  cases gk with
  | zero => exact absurd HA.out (by simp [spec_orRun.l0])
  | succ k1 =>
   have H := HA.out
   clear HA
   simp only [spec_orRun.l0] at H
   by_cases c8 : (x7_1.length : Int) ≤ a2
   ·rw [if_pos c8] at H
    have c8b0 : decide ((x7_1.length : Int) ≤ a2) = true := decide_eq_true c8
    clear c8
    obtain ⟨ji9, hji9⟩ : ∃ j_ : Int, (wrap64 ((x7_1.length : Int) - 1)) = j_ := ⟨_, rfl⟩
    replace H : (if 0 ≤ (ji9) then (if (ji9) < (x7_1.length : Int) then ((spec_imAt.f k1 l0 ((rd_T53 x7_1 (ji9)).f0) ((rd_T53 x7_1 (ji9)).f1)).bind fun bt216 => (if bt216.2.2 = true then (if x7_1.length < 8796093022208 then (spec_orRun.l0 k1 l0 a2 (x7_1 ++ [(⟨bt216.1, bt216.2.1⟩ : S53)])) else (none)) else (some x7_1))) else (none)) else (none)) = some r := by first | (rw [hji9] at H; exact H) | (simp only [hji9] at H ⊢; exact H)
    have hji9w : (IntKind.i64.wrap ((x7_1.length : Int) - 1)) = ji9 := (i64_w _).trans hji9
    by_cases c10 : 0 ≤ (ji9)
    ·rw [if_pos c10] at H
     have c10b0 : decide (0 ≤ (ji9)) = true := decide_eq_true c10
     clear c10
     by_cases c11 : (ji9) < (x7_1.length : Int)
     ·rw [if_pos c11] at H
      have c11b0 : decide ((ji9) < (x7_1.length : Int)) = true := decide_eq_true c11
      clear c11
      replace H := Option.bind_eq_some_iff.mp H
      obtain ⟨⟨t216, t217, t218⟩, A120, H⟩ := H
      replace H : (if t218 = true then (if x7_1.length < 8796093022208 then (spec_orRun.l0 k1 l0 a2 (x7_1 ++ [(⟨t216, t217⟩ : S53)])) else (none)) else (some x7_1)) = some r := H
      have A12 := Aside0.mk A120
      clear A120
      by_cases c13 : t218 = true
      ·subst c13
       have H1 : (if x7_1.length < 8796093022208 then (spec_orRun.l0 k1 l0 a2 (x7_1 ++ [(⟨t216, t217⟩ : S53)])) else (none)) = some r := by rw [if_pos rfl] at H; exact H
       clear H
       have H := H1
       clear H1
       by_cases c14 : x7_1.length < 8796093022208
       ·rw [if_pos c14] at H
        have LMc14 := Aside0.mk c14
        clear c14
        obtain ⟨y220, hy220⟩ : ∃ y_ : List (S53), y_ = (x7_1 ++ [(⟨t216, t217⟩ : S53)]) := ⟨_, rfl⟩
        replace H : (spec_orRun.l0 k1 l0 a2 y220) = some r := by first | (rw [hy220]; with_reducible exact H) | (have H2_ := (Option.bind_some _ _).symm.trans H; rw [hy220]; with_reducible exact H2_) | (have H2_ := (Option.bind_some _ _).symm.trans H; with_reducible exact H2_) | with_reducible exact H | (rw [hy220]; exact H) | exact H
        have Ny220 := Aside0.mk hy220
        clear hy220
        have H' := Aside0.mk H
        clear H
        obtain ⟨Ao15, co15, eo15⟩ := Kd.R_slice HO_7.out
        subst eo15
        have p215 : 0 ≤ ((ji9) : Int) := da
        have q215 : (ji9) < (x7_1.length : Int) := da
        obtain ⟨ad215, e215, hx215_0, hx215_1⟩ := at_T53 (Kd.R_reads' HO_7.out).2.2 (ji9) p215 q215
        cases e215
        replace p215 := eq_true p215
        replace q215 := eq_true q215
        go_wp2_with (first | ((with_reducible refine gate_callee (f := 108) rfl ?_); refine goesL_ (some 24) rfl rfl Try.func108 (by kernel_rfl) rfl #[.slice A0 l0.length c0, .agg #[.int .i64 ((rd_T53 x7_1 (ji9)).f0), .int .i64 ((rd_T53 x7_1 (ji9)).f1)]] rfl (by (try simp only [List.map_toArray, List.map_cons, List.map_nil]); first | done | (simp only [hji9]; rfl) | rfl | (simp only [List.length_drop, List.length_take]; rfl)) ?_; (with_reducible refine (spec_imAt.calls k1 _ _ l0 ((rd_T53 x7_1 (ji9)).f0) ((rd_T53 x7_1 (ji9)).f1) t216 t217 true _ ?side1 ?side2 A12.out).mono ?_); (case side1 => repeat (first | exact (Kd.C_below HR0.out HB.out) | (with_reducible refine Kd.C_alloc ?_ _) | (with_reducible refine Kd.C_drewN ?_ _) | (with_reducible refine Kd.C_drew ?_))); (case side2 => exact HC0.out); rintro e w16 ⟨rfl, hb⟩; refine ⟨_, rfl, ?_⟩; replace HO_7 := Aside0.mk (Kd.R_below (by (with_reducible repeat (first | apply Kd.R_alloc | apply Kd.R_drewN | apply Kd.R_drew)); exact HO_7.out) hb); replace BK211 := kb BK211 hb; replace HB := kh hb; (try clear hb); (try clear hb2); (try clear hk); (try clear hi)) | ((with_reducible refine gate_dst (N := 8) rfl ?_); refine bx 8 #[.int .i64 0, .int .i64 0] 53 ?_; intro gb219 hg w17 hbox hb; have BK219 := Aside0.mk (hbox); have GW219 := Aside0.mk (bz hg); have GE219 := GW219; have NB211_219 := Aside0.mk (bn gb211 hg); have NB219_211 := sy NB211_219; replace HO_7 := Aside0.mk (Kd.R_below (Kd.R_elderB (by (with_reducible repeat (first | apply Kd.R_alloc | apply Kd.R_drewN | apply Kd.R_drew)); exact HO_7.out) gb219 (Nat.le_of_eq hg.symm)) hb); replace BK211 := kb BK211 hb; replace HB := kh hb; clear hb hbox hg; have hnb18 := NB219_211.out; have hnc18 := NB211_219.out; obtain ⟨hcz19_0, hcz19_1, hfz19_0, hfz19_1⟩ := b2 BK219) | ((with_reducible refine gate_builtin (b := .append) (xs := #[.tmp 30, .tmp 32]) rfl ?_); at_builtin; refine Kd.R_append k53 (w0 := w) w.heap.size rfl (.tmp 30) (.tmp 32) 84 53 (.agg #[(.int .i64 0), (.int .i64 0)]) 16 rfl Try.underlying84 info53 rfl (by decide) (by omega) (.slice (some ad215) x7_1.length co15) x7_1 (⟨t216, t217⟩ : S53) [.int .i64 t216, .int .i64 t217] (fun k_ => k_ ≠ gb211 ∧ k_ ≠ gb219) (fun _ => False) rfl (by first | (go_simp; done) | (go_simp; rfl)) ?aP (fun _ hk => hk.elim) ?aF ?aO ?aB ?aS ?aL ?_; (case aP => exact k53_mkM _ _ _ (⟨t216, t217⟩ : S53)); (case aB => exact bl); (case aF => exact (fun k_ hk => ⟨Kd.freshB (g := gb211) (o := .cells #[.int .i64 a1_0, .int .i64 a1_1] 53 (0, 0)) (by (with_reducible repeat (first | refine blk_drewN ?_ _ | refine blk_drew ?_ | refine blk_alloc ?_ _)); refine blk_far ?_ NB211_219.out _; (with_reducible repeat (first | refine blk_drewN ?_ _ | refine blk_drew ?_ | refine blk_alloc ?_ _)); refine blk_far ?_ NB211_219.out _; (with_reducible repeat (first | refine blk_drewN ?_ _ | refine blk_drew ?_ | refine blk_alloc ?_ _)); exact BK211.out) k_ hk, Kd.freshB (g := gb219) (o := .cells #[.int .i64 t216, .int .i64 t217] 53 (0, 0)) (by (with_reducible repeat (first | refine blk_drewN ?_ _ | refine blk_drew ?_ | refine blk_alloc ?_ _)); refine blk_put (cs := #[.int .i64 t216, .int .i64 0]) ?_ 1 _ rfl; (with_reducible repeat (first | refine blk_drewN ?_ _ | refine blk_drew ?_ | refine blk_alloc ?_ _)); refine blk_put (cs := #[.int .i64 0, .int .i64 0]) ?_ 0 _ rfl; (with_reducible repeat (first | refine blk_drewN ?_ _ | refine blk_drew ?_ | refine blk_alloc ?_ _)); exact BK219.out) k_ hk⟩)); (case aO => exact (by (with_reducible repeat (first | apply Kd.R_alloc | apply Kd.R_drewN | apply Kd.R_drew)); exact Kd.R_mono (Kd.R_far (p := ⟨gb219, 1, none⟩) (Kd.R_far (p := ⟨gb219, 0, none⟩) (Kd.R_mono HO_7.out (fun k_ hk => (⟨hk, hk.2⟩ : _ ∧ k_ ≠ gb219))) (fun _ hk => hk.2) (.int .i64 t216)) (fun _ hk => hk.2) (.int .i64 t217)) (fun _ hk => ⟨hk.1.1, hk.1.2⟩))); (case aS => exact (below_size bl)); (case aL => have := LMc14.out; omega); intro v221 w20 ho hb hg hat; rw [← Ny220.out] at ho; have HO222 := Aside0.mk (ho); replace BK211 := Aside0.mk (blk_grown (g := gb211) (o := .cells #[.int .i64 a1_0, .int .i64 a1_1] 53 (0, 0)) (by (with_reducible repeat (first | refine blk_drewN ?_ _ | refine blk_drew ?_ | refine blk_alloc ?_ _)); refine blk_far ?_ NB211_219.out _; (with_reducible repeat (first | refine blk_drewN ?_ _ | refine blk_drew ?_ | refine blk_alloc ?_ _)); refine blk_far ?_ NB211_219.out _; (with_reducible repeat (first | refine blk_drewN ?_ _ | refine blk_drew ?_ | refine blk_alloc ?_ _)); exact BK211.out) hg (Kd.R_away HO_7.out (fun _ hk => hk.1))); replace BK219 := Aside0.mk (blk_grown (g := gb219) (o := .cells #[.int .i64 t216, .int .i64 t217] 53 (0, 0)) (by (with_reducible repeat (first | refine blk_drewN ?_ _ | refine blk_drew ?_ | refine blk_alloc ?_ _)); refine blk_put (cs := #[.int .i64 t216, .int .i64 0]) ?_ 1 _ rfl; (with_reducible repeat (first | refine blk_drewN ?_ _ | refine blk_drew ?_ | refine blk_alloc ?_ _)); refine blk_put (cs := #[.int .i64 0, .int .i64 0]) ?_ 0 _ rfl; (with_reducible repeat (first | refine blk_drewN ?_ _ | refine blk_drew ?_ | refine blk_alloc ?_ _)); exact BK219.out) hg (Kd.R_away HO_7.out (fun _ hk => hk.2))); replace HB := Aside0.mk (hb); clear HO_7; clear ho hb hg hat))
        go_roundg k1
        case measure => have := HK1.out; omega
        case rel => exact ⟨(y220), H', ⟨by have := HK1.out; omega⟩, ⟨by (with_reducible repeat (first | apply Kd.R_alloc | apply Kd.R_drewN | apply Kd.R_drew)); exact Kd.R_mono HO222.out (fun _ hk => hk.1)⟩, ⟨by (with_reducible repeat (first | refine blk_drewN ?_ _ | refine blk_drew ?_ | refine blk_alloc ?_ _)); exact BK211.out⟩, ⟨bl⟩⟩
       ·rw [if_neg c14] at H
        exact absurd H (by simp)
      ·replace c13 := Bool.eq_false_iff.mpr c13
       subst c13
       have H1 : (some x7_1) = some r := by rw [if_neg (show ¬ (false = true) by decide)] at H; exact H
       clear H
       have H := H1
       clear H1
       obtain rfl := Option.some.inj H
       obtain ⟨Ao21, co21, eo21⟩ := Kd.R_slice HO_7.out
       subst eo21
       have p215 : 0 ≤ ((ji9) : Int) := da
       have q215 : (ji9) < (x7_1.length : Int) := da
       obtain ⟨ad215, e215, hx215_0, hx215_1⟩ := at_T53 (Kd.R_reads' HO_7.out).2.2 (ji9) p215 q215
       cases e215
       replace p215 := eq_true p215
       replace q215 := eq_true q215
       go_wp2_with (first | ((with_reducible refine gate_callee (f := 108) rfl ?_); refine goesL_ (some 24) rfl rfl Try.func108 (by kernel_rfl) rfl #[.slice A0 l0.length c0, .agg #[.int .i64 ((rd_T53 x7_1 (ji9)).f0), .int .i64 ((rd_T53 x7_1 (ji9)).f1)]] rfl (by (try simp only [List.map_toArray, List.map_cons, List.map_nil]); first | done | (simp only [hji9]; rfl) | rfl | (simp only [List.length_drop, List.length_take]; rfl)) ?_; (with_reducible refine (spec_imAt.calls k1 _ _ l0 ((rd_T53 x7_1 (ji9)).f0) ((rd_T53 x7_1 (ji9)).f1) t216 t217 false _ ?side1 ?side2 A12.out).mono ?_); (case side1 => repeat (first | exact (Kd.C_below HR0.out HB.out) | (with_reducible refine Kd.C_alloc ?_ _) | (with_reducible refine Kd.C_drewN ?_ _) | (with_reducible refine Kd.C_drew ?_))); (case side2 => exact HC0.out); rintro e w22 ⟨rfl, hb⟩; refine ⟨_, rfl, ?_⟩; replace HO_7 := Aside0.mk (Kd.R_below (by (with_reducible repeat (first | apply Kd.R_alloc | apply Kd.R_drewN | apply Kd.R_drew)); exact HO_7.out) hb); replace BK211 := kb BK211 hb; replace HB := kh hb; (try clear hb); (try clear hb2); (try clear hk); (try clear hi)) | ((with_reducible refine gate_dst (N := 8) rfl ?_); refine bx 8 #[.int .i64 0, .int .i64 0] 53 ?_; intro gb219 hg w23 hbox hb; have BK219 := Aside0.mk (hbox); have GW219 := Aside0.mk (bz hg); have GE219 := GW219; have NB211_219 := Aside0.mk (bn gb211 hg); have NB219_211 := sy NB211_219; replace HO_7 := Aside0.mk (Kd.R_below (Kd.R_elderB (by (with_reducible repeat (first | apply Kd.R_alloc | apply Kd.R_drewN | apply Kd.R_drew)); exact HO_7.out) gb219 (Nat.le_of_eq hg.symm)) hb); replace BK211 := kb BK211 hb; replace HB := kh hb; clear hb hbox hg; have hnb24 := NB219_211.out; have hnc24 := NB211_219.out; obtain ⟨hcz25_0, hcz25_1, hfz25_0, hfz25_1⟩ := b2 BK219))
       go_ret
       exact ⟨_, by first | rfl | (simp [errW_none, errW_some] <;> rfl) | (simp only [← hji9]; first | rfl | (simp [errW_none, errW_some] <;> rfl)) | (simp [*, errW_none, errW_some] <;> rfl), by (with_reducible repeat (first | apply Kd.R_alloc | apply Kd.R_drewN | apply Kd.R_drew)); exact Kd.R_mono (Kd.R_far (p := ⟨gb219, 1, none⟩) (Kd.R_far (p := ⟨gb219, 0, none⟩) (Kd.R_mono HO_7.out (fun k_ hk => (⟨hk, hk.2⟩ : _ ∧ k_ ≠ gb219))) (fun _ hk => hk.2) (.int .i64 t216)) (fun _ hk => hk.2) (.int .i64 t217)) (fun _ hk => trivial), bl⟩
     ·rw [if_neg c11] at H
      exact absurd H (by simp)
    ·rw [if_neg c10] at H
     exact absurd H (by simp)
   ·rw [if_neg c8] at H
    have c8b0 : decide ((x7_1.length : Int) ≤ a2) = false := decide_eq_false c8
    clear c8
    obtain rfl := Option.some.inj H
    obtain ⟨Ao26, co26, eo26⟩ := Kd.R_slice HO_7.out
    subst eo26
    go_wp2
    go_ret
    exact ⟨_, rt, by (with_reducible repeat (first | apply Kd.R_alloc | apply Kd.R_drewN | apply Kd.R_drew)); exact Kd.R_mono HO_7.out (fun _ hk => trivial), bl⟩

/-! ### spec_orAt: function 107 -/
def spec_orAt.l0 : Nat → List (S53) → Int → Int → Int → Int → Option (Int)
 | 0, _, _, _, _, _ => none
 | k + 1, x7, x8, x9, x224000, x224001 => if x9 < x8 then (if 0 ≤ x9 then (if x9 < (x7.length : Int) then (if (x224000 == ((rd_T53 x7 x9).f0) && (x224001 == ((rd_T53 x7 x9).f1))) = true then (some x9) else (spec_orAt.l0 k x7 x8 (wrap64 (x9 + 1)) x224000 x224001)) else (none)) else (none)) else (some (-1))
def spec_orAt.f (k : Nat) (l0 : List (S53)) (a1_0 : Int) (a1_1 : Int) : Option (Int) := spec_orAt.l0 k l0 (l0.length : Int) 0 a1_0 a1_1
set_option maxHeartbeats 8000000 in
set_option maxRecDepth 100000 in
theorem spec_orAt.calls (k : Nat) (A0 : Option Addr) (c0 : Nat) (l0 : List (S53)) (a1_0 : Int) (a1_1 : Int) (r : Int) (w : World) (hr0 : Kd.C k53 w A0 l0.length l0) (hc0 : l0.length ≤ c0) (h : spec_orAt.f k l0 a1_0 a1_1 = some r) :
  Calls Try.prog 107 #[.slice A0 l0.length c0, .agg #[.int .i64 a1_0, .int .i64 a1_1]] w fun e w' => e = .returned (.int .i64 r) ∧ Below w.heap.size w w' := by
 have hu53 := Try.underlying53
 have HR0 := Aside0.mk hr0
 have HC0 := Aside0.mk hc0
 clear hr0 hc0
 have HB := Aside0.mk (Below.refl w.heap.size w)
 have H : (spec_orAt.l0 k l0 (l0.length : Int) 0 a1_0 a1_1) = some r := h
 clear h
 have H' := Aside0.mk H
 clear H
 go_enter Try.func107, Try.ntmps107
 go_wp2_with (first | ((with_reducible refine gate_dst (N := 3) rfl ?_); refine bx 3 #[.int .i64 a1_0, .int .i64 a1_1] 53 ?_; intro gb223 hg w3 hbox hb; have BK223 := Aside0.mk (hbox); have GW223 := Aside0.mk (bz hg); have GE223 := GW223; replace HB := kh hb; clear hb hbox hg))
 go_loopg [9] k (fun kq v9 w' => ∃ (x9_1 : Int), v9 = .int .i64 x9_1 ∧ Aside0 (spec_orAt.l0 kq l0 (l0.length : Int) x9_1 a1_0 a1_1 = some r) ∧ Aside0 (kq ≤ k) ∧ Aside0 (w'.heap[gb223]? = some (.cells #[.int .i64 a1_0, .int .i64 a1_1] 53 (0, 0))) ∧ Aside0 (Below w.heap.size w w'))
 case atStart => exact ⟨(0), rs, H', ⟨Nat.le_refl _⟩, ⟨by (with_reducible repeat (first | refine blk_drewN ?_ _ | refine blk_drew ?_ | refine blk_alloc ?_ _)); exact BK223.out⟩, ⟨bl⟩⟩
 case round =>
  clear H'
  try clear c1
  try clear p2
  obtain ⟨x9_1, rfl, HA, HK1, BK223, HB⟩ := hrel
  cases gk with
  | zero => exact absurd HA.out (by simp [spec_orAt.l0])
  | succ k1 =>
   have H := HA.out
   clear HA
   simp only [spec_orAt.l0] at H
   by_cases c4 : x9_1 < (l0.length : Int)
   ·rw [if_pos c4] at H
    have c4b0 : decide (x9_1 < (l0.length : Int)) = true := decide_eq_true c4
    clear c4
    by_cases c5 : 0 ≤ x9_1
    ·rw [if_pos c5] at H
     have c5b0 : decide (0 ≤ x9_1) = true := decide_eq_true c5
     clear c5
     by_cases c6 : x9_1 < (l0.length : Int)
     ·rw [if_pos c6] at H
      have c6b0 : decide (x9_1 < (l0.length : Int)) = true := decide_eq_true c6
      clear c6
      by_cases c7 : (a1_0 == ((rd_T53 l0 x9_1).f0) && (a1_1 == ((rd_T53 l0 x9_1).f1))) = true
      ·rw [if_pos c7] at H
       have c7b0 : (a1_0 == ((rd_T53 l0 x9_1).f0) && (a1_1 == ((rd_T53 l0 x9_1).f1))) = true := c7
       (try (have c7b1 : decide (a1_0 = ((rd_T53 l0 x9_1).f0) && (a1_1 == ((rd_T53 l0 x9_1).f1))) = true := by simpa using c7))
       (try (have c7b2 : (a1_0 == ((rd_T53 l0 x9_1).f0) && (a1_1 == ((rd_T53 l0 x9_1).f1))) = true := by simpa using c7))
       clear c7
       obtain rfl := Option.some.inj H
       have p224 : 0 ≤ (x9_1 : Int) := da
       have q224 : x9_1 < (l0.length : Int) := da
       obtain ⟨ad224, e224, hx224_0, hx224_1⟩ := at_T53 HR0.out x9_1 p224 q224
       cases e224
       replace hx224_0 := (hc HB hx224_0 :)
       replace hx224_1 := (hc HB hx224_1 :)
       replace p224 := eq_true p224
       replace q224 := eq_true q224
       go_wp2_with (first | ((with_reducible refine gate_dst (N := 6) rfl ?_); refine bx 6 #[.int .i64 0, .int .i64 0] 53 ?_; intro gb225 hg w8 hbox hb; have BK225 := Aside0.mk (hbox); have GW225 := Aside0.mk (bz hg); have GE225 := GW225; have NB223_225 := Aside0.mk (bn gb223 hg); have NB225_223 := sy NB223_225; replace BK223 := kb BK223 hb; replace HB := kh hb; clear hb hbox hg; have hnb9 := NB225_223.out; have hnc9 := NB223_225.out; obtain ⟨hcz10_0, hcz10_1, hfz10_0, hfz10_1⟩ := b2 BK225; obtain ⟨hcz11_0, hcz11_1, hfz11_0, hfz11_1⟩ := b2 BK223))
       go_ret
       exact ⟨rt, bl⟩
      ·rw [if_neg c7] at H
       have c7b0 : (a1_0 == ((rd_T53 l0 x9_1).f0) && (a1_1 == ((rd_T53 l0 x9_1).f1))) = false := by simpa using c7
       (try (have c7b1 : decide (a1_0 = ((rd_T53 l0 x9_1).f0) && (a1_1 == ((rd_T53 l0 x9_1).f1))) = false := by simpa using c7))
       (try (have c7b2 : (a1_0 == ((rd_T53 l0 x9_1).f0) && (a1_1 == ((rd_T53 l0 x9_1).f1))) = false := by simpa using c7))
       (try (have c7b3 : ¬ (a1_0 = ((rd_T53 l0 x9_1).f0) && (a1_1 == ((rd_T53 l0 x9_1).f1))) := by simpa using c7))
       clear c7
       have H' := Aside0.mk H
       clear H
       have p224 : 0 ≤ (x9_1 : Int) := da
       have q224 : x9_1 < (l0.length : Int) := da
       obtain ⟨ad224, e224, hx224_0, hx224_1⟩ := at_T53 HR0.out x9_1 p224 q224
       cases e224
       replace hx224_0 := (hc HB hx224_0 :)
       replace hx224_1 := (hc HB hx224_1 :)
       replace p224 := eq_true p224
       replace q224 := eq_true q224
       go_wp2_with (first | ((with_reducible refine gate_dst (N := 6) rfl ?_); refine bx 6 #[.int .i64 0, .int .i64 0] 53 ?_; intro gb225 hg w12 hbox hb; have BK225 := Aside0.mk (hbox); have GW225 := Aside0.mk (bz hg); have GE225 := GW225; have NB223_225 := Aside0.mk (bn gb223 hg); have NB225_223 := sy NB223_225; replace BK223 := kb BK223 hb; replace HB := kh hb; clear hb hbox hg; have hnb13 := NB225_223.out; have hnc13 := NB223_225.out; obtain ⟨hcz14_0, hcz14_1, hfz14_0, hfz14_1⟩ := b2 BK225; obtain ⟨hcz15_0, hcz15_1, hfz15_0, hfz15_1⟩ := b2 BK223))
       go_roundg k1
       case measure => have := HK1.out; omega
       case rel => exact ⟨(wrap64 (x9_1 + 1)), rs, H', ⟨by have := HK1.out; omega⟩, ⟨by (with_reducible repeat (first | refine blk_drewN ?_ _ | refine blk_drew ?_ | refine blk_alloc ?_ _)); refine blk_far ?_ NB223_225.out _; (with_reducible repeat (first | refine blk_drewN ?_ _ | refine blk_drew ?_ | refine blk_alloc ?_ _)); refine blk_far ?_ NB223_225.out _; (with_reducible repeat (first | refine blk_drewN ?_ _ | refine blk_drew ?_ | refine blk_alloc ?_ _)); exact BK223.out⟩, ⟨bl⟩⟩
     ·rw [if_neg c6] at H
      exact absurd H (by simp)
    ·rw [if_neg c5] at H
     exact absurd H (by simp)
   ·rw [if_neg c4] at H
    have c4b0 : decide (x9_1 < (l0.length : Int)) = false := decide_eq_false c4
    clear c4
    obtain rfl := Option.some.inj H
    go_wp2
    go_ret
    exact ⟨rt, bl⟩

end Go.Proofs.Ytannadjfkaghjaa.PFnExactIsRepelling
