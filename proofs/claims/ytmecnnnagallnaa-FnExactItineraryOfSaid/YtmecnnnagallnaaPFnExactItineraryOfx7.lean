-- Written by this session's program wip/pp (the kit's print tool with additions) 35421559b90ae4d0a3588c463048766b98c2df88dd9212a6774a882060cdf62d
import Derived.Test.YtmecnnnagallnaaPFnExactItineraryOfx0
import Derived.Test.YtmecnnnagallnaaPFnExactItineraryOfx3
import Derived.Test.YtmecnnnagallnaaPFnExactItineraryOfx4
import Derived.Test.YtmecnnnagallnaaPFnExactItineraryOfx6
namespace Go.Proofs.Ytmecnnnagallnaa.PFnExactItineraryOf
open Go.RowKit Go.Proofs.YtmecnnnagallnaaW.PrintWords Go.Proofs.YtmecnnnagallnaaW.PrintLast Go.Proofs.YtmecnnnagallnaaW.PrintMore
attribute [local go_sem] max2_int min2_int max_two min_two max_three min_three max_four min_four   -- for this text's walks alone
set_option linter.unusedVariables false
set_option linter.unusedSimpArgs false

/-! ### spec_imAt: function 115 -/
def spec_imAt.f (k : Nat) (l0 : List (S68)) (a1_0 : Int) (a1_1 : Int) : Option (Int × Int × Bool) := (spec_imPiece.f k l0 a1_0 a1_1).bind fun t218 => (if 0 ≤ t218 then (if t218 < (l0.length : Int) then (if 0 ≤ (wrap64 (t218 + 1)) then (if (wrap64 (t218 + 1)) < (l0.length : Int) then ((spec_imOn.f k ((rd_T68 l0 t218).f0.f0) ((rd_T68 l0 t218).f0.f1) ((rd_T68 l0 t218).f1.f0) ((rd_T68 l0 t218).f1.f1) ((rd_T68 l0 (wrap64 (t218 + 1))).f0.f0) ((rd_T68 l0 (wrap64 (t218 + 1))).f0.f1) ((rd_T68 l0 (wrap64 (t218 + 1))).f1.f0) ((rd_T68 l0 (wrap64 (t218 + 1))).f1.f1) a1_0 a1_1).bind fun bt221 => (some (bt221.1, bt221.2.1, bt221.2.2))) else (none)) else (none)) else (none)) else (none))
def spec_imAt.T2 : Bool × List (List Nat × List Nat) := (true, [([], []), ([], []), ([0, 1], [0, 1]), ([2], [2]), ([], []), ([], []), ([5], [5]), ([4, 6], [4, 6]), ([7], [7]), ([], []), ([3, 8, 9], [3, 8, 9]), ([10], [10]), ([10], [10]), ([11, 10, 0, 1, 2, 3, 4, 5, 6, 7, 8, 9, 10, 11, 12], [11]), ([12, 13, 0, 1, 2, 3, 4, 5, 6, 7, 8, 9, 10, 11, 12, 13], [12])])
def spec_imAt.B2 : List Nat := [0, 0, 3, 7, 0, 0, 32, 112, 240, 0, 1023, 2047, 2047, 8191, 16383]
theorem spec_imAt.tab2 : rtab .any (opsOf Try.f115 2) = spec_imAt.T2 := by kernel_rfl
theorem spec_imAt.bits2 : waitsOk spec_imAt.T2.2 spec_imAt.B2 = true := by kernel_rfl
set_option maxHeartbeats 8000000 in
set_option maxRecDepth 100000 in
theorem spec_imAt.calls (k : Nat) (A0 : Option Addr) (c0 : Nat) (l0 : List (S68)) (a1_0 : Int) (a1_1 : Int) (r1 : Int) (r2 : Int) (r3 : Bool) (w : World) (hr0 : Kd.C k68 w A0 l0.length l0) (hc0 : l0.length ≤ c0) (h : spec_imAt.f k l0 a1_0 a1_1 = some (r1, r2, r3)) :
  Calls Try.prog 115 #[.slice A0 l0.length c0, .agg #[.int .i64 a1_0, .int .i64 a1_1]] w fun e w' => e = .returned (.tuple #[.agg #[.int .i64 r1, .int .i64 r2], .bool r3]) ∧ Below w.heap.size w w' := by
 have hu28 := Try.underlying28
 have hu68 := Try.underlying68
 have HR0 := Aside0.mk hr0
 have HC0 := Aside0.mk hc0
 clear hr0 hc0
 have HB := Aside0.mk (Below.refl w.heap.size w)
 have H : ((spec_imPiece.f k l0 a1_0 a1_1).bind fun t218 => (if 0 ≤ t218 then (if t218 < (l0.length : Int) then (if 0 ≤ (wrap64 (t218 + 1)) then (if (wrap64 (t218 + 1)) < (l0.length : Int) then ((spec_imOn.f k ((rd_T68 l0 t218).f0.f0) ((rd_T68 l0 t218).f0.f1) ((rd_T68 l0 t218).f1.f0) ((rd_T68 l0 t218).f1.f1) ((rd_T68 l0 (wrap64 (t218 + 1))).f0.f0) ((rd_T68 l0 (wrap64 (t218 + 1))).f0.f1) ((rd_T68 l0 (wrap64 (t218 + 1))).f1.f0) ((rd_T68 l0 (wrap64 (t218 + 1))).f1.f1) a1_0 a1_1).bind fun bt221 => (some (bt221.1, bt221.2.1, bt221.2.2))) else (none)) else (none)) else (none)) else (none))) = some (r1, r2, r3) := h
 clear h
 replace H := Option.bind_eq_some_iff.mp H
 obtain ⟨t218, A30, H⟩ := H
 replace H : (if 0 ≤ t218 then (if t218 < (l0.length : Int) then (if 0 ≤ (wrap64 (t218 + 1)) then (if (wrap64 (t218 + 1)) < (l0.length : Int) then ((spec_imOn.f k ((rd_T68 l0 t218).f0.f0) ((rd_T68 l0 t218).f0.f1) ((rd_T68 l0 t218).f1.f0) ((rd_T68 l0 t218).f1.f1) ((rd_T68 l0 (wrap64 (t218 + 1))).f0.f0) ((rd_T68 l0 (wrap64 (t218 + 1))).f0.f1) ((rd_T68 l0 (wrap64 (t218 + 1))).f1.f0) ((rd_T68 l0 (wrap64 (t218 + 1))).f1.f1) a1_0 a1_1).bind fun bt221 => (some (bt221.1, bt221.2.1, bt221.2.2))) else (none)) else (none)) else (none)) else (none)) = some (r1, r2, r3) := H
 have A3 := Aside0.mk A30
 clear A30
 by_cases c4 : 0 ≤ t218
 ·rw [if_pos c4] at H
  have c4b0 : decide (0 ≤ t218) = true := decide_eq_true c4
  clear c4
  by_cases c5 : t218 < (l0.length : Int)
  ·rw [if_pos c5] at H
   have c5b0 : decide (t218 < (l0.length : Int)) = true := decide_eq_true c5
   clear c5
   obtain ⟨ji6, hji6⟩ : ∃ j_ : Int, (wrap64 (t218 + 1)) = j_ := ⟨_, rfl⟩
   replace H : (if 0 ≤ (ji6) then (if (ji6) < (l0.length : Int) then ((spec_imOn.f k ((rd_T68 l0 t218).f0.f0) ((rd_T68 l0 t218).f0.f1) ((rd_T68 l0 t218).f1.f0) ((rd_T68 l0 t218).f1.f1) ((rd_T68 l0 (ji6)).f0.f0) ((rd_T68 l0 (ji6)).f0.f1) ((rd_T68 l0 (ji6)).f1.f0) ((rd_T68 l0 (ji6)).f1.f1) a1_0 a1_1).bind fun bt221 => (some (bt221.1, bt221.2.1, bt221.2.2))) else (none)) else (none)) = some (r1, r2, r3) := by first | (rw [hji6] at H; exact H) | (simp only [hji6] at H ⊢; exact H)
   (try rw [hji6] at A3)
   have hji6w : (IntKind.i64.wrap (t218 + 1)) = ji6 := (i64_w _).trans hji6
   by_cases c7 : 0 ≤ (ji6)
   ·rw [if_pos c7] at H
    have c7b0 : decide (0 ≤ (ji6)) = true := decide_eq_true c7
    clear c7
    by_cases c8 : (ji6) < (l0.length : Int)
    ·rw [if_pos c8] at H
     have c8b0 : decide ((ji6) < (l0.length : Int)) = true := decide_eq_true c8
     clear c8
     replace H := Option.bind_eq_some_iff.mp H
     obtain ⟨⟨t221, t222, t223⟩, A90, H⟩ := H
     replace H : (some (t221, t222, t223)) = some (r1, r2, r3) := H
     have A9 := Aside0.mk A90
     clear A90
     simp only [Option.some.injEq, Prod.mk.injEq] at H
     obtain ⟨rfl, rfl, rfl⟩ := H
     go_enter Try.func115, Try.ntmps115
     try go_wp2_with (first | ((with_reducible refine gate_dst (N := 3) rfl ?_); refine bx 3 #[.int .i64 a1_0, .int .i64 a1_1] 28 ?_; intro gb216 hg w10 hbox hb; have BK216 := Aside0.mk (hbox); have GW216 := Aside0.mk (bz hg); have GE216 := GW216; replace HB := kh hb; clear hb hbox hg) | ((with_reducible refine gate_dst (N := 4) rfl ?_); refine bx 4 #[.int .i64 0, .int .i64 0] 28 ?_; intro gb217 hg w11 hbox hb; have BK217 := Aside0.mk (hbox); have GW217 := Aside0.mk (bz hg); have GE217 := GW217; have NB216_217 := Aside0.mk (bn gb216 hg); have NB217_216 := sy NB216_217; replace BK216 := kb BK216 hb; replace HB := kh hb; clear hb hbox hg; have hnb12 := NB216_217.out; have hnc12 := NB217_216.out; obtain ⟨hcz13_0, hcz13_1, hfz13_0, hfz13_1⟩ := b2 BK216) | ((with_reducible refine gate_callee (f := 70) rfl ?_); refine gl 9 Try.func70 #[.slice A0 l0.length c0, .agg #[.int .i64 a1_0, .int .i64 a1_1]] ?_; (with_reducible refine (spec_imPiece.calls k _ _ l0 a1_0 a1_1 t218 _ ?side1 ?side2 A3.out).mono ?_); (case side1 => repeat (first | exact (Kd.C_below HR0.out HB.out) | (with_reducible refine Kd.C_alloc ?_ _) | (with_reducible refine Kd.C_drewN ?_ _) | (with_reducible refine Kd.C_drew ?_))); (case side2 => exact HC0.out); rintro e w14 ⟨rfl, hb⟩; refine ⟨_, rfl, ?_⟩; replace BK216 := kb BK216 hb; replace BK217 := kb BK217 hb; replace HB := kh hb; (try clear hb); (try clear hb2); (try clear hk); (try clear hi)))
     replace BK216 := Aside0.mk (blk_drew BK216.out)
     replace BK217 := Aside0.mk (blk_drew BK217.out)
     replace HB := Aside0.mk (below_drew1 HB.out)
     have p219 : 0 ≤ (t218 : Int) := da
     have q219 : t218 < (l0.length : Int) := da
     obtain ⟨ad219, e219, hx219_0, hx219_1, hx219_2, hx219_3⟩ := at_T68 HR0.out t218 p219 q219
     have hw219_3 := hx219_3
     have hw219_2 := hx219_2
     have hw219_1 := hx219_1
     have hw219_0 := hx219_0
     cases e219
     replace hx219_0 := (hc HB hx219_0 :)
     replace hx219_1 := (hc HB hx219_1 :)
     replace hx219_2 := (hc HB hx219_2 :)
     replace hx219_3 := (hc HB hx219_3 :)
     replace p219 := eq_true p219
     replace q219 := eq_true q219
     have p220 : 0 ≤ ((ji6) : Int) := da
     have q220 : (ji6) < (l0.length : Int) := da
     obtain ⟨ad220, e220, hx220_0, hx220_1, hx220_2, hx220_3⟩ := at_T68 HR0.out (ji6) p220 q220
     have hw220_3 := hx220_3
     have hw220_2 := hx220_2
     have hw220_1 := hx220_1
     have hw220_0 := hx220_0
     obtain rfl : ad219 = ad220 := (by injection e220)
     replace hx220_0 := (hc HB hx220_0 :)
     replace hx220_1 := (hc HB hx220_1 :)
     replace hx220_2 := (hc HB hx220_2 :)
     replace hx220_3 := (hc HB hx220_3 :)
     replace p220 := eq_true p220
     replace q220 := eq_true q220
     refine start_ (n := 15) (S := fun w' => w'.cell? ⟨gb216, 0, none⟩ = some (.int .i64 a1_0) ∧ w'.cell? ⟨gb216, 1, none⟩ = some (.int .i64 a1_1) ∧ w'.cell? (ad219.add ((t218).toNat * 4)) = some (.int .i64 ((rd_T68 l0 t218).f0.f0)) ∧ w'.cell? ⟨(ad219.add ((t218).toNat * 4)).block, (ad219.add ((t218).toNat * 4)).off + 1, none⟩ = some (.int .i64 ((rd_T68 l0 t218).f0.f1)) ∧ w'.cell? ⟨(ad219.add ((t218).toNat * 4)).block, (ad219.add ((t218).toNat * 4)).off + 2, none⟩ = some (.int .i64 ((rd_T68 l0 t218).f1.f0)) ∧ w'.cell? ⟨(ad219.add ((t218).toNat * 4)).block, (ad219.add ((t218).toNat * 4)).off + 3, none⟩ = some (.int .i64 ((rd_T68 l0 t218).f1.f1)) ∧ w'.cell? (ad219.add (((ji6)).toNat * 4)) = some (.int .i64 ((rd_T68 l0 (ji6)).f0.f0)) ∧ w'.cell? ⟨(ad219.add (((ji6)).toNat * 4)).block, (ad219.add (((ji6)).toNat * 4)).off + 1, none⟩ = some (.int .i64 ((rd_T68 l0 (ji6)).f0.f1)) ∧ w'.cell? ⟨(ad219.add (((ji6)).toNat * 4)).block, (ad219.add (((ji6)).toNat * 4)).off + 2, none⟩ = some (.int .i64 ((rd_T68 l0 (ji6)).f1.f0)) ∧ w'.cell? ⟨(ad219.add (((ji6)).toNat * 4)).block, (ad219.add (((ji6)).toNat * 4)).off + 3, none⟩ = some (.int .i64 ((rd_T68 l0 (ji6)).f1.f1))) (ds := []) (tb 0 15) (by kernel_rfl) rfl rfl ⟨(blk_cell BK216.out 0).trans rfl, (blk_cell BK216.out 1).trans rfl, (hc HB hw219_0 :), (hc HB hw219_1 :), (hc HB hw219_2 :), (hc HB hw219_3 :), (hc HB hw220_0 :), (hc HB hw220_1 :), (hc HB hw220_2 :), (hc HB hw220_3 :)⟩ (fun hHeld => ?_); refine with_tabW spec_imAt.tab2 spec_imAt.bits2 (fun HT_ HW_ => ?_)
     generalize w14.drew = w15 at BK216 BK217 HB hx219_0 hx219_1 hx219_2 hx219_3 hx220_0 hx220_1 hx220_2 hx220_3 hHeld ⊢
     refine pu 0 10 (tb 1 14) ?_
     refine pu 1 11 (tb 2 13) ?_
     refine pu 2 12 (tb 3 12) ?_
     refine pu 4 14 #[true, true, true, false, true, false, false, false, false, false, false, false, false, false, false] ?_
     refine pu 5 15 #[true, true, true, false, true, true, false, false, false, false, false, false, false, false, false] ?_
     refine pu 6 16 #[true, true, true, false, true, true, true, false, false, false, false, false, false, false, false] ?_
     refine pu 7 17 #[true, true, true, false, true, true, true, true, false, false, false, false, false, false, false] ?_
     refine tk 3 13 (tb 8 7) (hy := by rintro w' ⟨s0, s1, s2, s3, s4, s5, s6, s7, s8, s9⟩; go_simp; with_reducible rfl) (h := ?_)
     refine tk 8 18 (tb 9 6) (hy := by rintro w' ⟨s0, s1, s2, s3, s4, s5, s6, s7, s8, s9⟩; go_simp; with_reducible rfl) (h := ?_)
     refine tk 9 19 (tb 10 5) (hy := by rintro w' ⟨s0, s1, s2, s3, s4, s5, s6, s7, s8, s9⟩; go_simp; with_reducible rfl) (h := ?_)
     refine on 10 20 (tb 11 4) (fun K hK => ?_)
     refine goes_ Try.func135 (by kernel_rfl) rfl #[.agg #[.int .i64 ((rd_T68 l0 t218).f0.f0), .int .i64 ((rd_T68 l0 t218).f0.f1), .int .i64 ((rd_T68 l0 t218).f1.f0), .int .i64 ((rd_T68 l0 t218).f1.f1)], .agg #[.int .i64 ((rd_T68 l0 (ji6)).f0.f0), .int .i64 ((rd_T68 l0 (ji6)).f0.f1), .int .i64 ((rd_T68 l0 (ji6)).f1.f0), .int .i64 ((rd_T68 l0 (ji6)).f1.f1)], .agg #[.int .i64 a1_0, .int .i64 a1_1]] (by rfl) rfl rfl (by (try simp only [List.map_toArray, List.map_cons, List.map_nil]); first | done | (simp only [hji6]; rfl) | rfl | (simp only [List.length_drop, List.length_take]; rfl)) ?_
     with_reducible refine (spec_imOn.calls k ((rd_T68 l0 t218).f0.f0) ((rd_T68 l0 t218).f0.f1) ((rd_T68 l0 t218).f1.f0) ((rd_T68 l0 t218).f1.f1) ((rd_T68 l0 (ji6)).f0.f0) ((rd_T68 l0 (ji6)).f0.f1) ((rd_T68 l0 (ji6)).f1.f0) ((rd_T68 l0 (ji6)).f1.f1) a1_0 a1_1 t221 t222 t223 _ A9.out).mono ?_
     rintro e w16 ⟨rfl, hb⟩
     refine ⟨_, rfl, ?_⟩
     replace BK216 := kb BK216 hb
     replace BK217 := kb BK217 hb
     replace HB := kh hb
     (try clear hb)
     (try clear hb2)
     (try clear hk)
     (try clear hi)
     refine hK.out _ _ ⟨(blk_cell BK216.out 0).trans rfl, (blk_cell BK216.out 1).trans rfl, (hc HB hw219_0 :), (hc HB hw219_1 :), (hc HB hw219_2 :), (hc HB hw219_3 :), (hc HB hw220_0 :), (hc HB hw220_1 :), (hc HB hw220_2 :), (hc HB hw220_3 :)⟩ (fun hHeld => ?_)
     clear hK K
     refine nm 20 ?_
     refine pu 11 21 (tb 12 3) ?_
     refine pu 12 22 (tb 13 2) ?_
     refine one_ (i := 13) (N := none) (tb 14 1) rfl rfl (one_of HT_.out (by kernel_rfl)) (by decide) (fun K hK => ?_)
     have hs17 : w16.cell? ⟨gb217, 0, none⟩ = some (.int .i64 0) := (blk_cell BK217.out 0).trans rfl
     have hfs17 := blk_frozen BK217.out 0
     have hns17_0 := NB216_217.out
     have hms17_0 := NB217_216.out
     have hs18 : w16.cell? ⟨gb217, 1, none⟩ = some (.int .i64 0) := (blk_cell BK217.out 1).trans rfl
     have hfs18 := blk_frozen BK217.out 1
     have hns18_0 := NB216_217.out
     have hms18_0 := NB217_216.out
     refine skip_ (w1 := ?_) (by rfl) rfl ?_ ?_
     rotate_left
     ·go_simp
      rfl
     refine hK.out _ _ ⟨(by (iterate 2 refine (cell_far (p := ⟨gb217, _, none⟩) NB216_217.out _).trans ?_); exact hHeld.1), (by (iterate 2 refine (cell_far (p := ⟨gb217, _, none⟩) NB216_217.out _).trans ?_); exact hHeld.2.1), (by (iterate 2 refine (cell_far (p := ⟨gb217, _, none⟩) (by first | exact Nat.ne_of_lt (Nat.lt_of_lt_of_le (by have := World.block_lt_of_cell? _ _ hw219_0; first | rwa [add_block] at this | exact this) GW217.out) | (rw [add_block]; exact Nat.ne_of_lt (Nat.lt_of_lt_of_le (by have := World.block_lt_of_cell? _ _ hw219_0; first | rwa [add_block] at this | exact this) GW217.out)) | (show (Addr.add _ _).block ≠ _; rw [add_block]; exact Nat.ne_of_lt (Nat.lt_of_lt_of_le (by have := World.block_lt_of_cell? _ _ hw219_0; first | rwa [add_block] at this | exact this) GW217.out)) | (dsimp only; exact Nat.ne_of_lt (Nat.lt_of_lt_of_le (by have := World.block_lt_of_cell? _ _ hw219_0; first | rwa [add_block] at this | exact this) GW217.out))) _).trans ?_); exact hHeld.2.2.1), (by (iterate 2 refine (cell_far (p := ⟨gb217, _, none⟩) (by first | exact Nat.ne_of_lt (Nat.lt_of_lt_of_le (by have := World.block_lt_of_cell? _ _ hw219_1; first | rwa [add_block] at this | exact this) GW217.out) | (rw [add_block]; exact Nat.ne_of_lt (Nat.lt_of_lt_of_le (by have := World.block_lt_of_cell? _ _ hw219_1; first | rwa [add_block] at this | exact this) GW217.out)) | (show (Addr.add _ _).block ≠ _; rw [add_block]; exact Nat.ne_of_lt (Nat.lt_of_lt_of_le (by have := World.block_lt_of_cell? _ _ hw219_1; first | rwa [add_block] at this | exact this) GW217.out)) | (dsimp only; exact Nat.ne_of_lt (Nat.lt_of_lt_of_le (by have := World.block_lt_of_cell? _ _ hw219_1; first | rwa [add_block] at this | exact this) GW217.out))) _).trans ?_); exact hHeld.2.2.2.1), (by (iterate 2 refine (cell_far (p := ⟨gb217, _, none⟩) (by first | exact Nat.ne_of_lt (Nat.lt_of_lt_of_le (by have := World.block_lt_of_cell? _ _ hw219_2; first | rwa [add_block] at this | exact this) GW217.out) | (rw [add_block]; exact Nat.ne_of_lt (Nat.lt_of_lt_of_le (by have := World.block_lt_of_cell? _ _ hw219_2; first | rwa [add_block] at this | exact this) GW217.out)) | (show (Addr.add _ _).block ≠ _; rw [add_block]; exact Nat.ne_of_lt (Nat.lt_of_lt_of_le (by have := World.block_lt_of_cell? _ _ hw219_2; first | rwa [add_block] at this | exact this) GW217.out)) | (dsimp only; exact Nat.ne_of_lt (Nat.lt_of_lt_of_le (by have := World.block_lt_of_cell? _ _ hw219_2; first | rwa [add_block] at this | exact this) GW217.out))) _).trans ?_); exact hHeld.2.2.2.2.1), (by (iterate 2 refine (cell_far (p := ⟨gb217, _, none⟩) (by first | exact Nat.ne_of_lt (Nat.lt_of_lt_of_le (by have := World.block_lt_of_cell? _ _ hw219_3; first | rwa [add_block] at this | exact this) GW217.out) | (rw [add_block]; exact Nat.ne_of_lt (Nat.lt_of_lt_of_le (by have := World.block_lt_of_cell? _ _ hw219_3; first | rwa [add_block] at this | exact this) GW217.out)) | (show (Addr.add _ _).block ≠ _; rw [add_block]; exact Nat.ne_of_lt (Nat.lt_of_lt_of_le (by have := World.block_lt_of_cell? _ _ hw219_3; first | rwa [add_block] at this | exact this) GW217.out)) | (dsimp only; exact Nat.ne_of_lt (Nat.lt_of_lt_of_le (by have := World.block_lt_of_cell? _ _ hw219_3; first | rwa [add_block] at this | exact this) GW217.out))) _).trans ?_); exact hHeld.2.2.2.2.2.1), (by (iterate 2 refine (cell_far (p := ⟨gb217, _, none⟩) (by first | exact Nat.ne_of_lt (Nat.lt_of_lt_of_le (by have := World.block_lt_of_cell? _ _ hw220_0; first | rwa [add_block] at this | exact this) GW217.out) | (rw [add_block]; exact Nat.ne_of_lt (Nat.lt_of_lt_of_le (by have := World.block_lt_of_cell? _ _ hw220_0; first | rwa [add_block] at this | exact this) GW217.out)) | (show (Addr.add _ _).block ≠ _; rw [add_block]; exact Nat.ne_of_lt (Nat.lt_of_lt_of_le (by have := World.block_lt_of_cell? _ _ hw220_0; first | rwa [add_block] at this | exact this) GW217.out)) | (dsimp only; exact Nat.ne_of_lt (Nat.lt_of_lt_of_le (by have := World.block_lt_of_cell? _ _ hw220_0; first | rwa [add_block] at this | exact this) GW217.out))) _).trans ?_); exact hHeld.2.2.2.2.2.2.1), (by (iterate 2 refine (cell_far (p := ⟨gb217, _, none⟩) (by first | exact Nat.ne_of_lt (Nat.lt_of_lt_of_le (by have := World.block_lt_of_cell? _ _ hw220_1; first | rwa [add_block] at this | exact this) GW217.out) | (rw [add_block]; exact Nat.ne_of_lt (Nat.lt_of_lt_of_le (by have := World.block_lt_of_cell? _ _ hw220_1; first | rwa [add_block] at this | exact this) GW217.out)) | (show (Addr.add _ _).block ≠ _; rw [add_block]; exact Nat.ne_of_lt (Nat.lt_of_lt_of_le (by have := World.block_lt_of_cell? _ _ hw220_1; first | rwa [add_block] at this | exact this) GW217.out)) | (dsimp only; exact Nat.ne_of_lt (Nat.lt_of_lt_of_le (by have := World.block_lt_of_cell? _ _ hw220_1; first | rwa [add_block] at this | exact this) GW217.out))) _).trans ?_); exact hHeld.2.2.2.2.2.2.2.1), (by (iterate 2 refine (cell_far (p := ⟨gb217, _, none⟩) (by first | exact Nat.ne_of_lt (Nat.lt_of_lt_of_le (by have := World.block_lt_of_cell? _ _ hw220_2; first | rwa [add_block] at this | exact this) GW217.out) | (rw [add_block]; exact Nat.ne_of_lt (Nat.lt_of_lt_of_le (by have := World.block_lt_of_cell? _ _ hw220_2; first | rwa [add_block] at this | exact this) GW217.out)) | (show (Addr.add _ _).block ≠ _; rw [add_block]; exact Nat.ne_of_lt (Nat.lt_of_lt_of_le (by have := World.block_lt_of_cell? _ _ hw220_2; first | rwa [add_block] at this | exact this) GW217.out)) | (dsimp only; exact Nat.ne_of_lt (Nat.lt_of_lt_of_le (by have := World.block_lt_of_cell? _ _ hw220_2; first | rwa [add_block] at this | exact this) GW217.out))) _).trans ?_); exact hHeld.2.2.2.2.2.2.2.2.1), (by (iterate 2 refine (cell_far (p := ⟨gb217, _, none⟩) (by first | exact Nat.ne_of_lt (Nat.lt_of_lt_of_le (by have := World.block_lt_of_cell? _ _ hw220_3; first | rwa [add_block] at this | exact this) GW217.out) | (rw [add_block]; exact Nat.ne_of_lt (Nat.lt_of_lt_of_le (by have := World.block_lt_of_cell? _ _ hw220_3; first | rwa [add_block] at this | exact this) GW217.out)) | (show (Addr.add _ _).block ≠ _; rw [add_block]; exact Nat.ne_of_lt (Nat.lt_of_lt_of_le (by have := World.block_lt_of_cell? _ _ hw220_3; first | rwa [add_block] at this | exact this) GW217.out)) | (dsimp only; exact Nat.ne_of_lt (Nat.lt_of_lt_of_le (by have := World.block_lt_of_cell? _ _ hw220_3; first | rwa [add_block] at this | exact this) GW217.out))) _).trans ?_); exact hHeld.2.2.2.2.2.2.2.2.2)⟩ (fun hHeld => ?_)
     clear hK K
     refine pu 14 5 (tb 15 0) ?_
     refine done_ (done_of HT_.out (by kernel_rfl)) ?_
     try go_wp2
     refine bodyPost_ret (results_ct rfl _ _ gb217 28 #[.int .i64 t221, .int .i64 t222] (0, 0) _ rfl (by (with_reducible repeat (first | refine blk_drewN ?_ _ | refine blk_drew ?_ | refine blk_alloc ?_ _)); refine blk_put (cs := #[.int .i64 t221, .int .i64 0]) ?_ 1 _ rfl; (with_reducible repeat (first | refine blk_drewN ?_ _ | refine blk_drew ?_ | refine blk_alloc ?_ _)); refine blk_put (cs := #[.int .i64 0, .int .i64 0]) ?_ 0 _ rfl; (with_reducible repeat (first | refine blk_drewN ?_ _ | refine blk_drew ?_ | refine blk_alloc ?_ _)); exact BK217.out) Try.underlying28 rfl (by kernel_rfl)) rfl ?_
     exact ⟨by first | rfl | (simp [errW_none, errW_some] <;> rfl) | (simp only [← hji6]; first | rfl | (simp [errW_none, errW_some] <;> rfl)) | (simp [*, errW_none, errW_some] <;> rfl), bl⟩
    ·rw [if_neg c8] at H
     exact absurd H (by simp)
   ·rw [if_neg c7] at H
    exact absurd H (by simp)
  ·rw [if_neg c5] at H
   exact absurd H (by simp)
 ·rw [if_neg c4] at H
  exact absurd H (by simp)

/-! ### spec_orRun: function 69 -/
def spec_orRun.l0 : Nat → List (S68) → Int → List (S28) → Option ((List (S28)))
 | 0, _, _, _ => none
 | k + 1, x0, x2, x7 => if (x7.length : Int) ≤ x2 then (if 0 ≤ (wrap64 ((x7.length : Int) - 1)) then (if (wrap64 ((x7.length : Int) - 1)) < (x7.length : Int) then ((spec_imAt.f k x0 ((rd_T28 x7 (wrap64 ((x7.length : Int) - 1))).f0) ((rd_T28 x7 (wrap64 ((x7.length : Int) - 1))).f1)).bind fun bt229 => (if bt229.2.2 = true then (if x7.length < 8796093022208 then (spec_orRun.l0 k x0 x2 (x7 ++ [(⟨bt229.1, bt229.2.1⟩ : S28)])) else (none)) else (some x7))) else (none)) else (none)) else (some x7)
def spec_orRun.f (k : Nat) (l0 : List (S68)) (a1_0 : Int) (a1_1 : Int) (a2 : Int) : Option ((List (S28))) := spec_orRun.l0 k l0 a2 (([(⟨a1_0, a1_1⟩ : S28)] : List (S28)))
set_option maxHeartbeats 8000000 in
set_option maxRecDepth 100000 in
theorem spec_orRun.calls (k : Nat) (A0 : Option Addr) (c0 : Nat) (l0 : List (S68)) (a1_0 : Int) (a1_1 : Int) (a2 : Int) (r : List (S28)) (w : World) (hr0 : Kd.C k68 w A0 l0.length l0) (hc0 : l0.length ≤ c0) (h : spec_orRun.f k l0 a1_0 a1_1 a2 = some r) :
  Calls Try.prog 69 #[.slice A0 l0.length c0, .agg #[.int .i64 a1_0, .int .i64 a1_1], .int .i64 a2] w fun e w' => ∃ v0_ : Value, e = .returned (v0_) ∧ Kd.R k28 28 w' w.heap.size (fun _ => True) v0_ r ∧ Below w.heap.size w w' := by
 have hu28 := Try.underlying28
 have HR0 := Aside0.mk hr0
 have HC0 := Aside0.mk hc0
 clear hr0 hc0
 have HB := Aside0.mk (Below.refl w.heap.size w)
 have H : (spec_orRun.l0 k l0 a2 (([(⟨a1_0, a1_1⟩ : S28)] : List (S28)))) = some r := h
 clear h
 obtain ⟨y225, hy225⟩ : ∃ y_ : List (S28), y_ = (([(⟨a1_0, a1_1⟩ : S28)] : List (S28))) := ⟨_, rfl⟩
 replace H : (spec_orRun.l0 k l0 a2 y225) = some r := by first | (rw [hy225]; with_reducible exact H) | (have H2_ := (Option.bind_some _ _).symm.trans H; rw [hy225]; with_reducible exact H2_) | (have H2_ := (Option.bind_some _ _).symm.trans H; with_reducible exact H2_) | with_reducible exact H | (rw [hy225]; exact H) | exact H
 have Ny225 := Aside0.mk hy225
 clear hy225
 have H' := Aside0.mk H
 clear H
 go_enter Try.func69, Try.ntmps69
 go_wp2_with (first | ((with_reducible refine gate_dst (N := 4) rfl ?_); refine bx 4 #[.int .i64 a1_0, .int .i64 a1_1] 28 ?_; intro gb224 hg w4 hbox hb; have BK224 := Aside0.mk (hbox); have GW224 := Aside0.mk (bz hg); have GE224 := GW224; replace HB := kh hb; clear hb hbox hg; obtain ⟨hcz5_0, hcz5_1, hfz5_0, hfz5_1⟩ := b2 BK224) | ((with_reducible refine gate_dst (N := 11) rfl ?_); refine Kd.R_lit k28 _ 28 ?hg (N := 11) ?hd (xs := ([(⟨a1_0, a1_1⟩ : S28)] : List (S28))) (inner := [.int .i64 a1_0, .int .i64 a1_1]) (ok := fun _ => True) (okp := fun _ => True) ?hr ?hp (fun _ hk => hk) trivial (Below.refl _ _) (Nat.le_refl _) (by simp) ?_; (case hd => rfl); (case hg => rfl); (case hr => first | (go_simp; done) | (go_simp; rfl)); (case hp => exact (Reps.c2 (show Kd.M k28 _ _ _ (⟨a1_0, a1_1⟩ : S28) [.int .i64 a1_0, .int .i64 a1_1] from (k28_mkM _ _ _ (⟨a1_0, a1_1⟩ : S28) )) (Reps.none _ _))); intro v226 w6 ho7 hb hg_ hnew_; clear hg_ hnew_; (first | rw [← Ny225.out] at ho7 | (simp only [Int.reduceToNat] at ho7; rw [← Ny225.out] at ho7)); have HO227 := Aside0.mk (Kd.R_lower (Kd.R_newB ho7 (g := gb224) (o := .cells #[.int .i64 a1_0, .int .i64 a1_1] 28 (0, 0)) (bo gb224)) (below_size bl)); replace BK224 := kb BK224 hb; replace HB := kh hb; clear hb ho7))
 go_loopg [7] k (fun kq v7 w' => ∃ (x7_1 : List (S28)), Aside0 (spec_orRun.l0 kq l0 a2 x7_1 = some r) ∧ Aside0 (kq ≤ k) ∧ Aside0 (Kd.R k28 28 w' w.heap.size (fun k_ => k_ ≠ gb224) v7 x7_1) ∧ Aside0 (w'.heap[gb224]? = some (.cells #[.int .i64 a1_0, .int .i64 a1_1] 28 (0, 0))) ∧ Aside0 (Below w.heap.size w w'))
 case atStart => exact ⟨(y225), H', ⟨Nat.le_refl _⟩, ⟨by (with_reducible repeat (first | apply Kd.R_alloc | apply Kd.R_drewN | apply Kd.R_drew)); exact Kd.R_mono HO227.out (fun _ hk => hk.2)⟩, ⟨by (with_reducible repeat (first | refine blk_drewN ?_ _ | refine blk_drew ?_ | refine blk_alloc ?_ _)); exact BK224.out⟩, ⟨bl⟩⟩
 case round =>
  clear H'
  try clear c2
  try clear p2
  try clear c6
  try clear hcz5_0
  try clear hcz5_1
  try clear hfz5_0
  try clear hfz5_1
  obtain ⟨x7_1, HA, HK1, HO_7, BK224, HB⟩ := hrel
  cases gk with
  | zero => exact absurd HA.out (by simp [spec_orRun.l0])
  | succ k1 =>
   have H := HA.out
   clear HA
   simp only [spec_orRun.l0] at H
   by_cases c8 : (x7_1.length : Int) ≤ a2
   ·rw [if_pos c8] at H
    have c8b0 : decide ((x7_1.length : Int) ≤ a2) = true := decide_eq_true c8
    clear c8
    obtain ⟨ji9, hji9⟩ : ∃ j_ : Int, (wrap64 ((x7_1.length : Int) - 1)) = j_ := ⟨_, rfl⟩
    replace H : (if 0 ≤ (ji9) then (if (ji9) < (x7_1.length : Int) then ((spec_imAt.f k1 l0 ((rd_T28 x7_1 (ji9)).f0) ((rd_T28 x7_1 (ji9)).f1)).bind fun bt229 => (if bt229.2.2 = true then (if x7_1.length < 8796093022208 then (spec_orRun.l0 k1 l0 a2 (x7_1 ++ [(⟨bt229.1, bt229.2.1⟩ : S28)])) else (none)) else (some x7_1))) else (none)) else (none)) = some r := by first | (rw [hji9] at H; exact H) | (simp only [hji9] at H ⊢; exact H)
    have hji9w : (IntKind.i64.wrap ((x7_1.length : Int) - 1)) = ji9 := (i64_w _).trans hji9
    by_cases c10 : 0 ≤ (ji9)
    ·rw [if_pos c10] at H
     have c10b0 : decide (0 ≤ (ji9)) = true := decide_eq_true c10
     clear c10
     by_cases c11 : (ji9) < (x7_1.length : Int)
     ·rw [if_pos c11] at H
      have c11b0 : decide ((ji9) < (x7_1.length : Int)) = true := decide_eq_true c11
      clear c11
      replace H := Option.bind_eq_some_iff.mp H
      obtain ⟨⟨t229, t230, t231⟩, A120, H⟩ := H
      replace H : (if t231 = true then (if x7_1.length < 8796093022208 then (spec_orRun.l0 k1 l0 a2 (x7_1 ++ [(⟨t229, t230⟩ : S28)])) else (none)) else (some x7_1)) = some r := H
      have A12 := Aside0.mk A120
      clear A120
      by_cases c13 : t231 = true
      ·subst c13
       have H1 : (if x7_1.length < 8796093022208 then (spec_orRun.l0 k1 l0 a2 (x7_1 ++ [(⟨t229, t230⟩ : S28)])) else (none)) = some r := by rw [if_pos rfl] at H; exact H
       clear H
       have H := H1
       clear H1
       by_cases c14 : x7_1.length < 8796093022208
       ·rw [if_pos c14] at H
        have LMc14 := Aside0.mk c14
        clear c14
        obtain ⟨y233, hy233⟩ : ∃ y_ : List (S28), y_ = (x7_1 ++ [(⟨t229, t230⟩ : S28)]) := ⟨_, rfl⟩
        replace H : (spec_orRun.l0 k1 l0 a2 y233) = some r := by first | (rw [hy233]; with_reducible exact H) | (have H2_ := (Option.bind_some _ _).symm.trans H; rw [hy233]; with_reducible exact H2_) | (have H2_ := (Option.bind_some _ _).symm.trans H; with_reducible exact H2_) | with_reducible exact H | (rw [hy233]; exact H) | exact H
        have Ny233 := Aside0.mk hy233
        clear hy233
        have H' := Aside0.mk H
        clear H
        obtain ⟨Ao15, co15, eo15⟩ := Kd.R_slice HO_7.out
        subst eo15
        have p228 : 0 ≤ ((ji9) : Int) := da
        have q228 : (ji9) < (x7_1.length : Int) := da
        obtain ⟨ad228, e228, hx228_0, hx228_1⟩ := at_T28 (Kd.R_reads' HO_7.out).2.2 (ji9) p228 q228
        cases e228
        replace p228 := eq_true p228
        replace q228 := eq_true q228
        go_wp2_with (first | ((with_reducible refine gate_callee (f := 115) rfl ?_); refine goesL_ (some 24) rfl rfl Try.func115 (by kernel_rfl) rfl #[.slice A0 l0.length c0, .agg #[.int .i64 ((rd_T28 x7_1 (ji9)).f0), .int .i64 ((rd_T28 x7_1 (ji9)).f1)]] rfl (by (try simp only [List.map_toArray, List.map_cons, List.map_nil]); first | done | (simp only [hji9]; rfl) | rfl | (simp only [List.length_drop, List.length_take]; rfl)) ?_; (with_reducible refine (spec_imAt.calls k1 _ _ l0 ((rd_T28 x7_1 (ji9)).f0) ((rd_T28 x7_1 (ji9)).f1) t229 t230 true _ ?side1 ?side2 A12.out).mono ?_); (case side1 => repeat (first | exact (Kd.C_below HR0.out HB.out) | (with_reducible refine Kd.C_alloc ?_ _) | (with_reducible refine Kd.C_drewN ?_ _) | (with_reducible refine Kd.C_drew ?_))); (case side2 => exact HC0.out); rintro e w16 ⟨rfl, hb⟩; refine ⟨_, rfl, ?_⟩; replace HO_7 := Aside0.mk (Kd.R_below (by (with_reducible repeat (first | apply Kd.R_alloc | apply Kd.R_drewN | apply Kd.R_drew)); exact HO_7.out) hb); replace BK224 := kb BK224 hb; replace HB := kh hb; (try clear hb); (try clear hb2); (try clear hk); (try clear hi)) | ((with_reducible refine gate_dst (N := 8) rfl ?_); refine bx 8 #[.int .i64 0, .int .i64 0] 28 ?_; intro gb232 hg w17 hbox hb; have BK232 := Aside0.mk (hbox); have GW232 := Aside0.mk (bz hg); have GE232 := GW232; have NB224_232 := Aside0.mk (bn gb224 hg); have NB232_224 := sy NB224_232; replace HO_7 := Aside0.mk (Kd.R_below (Kd.R_elderB (by (with_reducible repeat (first | apply Kd.R_alloc | apply Kd.R_drewN | apply Kd.R_drew)); exact HO_7.out) gb232 (Nat.le_of_eq hg.symm)) hb); replace BK224 := kb BK224 hb; replace HB := kh hb; clear hb hbox hg; have hnb18 := NB232_224.out; have hnc18 := NB224_232.out; obtain ⟨hcz19_0, hcz19_1, hfz19_0, hfz19_1⟩ := b2 BK232) | ((with_reducible refine gate_builtin (b := .append) (xs := #[.tmp 30, .tmp 32]) rfl ?_); at_builtin; refine Kd.R_append k28 (w0 := w) w.heap.size rfl (.tmp 30) (.tmp 32) 64 28 (.agg #[(.int .i64 0), (.int .i64 0)]) 16 rfl Try.underlying64 info28 rfl (by decide) (by omega) (.slice (some ad228) x7_1.length co15) x7_1 (⟨t229, t230⟩ : S28) [.int .i64 t229, .int .i64 t230] (fun k_ => k_ ≠ gb224 ∧ k_ ≠ gb232) (fun _ => False) rfl (by first | (go_simp; done) | (go_simp; rfl)) ?aP (fun _ hk => hk.elim) ?aF ?aO ?aB ?aS ?aL ?_; (case aP => exact k28_mkM _ _ _ (⟨t229, t230⟩ : S28)); (case aB => exact bl); (case aF => exact (fun k_ hk => ⟨Kd.freshB (g := gb224) (o := .cells #[.int .i64 a1_0, .int .i64 a1_1] 28 (0, 0)) (by (with_reducible repeat (first | refine blk_drewN ?_ _ | refine blk_drew ?_ | refine blk_alloc ?_ _)); refine blk_far ?_ NB224_232.out _; (with_reducible repeat (first | refine blk_drewN ?_ _ | refine blk_drew ?_ | refine blk_alloc ?_ _)); refine blk_far ?_ NB224_232.out _; (with_reducible repeat (first | refine blk_drewN ?_ _ | refine blk_drew ?_ | refine blk_alloc ?_ _)); exact BK224.out) k_ hk, Kd.freshB (g := gb232) (o := .cells #[.int .i64 t229, .int .i64 t230] 28 (0, 0)) (by (with_reducible repeat (first | refine blk_drewN ?_ _ | refine blk_drew ?_ | refine blk_alloc ?_ _)); refine blk_put (cs := #[.int .i64 t229, .int .i64 0]) ?_ 1 _ rfl; (with_reducible repeat (first | refine blk_drewN ?_ _ | refine blk_drew ?_ | refine blk_alloc ?_ _)); refine blk_put (cs := #[.int .i64 0, .int .i64 0]) ?_ 0 _ rfl; (with_reducible repeat (first | refine blk_drewN ?_ _ | refine blk_drew ?_ | refine blk_alloc ?_ _)); exact BK232.out) k_ hk⟩)); (case aO => exact (by (with_reducible repeat (first | apply Kd.R_alloc | apply Kd.R_drewN | apply Kd.R_drew)); exact Kd.R_mono (Kd.R_far (p := ⟨gb232, 1, none⟩) (Kd.R_far (p := ⟨gb232, 0, none⟩) (Kd.R_mono HO_7.out (fun k_ hk => (⟨hk, hk.2⟩ : _ ∧ k_ ≠ gb232))) (fun _ hk => hk.2) (.int .i64 t229)) (fun _ hk => hk.2) (.int .i64 t230)) (fun _ hk => ⟨hk.1.1, hk.1.2⟩))); (case aS => exact (below_size bl)); (case aL => have := LMc14.out; omega); intro v234 w20 ho hb hg hat; rw [← Ny233.out] at ho; have HO235 := Aside0.mk (ho); replace BK224 := Aside0.mk (blk_grown (g := gb224) (o := .cells #[.int .i64 a1_0, .int .i64 a1_1] 28 (0, 0)) (by (with_reducible repeat (first | refine blk_drewN ?_ _ | refine blk_drew ?_ | refine blk_alloc ?_ _)); refine blk_far ?_ NB224_232.out _; (with_reducible repeat (first | refine blk_drewN ?_ _ | refine blk_drew ?_ | refine blk_alloc ?_ _)); refine blk_far ?_ NB224_232.out _; (with_reducible repeat (first | refine blk_drewN ?_ _ | refine blk_drew ?_ | refine blk_alloc ?_ _)); exact BK224.out) hg (Kd.R_away HO_7.out (fun _ hk => hk.1))); replace BK232 := Aside0.mk (blk_grown (g := gb232) (o := .cells #[.int .i64 t229, .int .i64 t230] 28 (0, 0)) (by (with_reducible repeat (first | refine blk_drewN ?_ _ | refine blk_drew ?_ | refine blk_alloc ?_ _)); refine blk_put (cs := #[.int .i64 t229, .int .i64 0]) ?_ 1 _ rfl; (with_reducible repeat (first | refine blk_drewN ?_ _ | refine blk_drew ?_ | refine blk_alloc ?_ _)); refine blk_put (cs := #[.int .i64 0, .int .i64 0]) ?_ 0 _ rfl; (with_reducible repeat (first | refine blk_drewN ?_ _ | refine blk_drew ?_ | refine blk_alloc ?_ _)); exact BK232.out) hg (Kd.R_away HO_7.out (fun _ hk => hk.2))); replace HB := Aside0.mk (hb); clear HO_7; clear ho hb hg hat))
        go_roundg k1
        case measure => have := HK1.out; omega
        case rel => exact ⟨(y233), H', ⟨by have := HK1.out; omega⟩, ⟨by (with_reducible repeat (first | apply Kd.R_alloc | apply Kd.R_drewN | apply Kd.R_drew)); exact Kd.R_mono HO235.out (fun _ hk => hk.1)⟩, ⟨by (with_reducible repeat (first | refine blk_drewN ?_ _ | refine blk_drew ?_ | refine blk_alloc ?_ _)); exact BK224.out⟩, ⟨bl⟩⟩
       ·rw [if_neg c14] at H
        exact absurd H (by simp)
      ·replace c13 := Bool.eq_false_iff.mpr c13
       subst c13
       have H1 : (some x7_1) = some r := by rw [if_neg (show ¬ (false = true) by decide)] at H; exact H
       clear H
       have H := H1
       clear H1
       obtain rfl := Option.some.inj H
       obtain ⟨Ao21, co21, eo21⟩ := Kd.R_slice HO_7.out
       subst eo21
       have p228 : 0 ≤ ((ji9) : Int) := da
       have q228 : (ji9) < (x7_1.length : Int) := da
       obtain ⟨ad228, e228, hx228_0, hx228_1⟩ := at_T28 (Kd.R_reads' HO_7.out).2.2 (ji9) p228 q228
       cases e228
       replace p228 := eq_true p228
       replace q228 := eq_true q228
       go_wp2_with (first | ((with_reducible refine gate_callee (f := 115) rfl ?_); refine goesL_ (some 24) rfl rfl Try.func115 (by kernel_rfl) rfl #[.slice A0 l0.length c0, .agg #[.int .i64 ((rd_T28 x7_1 (ji9)).f0), .int .i64 ((rd_T28 x7_1 (ji9)).f1)]] rfl (by (try simp only [List.map_toArray, List.map_cons, List.map_nil]); first | done | (simp only [hji9]; rfl) | rfl | (simp only [List.length_drop, List.length_take]; rfl)) ?_; (with_reducible refine (spec_imAt.calls k1 _ _ l0 ((rd_T28 x7_1 (ji9)).f0) ((rd_T28 x7_1 (ji9)).f1) t229 t230 false _ ?side1 ?side2 A12.out).mono ?_); (case side1 => repeat (first | exact (Kd.C_below HR0.out HB.out) | (with_reducible refine Kd.C_alloc ?_ _) | (with_reducible refine Kd.C_drewN ?_ _) | (with_reducible refine Kd.C_drew ?_))); (case side2 => exact HC0.out); rintro e w22 ⟨rfl, hb⟩; refine ⟨_, rfl, ?_⟩; replace HO_7 := Aside0.mk (Kd.R_below (by (with_reducible repeat (first | apply Kd.R_alloc | apply Kd.R_drewN | apply Kd.R_drew)); exact HO_7.out) hb); replace BK224 := kb BK224 hb; replace HB := kh hb; (try clear hb); (try clear hb2); (try clear hk); (try clear hi)) | ((with_reducible refine gate_dst (N := 8) rfl ?_); refine bx 8 #[.int .i64 0, .int .i64 0] 28 ?_; intro gb232 hg w23 hbox hb; have BK232 := Aside0.mk (hbox); have GW232 := Aside0.mk (bz hg); have GE232 := GW232; have NB224_232 := Aside0.mk (bn gb224 hg); have NB232_224 := sy NB224_232; replace HO_7 := Aside0.mk (Kd.R_below (Kd.R_elderB (by (with_reducible repeat (first | apply Kd.R_alloc | apply Kd.R_drewN | apply Kd.R_drew)); exact HO_7.out) gb232 (Nat.le_of_eq hg.symm)) hb); replace BK224 := kb BK224 hb; replace HB := kh hb; clear hb hbox hg; have hnb24 := NB232_224.out; have hnc24 := NB224_232.out; obtain ⟨hcz25_0, hcz25_1, hfz25_0, hfz25_1⟩ := b2 BK232))
       go_ret
       exact ⟨_, by first | rfl | (simp [errW_none, errW_some] <;> rfl) | (simp only [← hji9]; first | rfl | (simp [errW_none, errW_some] <;> rfl)) | (simp [*, errW_none, errW_some] <;> rfl), by (with_reducible repeat (first | apply Kd.R_alloc | apply Kd.R_drewN | apply Kd.R_drew)); exact Kd.R_mono (Kd.R_far (p := ⟨gb232, 1, none⟩) (Kd.R_far (p := ⟨gb232, 0, none⟩) (Kd.R_mono HO_7.out (fun k_ hk => (⟨hk, hk.2⟩ : _ ∧ k_ ≠ gb232))) (fun _ hk => hk.2) (.int .i64 t229)) (fun _ hk => hk.2) (.int .i64 t230)) (fun _ hk => trivial), bl⟩
     ·rw [if_neg c11] at H
      exact absurd H (by simp)
    ·rw [if_neg c10] at H
     exact absurd H (by simp)
   ·rw [if_neg c8] at H
    have c8b0 : decide ((x7_1.length : Int) ≤ a2) = false := decide_eq_false c8
    clear c8
    obtain rfl := Option.some.inj H
    obtain ⟨Ao26, co26, eo26⟩ := Kd.R_slice HO_7.out
    subst eo26
    go_wp2
    go_ret
    exact ⟨_, rt, by (with_reducible repeat (first | apply Kd.R_alloc | apply Kd.R_drewN | apply Kd.R_drew)); exact Kd.R_mono HO_7.out (fun _ hk => trivial), bl⟩

/-! ### spec_imCoord: function 82 -/
def spec_imCoord.f (k : Nat) (a0_0 : Int) (a0_1 : Int) : Option (Bool) := (spec_raUnit.f k a0_0 a0_1).bind fun t237 => (if t237 = true then (some (decide (a0_1 ≤ 100))) else (some false))
set_option maxHeartbeats 8000000 in
set_option maxRecDepth 100000 in
theorem spec_imCoord.calls (k : Nat) (a0_0 : Int) (a0_1 : Int) (r : Bool) (w : World) (h : spec_imCoord.f k a0_0 a0_1 = some r) :
  Calls Try.prog 82 #[.agg #[.int .i64 a0_0, .int .i64 a0_1]] w fun e w' => e = .returned (.bool r) ∧ Below w.heap.size w w' := by
 have hu28 := Try.underlying28
 have HB := Aside0.mk (Below.refl w.heap.size w)
 have H : ((spec_raUnit.f k a0_0 a0_1).bind fun t237 => (if t237 = true then (some (decide (a0_1 ≤ 100))) else (some false))) = some r := h
 clear h
 replace H := Option.bind_eq_some_iff.mp H
 obtain ⟨t237, A20, H⟩ := H
 replace H : (if t237 = true then (some (decide (a0_1 ≤ 100))) else (some false)) = some r := H
 have A2 := Aside0.mk A20
 clear A20
 by_cases c3 : t237 = true
 ·subst c3
  have H1 : (some (decide (a0_1 ≤ 100))) = some r := by rw [if_pos rfl] at H; exact H
  clear H
  have H := H1
  clear H1
  obtain rfl := Option.some.inj H
  go_enter Try.func82, Try.ntmps82
  go_wp2_with (first | ((with_reducible refine gate_dst (N := 1) rfl ?_); refine bx 1 #[.int .i64 a0_0, .int .i64 a0_1] 28 ?_; intro gb236 hg w4 hbox hb; have BK236 := Aside0.mk (hbox); have GW236 := Aside0.mk (bz hg); have GE236 := GW236; replace HB := kh hb; clear hb hbox hg; obtain ⟨hcz5_0, hcz5_1, hfz5_0, hfz5_1⟩ := b2 BK236) | ((with_reducible refine gate_callee (f := 67) rfl ?_); refine gl 4 Try.func67 #[.agg #[.int .i64 a0_0, .int .i64 a0_1]] ?_; (with_reducible refine (spec_raUnit.calls k a0_0 a0_1 true _ A2.out).mono ?_); rintro e w6 ⟨rfl, hb⟩; refine ⟨_, rfl, ?_⟩; replace BK236 := kb BK236 hb; replace HB := kh hb; (try clear hb); (try clear hb2); (try clear hk); (try clear hi); obtain ⟨hcz7_0, hcz7_1, hfz7_0, hfz7_1⟩ := b2 BK236))
  go_ret
  exact ⟨rt, bl⟩
 ·replace c3 := Bool.eq_false_iff.mpr c3
  subst c3
  have H1 : (some false) = some r := by rw [if_neg (show ¬ (false = true) by decide)] at H; exact H
  clear H
  have H := H1
  clear H1
  obtain rfl := Option.some.inj H
  go_enter Try.func82, Try.ntmps82
  go_wp2_with (first | ((with_reducible refine gate_dst (N := 1) rfl ?_); refine bx 1 #[.int .i64 a0_0, .int .i64 a0_1] 28 ?_; intro gb236 hg w8 hbox hb; have BK236 := Aside0.mk (hbox); have GW236 := Aside0.mk (bz hg); have GE236 := GW236; replace HB := kh hb; clear hb hbox hg; obtain ⟨hcz9_0, hcz9_1, hfz9_0, hfz9_1⟩ := b2 BK236) | ((with_reducible refine gate_callee (f := 67) rfl ?_); refine gl 4 Try.func67 #[.agg #[.int .i64 a0_0, .int .i64 a0_1]] ?_; (with_reducible refine (spec_raUnit.calls k a0_0 a0_1 false _ A2.out).mono ?_); rintro e w10 ⟨rfl, hb⟩; refine ⟨_, rfl, ?_⟩; replace BK236 := kb BK236 hb; replace HB := kh hb; (try clear hb); (try clear hb2); (try clear hk); (try clear hi)))
  go_ret
  exact ⟨rt, bl⟩

/-! ### spec_raInt: function 83 -/
def spec_raInt.f (a0 : Int) : Option (Int × Int) := some (a0, 1)
set_option maxHeartbeats 8000000 in
set_option maxRecDepth 100000 in
theorem spec_raInt.calls (a0 : Int) (r1 : Int) (r2 : Int) (w : World) (h : spec_raInt.f a0 = some (r1, r2)) :
  Calls Try.prog 83 #[.int .i64 a0] w fun e w' => e = .returned (.agg #[.int .i64 r1, .int .i64 r2]) ∧ Below w.heap.size w w' := by
 have hu28 := Try.underlying28
 have HB := Aside0.mk (Below.refl w.heap.size w)
 have H : (some (a0, 1)) = some (r1, r2) := h
 clear h
 simp only [Option.some.injEq, Prod.mk.injEq] at H
 obtain ⟨rfl, rfl⟩ := H
 go_enter Try.func83, Try.ntmps83
 go_wp2_with (first | ((with_reducible refine gate_dst (N := 2) rfl ?_); refine bx 2 #[.int .i64 0, .int .i64 0] 28 ?_; intro gb238 hg w2 hbox hb; have BK238 := Aside0.mk (hbox); have GW238 := Aside0.mk (bz hg); have GE238 := GW238; replace HB := kh hb; clear hb hbox hg; obtain ⟨hcz3_0, hcz3_1, hfz3_0, hfz3_1⟩ := b2 BK238))
 refine bodyPost_ret (results_cell_row rfl _ _ gb238 28 #[.int .i64 a0, .int .i64 1] (0, 0) _ rfl (by (with_reducible repeat (first | refine blk_drewN ?_ _ | refine blk_drew ?_ | refine blk_alloc ?_ _)); refine blk_put (cs := #[.int .i64 a0, .int .i64 0]) ?_ 1 _ rfl; (with_reducible repeat (first | refine blk_drewN ?_ _ | refine blk_drew ?_ | refine blk_alloc ?_ _)); refine blk_put (cs := #[.int .i64 0, .int .i64 0]) ?_ 0 _ rfl; (with_reducible repeat (first | refine blk_drewN ?_ _ | refine blk_drew ?_ | refine blk_alloc ?_ _)); exact BK238.out) Try.underlying28 rfl (by kernel_rfl)) rfl ?_
 exact ⟨rt, bl⟩

end Go.Proofs.Ytmecnnnagallnaa.PFnExactItineraryOf
