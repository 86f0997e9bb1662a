-- Written by this session's program wip/pp (the kit's print tool with additions) 35421559b90ae4d0a3588c463048766b98c2df88dd9212a6774a882060cdf62d
import Derived.Test.YtmecnnnagallnaaPFnExactPiecesOfx0
import Derived.Test.YtmecnnnagallnaaPFnExactPiecesOfx3
import Derived.Test.YtmecnnnagallnaaPFnExactPiecesOfx4
import Derived.Test.YtmecnnnagallnaaPFnExactPiecesOfx5
import Derived.Test.YtmecnnnagallnaaPFnExactPiecesOfx7
namespace Go.Proofs.Ytmecnnnagallnaa.PFnExactPiecesOf
open Go.RowKit Go.Proofs.YtmecnnnagallnaaW.PrintWords Go.Proofs.YtmecnnnagallnaaW.PrintLast Go.Proofs.YtmecnnnagallnaaW.PrintMore
attribute [local go_sem] max2_int min2_int max_two min_two max_three min_three max_four min_four   -- for this text's walks alone
set_option linter.unusedVariables false
set_option linter.unusedSimpArgs false

/-! ### spec_imAt: function 115 -/
def spec_imAt.f (k : Nat) (l0 : List (S68)) (a1_0 : Int) (a1_1 : Int) : Option (Int × Int × Bool) := (spec_imPiece.f k l0 a1_0 a1_1).bind fun t230 => (if 0 ≤ t230 then (if t230 < (l0.length : Int) then (if 0 ≤ (wrap64 (t230 + 1)) then (if (wrap64 (t230 + 1)) < (l0.length : Int) then ((spec_imOn.f k ((rd_T68 l0 t230).f0.f0) ((rd_T68 l0 t230).f0.f1) ((rd_T68 l0 t230).f1.f0) ((rd_T68 l0 t230).f1.f1) ((rd_T68 l0 (wrap64 (t230 + 1))).f0.f0) ((rd_T68 l0 (wrap64 (t230 + 1))).f0.f1) ((rd_T68 l0 (wrap64 (t230 + 1))).f1.f0) ((rd_T68 l0 (wrap64 (t230 + 1))).f1.f1) a1_0 a1_1).bind fun bt233 => (some (bt233.1, bt233.2.1, bt233.2.2))) else (none)) else (none)) else (none)) else (none))
def spec_imAt.T2 : Bool × List (List Nat × List Nat) := (true, [([], []), ([], []), ([0, 1], [0, 1]), ([2], [2]), ([], []), ([], []), ([5], [5]), ([4, 6], [4, 6]), ([7], [7]), ([], []), ([3, 8, 9], [3, 8, 9]), ([10], [10]), ([10], [10]), ([11, 10, 0, 1, 2, 3, 4, 5, 6, 7, 8, 9, 10, 11, 12], [11]), ([12, 13, 0, 1, 2, 3, 4, 5, 6, 7, 8, 9, 10, 11, 12, 13], [12])])
def spec_imAt.B2 : List Nat := [0, 0, 3, 7, 0, 0, 32, 112, 240, 0, 1023, 2047, 2047, 8191, 16383]
theorem spec_imAt.tab2 : rtab .any (opsOf Try.f115 2) = spec_imAt.T2 := by kernel_rfl
theorem spec_imAt.bits2 : waitsOk spec_imAt.T2.2 spec_imAt.B2 = true := by kernel_rfl
set_option maxHeartbeats 8000000 in
set_option maxRecDepth 100000 in
theorem spec_imAt.calls (k : Nat) (A0 : Option Addr) (c0 : Nat) (l0 : List (S68)) (a1_0 : Int) (a1_1 : Int) (r1 : Int) (r2 : Int) (r3 : Bool) (w : World) (hr0 : Kd.C k68 w A0 l0.length l0) (hc0 : l0.length ≤ c0) (h : spec_imAt.f k l0 a1_0 a1_1 = some (r1, r2, r3)) :
  Calls Try.prog 115 #[.slice A0 l0.length c0, .agg #[.int .i64 a1_0, .int .i64 a1_1]] w fun e w' => e = .returned (.tuple #[.agg #[.int .i64 r1, .int .i64 r2], .bool r3]) ∧ Below w.heap.size w w' := by
 have hu28 := Try.underlying28
 have hu68 := Try.underlying68
 have HR0 := Aside0.mk hr0
 have HC0 := Aside0.mk hc0
 clear hr0 hc0
 have HB := Aside0.mk (Below.refl w.heap.size w)
 have H : ((spec_imPiece.f k l0 a1_0 a1_1).bind fun t230 => (if 0 ≤ t230 then (if t230 < (l0.length : Int) then (if 0 ≤ (wrap64 (t230 + 1)) then (if (wrap64 (t230 + 1)) < (l0.length : Int) then ((spec_imOn.f k ((rd_T68 l0 t230).f0.f0) ((rd_T68 l0 t230).f0.f1) ((rd_T68 l0 t230).f1.f0) ((rd_T68 l0 t230).f1.f1) ((rd_T68 l0 (wrap64 (t230 + 1))).f0.f0) ((rd_T68 l0 (wrap64 (t230 + 1))).f0.f1) ((rd_T68 l0 (wrap64 (t230 + 1))).f1.f0) ((rd_T68 l0 (wrap64 (t230 + 1))).f1.f1) a1_0 a1_1).bind fun bt233 => (some (bt233.1, bt233.2.1, bt233.2.2))) else (none)) else (none)) else (none)) else (none))) = some (r1, r2, r3) := h
 clear h
 replace H := Option.bind_eq_some_iff.mp H
 obtain ⟨t230, A30, H⟩ := H
 replace H : (if 0 ≤ t230 then (if t230 < (l0.length : Int) then (if 0 ≤ (wrap64 (t230 + 1)) then (if (wrap64 (t230 + 1)) < (l0.length : Int) then ((spec_imOn.f k ((rd_T68 l0 t230).f0.f0) ((rd_T68 l0 t230).f0.f1) ((rd_T68 l0 t230).f1.f0) ((rd_T68 l0 t230).f1.f1) ((rd_T68 l0 (wrap64 (t230 + 1))).f0.f0) ((rd_T68 l0 (wrap64 (t230 + 1))).f0.f1) ((rd_T68 l0 (wrap64 (t230 + 1))).f1.f0) ((rd_T68 l0 (wrap64 (t230 + 1))).f1.f1) a1_0 a1_1).bind fun bt233 => (some (bt233.1, bt233.2.1, bt233.2.2))) else (none)) else (none)) else (none)) else (none)) = some (r1, r2, r3) := H
 have A3 := Aside0.mk A30
 clear A30
 by_cases c4 : 0 ≤ t230
 ·rw [if_pos c4] at H
  have c4b0 : decide (0 ≤ t230) = true := decide_eq_true c4
  clear c4
  by_cases c5 : t230 < (l0.length : Int)
  ·rw [if_pos c5] at H
   have c5b0 : decide (t230 < (l0.length : Int)) = true := decide_eq_true c5
   clear c5
   obtain ⟨ji6, hji6⟩ : ∃ j_ : Int, (wrap64 (t230 + 1)) = j_ := ⟨_, rfl⟩
   replace H : (if 0 ≤ (ji6) then (if (ji6) < (l0.length : Int) then ((spec_imOn.f k ((rd_T68 l0 t230).f0.f0) ((rd_T68 l0 t230).f0.f1) ((rd_T68 l0 t230).f1.f0) ((rd_T68 l0 t230).f1.f1) ((rd_T68 l0 (ji6)).f0.f0) ((rd_T68 l0 (ji6)).f0.f1) ((rd_T68 l0 (ji6)).f1.f0) ((rd_T68 l0 (ji6)).f1.f1) a1_0 a1_1).bind fun bt233 => (some (bt233.1, bt233.2.1, bt233.2.2))) else (none)) else (none)) = some (r1, r2, r3) := by first | (rw [hji6] at H; exact H) | (simp only [hji6] at H ⊢; exact H)
   (try rw [hji6] at A3)
   have hji6w : (IntKind.i64.wrap (t230 + 1)) = ji6 := (i64_w _).trans hji6
   by_cases c7 : 0 ≤ (ji6)
   ·rw [if_pos c7] at H
    have c7b0 : decide (0 ≤ (ji6)) = true := decide_eq_true c7
    clear c7
    by_cases c8 : (ji6) < (l0.length : Int)
    ·rw [if_pos c8] at H
     have c8b0 : decide ((ji6) < (l0.length : Int)) = true := decide_eq_true c8
     clear c8
     replace H := Option.bind_eq_some_iff.mp H
     obtain ⟨⟨t233, t234, t235⟩, A90, H⟩ := H
     replace H : (some (t233, t234, t235)) = some (r1, r2, r3) := H
     have A9 := Aside0.mk A90
     clear A90
     simp only [Option.some.injEq, Prod.mk.injEq] at H
     obtain ⟨rfl, rfl, rfl⟩ := H
     go_enter Try.func115, Try.ntmps115
     try go_wp2_with (first | ((with_reducible refine gate_dst (N := 3) rfl ?_); refine bx 3 #[.int .i64 a1_0, .int .i64 a1_1] 28 ?_; intro gb228 hg w10 hbox hb; have BK228 := Aside0.mk (hbox); have GW228 := Aside0.mk (bz hg); have GE228 := GW228; replace HB := Aside0.mk (bs hb); clear hb hbox hg) | ((with_reducible refine gate_dst (N := 4) rfl ?_); refine bx 4 #[.int .i64 0, .int .i64 0] 28 ?_; intro gb229 hg w11 hbox hb; have BK229 := Aside0.mk (hbox); have GW229 := Aside0.mk (bz hg); have GE229 := GW229; have NB228_229 := Aside0.mk (bn gb228 hg); have NB229_228 := Aside0.mk NB228_229.out.symm; replace BK228 := Aside0.mk (bb gb228 hb); replace HB := Aside0.mk (bs hb); clear hb hbox hg; have hnb12 := NB228_229.out; have hnc12 := NB229_228.out; have hcz13_0 : w11.cell? ⟨gb228, 0, none⟩ = some (.int .i64 a1_0) := (blk_cell BK228.out 0).trans rfl; have hcz13_1 : w11.cell? ⟨gb228, 1, none⟩ = some (.int .i64 a1_1) := (blk_cell BK228.out 1).trans rfl; have hfz13_0 := blk_frozen BK228.out 0; have hfz13_1 := blk_frozen BK228.out 1) | ((with_reducible refine gate_callee (f := 70) rfl ?_); refine gl 9 Try.func70 #[.slice A0 l0.length c0, .agg #[.int .i64 a1_0, .int .i64 a1_1]] ?_; (with_reducible refine (spec_imPiece.calls k _ _ l0 a1_0 a1_1 t230 _ ?side1 ?side2 A3.out).mono ?_); (case side1 => repeat (first | exact (Kd.C_below HR0.out HB.out) | (with_reducible refine Kd.C_alloc ?_ _) | (with_reducible refine Kd.C_drewN ?_ _) | (with_reducible refine Kd.C_drew ?_))); (case side2 => exact HC0.out); rintro e w14 ⟨rfl, hb⟩; refine ⟨_, rfl, ?_⟩; replace BK228 := Aside0.mk (bb gb228 hb); replace BK229 := Aside0.mk (bb gb229 hb); replace HB := Aside0.mk (bs hb); (try clear hb); (try clear hb2); (try clear hk); (try clear hi)))
     replace BK228 := Aside0.mk (blk_drew BK228.out)
     replace BK229 := Aside0.mk (blk_drew BK229.out)
     replace HB := Aside0.mk (below_drew1 HB.out)
     have p231 : 0 ≤ (t230 : Int) := da
     have q231 : t230 < (l0.length : Int) := da
     obtain ⟨ad231, e231, hx231_0, hx231_1, hx231_2, hx231_3⟩ := at_T68 HR0.out t230 p231 q231
     have hw231_3 := hx231_3
     have hw231_2 := hx231_2
     have hw231_1 := hx231_1
     have hw231_0 := hx231_0
     cases e231
     replace hx231_0 := hc HB hx231_0
     replace hx231_1 := hc HB hx231_1
     replace hx231_2 := hc HB hx231_2
     replace hx231_3 := hc HB hx231_3
     replace p231 := eq_true p231
     replace q231 := eq_true q231
     have p232 : 0 ≤ ((ji6) : Int) := da
     have q232 : (ji6) < (l0.length : Int) := da
     obtain ⟨ad232, e232, hx232_0, hx232_1, hx232_2, hx232_3⟩ := at_T68 HR0.out (ji6) p232 q232
     have hw232_3 := hx232_3
     have hw232_2 := hx232_2
     have hw232_1 := hx232_1
     have hw232_0 := hx232_0
     obtain rfl : ad231 = ad232 := (by injection e232)
     replace hx232_0 := hc HB hx232_0
     replace hx232_1 := hc HB hx232_1
     replace hx232_2 := hc HB hx232_2
     replace hx232_3 := hc HB hx232_3
     replace p232 := eq_true p232
     replace q232 := eq_true q232
     refine start_ (n := 15) (S := fun w' => w'.cell? ⟨gb228, 0, none⟩ = some (.int .i64 a1_0) ∧ w'.cell? ⟨gb228, 1, none⟩ = some (.int .i64 a1_1) ∧ w'.cell? (ad231.add ((t230).toNat * 4)) = some (.int .i64 ((rd_T68 l0 t230).f0.f0)) ∧ w'.cell? ⟨(ad231.add ((t230).toNat * 4)).block, (ad231.add ((t230).toNat * 4)).off + 1, none⟩ = some (.int .i64 ((rd_T68 l0 t230).f0.f1)) ∧ w'.cell? ⟨(ad231.add ((t230).toNat * 4)).block, (ad231.add ((t230).toNat * 4)).off + 2, none⟩ = some (.int .i64 ((rd_T68 l0 t230).f1.f0)) ∧ w'.cell? ⟨(ad231.add ((t230).toNat * 4)).block, (ad231.add ((t230).toNat * 4)).off + 3, none⟩ = some (.int .i64 ((rd_T68 l0 t230).f1.f1)) ∧ w'.cell? (ad231.add (((ji6)).toNat * 4)) = some (.int .i64 ((rd_T68 l0 (ji6)).f0.f0)) ∧ w'.cell? ⟨(ad231.add (((ji6)).toNat * 4)).block, (ad231.add (((ji6)).toNat * 4)).off + 1, none⟩ = some (.int .i64 ((rd_T68 l0 (ji6)).f0.f1)) ∧ w'.cell? ⟨(ad231.add (((ji6)).toNat * 4)).block, (ad231.add (((ji6)).toNat * 4)).off + 2, none⟩ = some (.int .i64 ((rd_T68 l0 (ji6)).f1.f0)) ∧ w'.cell? ⟨(ad231.add (((ji6)).toNat * 4)).block, (ad231.add (((ji6)).toNat * 4)).off + 3, none⟩ = some (.int .i64 ((rd_T68 l0 (ji6)).f1.f1))) (ds := []) (tb 0 15) (by kernel_rfl) rfl rfl ⟨(blk_cell BK228.out 0).trans rfl, (blk_cell BK228.out 1).trans rfl, (hc HB hw231_0), (hc HB hw231_1), (hc HB hw231_2), (hc HB hw231_3), (hc HB hw232_0), (hc HB hw232_1), (hc HB hw232_2), (hc HB hw232_3)⟩ (fun hHeld => ?_); refine with_tabW spec_imAt.tab2 spec_imAt.bits2 (fun HT_ HW_ => ?_)
     generalize w14.drew = w15 at BK228 BK229 HB hx231_0 hx231_1 hx231_2 hx231_3 hx232_0 hx232_1 hx232_2 hx232_3 hHeld ⊢
     refine pu 0 10 (tb 1 14) ?_
     refine pu 1 11 (tb 2 13) ?_
     refine pu 2 12 (tb 3 12) ?_
     refine pu 4 14 #[true, true, true, false, true, false, false, false, false, false, false, false, false, false, false] ?_
     refine pu 5 15 #[true, true, true, false, true, true, false, false, false, false, false, false, false, false, false] ?_
     refine pu 6 16 #[true, true, true, false, true, true, true, false, false, false, false, false, false, false, false] ?_
     refine pu 7 17 #[true, true, true, false, true, true, true, true, false, false, false, false, false, false, false] ?_
     refine tk 3 13 (tb 8 7) (hy := by rintro w' ⟨s0, s1, s2, s3, s4, s5, s6, s7, s8, s9⟩; go_simp; with_reducible rfl) (h := ?_)
     refine tk 8 18 (tb 9 6) (hy := by rintro w' ⟨s0, s1, s2, s3, s4, s5, s6, s7, s8, s9⟩; go_simp; with_reducible rfl) (h := ?_)
     refine tk 9 19 (tb 10 5) (hy := by rintro w' ⟨s0, s1, s2, s3, s4, s5, s6, s7, s8, s9⟩; go_simp; with_reducible rfl) (h := ?_)
     refine on 10 20 (tb 11 4) (fun K hK => ?_)
     refine goes_ Try.func135 (by kernel_rfl) rfl #[.agg #[.int .i64 ((rd_T68 l0 t230).f0.f0), .int .i64 ((rd_T68 l0 t230).f0.f1), .int .i64 ((rd_T68 l0 t230).f1.f0), .int .i64 ((rd_T68 l0 t230).f1.f1)], .agg #[.int .i64 ((rd_T68 l0 (ji6)).f0.f0), .int .i64 ((rd_T68 l0 (ji6)).f0.f1), .int .i64 ((rd_T68 l0 (ji6)).f1.f0), .int .i64 ((rd_T68 l0 (ji6)).f1.f1)], .agg #[.int .i64 a1_0, .int .i64 a1_1]] (by rfl) rfl rfl (by (try simp only [List.map_toArray, List.map_cons, List.map_nil]); first | done | (simp only [hji6]; rfl) | rfl | (simp only [List.length_drop, List.length_take]; rfl)) ?_
     with_reducible refine (spec_imOn.calls k ((rd_T68 l0 t230).f0.f0) ((rd_T68 l0 t230).f0.f1) ((rd_T68 l0 t230).f1.f0) ((rd_T68 l0 t230).f1.f1) ((rd_T68 l0 (ji6)).f0.f0) ((rd_T68 l0 (ji6)).f0.f1) ((rd_T68 l0 (ji6)).f1.f0) ((rd_T68 l0 (ji6)).f1.f1) a1_0 a1_1 t233 t234 t235 _ A9.out).mono ?_
     rintro e w16 ⟨rfl, hb⟩
     refine ⟨_, rfl, ?_⟩
     replace BK228 := Aside0.mk (bb gb228 hb)
     replace BK229 := Aside0.mk (bb gb229 hb)
     replace HB := Aside0.mk (bs hb)
     (try clear hb)
     (try clear hb2)
     (try clear hk)
     (try clear hi)
     refine hK.out _ _ ⟨(blk_cell BK228.out 0).trans rfl, (blk_cell BK228.out 1).trans rfl, (hc HB hw231_0), (hc HB hw231_1), (hc HB hw231_2), (hc HB hw231_3), (hc HB hw232_0), (hc HB hw232_1), (hc HB hw232_2), (hc HB hw232_3)⟩ (fun hHeld => ?_)
     clear hK K
     refine nm 20 ?_
     refine pu 11 21 (tb 12 3) ?_
     refine pu 12 22 (tb 13 2) ?_
     refine one_ (i := 13) (N := none) (tb 14 1) rfl rfl (one_of HT_.out (by kernel_rfl)) (by decide) (fun K hK => ?_)
     have hs17 : w16.cell? ⟨gb229, 0, none⟩ = some (.int .i64 0) := (blk_cell BK229.out 0).trans rfl
     have hfs17 := blk_frozen BK229.out 0
     have hns17_0 := NB228_229.out
     have hms17_0 := NB229_228.out
     have hs18 : w16.cell? ⟨gb229, 1, none⟩ = some (.int .i64 0) := (blk_cell BK229.out 1).trans rfl
     have hfs18 := blk_frozen BK229.out 1
     have hns18_0 := NB228_229.out
     have hms18_0 := NB229_228.out
     refine skip_ (w1 := ?_) (by rfl) rfl ?_ ?_
     rotate_left
     ·go_simp
      rfl
     refine hK.out _ _ ⟨(by (iterate 2 refine (cell_far (p := ⟨gb229, _, none⟩) NB228_229.out _).trans ?_); exact hHeld.1), (by (iterate 2 refine (cell_far (p := ⟨gb229, _, none⟩) NB228_229.out _).trans ?_); exact hHeld.2.1), (by (iterate 2 refine (cell_far (p := ⟨gb229, _, none⟩) (by first | exact Nat.ne_of_lt (Nat.lt_of_lt_of_le (by have := World.block_lt_of_cell? _ _ hw231_0; first | rwa [add_block] at this | exact this) GW229.out) | (rw [add_block]; exact Nat.ne_of_lt (Nat.lt_of_lt_of_le (by have := World.block_lt_of_cell? _ _ hw231_0; first | rwa [add_block] at this | exact this) GW229.out)) | (show (Addr.add _ _).block ≠ _; rw [add_block]; exact Nat.ne_of_lt (Nat.lt_of_lt_of_le (by have := World.block_lt_of_cell? _ _ hw231_0; first | rwa [add_block] at this | exact this) GW229.out)) | (dsimp only; exact Nat.ne_of_lt (Nat.lt_of_lt_of_le (by have := World.block_lt_of_cell? _ _ hw231_0; first | rwa [add_block] at this | exact this) GW229.out))) _).trans ?_); exact hHeld.2.2.1), (by (iterate 2 refine (cell_far (p := ⟨gb229, _, none⟩) (by first | exact Nat.ne_of_lt (Nat.lt_of_lt_of_le (by have := World.block_lt_of_cell? _ _ hw231_1; first | rwa [add_block] at this | exact this) GW229.out) | (rw [add_block]; exact Nat.ne_of_lt (Nat.lt_of_lt_of_le (by have := World.block_lt_of_cell? _ _ hw231_1; first | rwa [add_block] at this | exact this) GW229.out)) | (show (Addr.add _ _).block ≠ _; rw [add_block]; exact Nat.ne_of_lt (Nat.lt_of_lt_of_le (by have := World.block_lt_of_cell? _ _ hw231_1; first | rwa [add_block] at this | exact this) GW229.out)) | (dsimp only; exact Nat.ne_of_lt (Nat.lt_of_lt_of_le (by have := World.block_lt_of_cell? _ _ hw231_1; first | rwa [add_block] at this | exact this) GW229.out))) _).trans ?_); exact hHeld.2.2.2.1), (by (iterate 2 refine (cell_far (p := ⟨gb229, _, none⟩) (by first | exact Nat.ne_of_lt (Nat.lt_of_lt_of_le (by have := World.block_lt_of_cell? _ _ hw231_2; first | rwa [add_block] at this | exact this) GW229.out) | (rw [add_block]; exact Nat.ne_of_lt (Nat.lt_of_lt_of_le (by have := World.block_lt_of_cell? _ _ hw231_2; first | rwa [add_block] at this | exact this) GW229.out)) | (show (Addr.add _ _).block ≠ _; rw [add_block]; exact Nat.ne_of_lt (Nat.lt_of_lt_of_le (by have := World.block_lt_of_cell? _ _ hw231_2; first | rwa [add_block] at this | exact this) GW229.out)) | (dsimp only; exact Nat.ne_of_lt (Nat.lt_of_lt_of_le (by have := World.block_lt_of_cell? _ _ hw231_2; first | rwa [add_block] at this | exact this) GW229.out))) _).trans ?_); exact hHeld.2.2.2.2.1), (by (iterate 2 refine (cell_far (p := ⟨gb229, _, none⟩) (by first | exact Nat.ne_of_lt (Nat.lt_of_lt_of_le (by have := World.block_lt_of_cell? _ _ hw231_3; first | rwa [add_block] at this | exact this) GW229.out) | (rw [add_block]; exact Nat.ne_of_lt (Nat.lt_of_lt_of_le (by have := World.block_lt_of_cell? _ _ hw231_3; first | rwa [add_block] at this | exact this) GW229.out)) | (show (Addr.add _ _).block ≠ _; rw [add_block]; exact Nat.ne_of_lt (Nat.lt_of_lt_of_le (by have := World.block_lt_of_cell? _ _ hw231_3; first | rwa [add_block] at this | exact this) GW229.out)) | (dsimp only; exact Nat.ne_of_lt (Nat.lt_of_lt_of_le (by have := World.block_lt_of_cell? _ _ hw231_3; first | rwa [add_block] at this | exact this) GW229.out))) _).trans ?_); exact hHeld.2.2.2.2.2.1), (by (iterate 2 refine (cell_far (p := ⟨gb229, _, none⟩) (by first | exact Nat.ne_of_lt (Nat.lt_of_lt_of_le (by have := World.block_lt_of_cell? _ _ hw232_0; first | rwa [add_block] at this | exact this) GW229.out) | (rw [add_block]; exact Nat.ne_of_lt (Nat.lt_of_lt_of_le (by have := World.block_lt_of_cell? _ _ hw232_0; first | rwa [add_block] at this | exact this) GW229.out)) | (show (Addr.add _ _).block ≠ _; rw [add_block]; exact Nat.ne_of_lt (Nat.lt_of_lt_of_le (by have := World.block_lt_of_cell? _ _ hw232_0; first | rwa [add_block] at this | exact this) GW229.out)) | (dsimp only; exact Nat.ne_of_lt (Nat.lt_of_lt_of_le (by have := World.block_lt_of_cell? _ _ hw232_0; first | rwa [add_block] at this | exact this) GW229.out))) _).trans ?_); exact hHeld.2.2.2.2.2.2.1), (by (iterate 2 refine (cell_far (p := ⟨gb229, _, none⟩) (by first | exact Nat.ne_of_lt (Nat.lt_of_lt_of_le (by have := World.block_lt_of_cell? _ _ hw232_1; first | rwa [add_block] at this | exact this) GW229.out) | (rw [add_block]; exact Nat.ne_of_lt (Nat.lt_of_lt_of_le (by have := World.block_lt_of_cell? _ _ hw232_1; first | rwa [add_block] at this | exact this) GW229.out)) | (show (Addr.add _ _).block ≠ _; rw [add_block]; exact Nat.ne_of_lt (Nat.lt_of_lt_of_le (by have := World.block_lt_of_cell? _ _ hw232_1; first | rwa [add_block] at this | exact this) GW229.out)) | (dsimp only; exact Nat.ne_of_lt (Nat.lt_of_lt_of_le (by have := World.block_lt_of_cell? _ _ hw232_1; first | rwa [add_block] at this | exact this) GW229.out))) _).trans ?_); exact hHeld.2.2.2.2.2.2.2.1), (by (iterate 2 refine (cell_far (p := ⟨gb229, _, none⟩) (by first | exact Nat.ne_of_lt (Nat.lt_of_lt_of_le (by have := World.block_lt_of_cell? _ _ hw232_2; first | rwa [add_block] at this | exact this) GW229.out) | (rw [add_block]; exact Nat.ne_of_lt (Nat.lt_of_lt_of_le (by have := World.block_lt_of_cell? _ _ hw232_2; first | rwa [add_block] at this | exact this) GW229.out)) | (show (Addr.add _ _).block ≠ _; rw [add_block]; exact Nat.ne_of_lt (Nat.lt_of_lt_of_le (by have := World.block_lt_of_cell? _ _ hw232_2; first | rwa [add_block] at this | exact this) GW229.out)) | (dsimp only; exact Nat.ne_of_lt (Nat.lt_of_lt_of_le (by have := World.block_lt_of_cell? _ _ hw232_2; first | rwa [add_block] at this | exact this) GW229.out))) _).trans ?_); exact hHeld.2.2.2.2.2.2.2.2.1), (by (iterate 2 refine (cell_far (p := ⟨gb229, _, none⟩) (by first | exact Nat.ne_of_lt (Nat.lt_of_lt_of_le (by have := World.block_lt_of_cell? _ _ hw232_3; first | rwa [add_block] at this | exact this) GW229.out) | (rw [add_block]; exact Nat.ne_of_lt (Nat.lt_of_lt_of_le (by have := World.block_lt_of_cell? _ _ hw232_3; first | rwa [add_block] at this | exact this) GW229.out)) | (show (Addr.add _ _).block ≠ _; rw [add_block]; exact Nat.ne_of_lt (Nat.lt_of_lt_of_le (by have := World.block_lt_of_cell? _ _ hw232_3; first | rwa [add_block] at this | exact this) GW229.out)) | (dsimp only; exact Nat.ne_of_lt (Nat.lt_of_lt_of_le (by have := World.block_lt_of_cell? _ _ hw232_3; first | rwa [add_block] at this | exact this) GW229.out))) _).trans ?_); exact hHeld.2.2.2.2.2.2.2.2.2)⟩ (fun hHeld => ?_)
     clear hK K
     refine pu 14 5 (tb 15 0) ?_
     refine done_ (done_of HT_.out (by kernel_rfl)) ?_
     try go_wp2
     refine bodyPost_ret (results_ct rfl _ _ gb229 28 #[.int .i64 t233, .int .i64 t234] (0, 0) _ rfl (by (with_reducible repeat (first | refine blk_drewN ?_ _ | refine blk_drew ?_ | refine blk_alloc ?_ _)); refine blk_put (cs := #[.int .i64 t233, .int .i64 0]) ?_ 1 _ rfl; (with_reducible repeat (first | refine blk_drewN ?_ _ | refine blk_drew ?_ | refine blk_alloc ?_ _)); refine blk_put (cs := #[.int .i64 0, .int .i64 0]) ?_ 0 _ rfl; (with_reducible repeat (first | refine blk_drewN ?_ _ | refine blk_drew ?_ | refine blk_alloc ?_ _)); exact BK229.out) Try.underlying28 rfl (by kernel_rfl)) rfl ?_
     exact ⟨by first | rfl | (simp [errW_none, errW_some] <;> rfl) | (simp only [← hji6]; first | rfl | (simp [errW_none, errW_some] <;> rfl)) | (simp [*, errW_none, errW_some] <;> rfl), bl⟩
    ·rw [if_neg c8] at H
     exact absurd H (by simp)
   ·rw [if_neg c7] at H
    exact absurd H (by simp)
  ·rw [if_neg c5] at H
   exact absurd H (by simp)
 ·rw [if_neg c4] at H
  exact absurd H (by simp)

/-! ### spec_orRun: function 69 -/
def spec_orRun.l0 : Nat → List (S68) → Int → List (S28) → Option ((List (S28)))
 | 0, _, _, _ => none
 | k + 1, x0, x2, x7 => if (x7.length : Int) ≤ x2 then (if 0 ≤ (wrap64 ((x7.length : Int) - 1)) then (if (wrap64 ((x7.length : Int) - 1)) < (x7.length : Int) then ((spec_imAt.f k x0 ((rd_T28 x7 (wrap64 ((x7.length : Int) - 1))).f0) ((rd_T28 x7 (wrap64 ((x7.length : Int) - 1))).f1)).bind fun bt241 => (if bt241.2.2 = true then (if x7.length < 8796093022208 then (spec_orRun.l0 k x0 x2 (x7 ++ [(⟨bt241.1, bt241.2.1⟩ : S28)])) else (none)) else (some x7))) else (none)) else (none)) else (some x7)
def spec_orRun.f (k : Nat) (l0 : List (S68)) (a1_0 : Int) (a1_1 : Int) (a2 : Int) : Option ((List (S28))) := spec_orRun.l0 k l0 a2 (([(⟨a1_0, a1_1⟩ : S28)] : List (S28)))
set_option maxHeartbeats 8000000 in
set_option maxRecDepth 100000 in
theorem spec_orRun.calls (k : Nat) (A0 : Option Addr) (c0 : Nat) (l0 : List (S68)) (a1_0 : Int) (a1_1 : Int) (a2 : Int) (r : List (S28)) (w : World) (hr0 : Kd.C k68 w A0 l0.length l0) (hc0 : l0.length ≤ c0) (h : spec_orRun.f k l0 a1_0 a1_1 a2 = some r) :
  Calls Try.prog 69 #[.slice A0 l0.length c0, .agg #[.int .i64 a1_0, .int .i64 a1_1], .int .i64 a2] w fun e w' => ∃ v0_ : Value, e = .returned (v0_) ∧ Kd.R k28 28 w' w.heap.size (fun _ => True) v0_ r ∧ Below w.heap.size w w' := by
 have hu28 := Try.underlying28
 have HR0 := Aside0.mk hr0
 have HC0 := Aside0.mk hc0
 clear hr0 hc0
 have HB := Aside0.mk (Below.refl w.heap.size w)
 have H : (spec_orRun.l0 k l0 a2 (([(⟨a1_0, a1_1⟩ : S28)] : List (S28)))) = some r := h
 clear h
 obtain ⟨y237, hy237⟩ : ∃ y_ : List (S28), y_ = (([(⟨a1_0, a1_1⟩ : S28)] : List (S28))) := ⟨_, rfl⟩
 replace H : (spec_orRun.l0 k l0 a2 y237) = some r := by first | (rw [hy237]; with_reducible exact H) | (have H2_ := (Option.bind_some _ _).symm.trans H; rw [hy237]; with_reducible exact H2_) | (have H2_ := (Option.bind_some _ _).symm.trans H; with_reducible exact H2_) | with_reducible exact H | (rw [hy237]; exact H) | exact H
 have Ny237 := Aside0.mk hy237
 clear hy237
 have H' := Aside0.mk H
 clear H
 go_enter Try.func69, Try.ntmps69
 go_wp2_with (first | ((with_reducible refine gate_dst (N := 4) rfl ?_); refine bx 4 #[.int .i64 a1_0, .int .i64 a1_1] 28 ?_; intro gb236 hg w4 hbox hb; have BK236 := Aside0.mk (hbox); have GW236 := Aside0.mk (bz hg); have GE236 := GW236; replace HB := Aside0.mk (bs hb); clear hb hbox hg; have hcz5_0 : w4.cell? ⟨gb236, 0, none⟩ = some (.int .i64 a1_0) := (blk_cell BK236.out 0).trans rfl; have hcz5_1 : w4.cell? ⟨gb236, 1, none⟩ = some (.int .i64 a1_1) := (blk_cell BK236.out 1).trans rfl; have hfz5_0 := blk_frozen BK236.out 0; have hfz5_1 := blk_frozen BK236.out 1) | ((with_reducible refine gate_dst (N := 11) rfl ?_); refine Kd.R_lit k28 _ 28 ?hg (N := 11) ?hd (xs := ([(⟨a1_0, a1_1⟩ : S28)] : List (S28))) (inner := [.int .i64 a1_0, .int .i64 a1_1]) (ok := fun _ => True) (okp := fun _ => True) ?hr ?hp (fun _ hk => hk) trivial (Below.refl _ _) (Nat.le_refl _) (by simp) ?_; (case hd => rfl); (case hg => rfl); (case hr => first | (go_simp; done) | (go_simp; rfl)); (case hp => exact (Reps.c2 (show Kd.M k28 _ _ _ (⟨a1_0, a1_1⟩ : S28) [.int .i64 a1_0, .int .i64 a1_1] from (k28_mkM _ _ _ (⟨a1_0, a1_1⟩ : S28) )) (Reps.none _ _))); intro v238 w6 ho7 hb hg_ hnew_; clear hg_ hnew_; (first | rw [← Ny237.out] at ho7 | (simp only [Int.reduceToNat] at ho7; rw [← Ny237.out] at ho7)); have HO239 := Aside0.mk (Kd.R_lower (Kd.R_newB ho7 (g := gb236) (o := .cells #[.int .i64 a1_0, .int .i64 a1_1] 28 (0, 0)) (bo gb236)) (below_size bl)); replace BK236 := Aside0.mk (bb gb236 hb); replace HB := Aside0.mk (bs hb); clear hb ho7))
 go_loopg [7] k (fun kq v7 w' => ∃ (x7_1 : List (S28)), Aside0 (spec_orRun.l0 kq l0 a2 x7_1 = some r) ∧ Aside0 (kq ≤ k) ∧ Aside0 (Kd.R k28 28 w' w.heap.size (fun k_ => k_ ≠ gb236) v7 x7_1) ∧ Aside0 (w'.heap[gb236]? = some (.cells #[.int .i64 a1_0, .int .i64 a1_1] 28 (0, 0))) ∧ Aside0 (Below w.heap.size w w'))
 case atStart => exact ⟨(y237), H', ⟨Nat.le_refl _⟩, ⟨by (with_reducible repeat (first | apply Kd.R_alloc | apply Kd.R_drewN | apply Kd.R_drew)); exact Kd.R_mono HO239.out (fun _ hk => hk.2)⟩, ⟨by (with_reducible repeat (first | refine blk_drewN ?_ _ | refine blk_drew ?_ | refine blk_alloc ?_ _)); exact BK236.out⟩, ⟨bl⟩⟩
 case round =>
  clear H'
  try clear c2
  try clear p2
  try clear c6
  try clear hcz5_0
  try clear hcz5_1
  try clear hfz5_0
  try clear hfz5_1
  obtain ⟨x7_1, HA, HK1, HO_7, BK236, HB⟩ := hrel
  cases gk with
  | zero => exact absurd HA.out (by simp [spec_orRun.l0])
  | succ k1 =>
   have H := HA.out
   clear HA
   simp only [spec_orRun.l0] at H
   by_cases c8 : (x7_1.length : Int) ≤ a2
   ·rw [if_pos c8] at H
    have c8b0 : decide ((x7_1.length : Int) ≤ a2) = true := decide_eq_true c8
    clear c8
    obtain ⟨ji9, hji9⟩ : ∃ j_ : Int, (wrap64 ((x7_1.length : Int) - 1)) = j_ := ⟨_, rfl⟩
    replace H : (if 0 ≤ (ji9) then (if (ji9) < (x7_1.length : Int) then ((spec_imAt.f k1 l0 ((rd_T28 x7_1 (ji9)).f0) ((rd_T28 x7_1 (ji9)).f1)).bind fun bt241 => (if bt241.2.2 = true then (if x7_1.length < 8796093022208 then (spec_orRun.l0 k1 l0 a2 (x7_1 ++ [(⟨bt241.1, bt241.2.1⟩ : S28)])) else (none)) else (some x7_1))) else (none)) else (none)) = some r := by first | (rw [hji9] at H; exact H) | (simp only [hji9] at H ⊢; exact H)
    have hji9w : (IntKind.i64.wrap ((x7_1.length : Int) - 1)) = ji9 := (i64_w _).trans hji9
    by_cases c10 : 0 ≤ (ji9)
    ·rw [if_pos c10] at H
     have c10b0 : decide (0 ≤ (ji9)) = true := decide_eq_true c10
     clear c10
     by_cases c11 : (ji9) < (x7_1.length : Int)
     ·rw [if_pos c11] at H
      have c11b0 : decide ((ji9) < (x7_1.length : Int)) = true := decide_eq_true c11
      clear c11
      replace H := Option.bind_eq_some_iff.mp H
      obtain ⟨⟨t241, t242, t243⟩, A120, H⟩ := H
      replace H : (if t243 = true then (if x7_1.length < 8796093022208 then (spec_orRun.l0 k1 l0 a2 (x7_1 ++ [(⟨t241, t242⟩ : S28)])) else (none)) else (some x7_1)) = some r := H
      have A12 := Aside0.mk A120
      clear A120
      by_cases c13 : t243 = true
      ·subst c13
       have H1 : (if x7_1.length < 8796093022208 then (spec_orRun.l0 k1 l0 a2 (x7_1 ++ [(⟨t241, t242⟩ : S28)])) else (none)) = some r := by rw [if_pos rfl] at H; exact H
       clear H
       have H := H1
       clear H1
       by_cases c14 : x7_1.length < 8796093022208
       ·rw [if_pos c14] at H
        have LMc14 := Aside0.mk c14
        clear c14
        obtain ⟨y245, hy245⟩ : ∃ y_ : List (S28), y_ = (x7_1 ++ [(⟨t241, t242⟩ : S28)]) := ⟨_, rfl⟩
        replace H : (spec_orRun.l0 k1 l0 a2 y245) = some r := by first | (rw [hy245]; with_reducible exact H) | (have H2_ := (Option.bind_some _ _).symm.trans H; rw [hy245]; with_reducible exact H2_) | (have H2_ := (Option.bind_some _ _).symm.trans H; with_reducible exact H2_) | with_reducible exact H | (rw [hy245]; exact H) | exact H
        have Ny245 := Aside0.mk hy245
        clear hy245
        have H' := Aside0.mk H
        clear H
        obtain ⟨Ao15, co15, eo15⟩ := Kd.R_slice HO_7.out
        subst eo15
        have p240 : 0 ≤ ((ji9) : Int) := da
        have q240 : (ji9) < (x7_1.length : Int) := da
        obtain ⟨ad240, e240, hx240_0, hx240_1⟩ := at_T28 (Kd.R_reads' HO_7.out).2.2 (ji9) p240 q240
        cases e240
        replace p240 := eq_true p240
        replace q240 := eq_true q240
        go_wp2_with (first | ((with_reducible refine gate_callee (f := 115) rfl ?_); refine goesL_ (some 24) rfl rfl Try.func115 (by kernel_rfl) rfl #[.slice A0 l0.length c0, .agg #[.int .i64 ((rd_T28 x7_1 (ji9)).f0), .int .i64 ((rd_T28 x7_1 (ji9)).f1)]] rfl (by (try simp only [List.map_toArray, List.map_cons, List.map_nil]); first | done | (simp only [hji9]; rfl) | rfl | (simp only [List.length_drop, List.length_take]; rfl)) ?_; (with_reducible refine (spec_imAt.calls k1 _ _ l0 ((rd_T28 x7_1 (ji9)).f0) ((rd_T28 x7_1 (ji9)).f1) t241 t242 true _ ?side1 ?side2 A12.out).mono ?_); (case side1 => repeat (first | exact (Kd.C_below HR0.out HB.out) | (with_reducible refine Kd.C_alloc ?_ _) | (with_reducible refine Kd.C_drewN ?_ _) | (with_reducible refine Kd.C_drew ?_))); (case side2 => exact HC0.out); rintro e w16 ⟨rfl, hb⟩; refine ⟨_, rfl, ?_⟩; replace HO_7 := Aside0.mk (Kd.R_below (by (with_reducible repeat (first | apply Kd.R_alloc | apply Kd.R_drewN | apply Kd.R_drew)); exact HO_7.out) hb); replace BK236 := Aside0.mk (bb gb236 hb); replace HB := Aside0.mk (bs hb); (try clear hb); (try clear hb2); (try clear hk); (try clear hi)) | ((with_reducible refine gate_dst (N := 8) rfl ?_); refine bx 8 #[.int .i64 0, .int .i64 0] 28 ?_; intro gb244 hg w17 hbox hb; have BK244 := Aside0.mk (hbox); have GW244 := Aside0.mk (bz hg); have GE244 := GW244; have NB236_244 := Aside0.mk (bn gb236 hg); have NB244_236 := Aside0.mk NB236_244.out.symm; replace HO_7 := Aside0.mk (Kd.R_below (Kd.R_elderB (by (with_reducible repeat (first | apply Kd.R_alloc | apply Kd.R_drewN | apply Kd.R_drew)); exact HO_7.out) gb244 (Nat.le_of_eq hg.symm)) hb); replace BK236 := Aside0.mk (bb gb236 hb); replace HB := Aside0.mk (bs hb); clear hb hbox hg; have hnb18 := NB244_236.out; have hnc18 := NB236_244.out; have hcz19_0 : w17.cell? ⟨gb244, 0, none⟩ = some (.int .i64 0) := (blk_cell BK244.out 0).trans rfl; have hcz19_1 : w17.cell? ⟨gb244, 1, none⟩ = some (.int .i64 0) := (blk_cell BK244.out 1).trans rfl; have hfz19_0 := blk_frozen BK244.out 0; have hfz19_1 := blk_frozen BK244.out 1) | ((with_reducible refine gate_builtin (b := .append) (xs := #[.tmp 30, .tmp 32]) rfl ?_); at_builtin; refine Kd.R_append k28 (w0 := w) w.heap.size rfl (.tmp 30) (.tmp 32) 64 28 (.agg #[(.int .i64 0), (.int .i64 0)]) 16 rfl Try.underlying64 info28 rfl (by decide) (by omega) (.slice (some ad240) x7_1.length co15) x7_1 (⟨t241, t242⟩ : S28) [.int .i64 t241, .int .i64 t242] (fun k_ => k_ ≠ gb236 ∧ k_ ≠ gb244) (fun _ => False) rfl (by first | (go_simp; done) | (go_simp; rfl)) ?aP (fun _ hk => hk.elim) ?aF ?aO ?aB ?aS ?aL ?_; (case aP => exact k28_mkM _ _ _ (⟨t241, t242⟩ : S28)); (case aB => exact bl); (case aF => exact (fun k_ hk => ⟨Kd.freshB (g := gb236) (o := .cells #[.int .i64 a1_0, .int .i64 a1_1] 28 (0, 0)) (by (with_reducible repeat (first | refine blk_drewN ?_ _ | refine blk_drew ?_ | refine blk_alloc ?_ _)); refine blk_far ?_ NB236_244.out _; (with_reducible repeat (first | refine blk_drewN ?_ _ | refine blk_drew ?_ | refine blk_alloc ?_ _)); refine blk_far ?_ NB236_244.out _; (with_reducible repeat (first | refine blk_drewN ?_ _ | refine blk_drew ?_ | refine blk_alloc ?_ _)); exact BK236.out) k_ hk, Kd.freshB (g := gb244) (o := .cells #[.int .i64 t241, .int .i64 t242] 28 (0, 0)) (by (with_reducible repeat (first | refine blk_drewN ?_ _ | refine blk_drew ?_ | refine blk_alloc ?_ _)); refine blk_put (cs := #[.int .i64 t241, .int .i64 0]) ?_ 1 _ rfl; (with_reducible repeat (first | refine blk_drewN ?_ _ | refine blk_drew ?_ | refine blk_alloc ?_ _)); refine blk_put (cs := #[.int .i64 0, .int .i64 0]) ?_ 0 _ rfl; (with_reducible repeat (first | refine blk_drewN ?_ _ | refine blk_drew ?_ | refine blk_alloc ?_ _)); exact BK244.out) k_ hk⟩)); (case aO => exact (by (with_reducible repeat (first | apply Kd.R_alloc | apply Kd.R_drewN | apply Kd.R_drew)); exact Kd.R_mono (Kd.R_far (p := ⟨gb244, 1, none⟩) (Kd.R_far (p := ⟨gb244, 0, none⟩) (Kd.R_mono HO_7.out (fun k_ hk => (⟨hk, hk.2⟩ : _ ∧ k_ ≠ gb244))) (fun _ hk => hk.2) (.int .i64 t241)) (fun _ hk => hk.2) (.int .i64 t242)) (fun _ hk => ⟨hk.1.1, hk.1.2⟩))); (case aS => exact (below_size bl)); (case aL => have := LMc14.out; omega); intro v246 w20 ho hb hg hat; rw [← Ny245.out] at ho; have HO247 := Aside0.mk (ho); replace BK236 := Aside0.mk (blk_grown (g := gb236) (o := .cells #[.int .i64 a1_0, .int .i64 a1_1] 28 (0, 0)) (by (with_reducible repeat (first | refine blk_drewN ?_ _ | refine blk_drew ?_ | refine blk_alloc ?_ _)); refine blk_far ?_ NB236_244.out _; (with_reducible repeat (first | refine blk_drewN ?_ _ | refine blk_drew ?_ | refine blk_alloc ?_ _)); refine blk_far ?_ NB236_244.out _; (with_reducible repeat (first | refine blk_drewN ?_ _ | refine blk_drew ?_ | refine blk_alloc ?_ _)); exact BK236.out) hg (Kd.R_away HO_7.out (fun _ hk => hk.1))); replace BK244 := Aside0.mk (blk_grown (g := gb244) (o := .cells #[.int .i64 t241, .int .i64 t242] 28 (0, 0)) (by (with_reducible repeat (first | refine blk_drewN ?_ _ | refine blk_drew ?_ | refine blk_alloc ?_ _)); refine blk_put (cs := #[.int .i64 t241, .int .i64 0]) ?_ 1 _ rfl; (with_reducible repeat (first | refine blk_drewN ?_ _ | refine blk_drew ?_ | refine blk_alloc ?_ _)); refine blk_put (cs := #[.int .i64 0, .int .i64 0]) ?_ 0 _ rfl; (with_reducible repeat (first | refine blk_drewN ?_ _ | refine blk_drew ?_ | refine blk_alloc ?_ _)); exact BK244.out) hg (Kd.R_away HO_7.out (fun _ hk => hk.2))); replace HB := Aside0.mk (hb); clear HO_7; clear ho hb hg hat))
        go_roundg k1
        case measure => have := HK1.out; omega
        case rel => exact ⟨(y245), H', ⟨by have := HK1.out; omega⟩, ⟨by (with_reducible repeat (first | apply Kd.R_alloc | apply Kd.R_drewN | apply Kd.R_drew)); exact Kd.R_mono HO247.out (fun _ hk => hk.1)⟩, ⟨by (with_reducible repeat (first | refine blk_drewN ?_ _ | refine blk_drew ?_ | refine blk_alloc ?_ _)); exact BK236.out⟩, ⟨bl⟩⟩
       ·rw [if_neg c14] at H
        exact absurd H (by simp)
      ·replace c13 := Bool.eq_false_iff.mpr c13
       subst c13
       have H1 : (some x7_1) = some r := by rw [if_neg (show ¬ (false = true) by decide)] at H; exact H
       clear H
       have H := H1
       clear H1
       obtain rfl := Option.some.inj H
       obtain ⟨Ao21, co21, eo21⟩ := Kd.R_slice HO_7.out
       subst eo21
       have p240 : 0 ≤ ((ji9) : Int) := da
       have q240 : (ji9) < (x7_1.length : Int) := da
       obtain ⟨ad240, e240, hx240_0, hx240_1⟩ := at_T28 (Kd.R_reads' HO_7.out).2.2 (ji9) p240 q240
       cases e240
       replace p240 := eq_true p240
       replace q240 := eq_true q240
       go_wp2_with (first | ((with_reducible refine gate_callee (f := 115) rfl ?_); refine goesL_ (some 24) rfl rfl Try.func115 (by kernel_rfl) rfl #[.slice A0 l0.length c0, .agg #[.int .i64 ((rd_T28 x7_1 (ji9)).f0), .int .i64 ((rd_T28 x7_1 (ji9)).f1)]] rfl (by (try simp only [List.map_toArray, List.map_cons, List.map_nil]); first | done | (simp only [hji9]; rfl) | rfl | (simp only [List.length_drop, List.length_take]; rfl)) ?_; (with_reducible refine (spec_imAt.calls k1 _ _ l0 ((rd_T28 x7_1 (ji9)).f0) ((rd_T28 x7_1 (ji9)).f1) t241 t242 false _ ?side1 ?side2 A12.out).mono ?_); (case side1 => repeat (first | exact (Kd.C_below HR0.out HB.out) | (with_reducible refine Kd.C_alloc ?_ _) | (with_reducible refine Kd.C_drewN ?_ _) | (with_reducible refine Kd.C_drew ?_))); (case side2 => exact HC0.out); rintro e w22 ⟨rfl, hb⟩; refine ⟨_, rfl, ?_⟩; replace HO_7 := Aside0.mk (Kd.R_below (by (with_reducible repeat (first | apply Kd.R_alloc | apply Kd.R_drewN | apply Kd.R_drew)); exact HO_7.out) hb); replace BK236 := Aside0.mk (bb gb236 hb); replace HB := Aside0.mk (bs hb); (try clear hb); (try clear hb2); (try clear hk); (try clear hi)) | ((with_reducible refine gate_dst (N := 8) rfl ?_); refine bx 8 #[.int .i64 0, .int .i64 0] 28 ?_; intro gb244 hg w23 hbox hb; have BK244 := Aside0.mk (hbox); have GW244 := Aside0.mk (bz hg); have GE244 := GW244; have NB236_244 := Aside0.mk (bn gb236 hg); have NB244_236 := Aside0.mk NB236_244.out.symm; replace HO_7 := Aside0.mk (Kd.R_below (Kd.R_elderB (by (with_reducible repeat (first | apply Kd.R_alloc | apply Kd.R_drewN | apply Kd.R_drew)); exact HO_7.out) gb244 (Nat.le_of_eq hg.symm)) hb); replace BK236 := Aside0.mk (bb gb236 hb); replace HB := Aside0.mk (bs hb); clear hb hbox hg; have hnb24 := NB244_236.out; have hnc24 := NB236_244.out; have hcz25_0 : w23.cell? ⟨gb244, 0, none⟩ = some (.int .i64 0) := (blk_cell BK244.out 0).trans rfl; have hcz25_1 : w23.cell? ⟨gb244, 1, none⟩ = some (.int .i64 0) := (blk_cell BK244.out 1).trans rfl; have hfz25_0 := blk_frozen BK244.out 0; have hfz25_1 := blk_frozen BK244.out 1))
       go_ret
       exact ⟨_, by first | rfl | (simp [errW_none, errW_some] <;> rfl) | (simp only [← hji9]; first | rfl | (simp [errW_none, errW_some] <;> rfl)) | (simp [*, errW_none, errW_some] <;> rfl), by (with_reducible repeat (first | apply Kd.R_alloc | apply Kd.R_drewN | apply Kd.R_drew)); exact Kd.R_mono (Kd.R_far (p := ⟨gb244, 1, none⟩) (Kd.R_far (p := ⟨gb244, 0, none⟩) (Kd.R_mono HO_7.out (fun k_ hk => (⟨hk, hk.2⟩ : _ ∧ k_ ≠ gb244))) (fun _ hk => hk.2) (.int .i64 t241)) (fun _ hk => hk.2) (.int .i64 t242)) (fun _ hk => trivial), bl⟩
     ·rw [if_neg c11] at H
      exact absurd H (by simp)
    ·rw [if_neg c10] at H
     exact absurd H (by simp)
   ·rw [if_neg c8] at H
    have c8b0 : decide ((x7_1.length : Int) ≤ a2) = false := decide_eq_false c8
    clear c8
    obtain rfl := Option.some.inj H
    obtain ⟨Ao26, co26, eo26⟩ := Kd.R_slice HO_7.out
    subst eo26
    go_wp2
    go_ret
    exact ⟨_, by first | rfl | (simp [errW_none, errW_some] <;> rfl) | (simp [*, errW_none, errW_some] <;> rfl), by (with_reducible repeat (first | apply Kd.R_alloc | apply Kd.R_drewN | apply Kd.R_drew)); exact Kd.R_mono HO_7.out (fun _ hk => trivial), bl⟩

/-! ### spec_PiecesOf: function 29 -/
mutual
def spec_PiecesOf.j0 : Nat → List (S68) → Int → Bool → Int → Int → Option (List Int × Bool)
 | 0, _, _, _, _, _ => none
 | k + 1, x0, x2, x24, x249000, x249001 => if x24 = true then (some (([] : List Int), false)) else ((spec_orRun.f k x0 x249000 x249001 (wrap64 (x2 - 1))).bind fun t252 => (if (t252.length : Int) < x2 then (some (([] : List Int), false)) else (spec_PiecesOf.l0 k x0 ([] : List Int) t252 (t252.length : Int) 0)))
def spec_PiecesOf.l0 : Nat → List (S68) → List Int → List (S28) → Int → Int → Option (List Int × Bool)
 | 0, _, _, _, _, _ => none
 | k + 1, x0, x9, x34, x35, x36 => if x36 < x35 then (if 0 ≤ x36 then (if x36 < (x34.length : Int) then ((spec_imPiece.f k x0 ((rd_T28 x34 x36).f0) ((rd_T28 x34 x36).f1)).bind fun t257 => (if x9.length < 17592186044416 then (spec_PiecesOf.l0 k x0 (x9 ++ [t257]) x34 x35 (wrap64 (x36 + 1))) else (none))) else (none)) else (none)) else (some (x9, true))
end
def spec_PiecesOf.f (k : Nat) (l0 : List (S68)) (a1_0 : Int) (a1_1 : Int) (a2 : Int) : Option (List Int × Bool) := (spec_imGood.f k l0).bind fun t249 => (if t249 = true then ((spec_raUnit.f k a1_0 a1_1).bind fun t250 => (if t250 = true then ((spec_l1In.f a2 1 8).bind fun t251 => (spec_PiecesOf.j0 k l0 a2 (!t251) a1_0 a1_1)) else (spec_PiecesOf.j0 k l0 a2 true a1_0 a1_1))) else (spec_PiecesOf.j0 k l0 a2 true a1_0 a1_1))
set_option maxHeartbeats 8000000 in
set_option maxRecDepth 100000 in
theorem spec_PiecesOf.calls (k : Nat) (A0 : Option Addr) (c0 : Nat) (l0 : List (S68)) (a1_0 : Int) (a1_1 : Int) (a2 : Int) (r1 : List Int) (r2 : Bool) (w : World) (hr0 : Kd.C k68 w A0 l0.length l0) (hc0 : l0.length ≤ c0) (h : spec_PiecesOf.f k l0 a1_0 a1_1 a2 = some (r1, r2)) :
  Calls Try.prog 29 #[.slice A0 l0.length c0, .agg #[.int .i64 a1_0, .int .i64 a1_1], .int .i64 a2] w fun e w' => ∃ v0_ : Value, e = .returned (.tuple #[v0_, .bool r2]) ∧ Kd.R (Kd.int .i64) 3 w' w.heap.size (fun _ => True) v0_ r1 ∧ Below w.heap.size w w' := by
 have hu28 := Try.underlying28
 have HR0 := Aside0.mk hr0
 have HC0 := Aside0.mk hc0
 clear hr0 hc0
 have HB := Aside0.mk (Below.refl w.heap.size w)
 have H : ((spec_imGood.f k l0).bind fun t249 => (if t249 = true then ((spec_raUnit.f k a1_0 a1_1).bind fun t250 => (if t250 = true then ((spec_l1In.f a2 1 8).bind fun t251 => (spec_PiecesOf.j0 k l0 a2 (!t251) a1_0 a1_1)) else (spec_PiecesOf.j0 k l0 a2 true a1_0 a1_1))) else (spec_PiecesOf.j0 k l0 a2 true a1_0 a1_1))) = some (r1, r2) := h
 clear h
 have HC4 := Aside0.mk H
 clear H
 go_enter Try.func29, Try.ntmps29
 go_upto_region 1 with (first | ((with_reducible refine gate_dst (N := 4) rfl ?_); refine bx 4 #[.int .i64 a1_0, .int .i64 a1_1] 28 ?_; intro gb248 hg w5 hbox hb; have BK248 := Aside0.mk (hbox); have GW248 := Aside0.mk (bz hg); have GE248 := GW248; replace HB := Aside0.mk (bs hb); clear hb hbox hg))
 (try simp only [Act.put, List.setIfInBounds_toArray, List.set_cons_zero, List.set_cons_succ])
 go_cut [24] (fun v24 wc => ∃ (kq : Nat) (x24_3 : Bool), v24 = .bool x24_3 ∧ Aside0 (spec_PiecesOf.j0 kq l0 a2 x24_3 a1_0 a1_1 = some (r1, r2)) ∧ Aside0 (kq ≤ k) ∧ Aside0 (wc.heap[gb248]? = some (.cells #[.int .i64 a1_0, .int .i64 a1_1] 28 (0, 0))) ∧ Aside0 (Below w.heap.size w wc))
 case first =>
  have H := HC4.out
  clear HC4
  replace H := Option.bind_eq_some_iff.mp H
  obtain ⟨t249, A60, H⟩ := H
  replace H : (if t249 = true then ((spec_raUnit.f k a1_0 a1_1).bind fun t250 => (if t250 = true then ((spec_l1In.f a2 1 8).bind fun t251 => (spec_PiecesOf.j0 k l0 a2 (!t251) a1_0 a1_1)) else (spec_PiecesOf.j0 k l0 a2 true a1_0 a1_1))) else (spec_PiecesOf.j0 k l0 a2 true a1_0 a1_1)) = some (r1, r2) := H
  have A6 := Aside0.mk A60
  clear A60
  by_cases c7 : t249 = true
  ·subst c7
   have H1 : ((spec_raUnit.f k a1_0 a1_1).bind fun t250 => (if t250 = true then ((spec_l1In.f a2 1 8).bind fun t251 => (spec_PiecesOf.j0 k l0 a2 (!t251) a1_0 a1_1)) else (spec_PiecesOf.j0 k l0 a2 true a1_0 a1_1))) = some (r1, r2) := by rw [if_pos rfl] at H; exact H
   clear H
   have H := H1
   clear H1
   replace H := Option.bind_eq_some_iff.mp H
   obtain ⟨t250, A80, H⟩ := H
   replace H : (if t250 = true then ((spec_l1In.f a2 1 8).bind fun t251 => (spec_PiecesOf.j0 k l0 a2 (!t251) a1_0 a1_1)) else (spec_PiecesOf.j0 k l0 a2 true a1_0 a1_1)) = some (r1, r2) := H
   have A8 := Aside0.mk A80
   clear A80
   by_cases c9 : t250 = true
   ·subst c9
    have H1 : ((spec_l1In.f a2 1 8).bind fun t251 => (spec_PiecesOf.j0 k l0 a2 (!t251) a1_0 a1_1)) = some (r1, r2) := by rw [if_pos rfl] at H; exact H
    clear H
    have H := H1
    clear H1
    replace H := Option.bind_eq_some_iff.mp H
    obtain ⟨t251, A100, H⟩ := H
    replace H : (spec_PiecesOf.j0 k l0 a2 (!t251) a1_0 a1_1) = some (r1, r2) := H
    have A10 := Aside0.mk A100
    clear A100
    have H' := Aside0.mk H
    clear H
    go_wp2_with (first | ((with_reducible refine gate_callee (f := 42) rfl ?_); refine gl 13 Try.func42 #[.slice A0 l0.length c0] ?_; (with_reducible refine (spec_imGood.calls k _ _ l0 true _ ?side1 ?side2 A6.out).mono ?_); (case side1 => repeat (first | exact (Kd.C_below HR0.out HB.out) | (with_reducible refine Kd.C_alloc ?_ _) | (with_reducible refine Kd.C_drewN ?_ _) | (with_reducible refine Kd.C_drew ?_))); (case side2 => exact HC0.out); rintro e w11 ⟨rfl, hb⟩; refine ⟨_, rfl, ?_⟩; replace BK248 := Aside0.mk (bb gb248 hb); replace HB := Aside0.mk (bs hb); (try clear hb); (try clear hb2); (try clear hk); (try clear hi); have hcz12_0 : w11.cell? ⟨gb248, 0, none⟩ = some (.int .i64 a1_0) := (blk_cell BK248.out 0).trans rfl; have hcz12_1 : w11.cell? ⟨gb248, 1, none⟩ = some (.int .i64 a1_1) := (blk_cell BK248.out 1).trans rfl; have hfz12_0 := blk_frozen BK248.out 0; have hfz12_1 := blk_frozen BK248.out 1) | (go_at_call 67; (with_reducible refine (spec_raUnit.calls k a1_0 a1_1 true _ A8.out).mono ?_); rintro e w13 ⟨rfl, hb⟩; replace BK248 := Aside0.mk (bb gb248 hb); replace HB := Aside0.mk (bs hb); (try clear hb); (try clear hb2); (try clear hk); (try clear hi)) | (go_at_call 68; (with_reducible refine (spec_l1In.calls a2 1 8 t251 _ A10.out).mono ?_); rintro e w' ⟨rfl, ⟨nd, rfl⟩⟩))
    go_meet
    case rel => exact ⟨_, (!t251), (by first | rfl | (simp; done) | (simp [*]; done)), H', ⟨by first | omega | exact Nat.le_refl _⟩, ⟨by (with_reducible repeat (first | refine blk_drewN ?_ _ | refine blk_drew ?_ | refine blk_alloc ?_ _)); exact BK248.out⟩, ⟨bl⟩⟩
   ·replace c9 := Bool.eq_false_iff.mpr c9
    subst c9
    have H1 : (spec_PiecesOf.j0 k l0 a2 true a1_0 a1_1) = some (r1, r2) := by rw [if_neg (show ¬ (false = true) by decide)] at H; exact H
    clear H
    have H := H1
    clear H1
    have H' := Aside0.mk H
    clear H
    go_wp2_with (first | ((with_reducible refine gate_callee (f := 42) rfl ?_); refine gl 13 Try.func42 #[.slice A0 l0.length c0] ?_; (with_reducible refine (spec_imGood.calls k _ _ l0 true _ ?side1 ?side2 A6.out).mono ?_); (case side1 => repeat (first | exact (Kd.C_below HR0.out HB.out) | (with_reducible refine Kd.C_alloc ?_ _) | (with_reducible refine Kd.C_drewN ?_ _) | (with_reducible refine Kd.C_drew ?_))); (case side2 => exact HC0.out); rintro e w14 ⟨rfl, hb⟩; refine ⟨_, rfl, ?_⟩; replace BK248 := Aside0.mk (bb gb248 hb); replace HB := Aside0.mk (bs hb); (try clear hb); (try clear hb2); (try clear hk); (try clear hi); have hcz15_0 : w14.cell? ⟨gb248, 0, none⟩ = some (.int .i64 a1_0) := (blk_cell BK248.out 0).trans rfl; have hcz15_1 : w14.cell? ⟨gb248, 1, none⟩ = some (.int .i64 a1_1) := (blk_cell BK248.out 1).trans rfl; have hfz15_0 := blk_frozen BK248.out 0; have hfz15_1 := blk_frozen BK248.out 1) | (go_at_call 67; (with_reducible refine (spec_raUnit.calls k a1_0 a1_1 false _ A8.out).mono ?_); rintro e w16 ⟨rfl, hb⟩; replace BK248 := Aside0.mk (bb gb248 hb); replace HB := Aside0.mk (bs hb); (try clear hb); (try clear hb2); (try clear hk); (try clear hi)))
    go_meet
    case rel => exact ⟨_, (true), (by first | rfl | (simp; done) | (simp [*]; done)), H', ⟨by first | omega | exact Nat.le_refl _⟩, ⟨by (with_reducible repeat (first | refine blk_drewN ?_ _ | refine blk_drew ?_ | refine blk_alloc ?_ _)); exact BK248.out⟩, ⟨bl⟩⟩
  ·replace c7 := Bool.eq_false_iff.mpr c7
   subst c7
   have H1 : (spec_PiecesOf.j0 k l0 a2 true a1_0 a1_1) = some (r1, r2) := by rw [if_neg (show ¬ (false = true) by decide)] at H; exact H
   clear H
   have H := H1
   clear H1
   have H' := Aside0.mk H
   clear H
   go_wp2_with (first | ((with_reducible refine gate_callee (f := 42) rfl ?_); refine gl 13 Try.func42 #[.slice A0 l0.length c0] ?_; (with_reducible refine (spec_imGood.calls k _ _ l0 false _ ?side1 ?side2 A6.out).mono ?_); (case side1 => repeat (first | exact (Kd.C_below HR0.out HB.out) | (with_reducible refine Kd.C_alloc ?_ _) | (with_reducible refine Kd.C_drewN ?_ _) | (with_reducible refine Kd.C_drew ?_))); (case side2 => exact HC0.out); rintro e w17 ⟨rfl, hb⟩; refine ⟨_, rfl, ?_⟩; replace BK248 := Aside0.mk (bb gb248 hb); replace HB := Aside0.mk (bs hb); (try clear hb); (try clear hb2); (try clear hk); (try clear hi)))
   go_meet
   case rel => exact ⟨_, (true), (by first | rfl | (simp; done) | (simp [*]; done)), H', ⟨by first | omega | exact Nat.le_refl _⟩, ⟨by (with_reducible repeat (first | refine blk_drewN ?_ _ | refine blk_drew ?_ | refine blk_alloc ?_ _)); exact BK248.out⟩, ⟨bl⟩⟩
 case rest =>
  clear HC4
  try clear c2
  try clear p2
  try clear c4
  try clear c7
  try clear c9
  try clear hcz12_0
  try clear hcz12_1
  try clear hcz15_0
  try clear hcz15_1
  try clear hfz12_0
  try clear hfz12_1
  try clear hfz15_0
  try clear hfz15_1
  obtain ⟨kq, x24_3, rfl, HA, HJ3, BK248, HB⟩ := hcut
  cases kq with
  | zero => exact absurd HA.out (by simp [spec_PiecesOf.j0])
  | succ kj3 =>
   have H := HA.out
   clear HA
   simp only [spec_PiecesOf.j0] at H
   by_cases c18 : x24_3 = true
   ·subst c18
    have H1 : (some (([] : List Int), false)) = some (r1, r2) := by rw [if_pos rfl] at H; exact H
    clear H
    have H := H1
    clear H1
    simp only [Option.some.injEq, Prod.mk.injEq] at H
    obtain ⟨rfl, rfl⟩ := H
    go_wp2
    go_ret2
    exact ⟨_, by first | rfl | (simp [errW_none, errW_some] <;> rfl) | (simp [*, errW_none, errW_some] <;> rfl), by first | exact Kd.R_nil _ _ _ _ _ | exact Kd.N_nil _ _ _ _ _ | exact Kd.V_nil _ _ _ _ _ | exact Kd.Q_nil _ _ _ _ _ | exact Kd.S_nil _ _ _ _ _, bl⟩
   ·replace c18 := Bool.eq_false_iff.mpr c18
    subst c18
    have H1 : ((spec_orRun.f kj3 l0 a1_0 a1_1 (wrap64 (a2 - 1))).bind fun t252 => (if (t252.length : Int) < a2 then (some (([] : List Int), false)) else (spec_PiecesOf.l0 kj3 l0 ([] : List Int) t252 (t252.length : Int) 0))) = some (r1, r2) := by rw [if_neg (show ¬ (false = true) by decide)] at H; exact H
    clear H
    have H := H1
    clear H1
    replace H := Option.bind_eq_some_iff.mp H
    obtain ⟨t252, A190, H⟩ := H
    replace H : (if (t252.length : Int) < a2 then (some (([] : List Int), false)) else (spec_PiecesOf.l0 kj3 l0 ([] : List Int) t252 (t252.length : Int) 0)) = some (r1, r2) := H
    have A19 := Aside0.mk A190
    clear A190
    by_cases c20 : (t252.length : Int) < a2
    ·rw [if_pos c20] at H
     have c20b0 : decide ((t252.length : Int) < a2) = true := decide_eq_true c20
     clear c20
     simp only [Option.some.injEq, Prod.mk.injEq] at H
     obtain ⟨rfl, rfl⟩ := H
     have hcz21_0 : wc.cell? ⟨gb248, 0, none⟩ = some (.int .i64 a1_0) := (blk_cell BK248.out 0).trans rfl
     have hcz21_1 : wc.cell? ⟨gb248, 1, none⟩ = some (.int .i64 a1_1) := (blk_cell BK248.out 1).trans rfl
     have hfz21_0 := blk_frozen BK248.out 0
     have hfz21_1 := blk_frozen BK248.out 1
     go_wp2_with (first | ((with_reducible refine gate_callee (f := 69) rfl ?_); refine gl 29 Try.func69 #[.slice A0 l0.length c0, .agg #[.int .i64 a1_0, .int .i64 a1_1], .int .i64 (wrap64 (a2 - 1))] ?_; (with_reducible refine (spec_orRun.calls kj3 _ _ l0 a1_0 a1_1 (wrap64 (a2 - 1)) t252 _ ?side1 ?side2 A19.out).mono ?_); (case side1 => repeat (first | exact (Kd.C_below HR0.out HB.out) | (with_reducible refine Kd.C_alloc ?_ _) | (with_reducible refine Kd.C_drewN ?_ _) | (with_reducible refine Kd.C_drew ?_))); (case side2 => exact HC0.out); rintro e w22 ⟨v253, rfl, ho0, hb⟩; refine ⟨_, rfl, ?_⟩; have HO254 := Aside0.mk (Kd.R_lower (Kd.R_newB ho0 (g := gb248) (o := .cells #[.int .i64 a1_0, .int .i64 a1_1] 28 (0, 0)) (bo gb248)) (below_size bl)); replace BK248 := Aside0.mk (bb gb248 hb); replace HB := Aside0.mk (bs hb); (try clear hb); (try clear hb2); (try clear hk); (try clear hi); (try clear ho0); obtain ⟨Ao23, co23, eo23⟩ := Kd.R_slice HO254.out; subst eo23))
     go_ret2
     exact ⟨_, by first | rfl | (simp [errW_none, errW_some] <;> rfl) | (simp [*, errW_none, errW_some] <;> rfl), by first | exact Kd.R_nil _ _ _ _ _ | exact Kd.N_nil _ _ _ _ _ | exact Kd.V_nil _ _ _ _ _ | exact Kd.Q_nil _ _ _ _ _ | exact Kd.S_nil _ _ _ _ _, bl⟩
    ·rw [if_neg c20] at H
     have c20b0 : decide ((t252.length : Int) < a2) = false := decide_eq_false c20
     clear c20
     have H' := Aside0.mk H
     clear H
     have hcz24_0 : wc.cell? ⟨gb248, 0, none⟩ = some (.int .i64 a1_0) := (blk_cell BK248.out 0).trans rfl
     have hcz24_1 : wc.cell? ⟨gb248, 1, none⟩ = some (.int .i64 a1_1) := (blk_cell BK248.out 1).trans rfl
     have hfz24_0 := blk_frozen BK248.out 0
     have hfz24_1 := blk_frozen BK248.out 1
     go_wp2_with (first | ((with_reducible refine gate_callee (f := 69) rfl ?_); refine gl 29 Try.func69 #[.slice A0 l0.length c0, .agg #[.int .i64 a1_0, .int .i64 a1_1], .int .i64 (wrap64 (a2 - 1))] ?_; (with_reducible refine (spec_orRun.calls kj3 _ _ l0 a1_0 a1_1 (wrap64 (a2 - 1)) t252 _ ?side1 ?side2 A19.out).mono ?_); (case side1 => repeat (first | exact (Kd.C_below HR0.out HB.out) | (with_reducible refine Kd.C_alloc ?_ _) | (with_reducible refine Kd.C_drewN ?_ _) | (with_reducible refine Kd.C_drew ?_))); (case side2 => exact HC0.out); rintro e w25 ⟨v253, rfl, ho0, hb⟩; refine ⟨_, rfl, ?_⟩; have HO254 := Aside0.mk (Kd.R_lower (Kd.R_newB ho0 (g := gb248) (o := .cells #[.int .i64 a1_0, .int .i64 a1_1] 28 (0, 0)) (bo gb248)) (below_size bl)); replace BK248 := Aside0.mk (bb gb248 hb); replace HB := Aside0.mk (bs hb); (try clear hb); (try clear hb2); (try clear hk); (try clear hi); (try clear ho0); obtain ⟨Ao26, co26, eo26⟩ := Kd.R_slice HO254.out; subst eo26))
     go_loopg [9, 36] kj3 (fun kq v9 v36 w' => ∃ (x9_2 : List Int) (x36_2 : Int), v36 = .int .i64 x36_2 ∧ Aside0 (spec_PiecesOf.l0 kq l0 x9_2 t252 (t252.length : Int) x36_2 = some (r1, r2)) ∧ Aside0 (kq ≤ kj3) ∧ Aside0 (Kd.R (Kd.int .i64) 3 w' w.heap.size (fun _ => True) v9 x9_2) ∧ Aside0 (Kd.R k28 28 w' w.heap.size (fun k_ => k_ ≠ gb248) (.slice Ao26 t252.length co26) t252) ∧ Aside0 (w'.heap[gb248]? = some (.cells #[.int .i64 a1_0, .int .i64 a1_1] 28 (0, 0))) ∧ Aside0 (Below w.heap.size w w'))
     case atStart => exact ⟨(([] : List Int)), (0), (by first | rfl | (simp; done) | (simp [*]; done)), H', ⟨Nat.le_refl _⟩, ⟨by first | exact Kd.R_nil _ _ _ _ _ | exact Kd.N_nil _ _ _ _ _ | exact Kd.V_nil _ _ _ _ _ | exact Kd.Q_nil _ _ _ _ _ | exact Kd.S_nil _ _ _ _ _⟩, ⟨by (with_reducible repeat (first | apply Kd.R_alloc | apply Kd.R_drewN | apply Kd.R_drew)); exact Kd.R_mono HO254.out (fun _ hk => hk.2)⟩, ⟨by (with_reducible repeat (first | refine blk_drewN ?_ _ | refine blk_drew ?_ | refine blk_alloc ?_ _)); exact BK248.out⟩, ⟨bl⟩⟩
     case round =>
      clear H'
      try clear c1
      try clear c2
      try clear p2
      try clear c4
      try clear c6
      try clear p6
      try clear c7
      try clear c9
      try clear c18
      try clear c20
      try clear c20b0
      try clear hcz12_0
      try clear hcz12_1
      try clear hcz15_0
      try clear hcz15_1
      try clear hcz21_0
      try clear hcz21_1
      try clear hcz24_0
      try clear hcz24_1
      try clear hfz12_0
      try clear hfz12_1
      try clear hfz15_0
      try clear hfz15_1
      try clear hfz21_0
      try clear hfz21_1
      try clear hfz24_0
      try clear hfz24_1
      try clear p2
      obtain ⟨x9_2, x36_2, rfl, HA, HK2, HO_9, HO_34, BK248, HB⟩ := hrel
      cases gk with
      | zero => exact absurd HA.out (by simp [spec_PiecesOf.l0])
      | succ k2 =>
       have H := HA.out
       clear HA
       simp only [spec_PiecesOf.l0] at H
       by_cases c27 : x36_2 < (t252.length : Int)
       ·rw [if_pos c27] at H
        have c27b0 : decide (x36_2 < (t252.length : Int)) = true := decide_eq_true c27
        clear c27
        by_cases c28 : 0 ≤ x36_2
        ·rw [if_pos c28] at H
         have c28b0 : decide (0 ≤ x36_2) = true := decide_eq_true c28
         clear c28
         by_cases c29 : x36_2 < (t252.length : Int)
         ·rw [if_pos c29] at H
          have c29b0 : decide (x36_2 < (t252.length : Int)) = true := decide_eq_true c29
          clear c29
          replace H := Option.bind_eq_some_iff.mp H
          obtain ⟨t257, A300, H⟩ := H
          replace H : (if x9_2.length < 17592186044416 then (spec_PiecesOf.l0 k2 l0 (x9_2 ++ [t257]) t252 (t252.length : Int) (wrap64 (x36_2 + 1))) else (none)) = some (r1, r2) := H
          have A30 := Aside0.mk A300
          clear A300
          by_cases c31 : x9_2.length < 17592186044416
          ·rw [if_pos c31] at H
           have LMc31 := Aside0.mk c31
           clear c31
           obtain ⟨y258, hy258⟩ : ∃ y_ : List Int, y_ = (x9_2 ++ [t257]) := ⟨_, rfl⟩
           replace H : (spec_PiecesOf.l0 k2 l0 y258 t252 (t252.length : Int) (wrap64 (x36_2 + 1))) = some (r1, r2) := by first | (rw [hy258]; with_reducible exact H) | (have H2_ := (Option.bind_some _ _).symm.trans H; rw [hy258]; with_reducible exact H2_) | (have H2_ := (Option.bind_some _ _).symm.trans H; with_reducible exact H2_) | with_reducible exact H | (rw [hy258]; exact H) | exact H
           have Ny258 := Aside0.mk hy258
           clear hy258
           have H' := Aside0.mk H
           clear H
           have p255 : 0 ≤ (x36_2 : Int) := da
           have q255 : x36_2 < (t252.length : Int) := da
           obtain ⟨ad255, e255, hx255_0, hx255_1⟩ := at_T28 (Kd.R_reads' HO_34.out).2.2 x36_2 p255 q255
           cases e255
           replace p255 := eq_true p255
           replace q255 := eq_true q255
           go_wp2_with (first | ((with_reducible refine gate_dst (N := 11) rfl ?_); refine bx 11 #[.int .i64 0, .int .i64 0] 28 ?_; intro gb256 hg w32 hbox hb; have BK256 := Aside0.mk (hbox); have GW256 := Aside0.mk (bz hg); have GE256 := GW256; have NB248_256 := Aside0.mk (bn gb248 hg); have NB256_248 := Aside0.mk NB248_256.out.symm; replace HO_9 := Aside0.mk (Kd.R_below (by (with_reducible repeat (first | apply Kd.R_alloc | apply Kd.R_drewN | apply Kd.R_drew)); exact HO_9.out) hb); replace HO_34 := Aside0.mk (Kd.R_below (Kd.R_elderB (by (with_reducible repeat (first | apply Kd.R_alloc | apply Kd.R_drewN | apply Kd.R_drew)); exact HO_34.out) gb256 (Nat.le_of_eq hg.symm)) hb); replace BK248 := Aside0.mk (bb gb248 hb); replace HB := Aside0.mk (bs hb); clear hb hbox hg; have hnb33 := NB256_248.out; have hnc33 := NB248_256.out; have hcz34_0 : w32.cell? ⟨gb256, 0, none⟩ = some (.int .i64 0) := (blk_cell BK256.out 0).trans rfl; have hcz34_1 : w32.cell? ⟨gb256, 1, none⟩ = some (.int .i64 0) := (blk_cell BK256.out 1).trans rfl; have hfz34_0 := blk_frozen BK256.out 0; have hfz34_1 := blk_frozen BK256.out 1) | ((with_reducible refine gate_callee (f := 70) rfl ?_); refine gl 43 Try.func70 #[.slice A0 l0.length c0, .agg #[.int .i64 ((rd_T28 t252 x36_2).f0), .int .i64 ((rd_T28 t252 x36_2).f1)]] ?_; (with_reducible refine (spec_imPiece.calls k2 _ _ l0 ((rd_T28 t252 x36_2).f0) ((rd_T28 t252 x36_2).f1) t257 _ ?side1 ?side2 A30.out).mono ?_); (case side1 => exact Kd.C_below HR0.out bl); (case side2 => exact HC0.out); rintro e w35 ⟨rfl, hb⟩; refine ⟨_, rfl, ?_⟩; replace HO_9 := Aside0.mk (Kd.R_below (by (with_reducible repeat (first | apply Kd.R_alloc | apply Kd.R_drewN | apply Kd.R_drew)); exact (Kd.R_mono (Kd.R_far (p := ⟨gb256, 1, none⟩) (Kd.R_far (p := ⟨gb256, 0, none⟩) (Kd.R_types HO_9.out BK256.out (by decide)) (fun _ hk => hk.2) (.int .i64 ((rd_T28 t252 x36_2).f0))) (fun _ hk => hk.2) (.int .i64 ((rd_T28 t252 x36_2).f1))) (fun _ h_ => h_.1))) hb); replace HO_34 := Aside0.mk (Kd.R_below (by (with_reducible repeat (first | apply Kd.R_alloc | apply Kd.R_drewN | apply Kd.R_drew)); exact (Kd.R_mono (Kd.R_far (p := ⟨gb256, 1, none⟩) (Kd.R_far (p := ⟨gb256, 0, none⟩) (Kd.R_mono HO_34.out (fun k_ hk => (⟨hk, hk.2⟩ : _ ∧ k_ ≠ gb256))) (fun _ hk => hk.2) (.int .i64 ((rd_T28 t252 x36_2).f0))) (fun _ hk => hk.2) (.int .i64 ((rd_T28 t252 x36_2).f1))) (fun _ h_ => h_.1))) hb); replace BK248 := Aside0.mk (blk_below (g := gb248) (o := .cells #[.int .i64 a1_0, .int .i64 a1_1] 28 (0, 0)) (by (with_reducible repeat (first | refine blk_drewN ?_ _ | refine blk_drew ?_ | refine blk_alloc ?_ _)); refine blk_far ?_ NB248_256.out _; (with_reducible repeat (first | refine blk_drewN ?_ _ | refine blk_drew ?_ | refine blk_alloc ?_ _)); refine blk_far ?_ NB248_256.out _; (with_reducible repeat (first | refine blk_drewN ?_ _ | refine blk_drew ?_ | refine blk_alloc ?_ _)); exact BK248.out) hb); replace BK256 := Aside0.mk (blk_below (g := gb256) (o := .cells #[.int .i64 ((rd_T28 t252 x36_2).f0), .int .i64 ((rd_T28 t252 x36_2).f1)] 28 (0, 0)) (by (with_reducible repeat (first | refine blk_drewN ?_ _ | refine blk_drew ?_ | refine blk_alloc ?_ _)); refine blk_put (cs := #[.int .i64 ((rd_T28 t252 x36_2).f0), .int .i64 0]) ?_ 1 _ rfl; (with_reducible repeat (first | refine blk_drewN ?_ _ | refine blk_drew ?_ | refine blk_alloc ?_ _)); refine blk_put (cs := #[.int .i64 0, .int .i64 0]) ?_ 0 _ rfl; (with_reducible repeat (first | refine blk_drewN ?_ _ | refine blk_drew ?_ | refine blk_alloc ?_ _)); exact BK256.out) hb); replace HB := Aside0.mk (bs hb); (try clear hb); (try clear hb2); (try clear hk); (try clear hi)) | ((with_reducible refine gate_builtin (b := .append) (xs := #[.tmp 40, .tmp 44]) rfl ?_); at_builtin; refine Kd.R_append (Kd.int .i64) (w0 := w) w.heap.size rfl (.tmp 40) (.tmp 44) 39 3 (.int .i64 0) 8 rfl Try.underlying39 info3 rfl (by decide) (by omega) u9 x9_2 t257 [.int .i64 t257] (fun _ => True) (fun _ => False) rfl rfl ?aP (fun _ hk => hk.elim) ?aF ?aO ?aB ?aS ?aL ?_; (case aP => exact rfl); (case aB => exact bl); (case aF => exact (fun _ _ => trivial)); (case aO => exact (by (with_reducible repeat (first | apply Kd.R_alloc | apply Kd.R_drewN | apply Kd.R_drew)); exact HO_9.out)); (case aS => exact (below_size bl)); (case aL => have := LMc31.out; omega); intro v259 w36 ho hb hg hat; rw [← Ny258.out] at ho; have HO260 := Aside0.mk (ho); replace HO_34 := Aside0.mk (Kd.R_over' (by (with_reducible repeat (first | apply Kd.R_alloc | apply Kd.R_drewN | apply Kd.R_drew)); exact HO_34.out) (Kd.R_typed (by (with_reducible repeat (first | apply Kd.R_alloc | apply Kd.R_drewN | apply Kd.R_drew)); exact HO_9.out)) (by decide) hg); replace BK248 := Aside0.mk (blk_grown (g := gb248) (o := .cells #[.int .i64 a1_0, .int .i64 a1_1] 28 (0, 0)) (bo gb248) hg (Kd.R_ne HO_9.out BK248.out (by decide))); replace BK256 := Aside0.mk (blk_grown (g := gb256) (o := .cells #[.int .i64 ((rd_T28 t252 x36_2).f0), .int .i64 ((rd_T28 t252 x36_2).f1)] 28 (0, 0)) (bo gb256) hg (Kd.R_ne HO_9.out BK256.out (by decide))); replace HB := Aside0.mk (hb); clear HO_9; clear ho hb hg hat))
           go_roundg k2
           case measure => have := HJ3.out; have := HK2.out; omega
           case rel => exact ⟨(y258), (wrap64 (x36_2 + 1)), (by first | rfl | (simp; done) | (simp [*]; done)), H', ⟨by have := HJ3.out; have := HK2.out; omega⟩, ⟨by (with_reducible repeat (first | apply Kd.R_alloc | apply Kd.R_drewN | apply Kd.R_drew)); exact HO260.out⟩, ⟨by (with_reducible repeat (first | apply Kd.R_alloc | apply Kd.R_drewN | apply Kd.R_drew)); exact Kd.R_mono HO_34.out (fun _ hk => hk.1)⟩, ⟨by (with_reducible repeat (first | refine blk_drewN ?_ _ | refine blk_drew ?_ | refine blk_alloc ?_ _)); exact BK248.out⟩, ⟨bl⟩⟩
          ·rw [if_neg c31] at H
           exact absurd H (by simp)
         ·rw [if_neg c29] at H
          exact absurd H (by simp)
        ·rw [if_neg c28] at H
         exact absurd H (by simp)
       ·rw [if_neg c27] at H
        have c27b0 : decide (x36_2 < (t252.length : Int)) = false := decide_eq_false c27
        clear c27
        simp only [Option.some.injEq, Prod.mk.injEq] at H
        obtain ⟨rfl, rfl⟩ := H
        go_wp2
        go_ret2
        exact ⟨_, by first | rfl | (simp [errW_none, errW_some] <;> rfl) | (simp [*, errW_none, errW_some] <;> rfl), by (with_reducible repeat (first | apply Kd.R_alloc | apply Kd.R_drewN | apply Kd.R_drew)); exact HO_9.out, bl⟩

/-! ### impl_within: function 72 -/
def impl_within.f (a0 : Int) (a1 : Int) (a2 : Int) : Option (Bool) := if a1 ≤ a0 then (some (decide (a0 ≤ a2))) else (some false)
set_option maxHeartbeats 8000000 in
set_option maxRecDepth 100000 in
theorem impl_within.calls (a0 : Int) (a1 : Int) (a2 : Int) (r : Bool) (w : World) (h : impl_within.f a0 a1 a2 = some r) :
  Calls Try.prog 72 #[.int .i64 a0, .int .i64 a1, .int .i64 a2] w fun e w' => e = .returned (.bool r) ∧ Drawn0 w w' := by
 have H : (if a1 ≤ a0 then (some (decide (a0 ≤ a2))) else (some false)) = some r := h
 clear h
 by_cases c4 : a1 ≤ a0
 ·rw [if_pos c4] at H
  have c4b0 : decide (a1 ≤ a0) = true := decide_eq_true c4
  clear c4
  obtain rfl := Option.some.inj H
  go_enter Try.func72, Try.ntmps72
  go_wp2
  go_ret
  exact ⟨by first | rfl | (simp; done) | (simp [*]; done), by repeat (first | exact Drawn0.refl _ | apply Drawn0.step)⟩
 ·rw [if_neg c4] at H
  have c4b0 : decide (a1 ≤ a0) = false := decide_eq_false c4
  clear c4
  obtain rfl := Option.some.inj H
  go_enter Try.func72, Try.ntmps72
  go_wp2
  go_ret
  exact ⟨by first | rfl | (simp; done) | (simp [*]; done), by repeat (first | exact Drawn0.refl _ | apply Drawn0.step)⟩

-- NOT PRINTED: function 118 (impl_Point_118)

-- NOT PRINTED: function 87 (impl_Point_87)

/-! ### impl_abs: function 52 -/
def impl_abs.f (a0 : Int) : Option (Int) := if a0 < 0 then (some (wrap64 (-a0))) else (some a0)
set_option maxHeartbeats 8000000 in
set_option maxRecDepth 100000 in
theorem impl_abs.calls (a0 : Int) (r : Int) (w : World) (h : impl_abs.f a0 = some r) :
  Calls Try.prog 52 #[.int .i64 a0] w fun e w' => e = .returned (.int .i64 r) ∧ Drawn0 w w' := by
 have H : (if a0 < 0 then (some (wrap64 (-a0))) else (some a0)) = some r := h
 clear h
 by_cases c2 : a0 < 0
 ·rw [if_pos c2] at H
  have c2b0 : decide (a0 < 0) = true := decide_eq_true c2
  clear c2
  obtain rfl := Option.some.inj H
  go_enter Try.func52, Try.ntmps52
  go_wp2
  go_ret
  exact ⟨by first | rfl | (simp; done) | (simp [*]; done), by repeat (first | exact Drawn0.refl _ | apply Drawn0.step)⟩
 ·rw [if_neg c2] at H
  have c2b0 : decide (a0 < 0) = false := decide_eq_false c2
  clear c2
  obtain rfl := Option.some.inj H
  go_enter Try.func52, Try.ntmps52
  go_wp2
  go_ret
  exact ⟨by first | rfl | (simp; done) | (simp [*]; done), by repeat (first | exact Drawn0.refl _ | apply Drawn0.step)⟩

/-! ### impl_greatestDivisor: function 136 -/
def impl_greatestDivisor.l0 : Nat → Int → Int → Option (Int)
 | 0, _, _ => none
 | k + 1, x0, x1 => if x1 = 0 then (some x0) else (impl_greatestDivisor.l0 k x1 (Int.tmod x0 x1))
def impl_greatestDivisor.f (k : Nat) (a0 : Int) (a1 : Int) : Option (Int) := (impl_abs.f a0).bind fun t261 => ((impl_abs.f a1).bind fun t262 => (impl_greatestDivisor.l0 k t261 t262))
set_option maxHeartbeats 8000000 in
set_option maxRecDepth 100000 in
theorem impl_greatestDivisor.calls (k : Nat) (a0 : Int) (a1 : Int) (r : Int) (w : World) (h : impl_greatestDivisor.f k a0 a1 = some r) :
  Calls Try.prog 136 #[.int .i64 a0, .int .i64 a1] w fun e w' => e = .returned (.int .i64 r) ∧ Drawn0 w w' := by
 have H : ((impl_abs.f a0).bind fun t261 => ((impl_abs.f a1).bind fun t262 => (impl_greatestDivisor.l0 k t261 t262))) = some r := h
 clear h
 replace H := Option.bind_eq_some_iff.mp H
 obtain ⟨t261, A30, H⟩ := H
 replace H : ((impl_abs.f a1).bind fun t262 => (impl_greatestDivisor.l0 k t261 t262)) = some r := H
 have A3 := Aside0.mk A30
 clear A30
 replace H := Option.bind_eq_some_iff.mp H
 obtain ⟨t262, A40, H⟩ := H
 replace H : (impl_greatestDivisor.l0 k t261 t262) = some r := H
 have A4 := Aside0.mk A40
 clear A40
 have H' := Aside0.mk H
 clear H
 go_enter Try.func136, Try.ntmps136
 go_wp2_with (first | (go_at_call 52; (with_reducible refine (impl_abs.calls a0 t261 _ A3.out).mono ?_); rintro e w' ⟨rfl, ⟨nd, rfl⟩⟩; (try first | exact ⟨rfl, _, World.drewN_drewN _ _ _⟩ | exact ⟨rfl, _, Eq.trans (World.drewN_drewN _ _ _) (congrArg (World.drewN _) (Nat.add_assoc _ _ _))⟩)) | (go_at_call 52; (with_reducible refine (impl_abs.calls a1 t262 _ A4.out).mono ?_); rintro e w' ⟨rfl, ⟨nd, rfl⟩⟩; (try first | exact ⟨rfl, _, World.drewN_drewN _ _ _⟩ | exact ⟨rfl, _, Eq.trans (World.drewN_drewN _ _ _) (congrArg (World.drewN _) (Nat.add_assoc _ _ _))⟩)))
 repeat (go_quiet (first | (go_at_call 52; (with_reducible refine (impl_abs.calls a0 t261 _ A3.out).mono ?_); rintro e w' ⟨rfl, ⟨nd, rfl⟩⟩; (try first | exact ⟨rfl, _, World.drewN_drewN _ _ _⟩ | exact ⟨rfl, _, Eq.trans (World.drewN_drewN _ _ _) (congrArg (World.drewN _) (Nat.add_assoc _ _ _))⟩)) | (go_at_call 52; (with_reducible refine (impl_abs.calls a1 t262 _ A4.out).mono ?_); rintro e w' ⟨rfl, ⟨nd, rfl⟩⟩; (try first | exact ⟨rfl, _, World.drewN_drewN _ _ _⟩ | exact ⟨rfl, _, Eq.trans (World.drewN_drewN _ _ _) (congrArg (World.drewN _) (Nat.add_assoc _ _ _))⟩))); try go_wp2_with (first | (go_at_call 52; (with_reducible refine (impl_abs.calls a0 t261 _ A3.out).mono ?_); rintro e w' ⟨rfl, ⟨nd, rfl⟩⟩; (try first | exact ⟨rfl, _, World.drewN_drewN _ _ _⟩ | exact ⟨rfl, _, Eq.trans (World.drewN_drewN _ _ _) (congrArg (World.drewN _) (Nat.add_assoc _ _ _))⟩)) | (go_at_call 52; (with_reducible refine (impl_abs.calls a1 t262 _ A4.out).mono ?_); rintro e w' ⟨rfl, ⟨nd, rfl⟩⟩; (try first | exact ⟨rfl, _, World.drewN_drewN _ _ _⟩ | exact ⟨rfl, _, Eq.trans (World.drewN_drewN _ _ _) (congrArg (World.drewN _) (Nat.add_assoc _ _ _))⟩))))
 go_loopg [0, 1] k (fun kq v0 v1 w' => ∃ (x0_1 : Int) (x1_1 : Int), v0 = .int .i64 x0_1 ∧ v1 = .int .i64 x1_1 ∧ Aside0 (impl_greatestDivisor.l0 kq x0_1 x1_1 = some r) ∧ Aside0 (kq ≤ k) ∧ Drawn0 w w')
 case atStart => exact ⟨(t261), (t262), (by first | rfl | (simp; done) | (simp [*]; done)), (by first | rfl | (simp; done) | (simp [*]; done)), H', ⟨Nat.le_refl _⟩, by repeat (first | exact Drawn0.refl _ | apply Drawn0.step)⟩
 case round =>
  clear H'
  try clear c1
  try clear p2
  obtain ⟨x0_1, x1_1, rfl, rfl, HA, HK1, ⟨m1, rfl⟩⟩ := hrel
  cases gk with
  | zero => exact absurd HA.out (by simp [impl_greatestDivisor.l0])
  | succ k1 =>
   have H := HA.out
   clear HA
   simp only [impl_greatestDivisor.l0] at H
   by_cases c5 : x1_1 = 0
   ·rw [if_pos c5] at H
    have c5b0 : (x1_1 == 0) = true := beq_iff_eq.mpr c5
    have c5b1 : (x1_1 != 0) = false := bne_eq_false_iff_eq.mpr c5
    clear c5
    obtain rfl := Option.some.inj H
    go_wp2
    repeat (go_quiet (fail); try go_wp2)
    go_ret
    exact ⟨by first | rfl | (simp; done) | (simp [*]; done), by repeat (first | exact Drawn0.refl _ | apply Drawn0.step)⟩
   ·rw [if_neg c5] at H
    have c5b0 : (x1_1 == 0) = false := beq_eq_false_iff_ne.mpr c5
    have c5b1 : (x1_1 != 0) = true := bne_iff_ne.mpr c5
    have H' := Aside0.mk H
    clear H
    go_wp2
    repeat (go_quiet (fail); try go_wp2)
    go_roundg k1
    case measure => have := HK1.out; omega
    case rel => exact ⟨(x1_1), (Int.tmod x0_1 x1_1), (by first | rfl | (simp; done) | (simp [*]; done)), (by first | rfl | (simp; done) | (simp [*]; done)), H', ⟨by have := HK1.out; omega⟩, by repeat (first | exact Drawn0.refl _ | apply Drawn0.step)⟩

end Go.Proofs.Ytmecnnnagallnaa.PFnExactPiecesOf
