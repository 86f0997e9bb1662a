-- Written by this session's program wip/pp (the kit's print tool with additions) 35421559b90ae4d0a3588c463048766b98c2df88dd9212a6774a882060cdf62d
import Derived.Test.YtmecnnnagallnaaPFnExactPiecesOfx0
import Derived.Test.YtmecnnnagallnaaPFnExactPiecesOfx6
namespace Go.Proofs.Ytmecnnnagallnaa.PFnExactPiecesOf
open Go.RowKit Go.Proofs.YtmecnnnagallnaaW.PrintWords Go.Proofs.YtmecnnnagallnaaW.PrintLast Go.Proofs.YtmecnnnagallnaaW.PrintMore
attribute [local go_sem] max2_int min2_int max_two min_two max_three min_three max_four min_four   -- for this text's walks alone
set_option linter.unusedVariables false
set_option linter.unusedSimpArgs false

/-! ### spec_imOn: function 135 -/
def spec_imOn.f (k : Nat) (a0_0 : Int) (a0_1 : Int) (a0_2 : Int) (a0_3 : Int) (a1_0 : Int) (a1_1 : Int) (a1_2 : Int) (a1_3 : Int) (a2_0 : Int) (a2_1 : Int) : Option (Int × Int × Bool) := (spec_raSub.f k a2_0 a2_1 a0_0 a0_1).bind fun bt215 => ((spec_imSlope.f k a0_0 a0_1 a0_2 a0_3 a1_0 a1_1 a1_2 a1_3).bind fun bt219 => ((spec_raMul.f k bt215.1 bt215.2.1 bt219.1 bt219.2).bind fun bt221 => (if bt215.2.2 = true then (if bt221.2.2 = true then ((spec_raAdd.f k a0_2 a0_3 bt221.1 bt221.2.1).bind fun bt225 => (some (bt225.1, bt225.2.1, bt225.2.2))) else (some (0, 0, false))) else (some (0, 0, false)))))
def spec_imOn.T2 : Bool × List (List Nat × List Nat) := (true, [([], []), ([], []), ([], []), ([1, 2], [1, 2]), ([0, 3, 3], [0, 3]), ([4], [4]), ([5], [5]), ([5], [5]), ([], []), ([8, 6, 4, 0, 1, 2, 3, 4, 5, 6, 8], [6, 8]), ([7, 9, 0, 1, 2, 3, 4, 5, 6, 7, 8, 9], [7])])
def spec_imOn.B2 : List Nat := [0, 0, 0, 6, 15, 31, 63, 63, 0, 383, 1023]
theorem spec_imOn.tab2 : rtab .any (opsOf Try.f135 2) = spec_imOn.T2 := by kernel_rfl
theorem spec_imOn.bits2 : waitsOk spec_imOn.T2.2 spec_imOn.B2 = true := by kernel_rfl
set_option maxHeartbeats 8000000 in
set_option maxRecDepth 100000 in
theorem spec_imOn.calls (k : Nat) (a0_0 : Int) (a0_1 : Int) (a0_2 : Int) (a0_3 : Int) (a1_0 : Int) (a1_1 : Int) (a1_2 : Int) (a1_3 : Int) (a2_0 : Int) (a2_1 : Int) (r1 : Int) (r2 : Int) (r3 : Bool) (w : World) (h : spec_imOn.f k a0_0 a0_1 a0_2 a0_3 a1_0 a1_1 a1_2 a1_3 a2_0 a2_1 = some (r1, r2, r3)) :
  Calls Try.prog 135 #[.agg #[.int .i64 a0_0, .int .i64 a0_1, .int .i64 a0_2, .int .i64 a0_3], .agg #[.int .i64 a1_0, .int .i64 a1_1, .int .i64 a1_2, .int .i64 a1_3], .agg #[.int .i64 a2_0, .int .i64 a2_1]] w fun e w' => e = .returned (.tuple #[.agg #[.int .i64 r1, .int .i64 r2], .bool r3]) ∧ Below w.heap.size w w' := by
 have hu68 := Try.underlying68
 have hu28 := Try.underlying28
 have HB := Aside0.mk (Below.refl w.heap.size w)
 have H : ((spec_raSub.f k a2_0 a2_1 a0_0 a0_1).bind fun bt215 => ((spec_imSlope.f k a0_0 a0_1 a0_2 a0_3 a1_0 a1_1 a1_2 a1_3).bind fun bt219 => ((spec_raMul.f k bt215.1 bt215.2.1 bt219.1 bt219.2).bind fun bt221 => (if bt215.2.2 = true then (if bt221.2.2 = true then ((spec_raAdd.f k a0_2 a0_3 bt221.1 bt221.2.1).bind fun bt225 => (some (bt225.1, bt225.2.1, bt225.2.2))) else (some (0, 0, false))) else (some (0, 0, false)))))) = some (r1, r2, r3) := h
 clear h
 replace H := Option.bind_eq_some_iff.mp H
 obtain ⟨⟨t215, t216, t217⟩, A40, H⟩ := H
 replace H : ((spec_imSlope.f k a0_0 a0_1 a0_2 a0_3 a1_0 a1_1 a1_2 a1_3).bind fun bt219 => ((spec_raMul.f k t215 t216 bt219.1 bt219.2).bind fun bt221 => (if t217 = true then (if bt221.2.2 = true then ((spec_raAdd.f k a0_2 a0_3 bt221.1 bt221.2.1).bind fun bt225 => (some (bt225.1, bt225.2.1, bt225.2.2))) else (some (0, 0, false))) else (some (0, 0, false))))) = some (r1, r2, r3) := H
 have A4 := Aside0.mk A40
 clear A40
 replace H := Option.bind_eq_some_iff.mp H
 obtain ⟨⟨t219, t220⟩, A50, H⟩ := H
 replace H : ((spec_raMul.f k t215 t216 t219 t220).bind fun bt221 => (if t217 = true then (if bt221.2.2 = true then ((spec_raAdd.f k a0_2 a0_3 bt221.1 bt221.2.1).bind fun bt225 => (some (bt225.1, bt225.2.1, bt225.2.2))) else (some (0, 0, false))) else (some (0, 0, false)))) = some (r1, r2, r3) := H
 have A5 := Aside0.mk A50
 clear A50
 replace H := Option.bind_eq_some_iff.mp H
 obtain ⟨⟨t221, t222, t223⟩, A60, H⟩ := H
 replace H : (if t217 = true then (if t223 = true then ((spec_raAdd.f k a0_2 a0_3 t221 t222).bind fun bt225 => (some (bt225.1, bt225.2.1, bt225.2.2))) else (some (0, 0, false))) else (some (0, 0, false))) = some (r1, r2, r3) := H
 have A6 := Aside0.mk A60
 clear A60
 by_cases c7 : t217 = true
 ·subst c7
  have H1 : (if t223 = true then ((spec_raAdd.f k a0_2 a0_3 t221 t222).bind fun bt225 => (some (bt225.1, bt225.2.1, bt225.2.2))) else (some (0, 0, false))) = some (r1, r2, r3) := by rw [if_pos rfl] at H; exact H
  clear H
  have H := H1
  clear H1
  by_cases c8 : t223 = true
  ·subst c8
   have H1 : ((spec_raAdd.f k a0_2 a0_3 t221 t222).bind fun bt225 => (some (bt225.1, bt225.2.1, bt225.2.2))) = some (r1, r2, r3) := by rw [if_pos rfl] at H; exact H
   clear H
   have H := H1
   clear H1
   replace H := Option.bind_eq_some_iff.mp H
   obtain ⟨⟨t225, t226, t227⟩, A90, H⟩ := H
   replace H : (some (t225, t226, t227)) = some (r1, r2, r3) := H
   have A9 := Aside0.mk A90
   clear A90
   simp only [Option.some.injEq, Prod.mk.injEq] at H
   obtain ⟨rfl, rfl, rfl⟩ := H
   go_enter Try.func135, Try.ntmps135
   try go_wp2_with (first | ((with_reducible refine gate_dst (N := 3) rfl ?_); refine bx 3 #[.int .i64 a0_0, .int .i64 a0_1, .int .i64 a0_2, .int .i64 a0_3] 68 ?_; intro gb211 hg w10 hbox hb; have BK211 := Aside0.mk (hbox); have GW211 := Aside0.mk (bz hg); have GE211 := GW211; replace HB := Aside0.mk (bs hb); clear hb hbox hg) | ((with_reducible refine gate_dst (N := 4) rfl ?_); refine bx 4 #[.int .i64 a1_0, .int .i64 a1_1, .int .i64 a1_2, .int .i64 a1_3] 68 ?_; intro gb212 hg w11 hbox hb; have BK212 := Aside0.mk (hbox); have GW212 := Aside0.mk (bz hg); have GE212 := GW212; have NB211_212 := Aside0.mk (bn gb211 hg); have NB212_211 := Aside0.mk NB211_212.out.symm; replace BK211 := Aside0.mk (bb gb211 hb); replace HB := Aside0.mk (bs hb); clear hb hbox hg) | ((with_reducible refine gate_dst (N := 5) rfl ?_); refine bx 5 #[.int .i64 a2_0, .int .i64 a2_1] 28 ?_; intro gb213 hg w12 hbox hb; have BK213 := Aside0.mk (hbox); have GW213 := Aside0.mk (bz hg); have GE213 := GW213; have NB211_213 := Aside0.mk (bn gb211 hg); have NB213_211 := Aside0.mk NB211_213.out.symm; have NB212_213 := Aside0.mk (bn gb212 hg); have NB213_212 := Aside0.mk NB212_213.out.symm; replace BK211 := Aside0.mk (bb gb211 hb); replace BK212 := Aside0.mk (bb gb212 hb); replace HB := Aside0.mk (bs hb); clear hb hbox hg) | ((with_reducible refine gate_dst (N := 6) rfl ?_); refine bx 6 #[.int .i64 0, .int .i64 0] 28 ?_; intro gb214 hg w13 hbox hb; have BK214 := Aside0.mk (hbox); have GW214 := Aside0.mk (bz hg); have GE214 := GW214; have NB211_214 := Aside0.mk (bn gb211 hg); have NB214_211 := Aside0.mk NB211_214.out.symm; have NB212_214 := Aside0.mk (bn gb212 hg); have NB214_212 := Aside0.mk NB212_214.out.symm; have NB213_214 := Aside0.mk (bn gb213 hg); have NB214_213 := Aside0.mk NB213_214.out.symm; replace BK211 := Aside0.mk (bb gb211 hb); replace BK212 := Aside0.mk (bb gb212 hb); replace BK213 := Aside0.mk (bb gb213 hb); replace HB := Aside0.mk (bs hb); clear hb hbox hg; have hnb14 := NB213_211.out; have hnc14 := NB211_213.out; have hnb15 := NB213_212.out; have hnc15 := NB212_213.out; have hnb16 := NB213_214.out; have hnc16 := NB214_213.out; have hcz17_0 : w13.cell? ⟨gb213, 0, none⟩ = some (.int .i64 a2_0) := (blk_cell BK213.out 0).trans rfl; have hcz17_1 : w13.cell? ⟨gb213, 1, none⟩ = some (.int .i64 a2_1) := (blk_cell BK213.out 1).trans rfl; have hfz17_0 := blk_frozen BK213.out 0; have hfz17_1 := blk_frozen BK213.out 1; have hnb18 := NB211_212.out; have hnc18 := NB212_211.out; have hnb19 := NB211_214.out; have hnc19 := NB214_211.out; have hcz20_0 : w13.cell? ⟨gb211, 0, none⟩ = some (.int .i64 a0_0) := (blk_cell BK211.out 0).trans rfl; have hcz20_1 : w13.cell? ⟨gb211, 1, none⟩ = some (.int .i64 a0_1) := (blk_cell BK211.out 1).trans rfl; have hcz20_2 : w13.cell? ⟨gb211, 2, none⟩ = some (.int .i64 a0_2) := (blk_cell BK211.out 2).trans rfl; have hcz20_3 : w13.cell? ⟨gb211, 3, none⟩ = some (.int .i64 a0_3) := (blk_cell BK211.out 3).trans rfl; have hfz20_0 := blk_frozen BK211.out 0; have hfz20_1 := blk_frozen BK211.out 1; have hfz20_2 := blk_frozen BK211.out 2; have hfz20_3 := blk_frozen BK211.out 3) | ((with_reducible refine gate_callee (f := 101) rfl ?_); refine gl 16 Try.func101 #[.agg #[.int .i64 a2_0, .int .i64 a2_1], .agg #[.int .i64 a0_0, .int .i64 a0_1]] ?_; (with_reducible refine (spec_raSub.calls k a2_0 a2_1 a0_0 a0_1 t215 t216 true _ A4.out).mono ?_); rintro e w21 ⟨rfl, hb⟩; refine ⟨_, rfl, ?_⟩; replace BK211 := Aside0.mk (bb gb211 hb); replace BK212 := Aside0.mk (bb gb212 hb); replace BK213 := Aside0.mk (bb gb213 hb); replace BK214 := Aside0.mk (bb gb214 hb); replace HB := Aside0.mk (bs hb); (try clear hb); (try clear hb2); (try clear hk); (try clear hi)) | ((with_reducible refine gate_dst (N := 8) rfl ?_); refine bx 8 #[.int .i64 0, .int .i64 0] 28 ?_; intro gb218 hg w22 hbox hb; have BK218 := Aside0.mk (hbox); have GW218 := Aside0.mk (bz hg); have GE218 := GW218; have NB211_218 := Aside0.mk (bn gb211 hg); have NB218_211 := Aside0.mk NB211_218.out.symm; have NB212_218 := Aside0.mk (bn gb212 hg); have NB218_212 := Aside0.mk NB212_218.out.symm; have NB213_218 := Aside0.mk (bn gb213 hg); have NB218_213 := Aside0.mk NB213_218.out.symm; have NB214_218 := Aside0.mk (bn gb214 hg); have NB218_214 := Aside0.mk NB214_218.out.symm; replace BK211 := Aside0.mk (bb gb211 hb); replace BK212 := Aside0.mk (bb gb212 hb); replace BK213 := Aside0.mk (bb gb213 hb); replace BK214 := Aside0.mk (bb gb214 hb); replace HB := Aside0.mk (bs hb); clear hb hbox hg; have hnb23 := NB218_211.out; have hnc23 := NB211_218.out; have hnb24 := NB218_212.out; have hnc24 := NB212_218.out; have hnb25 := NB218_213.out; have hnc25 := NB213_218.out; have hnb26 := NB218_214.out; have hnc26 := NB214_218.out; have hcz27_0 : w22.cell? ⟨gb218, 0, none⟩ = some (.int .i64 0) := (blk_cell BK218.out 0).trans rfl; have hcz27_1 : w22.cell? ⟨gb218, 1, none⟩ = some (.int .i64 0) := (blk_cell BK218.out 1).trans rfl; have hfz27_0 := blk_frozen BK218.out 0; have hfz27_1 := blk_frozen BK218.out 1))
   have n0_ : Aside0 (((w22.setCell ⟨gb218, 0, none⟩ (.int .i64 t215)).setCell ⟨gb218, 1, none⟩ (.int .i64 t216)).heap[gb211]? = some (.cells #[.int .i64 a0_0, .int .i64 a0_1, .int .i64 a0_2, .int .i64 a0_3] 68 (0, 0))) := ⟨by (with_reducible repeat (first | refine blk_drewN ?_ _ | refine blk_drew ?_ | refine blk_alloc ?_ _)); refine blk_far ?_ NB211_218.out _; (with_reducible repeat (first | refine blk_drewN ?_ _ | refine blk_drew ?_ | refine blk_alloc ?_ _)); refine blk_far ?_ NB211_218.out _; (with_reducible repeat (first | refine blk_drewN ?_ _ | refine blk_drew ?_ | refine blk_alloc ?_ _)); exact BK211.out⟩
   have n1_ : Aside0 (((w22.setCell ⟨gb218, 0, none⟩ (.int .i64 t215)).setCell ⟨gb218, 1, none⟩ (.int .i64 t216)).heap[gb212]? = some (.cells #[.int .i64 a1_0, .int .i64 a1_1, .int .i64 a1_2, .int .i64 a1_3] 68 (0, 0))) := ⟨by (with_reducible repeat (first | refine blk_drewN ?_ _ | refine blk_drew ?_ | refine blk_alloc ?_ _)); refine blk_far ?_ NB212_218.out _; (with_reducible repeat (first | refine blk_drewN ?_ _ | refine blk_drew ?_ | refine blk_alloc ?_ _)); refine blk_far ?_ NB212_218.out _; (with_reducible repeat (first | refine blk_drewN ?_ _ | refine blk_drew ?_ | refine blk_alloc ?_ _)); exact BK212.out⟩
   have n2_ : Aside0 (((w22.setCell ⟨gb218, 0, none⟩ (.int .i64 t215)).setCell ⟨gb218, 1, none⟩ (.int .i64 t216)).heap[gb213]? = some (.cells #[.int .i64 a2_0, .int .i64 a2_1] 28 (0, 0))) := ⟨by (with_reducible repeat (first | refine blk_drewN ?_ _ | refine blk_drew ?_ | refine blk_alloc ?_ _)); refine blk_far ?_ NB213_218.out _; (with_reducible repeat (first | refine blk_drewN ?_ _ | refine blk_drew ?_ | refine blk_alloc ?_ _)); refine blk_far ?_ NB213_218.out _; (with_reducible repeat (first | refine blk_drewN ?_ _ | refine blk_drew ?_ | refine blk_alloc ?_ _)); exact BK213.out⟩
   have n3_ : Aside0 (((w22.setCell ⟨gb218, 0, none⟩ (.int .i64 t215)).setCell ⟨gb218, 1, none⟩ (.int .i64 t216)).heap[gb214]? = some (.cells #[.int .i64 0, .int .i64 0] 28 (0, 0))) := ⟨by (with_reducible repeat (first | refine blk_drewN ?_ _ | refine blk_drew ?_ | refine blk_alloc ?_ _)); refine blk_far ?_ NB214_218.out _; (with_reducible repeat (first | refine blk_drewN ?_ _ | refine blk_drew ?_ | refine blk_alloc ?_ _)); refine blk_far ?_ NB214_218.out _; (with_reducible repeat (first | refine blk_drewN ?_ _ | refine blk_drew ?_ | refine blk_alloc ?_ _)); exact BK214.out⟩
   have n4_ : Aside0 (((w22.setCell ⟨gb218, 0, none⟩ (.int .i64 t215)).setCell ⟨gb218, 1, none⟩ (.int .i64 t216)).heap[gb218]? = some (.cells #[.int .i64 t215, .int .i64 t216] 28 (0, 0))) := ⟨by (with_reducible repeat (first | refine blk_drewN ?_ _ | refine blk_drew ?_ | refine blk_alloc ?_ _)); refine blk_put (cs := #[.int .i64 t215, .int .i64 0]) ?_ 1 _ rfl; (with_reducible repeat (first | refine blk_drewN ?_ _ | refine blk_drew ?_ | refine blk_alloc ?_ _)); refine blk_put (cs := #[.int .i64 0, .int .i64 0]) ?_ 0 _ rfl; (with_reducible repeat (first | refine blk_drewN ?_ _ | refine blk_drew ?_ | refine blk_alloc ?_ _)); exact BK218.out⟩
   have n5_ : Aside0 (Below w.heap.size w ((w22.setCell ⟨gb218, 0, none⟩ (.int .i64 t215)).setCell ⟨gb218, 1, none⟩ (.int .i64 t216))) := ⟨bl⟩
   (try clear BK211)
   (try clear BK212)
   (try clear BK213)
   (try clear BK214)
   (try clear BK218)
   (try clear HB)
   generalize ((w22.setCell ⟨gb218, 0, none⟩ (.int .i64 t215)).setCell ⟨gb218, 1, none⟩ (.int .i64 t216)) = w28 at n0_ n1_ n2_ n3_ n4_ n5_ ⊢
   have BK211 := n0_
   have BK212 := n1_
   have BK213 := n2_
   have BK214 := n3_
   have BK218 := n4_
   have HB := n5_
   clear n0_ n1_ n2_ n3_ n4_ n5_
   replace BK211 := Aside0.mk (blk_drew BK211.out)
   replace BK212 := Aside0.mk (blk_drew BK212.out)
   replace BK213 := Aside0.mk (blk_drew BK213.out)
   replace BK214 := Aside0.mk (blk_drew BK214.out)
   replace BK218 := Aside0.mk (blk_drew BK218.out)
   replace HB := Aside0.mk (below_drew1 HB.out)
   refine start_ (n := 11) (S := fun w' => w'.cell? ⟨gb218, 0, none⟩ = some (.int .i64 t215) ∧ w'.cell? ⟨gb218, 1, none⟩ = some (.int .i64 t216) ∧ w'.cell? ⟨gb211, 0, none⟩ = some (.int .i64 a0_0) ∧ w'.cell? ⟨gb211, 1, none⟩ = some (.int .i64 a0_1) ∧ w'.cell? ⟨gb211, 2, none⟩ = some (.int .i64 a0_2) ∧ w'.cell? ⟨gb211, 3, none⟩ = some (.int .i64 a0_3) ∧ w'.cell? ⟨gb212, 0, none⟩ = some (.int .i64 a1_0) ∧ w'.cell? ⟨gb212, 1, none⟩ = some (.int .i64 a1_1) ∧ w'.cell? ⟨gb212, 2, none⟩ = some (.int .i64 a1_2) ∧ w'.cell? ⟨gb212, 3, none⟩ = some (.int .i64 a1_3)) (ds := []) (tb 0 11) (by kernel_rfl) rfl rfl ⟨(blk_cell BK218.out 0).trans rfl, (blk_cell BK218.out 1).trans rfl, (blk_cell BK211.out 0).trans rfl, (blk_cell BK211.out 1).trans rfl, (blk_cell BK211.out 2).trans rfl, (blk_cell BK211.out 3).trans rfl, (blk_cell BK212.out 0).trans rfl, (blk_cell BK212.out 1).trans rfl, (blk_cell BK212.out 2).trans rfl, (blk_cell BK212.out 3).trans rfl⟩ (fun hHeld => ?_); refine with_tabW spec_imOn.tab2 spec_imOn.bits2 (fun HT_ HW_ => ?_)
   generalize w28.drew = w29 at BK211 BK212 BK213 BK214 BK218 HB hHeld ⊢
   refine tk 0 20 (tb 1 10) (hy := by rintro w' ⟨s0, s1, s2, s3, s4, s5, s6, s7, s8, s9⟩; go_simp; with_reducible rfl) (h := ?_)
   refine tk 1 21 (tb 2 9) (hy := by rintro w' ⟨s0, s1, s2, s3, s4, s5, s6, s7, s8, s9⟩; go_simp; with_reducible rfl) (h := ?_)
   refine tk 2 22 (tb 3 8) (hy := by rintro w' ⟨s0, s1, s2, s3, s4, s5, s6, s7, s8, s9⟩; go_simp; with_reducible rfl) (h := ?_)
   refine join_ (σ := Nat) 2 (tb 9 2) (fun s_ => [(23, .agg #[.int .i64 t219, .int .i64 t220]), (24, .tuple #[.agg #[.int .i64 t221, .int .i64 t222], .bool true]), (10, .pointer (some ⟨s_, 0, none⟩)), (19, .tuple #[.agg #[.int .i64 t221, .int .i64 t222], .bool true]), (25, .agg #[.int .i64 t221, .int .i64 t222]), (26, .bool true)]) (fun s_ w' => (w'.cell? ⟨gb218, 0, none⟩ = some (.int .i64 t215) ∧ w'.cell? ⟨gb218, 1, none⟩ = some (.int .i64 t216) ∧ w'.cell? ⟨gb211, 0, none⟩ = some (.int .i64 a0_0) ∧ w'.cell? ⟨gb211, 1, none⟩ = some (.int .i64 a0_1) ∧ w'.cell? ⟨gb211, 2, none⟩ = some (.int .i64 a0_2) ∧ w'.cell? ⟨gb211, 3, none⟩ = some (.int .i64 a0_3) ∧ w'.cell? ⟨gb212, 0, none⟩ = some (.int .i64 a1_0) ∧ w'.cell? ⟨gb212, 1, none⟩ = some (.int .i64 a1_1) ∧ w'.cell? ⟨gb212, 2, none⟩ = some (.int .i64 a1_2) ∧ w'.cell? ⟨gb212, 3, none⟩ = some (.int .i64 a1_3)) ∧ (w'.heap[gb211]? = some (.cells #[.int .i64 a0_0, .int .i64 a0_1, .int .i64 a0_2, .int .i64 a0_3] 68 (0, 0))) ∧ (w'.heap[gb212]? = some (.cells #[.int .i64 a1_0, .int .i64 a1_1, .int .i64 a1_2, .int .i64 a1_3] 68 (0, 0))) ∧ (w'.heap[gb213]? = some (.cells #[.int .i64 a2_0, .int .i64 a2_1] 28 (0, 0))) ∧ (w'.heap[gb214]? = some (.cells #[.int .i64 0, .int .i64 0] 28 (0, 0))) ∧ (w'.heap[gb218]? = some (.cells #[.int .i64 t215, .int .i64 t216] 28 (0, 0))) ∧ (w'.heap[s_]? = some (.cells #[.int .i64 0, .int .i64 0] 28 (0, 0))) ∧ (w.heap.size ≤ s_) ∧ (w.heap.size ≤ s_) ∧ (gb211 ≠ s_) ∧ (s_ ≠ gb211) ∧ (gb212 ≠ s_) ∧ (s_ ≠ gb212) ∧ (gb213 ≠ s_) ∧ (s_ ≠ gb213) ∧ (gb214 ≠ s_) ∧ (s_ ≠ gb214) ∧ (gb218 ≠ s_) ∧ (s_ ≠ gb218) ∧ (Below w.heap.size w w')) ?_ ?_
   rotate_left
   ·intro hCont
    refine two_ (i := 3) (j := 8) (Ni := some 23) (Nj := some 10) (tb 4 7) #[true, true, true, false, false, false, false, false, true, false, false] rfl rfl rfl rfl (two_of HT_.out (by kernel_rfl)) (by decide) (by decide) (fun K hK => ?_) (fun K hK => ?_)
    ·skip
     refine gs Try.func84 #[.agg #[.int .i64 a0_0, .int .i64 a0_1, .int .i64 a0_2, .int .i64 a0_3], .agg #[.int .i64 a1_0, .int .i64 a1_1, .int .i64 a1_2, .int .i64 a1_3]] ?_
     with_reducible refine (spec_imSlope.calls k a0_0 a0_1 a0_2 a0_3 a1_0 a1_1 a1_2 a1_3 t219 t220 _ A5.out).mono ?_
     rintro e w30 ⟨rfl, hb⟩
     refine ⟨_, rfl, ?_⟩
     replace BK211 := Aside0.mk (bb gb211 hb)
     replace BK212 := Aside0.mk (bb gb212 hb)
     replace BK213 := Aside0.mk (bb gb213 hb)
     replace BK214 := Aside0.mk (bb gb214 hb)
     replace BK218 := Aside0.mk (bb gb218 hb)
     replace HB := Aside0.mk (bs hb)
     (try clear hb)
     (try clear hb2)
     (try clear hk)
     (try clear hi)
     refine hK.out _ _ ⟨(blk_cell BK218.out 0).trans rfl, (blk_cell BK218.out 1).trans rfl, (blk_cell BK211.out 0).trans rfl, (blk_cell BK211.out 1).trans rfl, (blk_cell BK211.out 2).trans rfl, (blk_cell BK211.out 3).trans rfl, (blk_cell BK212.out 0).trans rfl, (blk_cell BK212.out 1).trans rfl, (blk_cell BK212.out 2).trans rfl, (blk_cell BK212.out 3).trans rfl⟩ (fun hHeld => ?_)
     clear hK K
     refine nm 23 ?_
     refine two_ (i := 4) (j := 8) (Ni := some 24) (Nj := some 10) (tb 5 6) #[true, true, true, true, false, false, false, false, true, false, false] rfl rfl rfl rfl (two_of HT_.out (by kernel_rfl)) (by decide) (by decide) (fun K hK => ?_) (fun K hK => ?_)
     ·skip
      refine gs Try.func100 #[.agg #[.int .i64 t215, .int .i64 t216], .agg #[.int .i64 t219, .int .i64 t220]] ?_
      with_reducible refine (spec_raMul.calls k t215 t216 t219 t220 t221 t222 true _ A6.out).mono ?_
      rintro e w31 ⟨rfl, hb⟩
      refine ⟨_, rfl, ?_⟩
      replace BK211 := Aside0.mk (bb gb211 hb)
      replace BK212 := Aside0.mk (bb gb212 hb)
      replace BK213 := Aside0.mk (bb gb213 hb)
      replace BK214 := Aside0.mk (bb gb214 hb)
      replace BK218 := Aside0.mk (bb gb218 hb)
      replace HB := Aside0.mk (bs hb)
      (try clear hb)
      (try clear hb2)
      (try clear hk)
      (try clear hi)
      refine hK.out _ _ ⟨(blk_cell BK218.out 0).trans rfl, (blk_cell BK218.out 1).trans rfl, (blk_cell BK211.out 0).trans rfl, (blk_cell BK211.out 1).trans rfl, (blk_cell BK211.out 2).trans rfl, (blk_cell BK211.out 3).trans rfl, (blk_cell BK212.out 0).trans rfl, (blk_cell BK212.out 1).trans rfl, (blk_cell BK212.out 2).trans rfl, (blk_cell BK212.out 3).trans rfl⟩ (fun hHeld => ?_)
      clear hK K
      refine nm 24 ?_
      refine pu 5 19 (tb 6 5) ?_
      refine pu 6 25 (tb 7 4) ?_
      refine pu 7 26 (tb 8 3) ?_
      refine on 8 10 (tb 9 2) (fun K hK => ?_)
      refine box_step ?hg (N := 10) ?hd (cs := #[.int .i64 0, .int .i64 0]) (t := 28) ?hr ?_; (case hd => rfl); (case hg => rfl); (case hr => first | (go_simp; done) | (go_simp; rfl))
      intro gb224 hg w32 hbox hb
      have BK224 := Aside0.mk (hbox)
      have GW224 := Aside0.mk (bz hg)
      have GE224 := GW224
      have NB211_224 := Aside0.mk (bn gb211 hg)
      have NB224_211 := Aside0.mk NB211_224.out.symm
      have NB212_224 := Aside0.mk (bn gb212 hg)
      have NB224_212 := Aside0.mk NB212_224.out.symm
      have NB213_224 := Aside0.mk (bn gb213 hg)
      have NB224_213 := Aside0.mk NB213_224.out.symm
      have NB214_224 := Aside0.mk (bn gb214 hg)
      have NB224_214 := Aside0.mk NB214_224.out.symm
      have NB218_224 := Aside0.mk (bn gb218 hg)
      have NB224_218 := Aside0.mk NB218_224.out.symm
      replace BK211 := Aside0.mk (bb gb211 hb)
      replace BK212 := Aside0.mk (bb gb212 hb)
      replace BK213 := Aside0.mk (bb gb213 hb)
      replace BK214 := Aside0.mk (bb gb214 hb)
      replace BK218 := Aside0.mk (bb gb218 hb)
      replace HB := Aside0.mk (bs hb)
      clear hb hbox hg
      refine hK.out _ _ ⟨(blk_cell BK218.out 0).trans rfl, (blk_cell BK218.out 1).trans rfl, (blk_cell BK211.out 0).trans rfl, (blk_cell BK211.out 1).trans rfl, (blk_cell BK211.out 2).trans rfl, (blk_cell BK211.out 3).trans rfl, (blk_cell BK212.out 0).trans rfl, (blk_cell BK212.out 1).trans rfl, (blk_cell BK212.out 2).trans rfl, (blk_cell BK212.out 3).trans rfl⟩ (fun hHeld => ?_)
      clear hK K
      refine nm 10 ?_
      exact norm_ (by simp only [putAll, Act.put, List.setIfInBounds_toArray, List.set_cons_zero, List.set_cons_succ]) (hCont (gb224) _ ⟨hHeld, (bo gb211), (bo gb212), (bo gb213), (bo gb214), (bo gb218), (bo gb224), GW224.out, GE224.out, NB211_224.out, NB224_211.out, NB212_224.out, NB224_212.out, NB213_224.out, NB224_213.out, NB214_224.out, NB224_214.out, NB218_224.out, NB224_218.out, bl⟩)
     ·skip
      refine box_step ?hg (N := 10) ?hd (cs := #[.int .i64 0, .int .i64 0]) (t := 28) ?hr ?_; (case hd => rfl); (case hg => rfl); (case hr => first | (go_simp; done) | (go_simp; rfl))
      intro gb224 hg w31 hbox hb
      have BK224 := Aside0.mk (hbox)
      have GW224 := Aside0.mk (bz hg)
      have GE224 := GW224
      have NB211_224 := Aside0.mk (bn gb211 hg)
      have NB224_211 := Aside0.mk NB211_224.out.symm
      have NB212_224 := Aside0.mk (bn gb212 hg)
      have NB224_212 := Aside0.mk NB212_224.out.symm
      have NB213_224 := Aside0.mk (bn gb213 hg)
      have NB224_213 := Aside0.mk NB213_224.out.symm
      have NB214_224 := Aside0.mk (bn gb214 hg)
      have NB224_214 := Aside0.mk NB214_224.out.symm
      have NB218_224 := Aside0.mk (bn gb218 hg)
      have NB224_218 := Aside0.mk NB218_224.out.symm
      replace BK211 := Aside0.mk (bb gb211 hb)
      replace BK212 := Aside0.mk (bb gb212 hb)
      replace BK213 := Aside0.mk (bb gb213 hb)
      replace BK214 := Aside0.mk (bb gb214 hb)
      replace BK218 := Aside0.mk (bb gb218 hb)
      replace HB := Aside0.mk (bs hb)
      clear hb hbox hg
      refine hK.out _ _ ⟨(blk_cell BK218.out 0).trans rfl, (blk_cell BK218.out 1).trans rfl, (blk_cell BK211.out 0).trans rfl, (blk_cell BK211.out 1).trans rfl, (blk_cell BK211.out 2).trans rfl, (blk_cell BK211.out 3).trans rfl, (blk_cell BK212.out 0).trans rfl, (blk_cell BK212.out 1).trans rfl, (blk_cell BK212.out 2).trans rfl, (blk_cell BK212.out 3).trans rfl⟩ (fun hHeld => ?_)
      clear hK K
      refine nm 10 ?_
      refine on 4 24 #[true, true, true, true, true, false, false, false, true, false, false] (fun K hK => ?_)
      refine gs Try.func100 #[.agg #[.int .i64 t215, .int .i64 t216], .agg #[.int .i64 t219, .int .i64 t220]] ?_
      with_reducible refine (spec_raMul.calls k t215 t216 t219 t220 t221 t222 true _ A6.out).mono ?_
      rintro e w32 ⟨rfl, hb⟩
      refine ⟨_, rfl, ?_⟩
      replace BK211 := Aside0.mk (bb gb211 hb)
      replace BK212 := Aside0.mk (bb gb212 hb)
      replace BK213 := Aside0.mk (bb gb213 hb)
      replace BK214 := Aside0.mk (bb gb214 hb)
      replace BK218 := Aside0.mk (bb gb218 hb)
      replace BK224 := Aside0.mk (bb gb224 hb)
      replace HB := Aside0.mk (bs hb)
      (try clear hb)
      (try clear hb2)
      (try clear hk)
      (try clear hi)
      refine hK.out _ _ ⟨(blk_cell BK218.out 0).trans rfl, (blk_cell BK218.out 1).trans rfl, (blk_cell BK211.out 0).trans rfl, (blk_cell BK211.out 1).trans rfl, (blk_cell BK211.out 2).trans rfl, (blk_cell BK211.out 3).trans rfl, (blk_cell BK212.out 0).trans rfl, (blk_cell BK212.out 1).trans rfl, (blk_cell BK212.out 2).trans rfl, (blk_cell BK212.out 3).trans rfl⟩ (fun hHeld => ?_)
      clear hK K
      refine nm 24 ?_
      refine pu 5 19 #[true, true, true, true, true, true, false, false, true, false, false] ?_
      refine pu 6 25 #[true, true, true, true, true, true, true, false, true, false, false] ?_
      refine pu 7 26 (tb 9 2) ?_
      exact norm_ (by simp only [putAll, Act.put, List.setIfInBounds_toArray, List.set_cons_zero, List.set_cons_succ]) (hCont (gb224) _ ⟨hHeld, (bo gb211), (bo gb212), (bo gb213), (bo gb214), (bo gb218), (bo gb224), GW224.out, GE224.out, NB211_224.out, NB224_211.out, NB212_224.out, NB224_212.out, NB213_224.out, NB224_213.out, NB214_224.out, NB224_214.out, NB218_224.out, NB224_218.out, bl⟩)
    ·skip
     refine box_step ?hg (N := 10) ?hd (cs := #[.int .i64 0, .int .i64 0]) (t := 28) ?hr ?_; (case hd => rfl); (case hg => rfl); (case hr => first | (go_simp; done) | (go_simp; rfl))
     intro gb224 hg w30 hbox hb
     have BK224 := Aside0.mk (hbox)
     have GW224 := Aside0.mk (bz hg)
     have GE224 := GW224
     have NB211_224 := Aside0.mk (bn gb211 hg)
     have NB224_211 := Aside0.mk NB211_224.out.symm
     have NB212_224 := Aside0.mk (bn gb212 hg)
     have NB224_212 := Aside0.mk NB212_224.out.symm
     have NB213_224 := Aside0.mk (bn gb213 hg)
     have NB224_213 := Aside0.mk NB213_224.out.symm
     have NB214_224 := Aside0.mk (bn gb214 hg)
     have NB224_214 := Aside0.mk NB214_224.out.symm
     have NB218_224 := Aside0.mk (bn gb218 hg)
     have NB224_218 := Aside0.mk NB218_224.out.symm
     replace BK211 := Aside0.mk (bb gb211 hb)
     replace BK212 := Aside0.mk (bb gb212 hb)
     replace BK213 := Aside0.mk (bb gb213 hb)
     replace BK214 := Aside0.mk (bb gb214 hb)
     replace BK218 := Aside0.mk (bb gb218 hb)
     replace HB := Aside0.mk (bs hb)
     clear hb hbox hg
     refine hK.out _ _ ⟨(blk_cell BK218.out 0).trans rfl, (blk_cell BK218.out 1).trans rfl, (blk_cell BK211.out 0).trans rfl, (blk_cell BK211.out 1).trans rfl, (blk_cell BK211.out 2).trans rfl, (blk_cell BK211.out 3).trans rfl, (blk_cell BK212.out 0).trans rfl, (blk_cell BK212.out 1).trans rfl, (blk_cell BK212.out 2).trans rfl, (blk_cell BK212.out 3).trans rfl⟩ (fun hHeld => ?_)
     clear hK K
     refine nm 10 ?_
     refine on 3 23 #[true, true, true, true, false, false, false, false, true, false, false] (fun K hK => ?_)
     refine gs Try.func84 #[.agg #[.int .i64 a0_0, .int .i64 a0_1, .int .i64 a0_2, .int .i64 a0_3], .agg #[.int .i64 a1_0, .int .i64 a1_1, .int .i64 a1_2, .int .i64 a1_3]] ?_
     with_reducible refine (spec_imSlope.calls k a0_0 a0_1 a0_2 a0_3 a1_0 a1_1 a1_2 a1_3 t219 t220 _ A5.out).mono ?_
     rintro e w31 ⟨rfl, hb⟩
     refine ⟨_, rfl, ?_⟩
     replace BK211 := Aside0.mk (bb gb211 hb)
     replace BK212 := Aside0.mk (bb gb212 hb)
     replace BK213 := Aside0.mk (bb gb213 hb)
     replace BK214 := Aside0.mk (bb gb214 hb)
     replace BK218 := Aside0.mk (bb gb218 hb)
     replace BK224 := Aside0.mk (bb gb224 hb)
     replace HB := Aside0.mk (bs hb)
     (try clear hb)
     (try clear hb2)
     (try clear hk)
     (try clear hi)
     refine hK.out _ _ ⟨(blk_cell BK218.out 0).trans rfl, (blk_cell BK218.out 1).trans rfl, (blk_cell BK211.out 0).trans rfl, (blk_cell BK211.out 1).trans rfl, (blk_cell BK211.out 2).trans rfl, (blk_cell BK211.out 3).trans rfl, (blk_cell BK212.out 0).trans rfl, (blk_cell BK212.out 1).trans rfl, (blk_cell BK212.out 2).trans rfl, (blk_cell BK212.out 3).trans rfl⟩ (fun hHeld => ?_)
     clear hK K
     refine nm 23 ?_
     refine on 4 24 #[true, true, true, true, true, false, false, false, true, false, false] (fun K hK => ?_)
     refine gs Try.func100 #[.agg #[.int .i64 t215, .int .i64 t216], .agg #[.int .i64 t219, .int .i64 t220]] ?_
     with_reducible refine (spec_raMul.calls k t215 t216 t219 t220 t221 t222 true _ A6.out).mono ?_
     rintro e w32 ⟨rfl, hb⟩
     refine ⟨_, rfl, ?_⟩
     replace BK211 := Aside0.mk (bb gb211 hb)
     replace BK212 := Aside0.mk (bb gb212 hb)
     replace BK213 := Aside0.mk (bb gb213 hb)
     replace BK214 := Aside0.mk (bb gb214 hb)
     replace BK218 := Aside0.mk (bb gb218 hb)
     replace BK224 := Aside0.mk (bb gb224 hb)
     replace HB := Aside0.mk (bs hb)
     (try clear hb)
     (try clear hb2)
     (try clear hk)
     (try clear hi)
     refine hK.out _ _ ⟨(blk_cell BK218.out 0).trans rfl, (blk_cell BK218.out 1).trans rfl, (blk_cell BK211.out 0).trans rfl, (blk_cell BK211.out 1).trans rfl, (blk_cell BK211.out 2).trans rfl, (blk_cell BK211.out 3).trans rfl, (blk_cell BK212.out 0).trans rfl, (blk_cell BK212.out 1).trans rfl, (blk_cell BK212.out 2).trans rfl, (blk_cell BK212.out 3).trans rfl⟩ (fun hHeld => ?_)
     clear hK K
     refine nm 24 ?_
     refine pu 5 19 #[true, true, true, true, true, true, false, false, true, false, false] ?_
     refine pu 6 25 #[true, true, true, true, true, true, true, false, true, false, false] ?_
     refine pu 7 26 (tb 9 2) ?_
     exact norm_ (by simp only [putAll, Act.put, List.setIfInBounds_toArray, List.set_cons_zero, List.set_cons_succ]) (hCont (gb224) _ ⟨hHeld, (bo gb211), (bo gb212), (bo gb213), (bo gb214), (bo gb218), (bo gb224), GW224.out, GE224.out, NB211_224.out, NB224_211.out, NB212_224.out, NB224_212.out, NB213_224.out, NB224_213.out, NB214_224.out, NB224_214.out, NB218_224.out, NB224_218.out, bl⟩)
   rintro gb224 w33 ⟨hS_, h0_, h1_, h2_, h3_, h4_, h5_, h6_, h7_, h8_, h9_, h10_, h11_, h12_, h13_, h14_, h15_, h16_, h17_, h18_⟩
   have n0_ : Aside0 (w33.heap[gb211]? = some (.cells #[.int .i64 a0_0, .int .i64 a0_1, .int .i64 a0_2, .int .i64 a0_3] 68 (0, 0))) := ⟨h0_⟩
   have n1_ : Aside0 (w33.heap[gb212]? = some (.cells #[.int .i64 a1_0, .int .i64 a1_1, .int .i64 a1_2, .int .i64 a1_3] 68 (0, 0))) := ⟨h1_⟩
   have n2_ : Aside0 (w33.heap[gb213]? = some (.cells #[.int .i64 a2_0, .int .i64 a2_1] 28 (0, 0))) := ⟨h2_⟩
   have n3_ : Aside0 (w33.heap[gb214]? = some (.cells #[.int .i64 0, .int .i64 0] 28 (0, 0))) := ⟨h3_⟩
   have n4_ : Aside0 (w33.heap[gb218]? = some (.cells #[.int .i64 t215, .int .i64 t216] 28 (0, 0))) := ⟨h4_⟩
   have n5_ : Aside0 (w33.heap[gb224]? = some (.cells #[.int .i64 0, .int .i64 0] 28 (0, 0))) := ⟨h5_⟩
   have n6_ : Aside0 (w.heap.size ≤ gb224) := ⟨h6_⟩
   have n7_ : Aside0 (w.heap.size ≤ gb224) := ⟨h7_⟩
   have n8_ : Aside0 (gb211 ≠ gb224) := ⟨h8_⟩
   have n9_ : Aside0 (gb224 ≠ gb211) := ⟨h9_⟩
   have n10_ : Aside0 (gb212 ≠ gb224) := ⟨h10_⟩
   have n11_ : Aside0 (gb224 ≠ gb212) := ⟨h11_⟩
   have n12_ : Aside0 (gb213 ≠ gb224) := ⟨h12_⟩
   have n13_ : Aside0 (gb224 ≠ gb213) := ⟨h13_⟩
   have n14_ : Aside0 (gb214 ≠ gb224) := ⟨h14_⟩
   have n15_ : Aside0 (gb224 ≠ gb214) := ⟨h15_⟩
   have n16_ : Aside0 (gb218 ≠ gb224) := ⟨h16_⟩
   have n17_ : Aside0 (gb224 ≠ gb218) := ⟨h17_⟩
   have n18_ : Aside0 (Below w.heap.size w w33) := ⟨h18_⟩
   clear BK211
   clear BK212
   clear BK213
   clear BK214
   clear BK218
   clear HB
   clear h0_ h1_ h2_ h3_ h4_ h5_ h6_ h7_ h8_ h9_ h10_ h11_ h12_ h13_ h14_ h15_ h16_ h17_ h18_
   have BK211 := n0_
   have BK212 := n1_
   have BK213 := n2_
   have BK214 := n3_
   have BK218 := n4_
   have BK224 := n5_
   have GW224 := n6_
   have GE224 := n7_
   have NB211_224 := n8_
   have NB224_211 := n9_
   have NB212_224 := n10_
   have NB224_212 := n11_
   have NB213_224 := n12_
   have NB224_213 := n13_
   have NB214_224 := n14_
   have NB224_214 := n15_
   have NB218_224 := n16_
   have NB224_218 := n17_
   have HB := n18_
   clear n0_ n1_ n2_ n3_ n4_ n5_ n6_ n7_ n8_ n9_ n10_ n11_ n12_ n13_ n14_ n15_ n16_ n17_ n18_
   have hHeld : w33.cell? ⟨gb218, 0, none⟩ = some (.int .i64 t215) ∧ w33.cell? ⟨gb218, 1, none⟩ = some (.int .i64 t216) ∧ w33.cell? ⟨gb211, 0, none⟩ = some (.int .i64 a0_0) ∧ w33.cell? ⟨gb211, 1, none⟩ = some (.int .i64 a0_1) ∧ w33.cell? ⟨gb211, 2, none⟩ = some (.int .i64 a0_2) ∧ w33.cell? ⟨gb211, 3, none⟩ = some (.int .i64 a0_3) ∧ w33.cell? ⟨gb212, 0, none⟩ = some (.int .i64 a1_0) ∧ w33.cell? ⟨gb212, 1, none⟩ = some (.int .i64 a1_1) ∧ w33.cell? ⟨gb212, 2, none⟩ = some (.int .i64 a1_2) ∧ w33.cell? ⟨gb212, 3, none⟩ = some (.int .i64 a1_3) := hS_
   refine norm_ (a' := ?_) ?_ ?_
   rotate_left
   ·simp only [putAll, Act.put, List.setIfInBounds_toArray, List.set_cons_zero, List.set_cons_succ]
    rfl
   refine one_ (i := 9) (N := none) (tb 10 1) rfl rfl (one_of HT_.out (by kernel_rfl)) (by decide) (fun K hK => ?_)
   have hs34 : w33.cell? ⟨gb224, 0, none⟩ = some (.int .i64 0) := (blk_cell BK224.out 0).trans rfl
   have hfs34 := blk_frozen BK224.out 0
   have hns34_0 := NB211_224.out
   have hns34_1 := NB212_224.out
   have hns34_2 := NB213_224.out
   have hns34_3 := NB214_224.out
   have hns34_4 := NB218_224.out
   have hms34_0 := NB224_211.out
   have hms34_1 := NB224_212.out
   have hms34_2 := NB224_213.out
   have hms34_3 := NB224_214.out
   have hms34_4 := NB224_218.out
   have hs35 : w33.cell? ⟨gb224, 1, none⟩ = some (.int .i64 0) := (blk_cell BK224.out 1).trans rfl
   have hfs35 := blk_frozen BK224.out 1
   have hns35_0 := NB211_224.out
   have hns35_1 := NB212_224.out
   have hns35_2 := NB213_224.out
   have hns35_3 := NB214_224.out
   have hns35_4 := NB218_224.out
   have hms35_0 := NB224_211.out
   have hms35_1 := NB224_212.out
   have hms35_2 := NB224_213.out
   have hms35_3 := NB224_214.out
   have hms35_4 := NB224_218.out
   refine skip_ (w1 := ?_) (by rfl) rfl ?_ ?_
   rotate_left
   ·go_simp
    rfl
   refine hK.out _ _ ⟨(by (iterate 2 refine (cell_far (p := ⟨gb224, _, none⟩) NB218_224.out _).trans ?_); exact hHeld.1), (by (iterate 2 refine (cell_far (p := ⟨gb224, _, none⟩) NB218_224.out _).trans ?_); exact hHeld.2.1), (by (iterate 2 refine (cell_far (p := ⟨gb224, _, none⟩) NB211_224.out _).trans ?_); exact hHeld.2.2.1), (by (iterate 2 refine (cell_far (p := ⟨gb224, _, none⟩) NB211_224.out _).trans ?_); exact hHeld.2.2.2.1), (by (iterate 2 refine (cell_far (p := ⟨gb224, _, none⟩) NB211_224.out _).trans ?_); exact hHeld.2.2.2.2.1), (by (iterate 2 refine (cell_far (p := ⟨gb224, _, none⟩) NB211_224.out _).trans ?_); exact hHeld.2.2.2.2.2.1), (by (iterate 2 refine (cell_far (p := ⟨gb224, _, none⟩) NB212_224.out _).trans ?_); exact hHeld.2.2.2.2.2.2.1), (by (iterate 2 refine (cell_far (p := ⟨gb224, _, none⟩) NB212_224.out _).trans ?_); exact hHeld.2.2.2.2.2.2.2.1), (by (iterate 2 refine (cell_far (p := ⟨gb224, _, none⟩) NB212_224.out _).trans ?_); exact hHeld.2.2.2.2.2.2.2.2.1), (by (iterate 2 refine (cell_far (p := ⟨gb224, _, none⟩) NB212_224.out _).trans ?_); exact hHeld.2.2.2.2.2.2.2.2.2)⟩ (fun hHeld => ?_)
   clear hK K
   refine pu 10 11 (tb 11 0) ?_
   refine done_ (done_of HT_.out (by kernel_rfl)) ?_
   have hnb36 := NB211_224.out
   have hnc36 := NB224_211.out
   have hcz37_0 : w33.cell? ⟨gb211, 0, none⟩ = some (.int .i64 a0_0) := (blk_cell BK211.out 0).trans rfl
   have hcz37_1 : w33.cell? ⟨gb211, 1, none⟩ = some (.int .i64 a0_1) := (blk_cell BK211.out 1).trans rfl
   have hcz37_2 : w33.cell? ⟨gb211, 2, none⟩ = some (.int .i64 a0_2) := (blk_cell BK211.out 2).trans rfl
   have hcz37_3 : w33.cell? ⟨gb211, 3, none⟩ = some (.int .i64 a0_3) := (blk_cell BK211.out 3).trans rfl
   have hfz37_0 := blk_frozen BK211.out 0
   have hfz37_1 := blk_frozen BK211.out 1
   have hfz37_2 := blk_frozen BK211.out 2
   have hfz37_3 := blk_frozen BK211.out 3
   have hnb38 := NB224_212.out
   have hnc38 := NB212_224.out
   have hnb39 := NB224_213.out
   have hnc39 := NB213_224.out
   have hnb40 := NB224_214.out
   have hnc40 := NB214_224.out
   have hnb41 := NB224_218.out
   have hnc41 := NB218_224.out
   have hcz42_0 : w33.cell? ⟨gb224, 0, none⟩ = some (.int .i64 0) := (blk_cell BK224.out 0).trans rfl
   have hcz42_1 : w33.cell? ⟨gb224, 1, none⟩ = some (.int .i64 0) := (blk_cell BK224.out 1).trans rfl
   have hfz42_0 := blk_frozen BK224.out 0
   have hfz42_1 := blk_frozen BK224.out 1
   try go_wp2_with (first | ((with_reducible refine gate_callee (f := 102) rfl ?_); refine gl 37 Try.func102 #[.agg #[.int .i64 a0_2, .int .i64 a0_3], .agg #[.int .i64 t221, .int .i64 t222]] ?_; (with_reducible refine (spec_raAdd.calls k a0_2 a0_3 t221 t222 t225 t226 t227 _ A9.out).mono ?_); rintro e w43 ⟨rfl, hb⟩; refine ⟨_, rfl, ?_⟩; replace BK211 := Aside0.mk (blk_below (g := gb211) (o := .cells #[.int .i64 a0_0, .int .i64 a0_1, .int .i64 a0_2, .int .i64 a0_3] 68 (0, 0)) (by (with_reducible repeat (first | refine blk_drewN ?_ _ | refine blk_drew ?_ | refine blk_alloc ?_ _)); refine blk_far ?_ NB211_224.out _; (with_reducible repeat (first | refine blk_drewN ?_ _ | refine blk_drew ?_ | refine blk_alloc ?_ _)); refine blk_far ?_ NB211_224.out _; (with_reducible repeat (first | refine blk_drewN ?_ _ | refine blk_drew ?_ | refine blk_alloc ?_ _)); exact BK211.out) hb); replace BK212 := Aside0.mk (blk_below (g := gb212) (o := .cells #[.int .i64 a1_0, .int .i64 a1_1, .int .i64 a1_2, .int .i64 a1_3] 68 (0, 0)) (by (with_reducible repeat (first | refine blk_drewN ?_ _ | refine blk_drew ?_ | refine blk_alloc ?_ _)); refine blk_far ?_ NB212_224.out _; (with_reducible repeat (first | refine blk_drewN ?_ _ | refine blk_drew ?_ | refine blk_alloc ?_ _)); refine blk_far ?_ NB212_224.out _; (with_reducible repeat (first | refine blk_drewN ?_ _ | refine blk_drew ?_ | refine blk_alloc ?_ _)); exact BK212.out) hb); replace BK213 := Aside0.mk (blk_below (g := gb213) (o := .cells #[.int .i64 a2_0, .int .i64 a2_1] 28 (0, 0)) (by (with_reducible repeat (first | refine blk_drewN ?_ _ | refine blk_drew ?_ | refine blk_alloc ?_ _)); refine blk_far ?_ NB213_224.out _; (with_reducible repeat (first | refine blk_drewN ?_ _ | refine blk_drew ?_ | refine blk_alloc ?_ _)); refine blk_far ?_ NB213_224.out _; (with_reducible repeat (first | refine blk_drewN ?_ _ | refine blk_drew ?_ | refine blk_alloc ?_ _)); exact BK213.out) hb); replace BK214 := Aside0.mk (blk_below (g := gb214) (o := .cells #[.int .i64 0, .int .i64 0] 28 (0, 0)) (by (with_reducible repeat (first | refine blk_drewN ?_ _ | refine blk_drew ?_ | refine blk_alloc ?_ _)); refine blk_far ?_ NB214_224.out _; (with_reducible repeat (first | refine blk_drewN ?_ _ | refine blk_drew ?_ | refine blk_alloc ?_ _)); refine blk_far ?_ NB214_224.out _; (with_reducible repeat (first | refine blk_drewN ?_ _ | refine blk_drew ?_ | refine blk_alloc ?_ _)); exact BK214.out) hb); replace BK218 := Aside0.mk (blk_below (g := gb218) (o := .cells #[.int .i64 t215, .int .i64 t216] 28 (0, 0)) (by (with_reducible repeat (first | refine blk_drewN ?_ _ | refine blk_drew ?_ | refine blk_alloc ?_ _)); refine blk_far ?_ NB218_224.out _; (with_reducible repeat (first | refine blk_drewN ?_ _ | refine blk_drew ?_ | refine blk_alloc ?_ _)); refine blk_far ?_ NB218_224.out _; (with_reducible repeat (first | refine blk_drewN ?_ _ | refine blk_drew ?_ | refine blk_alloc ?_ _)); exact BK218.out) hb); replace BK224 := Aside0.mk (blk_below (g := gb224) (o := .cells #[.int .i64 t221, .int .i64 t222] 28 (0, 0)) (by (with_reducible repeat (first | refine blk_drewN ?_ _ | refine blk_drew ?_ | refine blk_alloc ?_ _)); refine blk_put (cs := #[.int .i64 t221, .int .i64 0]) ?_ 1 _ rfl; (with_reducible repeat (first | refine blk_drewN ?_ _ | refine blk_drew ?_ | refine blk_alloc ?_ _)); refine blk_put (cs := #[.int .i64 0, .int .i64 0]) ?_ 0 _ rfl; (with_reducible repeat (first | refine blk_drewN ?_ _ | refine blk_drew ?_ | refine blk_alloc ?_ _)); exact BK224.out) hb); replace HB := Aside0.mk (bs hb); (try clear hb); (try clear hb2); (try clear hk); (try clear hi); have hnb44 := NB214_212.out; have hnc44 := NB212_214.out; have hcz45_0 : w43.cell? ⟨gb214, 0, none⟩ = some (.int .i64 0) := (blk_cell BK214.out 0).trans rfl; have hcz45_1 : w43.cell? ⟨gb214, 1, none⟩ = some (.int .i64 0) := (blk_cell BK214.out 1).trans rfl; have hfz45_0 := blk_frozen BK214.out 0; have hfz45_1 := blk_frozen BK214.out 1))
   refine bodyPost_ret (results_ct rfl _ _ gb214 28 #[.int .i64 t225, .int .i64 t226] (0, 0) _ rfl (by (with_reducible repeat (first | refine blk_drewN ?_ _ | refine blk_drew ?_ | refine blk_alloc ?_ _)); refine blk_put (cs := #[.int .i64 t225, .int .i64 0]) ?_ 1 _ rfl; (with_reducible repeat (first | refine blk_drewN ?_ _ | refine blk_drew ?_ | refine blk_alloc ?_ _)); refine blk_put (cs := #[.int .i64 0, .int .i64 0]) ?_ 0 _ rfl; (with_reducible repeat (first | refine blk_drewN ?_ _ | refine blk_drew ?_ | refine blk_alloc ?_ _)); exact BK214.out) Try.underlying28 rfl (by kernel_rfl)) rfl ?_
   exact ⟨by first | rfl | (simp [errW_none, errW_some] <;> rfl) | (simp [*, errW_none, errW_some] <;> rfl), bl⟩
  ·replace c8 := Bool.eq_false_iff.mpr c8
   subst c8
   have H1 : (some (0, 0, false)) = some (r1, r2, r3) := by rw [if_neg (show ¬ (false = true) by decide)] at H; exact H
   clear H
   have H := H1
   clear H1
   simp only [Option.some.injEq, Prod.mk.injEq] at H
   obtain ⟨rfl, rfl, rfl⟩ := H
   go_enter Try.func135, Try.ntmps135
   try go_wp2_with (first | ((with_reducible refine gate_dst (N := 3) rfl ?_); refine bx 3 #[.int .i64 a0_0, .int .i64 a0_1, .int .i64 a0_2, .int .i64 a0_3] 68 ?_; intro gb211 hg w46 hbox hb; have BK211 := Aside0.mk (hbox); have GW211 := Aside0.mk (bz hg); have GE211 := GW211; replace HB := Aside0.mk (bs hb); clear hb hbox hg) | ((with_reducible refine gate_dst (N := 4) rfl ?_); refine bx 4 #[.int .i64 a1_0, .int .i64 a1_1, .int .i64 a1_2, .int .i64 a1_3] 68 ?_; intro gb212 hg w47 hbox hb; have BK212 := Aside0.mk (hbox); have GW212 := Aside0.mk (bz hg); have GE212 := GW212; have NB211_212 := Aside0.mk (bn gb211 hg); have NB212_211 := Aside0.mk NB211_212.out.symm; replace BK211 := Aside0.mk (bb gb211 hb); replace HB := Aside0.mk (bs hb); clear hb hbox hg) | ((with_reducible refine gate_dst (N := 5) rfl ?_); refine bx 5 #[.int .i64 a2_0, .int .i64 a2_1] 28 ?_; intro gb213 hg w48 hbox hb; have BK213 := Aside0.mk (hbox); have GW213 := Aside0.mk (bz hg); have GE213 := GW213; have NB211_213 := Aside0.mk (bn gb211 hg); have NB213_211 := Aside0.mk NB211_213.out.symm; have NB212_213 := Aside0.mk (bn gb212 hg); have NB213_212 := Aside0.mk NB212_213.out.symm; replace BK211 := Aside0.mk (bb gb211 hb); replace BK212 := Aside0.mk (bb gb212 hb); replace HB := Aside0.mk (bs hb); clear hb hbox hg) | ((with_reducible refine gate_dst (N := 6) rfl ?_); refine bx 6 #[.int .i64 0, .int .i64 0] 28 ?_; intro gb214 hg w49 hbox hb; have BK214 := Aside0.mk (hbox); have GW214 := Aside0.mk (bz hg); have GE214 := GW214; have NB211_214 := Aside0.mk (bn gb211 hg); have NB214_211 := Aside0.mk NB211_214.out.symm; have NB212_214 := Aside0.mk (bn gb212 hg); have NB214_212 := Aside0.mk NB212_214.out.symm; have NB213_214 := Aside0.mk (bn gb213 hg); have NB214_213 := Aside0.mk NB213_214.out.symm; replace BK211 := Aside0.mk (bb gb211 hb); replace BK212 := Aside0.mk (bb gb212 hb); replace BK213 := Aside0.mk (bb gb213 hb); replace HB := Aside0.mk (bs hb); clear hb hbox hg; have hnb50 := NB213_211.out; have hnc50 := NB211_213.out; have hnb51 := NB213_212.out; have hnc51 := NB212_213.out; have hnb52 := NB213_214.out; have hnc52 := NB214_213.out; have hcz53_0 : w49.cell? ⟨gb213, 0, none⟩ = some (.int .i64 a2_0) := (blk_cell BK213.out 0).trans rfl; have hcz53_1 : w49.cell? ⟨gb213, 1, none⟩ = some (.int .i64 a2_1) := (blk_cell BK213.out 1).trans rfl; have hfz53_0 := blk_frozen BK213.out 0; have hfz53_1 := blk_frozen BK213.out 1; have hnb54 := NB211_212.out; have hnc54 := NB212_211.out; have hnb55 := NB211_214.out; have hnc55 := NB214_211.out; have hcz56_0 : w49.cell? ⟨gb211, 0, none⟩ = some (.int .i64 a0_0) := (blk_cell BK211.out 0).trans rfl; have hcz56_1 : w49.cell? ⟨gb211, 1, none⟩ = some (.int .i64 a0_1) := (blk_cell BK211.out 1).trans rfl; have hcz56_2 : w49.cell? ⟨gb211, 2, none⟩ = some (.int .i64 a0_2) := (blk_cell BK211.out 2).trans rfl; have hcz56_3 : w49.cell? ⟨gb211, 3, none⟩ = some (.int .i64 a0_3) := (blk_cell BK211.out 3).trans rfl; have hfz56_0 := blk_frozen BK211.out 0; have hfz56_1 := blk_frozen BK211.out 1; have hfz56_2 := blk_frozen BK211.out 2; have hfz56_3 := blk_frozen BK211.out 3) | ((with_reducible refine gate_callee (f := 101) rfl ?_); refine gl 16 Try.func101 #[.agg #[.int .i64 a2_0, .int .i64 a2_1], .agg #[.int .i64 a0_0, .int .i64 a0_1]] ?_; (with_reducible refine (spec_raSub.calls k a2_0 a2_1 a0_0 a0_1 t215 t216 true _ A4.out).mono ?_); rintro e w57 ⟨rfl, hb⟩; refine ⟨_, rfl, ?_⟩; replace BK211 := Aside0.mk (bb gb211 hb); replace BK212 := Aside0.mk (bb gb212 hb); replace BK213 := Aside0.mk (bb gb213 hb); replace BK214 := Aside0.mk (bb gb214 hb); replace HB := Aside0.mk (bs hb); (try clear hb); (try clear hb2); (try clear hk); (try clear hi)) | ((with_reducible refine gate_dst (N := 8) rfl ?_); refine bx 8 #[.int .i64 0, .int .i64 0] 28 ?_; intro gb218 hg w58 hbox hb; have BK218 := Aside0.mk (hbox); have GW218 := Aside0.mk (bz hg); have GE218 := GW218; have NB211_218 := Aside0.mk (bn gb211 hg); have NB218_211 := Aside0.mk NB211_218.out.symm; have NB212_218 := Aside0.mk (bn gb212 hg); have NB218_212 := Aside0.mk NB212_218.out.symm; have NB213_218 := Aside0.mk (bn gb213 hg); have NB218_213 := Aside0.mk NB213_218.out.symm; have NB214_218 := Aside0.mk (bn gb214 hg); have NB218_214 := Aside0.mk NB214_218.out.symm; replace BK211 := Aside0.mk (bb gb211 hb); replace BK212 := Aside0.mk (bb gb212 hb); replace BK213 := Aside0.mk (bb gb213 hb); replace BK214 := Aside0.mk (bb gb214 hb); replace HB := Aside0.mk (bs hb); clear hb hbox hg; have hnb59 := NB218_211.out; have hnc59 := NB211_218.out; have hnb60 := NB218_212.out; have hnc60 := NB212_218.out; have hnb61 := NB218_213.out; have hnc61 := NB213_218.out; have hnb62 := NB218_214.out; have hnc62 := NB214_218.out; have hcz63_0 : w58.cell? ⟨gb218, 0, none⟩ = some (.int .i64 0) := (blk_cell BK218.out 0).trans rfl; have hcz63_1 : w58.cell? ⟨gb218, 1, none⟩ = some (.int .i64 0) := (blk_cell BK218.out 1).trans rfl; have hfz63_0 := blk_frozen BK218.out 0; have hfz63_1 := blk_frozen BK218.out 1))
   have n0_ : Aside0 (((w58.setCell ⟨gb218, 0, none⟩ (.int .i64 t215)).setCell ⟨gb218, 1, none⟩ (.int .i64 t216)).heap[gb211]? = some (.cells #[.int .i64 a0_0, .int .i64 a0_1, .int .i64 a0_2, .int .i64 a0_3] 68 (0, 0))) := ⟨by (with_reducible repeat (first | refine blk_drewN ?_ _ | refine blk_drew ?_ | refine blk_alloc ?_ _)); refine blk_far ?_ NB211_218.out _; (with_reducible repeat (first | refine blk_drewN ?_ _ | refine blk_drew ?_ | refine blk_alloc ?_ _)); refine blk_far ?_ NB211_218.out _; (with_reducible repeat (first | refine blk_drewN ?_ _ | refine blk_drew ?_ | refine blk_alloc ?_ _)); exact BK211.out⟩
   have n1_ : Aside0 (((w58.setCell ⟨gb218, 0, none⟩ (.int .i64 t215)).setCell ⟨gb218, 1, none⟩ (.int .i64 t216)).heap[gb212]? = some (.cells #[.int .i64 a1_0, .int .i64 a1_1, .int .i64 a1_2, .int .i64 a1_3] 68 (0, 0))) := ⟨by (with_reducible repeat (first | refine blk_drewN ?_ _ | refine blk_drew ?_ | refine blk_alloc ?_ _)); refine blk_far ?_ NB212_218.out _; (with_reducible repeat (first | refine blk_drewN ?_ _ | refine blk_drew ?_ | refine blk_alloc ?_ _)); refine blk_far ?_ NB212_218.out _; (with_reducible repeat (first | refine blk_drewN ?_ _ | refine blk_drew ?_ | refine blk_alloc ?_ _)); exact BK212.out⟩
   have n2_ : Aside0 (((w58.setCell ⟨gb218, 0, none⟩ (.int .i64 t215)).setCell ⟨gb218, 1, none⟩ (.int .i64 t216)).heap[gb213]? = some (.cells #[.int .i64 a2_0, .int .i64 a2_1] 28 (0, 0))) := ⟨by (with_reducible repeat (first | refine blk_drewN ?_ _ | refine blk_drew ?_ | refine blk_alloc ?_ _)); refine blk_far ?_ NB213_218.out _; (with_reducible repeat (first | refine blk_drewN ?_ _ | refine blk_drew ?_ | refine blk_alloc ?_ _)); refine blk_far ?_ NB213_218.out _; (with_reducible repeat (first | refine blk_drewN ?_ _ | refine blk_drew ?_ | refine blk_alloc ?_ _)); exact BK213.out⟩
   have n3_ : Aside0 (((w58.setCell ⟨gb218, 0, none⟩ (.int .i64 t215)).setCell ⟨gb218, 1, none⟩ (.int .i64 t216)).heap[gb214]? = some (.cells #[.int .i64 0, .int .i64 0] 28 (0, 0))) := ⟨by (with_reducible repeat (first | refine blk_drewN ?_ _ | refine blk_drew ?_ | refine blk_alloc ?_ _)); refine blk_far ?_ NB214_218.out _; (with_reducible repeat (first | refine blk_drewN ?_ _ | refine blk_drew ?_ | refine blk_alloc ?_ _)); refine blk_far ?_ NB214_218.out _; (with_reducible repeat (first | refine blk_drewN ?_ _ | refine blk_drew ?_ | refine blk_alloc ?_ _)); exact BK214.out⟩
   have n4_ : Aside0 (((w58.setCell ⟨gb218, 0, none⟩ (.int .i64 t215)).setCell ⟨gb218, 1, none⟩ (.int .i64 t216)).heap[gb218]? = some (.cells #[.int .i64 t215, .int .i64 t216] 28 (0, 0))) := ⟨by (with_reducible repeat (first | refine blk_drewN ?_ _ | refine blk_drew ?_ | refine blk_alloc ?_ _)); refine blk_put (cs := #[.int .i64 t215, .int .i64 0]) ?_ 1 _ rfl; (with_reducible repeat (first | refine blk_drewN ?_ _ | refine blk_drew ?_ | refine blk_alloc ?_ _)); refine blk_put (cs := #[.int .i64 0, .int .i64 0]) ?_ 0 _ rfl; (with_reducible repeat (first | refine blk_drewN ?_ _ | refine blk_drew ?_ | refine blk_alloc ?_ _)); exact BK218.out⟩
   have n5_ : Aside0 (Below w.heap.size w ((w58.setCell ⟨gb218, 0, none⟩ (.int .i64 t215)).setCell ⟨gb218, 1, none⟩ (.int .i64 t216))) := ⟨bl⟩
   (try clear BK211)
   (try clear BK212)
   (try clear BK213)
   (try clear BK214)
   (try clear BK218)
   (try clear HB)
   generalize ((w58.setCell ⟨gb218, 0, none⟩ (.int .i64 t215)).setCell ⟨gb218, 1, none⟩ (.int .i64 t216)) = w64 at n0_ n1_ n2_ n3_ n4_ n5_ ⊢
   have BK211 := n0_
   have BK212 := n1_
   have BK213 := n2_
   have BK214 := n3_
   have BK218 := n4_
   have HB := n5_
   clear n0_ n1_ n2_ n3_ n4_ n5_
   replace BK211 := Aside0.mk (blk_drew BK211.out)
   replace BK212 := Aside0.mk (blk_drew BK212.out)
   replace BK213 := Aside0.mk (blk_drew BK213.out)
   replace BK214 := Aside0.mk (blk_drew BK214.out)
   replace BK218 := Aside0.mk (blk_drew BK218.out)
   replace HB := Aside0.mk (below_drew1 HB.out)
   refine start_ (n := 11) (S := fun w' => w'.cell? ⟨gb218, 0, none⟩ = some (.int .i64 t215) ∧ w'.cell? ⟨gb218, 1, none⟩ = some (.int .i64 t216) ∧ w'.cell? ⟨gb211, 0, none⟩ = some (.int .i64 a0_0) ∧ w'.cell? ⟨gb211, 1, none⟩ = some (.int .i64 a0_1) ∧ w'.cell? ⟨gb211, 2, none⟩ = some (.int .i64 a0_2) ∧ w'.cell? ⟨gb211, 3, none⟩ = some (.int .i64 a0_3) ∧ w'.cell? ⟨gb212, 0, none⟩ = some (.int .i64 a1_0) ∧ w'.cell? ⟨gb212, 1, none⟩ = some (.int .i64 a1_1) ∧ w'.cell? ⟨gb212, 2, none⟩ = some (.int .i64 a1_2) ∧ w'.cell? ⟨gb212, 3, none⟩ = some (.int .i64 a1_3)) (ds := []) (tb 0 11) (by kernel_rfl) rfl rfl ⟨(blk_cell BK218.out 0).trans rfl, (blk_cell BK218.out 1).trans rfl, (blk_cell BK211.out 0).trans rfl, (blk_cell BK211.out 1).trans rfl, (blk_cell BK211.out 2).trans rfl, (blk_cell BK211.out 3).trans rfl, (blk_cell BK212.out 0).trans rfl, (blk_cell BK212.out 1).trans rfl, (blk_cell BK212.out 2).trans rfl, (blk_cell BK212.out 3).trans rfl⟩ (fun hHeld => ?_); refine with_tabW spec_imOn.tab2 spec_imOn.bits2 (fun HT_ HW_ => ?_)
   generalize w64.drew = w65 at BK211 BK212 BK213 BK214 BK218 HB hHeld ⊢
   refine tk 0 20 (tb 1 10) (hy := by rintro w' ⟨s0, s1, s2, s3, s4, s5, s6, s7, s8, s9⟩; go_simp; with_reducible rfl) (h := ?_)
   refine tk 1 21 (tb 2 9) (hy := by rintro w' ⟨s0, s1, s2, s3, s4, s5, s6, s7, s8, s9⟩; go_simp; with_reducible rfl) (h := ?_)
   refine tk 2 22 (tb 3 8) (hy := by rintro w' ⟨s0, s1, s2, s3, s4, s5, s6, s7, s8, s9⟩; go_simp; with_reducible rfl) (h := ?_)
   refine join_ (σ := Nat) 2 (tb 9 2) (fun s_ => [(23, .agg #[.int .i64 t219, .int .i64 t220]), (24, .tuple #[.agg #[.int .i64 t221, .int .i64 t222], .bool false]), (10, .pointer (some ⟨s_, 0, none⟩)), (19, .tuple #[.agg #[.int .i64 t221, .int .i64 t222], .bool false]), (25, .agg #[.int .i64 t221, .int .i64 t222]), (26, .bool false)]) (fun s_ w' => (w'.cell? ⟨gb218, 0, none⟩ = some (.int .i64 t215) ∧ w'.cell? ⟨gb218, 1, none⟩ = some (.int .i64 t216) ∧ w'.cell? ⟨gb211, 0, none⟩ = some (.int .i64 a0_0) ∧ w'.cell? ⟨gb211, 1, none⟩ = some (.int .i64 a0_1) ∧ w'.cell? ⟨gb211, 2, none⟩ = some (.int .i64 a0_2) ∧ w'.cell? ⟨gb211, 3, none⟩ = some (.int .i64 a0_3) ∧ w'.cell? ⟨gb212, 0, none⟩ = some (.int .i64 a1_0) ∧ w'.cell? ⟨gb212, 1, none⟩ = some (.int .i64 a1_1) ∧ w'.cell? ⟨gb212, 2, none⟩ = some (.int .i64 a1_2) ∧ w'.cell? ⟨gb212, 3, none⟩ = some (.int .i64 a1_3)) ∧ (w'.heap[gb211]? = some (.cells #[.int .i64 a0_0, .int .i64 a0_1, .int .i64 a0_2, .int .i64 a0_3] 68 (0, 0))) ∧ (w'.heap[gb212]? = some (.cells #[.int .i64 a1_0, .int .i64 a1_1, .int .i64 a1_2, .int .i64 a1_3] 68 (0, 0))) ∧ (w'.heap[gb213]? = some (.cells #[.int .i64 a2_0, .int .i64 a2_1] 28 (0, 0))) ∧ (w'.heap[gb214]? = some (.cells #[.int .i64 0, .int .i64 0] 28 (0, 0))) ∧ (w'.heap[gb218]? = some (.cells #[.int .i64 t215, .int .i64 t216] 28 (0, 0))) ∧ (w'.heap[s_]? = some (.cells #[.int .i64 0, .int .i64 0] 28 (0, 0))) ∧ (w.heap.size ≤ s_) ∧ (w.heap.size ≤ s_) ∧ (gb211 ≠ s_) ∧ (s_ ≠ gb211) ∧ (gb212 ≠ s_) ∧ (s_ ≠ gb212) ∧ (gb213 ≠ s_) ∧ (s_ ≠ gb213) ∧ (gb214 ≠ s_) ∧ (s_ ≠ gb214) ∧ (gb218 ≠ s_) ∧ (s_ ≠ gb218) ∧ (Below w.heap.size w w')) ?_ ?_
   rotate_left
   ·intro hCont
    refine two_ (i := 3) (j := 8) (Ni := some 23) (Nj := some 10) (tb 4 7) #[true, true, true, false, false, false, false, false, true, false, false] rfl rfl rfl rfl (two_of HT_.out (by kernel_rfl)) (by decide) (by decide) (fun K hK => ?_) (fun K hK => ?_)
    ·skip
     refine gs Try.func84 #[.agg #[.int .i64 a0_0, .int .i64 a0_1, .int .i64 a0_2, .int .i64 a0_3], .agg #[.int .i64 a1_0, .int .i64 a1_1, .int .i64 a1_2, .int .i64 a1_3]] ?_
     with_reducible refine (spec_imSlope.calls k a0_0 a0_1 a0_2 a0_3 a1_0 a1_1 a1_2 a1_3 t219 t220 _ A5.out).mono ?_
     rintro e w66 ⟨rfl, hb⟩
     refine ⟨_, rfl, ?_⟩
     replace BK211 := Aside0.mk (bb gb211 hb)
     replace BK212 := Aside0.mk (bb gb212 hb)
     replace BK213 := Aside0.mk (bb gb213 hb)
     replace BK214 := Aside0.mk (bb gb214 hb)
     replace BK218 := Aside0.mk (bb gb218 hb)
     replace HB := Aside0.mk (bs hb)
     (try clear hb)
     (try clear hb2)
     (try clear hk)
     (try clear hi)
     refine hK.out _ _ ⟨(blk_cell BK218.out 0).trans rfl, (blk_cell BK218.out 1).trans rfl, (blk_cell BK211.out 0).trans rfl, (blk_cell BK211.out 1).trans rfl, (blk_cell BK211.out 2).trans rfl, (blk_cell BK211.out 3).trans rfl, (blk_cell BK212.out 0).trans rfl, (blk_cell BK212.out 1).trans rfl, (blk_cell BK212.out 2).trans rfl, (blk_cell BK212.out 3).trans rfl⟩ (fun hHeld => ?_)
     clear hK K
     refine nm 23 ?_
     refine two_ (i := 4) (j := 8) (Ni := some 24) (Nj := some 10) (tb 5 6) #[true, true, true, true, false, false, false, false, true, false, false] rfl rfl rfl rfl (two_of HT_.out (by kernel_rfl)) (by decide) (by decide) (fun K hK => ?_) (fun K hK => ?_)
     ·skip
      refine gs Try.func100 #[.agg #[.int .i64 t215, .int .i64 t216], .agg #[.int .i64 t219, .int .i64 t220]] ?_
      with_reducible refine (spec_raMul.calls k t215 t216 t219 t220 t221 t222 false _ A6.out).mono ?_
      rintro e w67 ⟨rfl, hb⟩
      refine ⟨_, rfl, ?_⟩
      replace BK211 := Aside0.mk (bb gb211 hb)
      replace BK212 := Aside0.mk (bb gb212 hb)
      replace BK213 := Aside0.mk (bb gb213 hb)
      replace BK214 := Aside0.mk (bb gb214 hb)
      replace BK218 := Aside0.mk (bb gb218 hb)
      replace HB := Aside0.mk (bs hb)
      (try clear hb)
      (try clear hb2)
      (try clear hk)
      (try clear hi)
      refine hK.out _ _ ⟨(blk_cell BK218.out 0).trans rfl, (blk_cell BK218.out 1).trans rfl, (blk_cell BK211.out 0).trans rfl, (blk_cell BK211.out 1).trans rfl, (blk_cell BK211.out 2).trans rfl, (blk_cell BK211.out 3).trans rfl, (blk_cell BK212.out 0).trans rfl, (blk_cell BK212.out 1).trans rfl, (blk_cell BK212.out 2).trans rfl, (blk_cell BK212.out 3).trans rfl⟩ (fun hHeld => ?_)
      clear hK K
      refine nm 24 ?_
      refine pu 5 19 (tb 6 5) ?_
      refine pu 6 25 (tb 7 4) ?_
      refine pu 7 26 (tb 8 3) ?_
      refine on 8 10 (tb 9 2) (fun K hK => ?_)
      refine box_step ?hg (N := 10) ?hd (cs := #[.int .i64 0, .int .i64 0]) (t := 28) ?hr ?_; (case hd => rfl); (case hg => rfl); (case hr => first | (go_simp; done) | (go_simp; rfl))
      intro gb224 hg w68 hbox hb
      have BK224 := Aside0.mk (hbox)
      have GW224 := Aside0.mk (bz hg)
      have GE224 := GW224
      have NB211_224 := Aside0.mk (bn gb211 hg)
      have NB224_211 := Aside0.mk NB211_224.out.symm
      have NB212_224 := Aside0.mk (bn gb212 hg)
      have NB224_212 := Aside0.mk NB212_224.out.symm
      have NB213_224 := Aside0.mk (bn gb213 hg)
      have NB224_213 := Aside0.mk NB213_224.out.symm
      have NB214_224 := Aside0.mk (bn gb214 hg)
      have NB224_214 := Aside0.mk NB214_224.out.symm
      have NB218_224 := Aside0.mk (bn gb218 hg)
      have NB224_218 := Aside0.mk NB218_224.out.symm
      replace BK211 := Aside0.mk (bb gb211 hb)
      replace BK212 := Aside0.mk (bb gb212 hb)
      replace BK213 := Aside0.mk (bb gb213 hb)
      replace BK214 := Aside0.mk (bb gb214 hb)
      replace BK218 := Aside0.mk (bb gb218 hb)
      replace HB := Aside0.mk (bs hb)
      clear hb hbox hg
      refine hK.out _ _ ⟨(blk_cell BK218.out 0).trans rfl, (blk_cell BK218.out 1).trans rfl, (blk_cell BK211.out 0).trans rfl, (blk_cell BK211.out 1).trans rfl, (blk_cell BK211.out 2).trans rfl, (blk_cell BK211.out 3).trans rfl, (blk_cell BK212.out 0).trans rfl, (blk_cell BK212.out 1).trans rfl, (blk_cell BK212.out 2).trans rfl, (blk_cell BK212.out 3).trans rfl⟩ (fun hHeld => ?_)
      clear hK K
      refine nm 10 ?_
      exact norm_ (by simp only [putAll, Act.put, List.setIfInBounds_toArray, List.set_cons_zero, List.set_cons_succ]) (hCont (gb224) _ ⟨hHeld, (bo gb211), (bo gb212), (bo gb213), (bo gb214), (bo gb218), (bo gb224), GW224.out, GE224.out, NB211_224.out, NB224_211.out, NB212_224.out, NB224_212.out, NB213_224.out, NB224_213.out, NB214_224.out, NB224_214.out, NB218_224.out, NB224_218.out, bl⟩)
     ·skip
      refine box_step ?hg (N := 10) ?hd (cs := #[.int .i64 0, .int .i64 0]) (t := 28) ?hr ?_; (case hd => rfl); (case hg => rfl); (case hr => first | (go_simp; done) | (go_simp; rfl))
      intro gb224 hg w67 hbox hb
      have BK224 := Aside0.mk (hbox)
      have GW224 := Aside0.mk (bz hg)
      have GE224 := GW224
      have NB211_224 := Aside0.mk (bn gb211 hg)
      have NB224_211 := Aside0.mk NB211_224.out.symm
      have NB212_224 := Aside0.mk (bn gb212 hg)
      have NB224_212 := Aside0.mk NB212_224.out.symm
      have NB213_224 := Aside0.mk (bn gb213 hg)
      have NB224_213 := Aside0.mk NB213_224.out.symm
      have NB214_224 := Aside0.mk (bn gb214 hg)
      have NB224_214 := Aside0.mk NB214_224.out.symm
      have NB218_224 := Aside0.mk (bn gb218 hg)
      have NB224_218 := Aside0.mk NB218_224.out.symm
      replace BK211 := Aside0.mk (bb gb211 hb)
      replace BK212 := Aside0.mk (bb gb212 hb)
      replace BK213 := Aside0.mk (bb gb213 hb)
      replace BK214 := Aside0.mk (bb gb214 hb)
      replace BK218 := Aside0.mk (bb gb218 hb)
      replace HB := Aside0.mk (bs hb)
      clear hb hbox hg
      refine hK.out _ _ ⟨(blk_cell BK218.out 0).trans rfl, (blk_cell BK218.out 1).trans rfl, (blk_cell BK211.out 0).trans rfl, (blk_cell BK211.out 1).trans rfl, (blk_cell BK211.out 2).trans rfl, (blk_cell BK211.out 3).trans rfl, (blk_cell BK212.out 0).trans rfl, (blk_cell BK212.out 1).trans rfl, (blk_cell BK212.out 2).trans rfl, (blk_cell BK212.out 3).trans rfl⟩ (fun hHeld => ?_)
      clear hK K
      refine nm 10 ?_
      refine on 4 24 #[true, true, true, true, true, false, false, false, true, false, false] (fun K hK => ?_)
      refine gs Try.func100 #[.agg #[.int .i64 t215, .int .i64 t216], .agg #[.int .i64 t219, .int .i64 t220]] ?_
      with_reducible refine (spec_raMul.calls k t215 t216 t219 t220 t221 t222 false _ A6.out).mono ?_
      rintro e w68 ⟨rfl, hb⟩
      refine ⟨_, rfl, ?_⟩
      replace BK211 := Aside0.mk (bb gb211 hb)
      replace BK212 := Aside0.mk (bb gb212 hb)
      replace BK213 := Aside0.mk (bb gb213 hb)
      replace BK214 := Aside0.mk (bb gb214 hb)
      replace BK218 := Aside0.mk (bb gb218 hb)
      replace BK224 := Aside0.mk (bb gb224 hb)
      replace HB := Aside0.mk (bs hb)
      (try clear hb)
      (try clear hb2)
      (try clear hk)
      (try clear hi)
      refine hK.out _ _ ⟨(blk_cell BK218.out 0).trans rfl, (blk_cell BK218.out 1).trans rfl, (blk_cell BK211.out 0).trans rfl, (blk_cell BK211.out 1).trans rfl, (blk_cell BK211.out 2).trans rfl, (blk_cell BK211.out 3).trans rfl, (blk_cell BK212.out 0).trans rfl, (blk_cell BK212.out 1).trans rfl, (blk_cell BK212.out 2).trans rfl, (blk_cell BK212.out 3).trans rfl⟩ (fun hHeld => ?_)
      clear hK K
      refine nm 24 ?_
      refine pu 5 19 #[true, true, true, true, true, true, false, false, true, false, false] ?_
      refine pu 6 25 #[true, true, true, true, true, true, true, false, true, false, false] ?_
      refine pu 7 26 (tb 9 2) ?_
      exact norm_ (by simp only [putAll, Act.put, List.setIfInBounds_toArray, List.set_cons_zero, List.set_cons_succ]) (hCont (gb224) _ ⟨hHeld, (bo gb211), (bo gb212), (bo gb213), (bo gb214), (bo gb218), (bo gb224), GW224.out, GE224.out, NB211_224.out, NB224_211.out, NB212_224.out, NB224_212.out, NB213_224.out, NB224_213.out, NB214_224.out, NB224_214.out, NB218_224.out, NB224_218.out, bl⟩)
    ·skip
     refine box_step ?hg (N := 10) ?hd (cs := #[.int .i64 0, .int .i64 0]) (t := 28) ?hr ?_; (case hd => rfl); (case hg => rfl); (case hr => first | (go_simp; done) | (go_simp; rfl))
     intro gb224 hg w66 hbox hb
     have BK224 := Aside0.mk (hbox)
     have GW224 := Aside0.mk (bz hg)
     have GE224 := GW224
     have NB211_224 := Aside0.mk (bn gb211 hg)
     have NB224_211 := Aside0.mk NB211_224.out.symm
     have NB212_224 := Aside0.mk (bn gb212 hg)
     have NB224_212 := Aside0.mk NB212_224.out.symm
     have NB213_224 := Aside0.mk (bn gb213 hg)
     have NB224_213 := Aside0.mk NB213_224.out.symm
     have NB214_224 := Aside0.mk (bn gb214 hg)
     have NB224_214 := Aside0.mk NB214_224.out.symm
     have NB218_224 := Aside0.mk (bn gb218 hg)
     have NB224_218 := Aside0.mk NB218_224.out.symm
     replace BK211 := Aside0.mk (bb gb211 hb)
     replace BK212 := Aside0.mk (bb gb212 hb)
     replace BK213 := Aside0.mk (bb gb213 hb)
     replace BK214 := Aside0.mk (bb gb214 hb)
     replace BK218 := Aside0.mk (bb gb218 hb)
     replace HB := Aside0.mk (bs hb)
     clear hb hbox hg
     refine hK.out _ _ ⟨(blk_cell BK218.out 0).trans rfl, (blk_cell BK218.out 1).trans rfl, (blk_cell BK211.out 0).trans rfl, (blk_cell BK211.out 1).trans rfl, (blk_cell BK211.out 2).trans rfl, (blk_cell BK211.out 3).trans rfl, (blk_cell BK212.out 0).trans rfl, (blk_cell BK212.out 1).trans rfl, (blk_cell BK212.out 2).trans rfl, (blk_cell BK212.out 3).trans rfl⟩ (fun hHeld => ?_)
     clear hK K
     refine nm 10 ?_
     refine on 3 23 #[true, true, true, true, false, false, false, false, true, false, false] (fun K hK => ?_)
     refine gs Try.func84 #[.agg #[.int .i64 a0_0, .int .i64 a0_1, .int .i64 a0_2, .int .i64 a0_3], .agg #[.int .i64 a1_0, .int .i64 a1_1, .int .i64 a1_2, .int .i64 a1_3]] ?_
     with_reducible refine (spec_imSlope.calls k a0_0 a0_1 a0_2 a0_3 a1_0 a1_1 a1_2 a1_3 t219 t220 _ A5.out).mono ?_
     rintro e w67 ⟨rfl, hb⟩
     refine ⟨_, rfl, ?_⟩
     replace BK211 := Aside0.mk (bb gb211 hb)
     replace BK212 := Aside0.mk (bb gb212 hb)
     replace BK213 := Aside0.mk (bb gb213 hb)
     replace BK214 := Aside0.mk (bb gb214 hb)
     replace BK218 := Aside0.mk (bb gb218 hb)
     replace BK224 := Aside0.mk (bb gb224 hb)
     replace HB := Aside0.mk (bs hb)
     (try clear hb)
     (try clear hb2)
     (try clear hk)
     (try clear hi)
     refine hK.out _ _ ⟨(blk_cell BK218.out 0).trans rfl, (blk_cell BK218.out 1).trans rfl, (blk_cell BK211.out 0).trans rfl, (blk_cell BK211.out 1).trans rfl, (blk_cell BK211.out 2).trans rfl, (blk_cell BK211.out 3).trans rfl, (blk_cell BK212.out 0).trans rfl, (blk_cell BK212.out 1).trans rfl, (blk_cell BK212.out 2).trans rfl, (blk_cell BK212.out 3).trans rfl⟩ (fun hHeld => ?_)
     clear hK K
     refine nm 23 ?_
     refine on 4 24 #[true, true, true, true, true, false, false, false, true, false, false] (fun K hK => ?_)
     refine gs Try.func100 #[.agg #[.int .i64 t215, .int .i64 t216], .agg #[.int .i64 t219, .int .i64 t220]] ?_
     with_reducible refine (spec_raMul.calls k t215 t216 t219 t220 t221 t222 false _ A6.out).mono ?_
     rintro e w68 ⟨rfl, hb⟩
     refine ⟨_, rfl, ?_⟩
     replace BK211 := Aside0.mk (bb gb211 hb)
     replace BK212 := Aside0.mk (bb gb212 hb)
     replace BK213 := Aside0.mk (bb gb213 hb)
     replace BK214 := Aside0.mk (bb gb214 hb)
     replace BK218 := Aside0.mk (bb gb218 hb)
     replace BK224 := Aside0.mk (bb gb224 hb)
     replace HB := Aside0.mk (bs hb)
     (try clear hb)
     (try clear hb2)
     (try clear hk)
     (try clear hi)
     refine hK.out _ _ ⟨(blk_cell BK218.out 0).trans rfl, (blk_cell BK218.out 1).trans rfl, (blk_cell BK211.out 0).trans rfl, (blk_cell BK211.out 1).trans rfl, (blk_cell BK211.out 2).trans rfl, (blk_cell BK211.out 3).trans rfl, (blk_cell BK212.out 0).trans rfl, (blk_cell BK212.out 1).trans rfl, (blk_cell BK212.out 2).trans rfl, (blk_cell BK212.out 3).trans rfl⟩ (fun hHeld => ?_)
     clear hK K
     refine nm 24 ?_
     refine pu 5 19 #[true, true, true, true, true, true, false, false, true, false, false] ?_
     refine pu 6 25 #[true, true, true, true, true, true, true, false, true, false, false] ?_
     refine pu 7 26 (tb 9 2) ?_
     exact norm_ (by simp only [putAll, Act.put, List.setIfInBounds_toArray, List.set_cons_zero, List.set_cons_succ]) (hCont (gb224) _ ⟨hHeld, (bo gb211), (bo gb212), (bo gb213), (bo gb214), (bo gb218), (bo gb224), GW224.out, GE224.out, NB211_224.out, NB224_211.out, NB212_224.out, NB224_212.out, NB213_224.out, NB224_213.out, NB214_224.out, NB224_214.out, NB218_224.out, NB224_218.out, bl⟩)
   rintro gb224 w69 ⟨hS_, h0_, h1_, h2_, h3_, h4_, h5_, h6_, h7_, h8_, h9_, h10_, h11_, h12_, h13_, h14_, h15_, h16_, h17_, h18_⟩
   have n0_ : Aside0 (w69.heap[gb211]? = some (.cells #[.int .i64 a0_0, .int .i64 a0_1, .int .i64 a0_2, .int .i64 a0_3] 68 (0, 0))) := ⟨h0_⟩
   have n1_ : Aside0 (w69.heap[gb212]? = some (.cells #[.int .i64 a1_0, .int .i64 a1_1, .int .i64 a1_2, .int .i64 a1_3] 68 (0, 0))) := ⟨h1_⟩
   have n2_ : Aside0 (w69.heap[gb213]? = some (.cells #[.int .i64 a2_0, .int .i64 a2_1] 28 (0, 0))) := ⟨h2_⟩
   have n3_ : Aside0 (w69.heap[gb214]? = some (.cells #[.int .i64 0, .int .i64 0] 28 (0, 0))) := ⟨h3_⟩
   have n4_ : Aside0 (w69.heap[gb218]? = some (.cells #[.int .i64 t215, .int .i64 t216] 28 (0, 0))) := ⟨h4_⟩
   have n5_ : Aside0 (w69.heap[gb224]? = some (.cells #[.int .i64 0, .int .i64 0] 28 (0, 0))) := ⟨h5_⟩
   have n6_ : Aside0 (w.heap.size ≤ gb224) := ⟨h6_⟩
   have n7_ : Aside0 (w.heap.size ≤ gb224) := ⟨h7_⟩
   have n8_ : Aside0 (gb211 ≠ gb224) := ⟨h8_⟩
   have n9_ : Aside0 (gb224 ≠ gb211) := ⟨h9_⟩
   have n10_ : Aside0 (gb212 ≠ gb224) := ⟨h10_⟩
   have n11_ : Aside0 (gb224 ≠ gb212) := ⟨h11_⟩
   have n12_ : Aside0 (gb213 ≠ gb224) := ⟨h12_⟩
   have n13_ : Aside0 (gb224 ≠ gb213) := ⟨h13_⟩
   have n14_ : Aside0 (gb214 ≠ gb224) := ⟨h14_⟩
   have n15_ : Aside0 (gb224 ≠ gb214) := ⟨h15_⟩
   have n16_ : Aside0 (gb218 ≠ gb224) := ⟨h16_⟩
   have n17_ : Aside0 (gb224 ≠ gb218) := ⟨h17_⟩
   have n18_ : Aside0 (Below w.heap.size w w69) := ⟨h18_⟩
   clear BK211
   clear BK212
   clear BK213
   clear BK214
   clear BK218
   clear HB
   clear h0_ h1_ h2_ h3_ h4_ h5_ h6_ h7_ h8_ h9_ h10_ h11_ h12_ h13_ h14_ h15_ h16_ h17_ h18_
   have BK211 := n0_
   have BK212 := n1_
   have BK213 := n2_
   have BK214 := n3_
   have BK218 := n4_
   have BK224 := n5_
   have GW224 := n6_
   have GE224 := n7_
   have NB211_224 := n8_
   have NB224_211 := n9_
   have NB212_224 := n10_
   have NB224_212 := n11_
   have NB213_224 := n12_
   have NB224_213 := n13_
   have NB214_224 := n14_
   have NB224_214 := n15_
   have NB218_224 := n16_
   have NB224_218 := n17_
   have HB := n18_
   clear n0_ n1_ n2_ n3_ n4_ n5_ n6_ n7_ n8_ n9_ n10_ n11_ n12_ n13_ n14_ n15_ n16_ n17_ n18_
   have hHeld : w69.cell? ⟨gb218, 0, none⟩ = some (.int .i64 t215) ∧ w69.cell? ⟨gb218, 1, none⟩ = some (.int .i64 t216) ∧ w69.cell? ⟨gb211, 0, none⟩ = some (.int .i64 a0_0) ∧ w69.cell? ⟨gb211, 1, none⟩ = some (.int .i64 a0_1) ∧ w69.cell? ⟨gb211, 2, none⟩ = some (.int .i64 a0_2) ∧ w69.cell? ⟨gb211, 3, none⟩ = some (.int .i64 a0_3) ∧ w69.cell? ⟨gb212, 0, none⟩ = some (.int .i64 a1_0) ∧ w69.cell? ⟨gb212, 1, none⟩ = some (.int .i64 a1_1) ∧ w69.cell? ⟨gb212, 2, none⟩ = some (.int .i64 a1_2) ∧ w69.cell? ⟨gb212, 3, none⟩ = some (.int .i64 a1_3) := hS_
   refine norm_ (a' := ?_) ?_ ?_
   rotate_left
   ·simp only [putAll, Act.put, List.setIfInBounds_toArray, List.set_cons_zero, List.set_cons_succ]
    rfl
   refine one_ (i := 9) (N := none) (tb 10 1) rfl rfl (one_of HT_.out (by kernel_rfl)) (by decide) (fun K hK => ?_)
   have hs70 : w69.cell? ⟨gb224, 0, none⟩ = some (.int .i64 0) := (blk_cell BK224.out 0).trans rfl
   have hfs70 := blk_frozen BK224.out 0
   have hns70_0 := NB211_224.out
   have hns70_1 := NB212_224.out
   have hns70_2 := NB213_224.out
   have hns70_3 := NB214_224.out
   have hns70_4 := NB218_224.out
   have hms70_0 := NB224_211.out
   have hms70_1 := NB224_212.out
   have hms70_2 := NB224_213.out
   have hms70_3 := NB224_214.out
   have hms70_4 := NB224_218.out
   have hs71 : w69.cell? ⟨gb224, 1, none⟩ = some (.int .i64 0) := (blk_cell BK224.out 1).trans rfl
   have hfs71 := blk_frozen BK224.out 1
   have hns71_0 := NB211_224.out
   have hns71_1 := NB212_224.out
   have hns71_2 := NB213_224.out
   have hns71_3 := NB214_224.out
   have hns71_4 := NB218_224.out
   have hms71_0 := NB224_211.out
   have hms71_1 := NB224_212.out
   have hms71_2 := NB224_213.out
   have hms71_3 := NB224_214.out
   have hms71_4 := NB224_218.out
   refine skip_ (w1 := ?_) (by rfl) rfl ?_ ?_
   rotate_left
   ·go_simp
    rfl
   refine hK.out _ _ ⟨(by (iterate 2 refine (cell_far (p := ⟨gb224, _, none⟩) NB218_224.out _).trans ?_); exact hHeld.1), (by (iterate 2 refine (cell_far (p := ⟨gb224, _, none⟩) NB218_224.out _).trans ?_); exact hHeld.2.1), (by (iterate 2 refine (cell_far (p := ⟨gb224, _, none⟩) NB211_224.out _).trans ?_); exact hHeld.2.2.1), (by (iterate 2 refine (cell_far (p := ⟨gb224, _, none⟩) NB211_224.out _).trans ?_); exact hHeld.2.2.2.1), (by (iterate 2 refine (cell_far (p := ⟨gb224, _, none⟩) NB211_224.out _).trans ?_); exact hHeld.2.2.2.2.1), (by (iterate 2 refine (cell_far (p := ⟨gb224, _, none⟩) NB211_224.out _).trans ?_); exact hHeld.2.2.2.2.2.1), (by (iterate 2 refine (cell_far (p := ⟨gb224, _, none⟩) NB212_224.out _).trans ?_); exact hHeld.2.2.2.2.2.2.1), (by (iterate 2 refine (cell_far (p := ⟨gb224, _, none⟩) NB212_224.out _).trans ?_); exact hHeld.2.2.2.2.2.2.2.1), (by (iterate 2 refine (cell_far (p := ⟨gb224, _, none⟩) NB212_224.out _).trans ?_); exact hHeld.2.2.2.2.2.2.2.2.1), (by (iterate 2 refine (cell_far (p := ⟨gb224, _, none⟩) NB212_224.out _).trans ?_); exact hHeld.2.2.2.2.2.2.2.2.2)⟩ (fun hHeld => ?_)
   clear hK K
   refine pu 10 11 (tb 11 0) ?_
   refine done_ (done_of HT_.out (by kernel_rfl)) ?_
   have hnb72 := NB214_212.out
   have hnc72 := NB212_214.out
   have hnb73 := NB214_224.out
   have hnc73 := NB224_214.out
   have hcz74_0 : w69.cell? ⟨gb214, 0, none⟩ = some (.int .i64 0) := (blk_cell BK214.out 0).trans rfl
   have hcz74_1 : w69.cell? ⟨gb214, 1, none⟩ = some (.int .i64 0) := (blk_cell BK214.out 1).trans rfl
   have hfz74_0 := blk_frozen BK214.out 0
   have hfz74_1 := blk_frozen BK214.out 1
   try go_wp2
   refine bodyPost_ret (results_ct rfl _ _ gb214 28 #[.int .i64 0, .int .i64 0] (0, 0) _ rfl (by (with_reducible repeat (first | refine blk_drewN ?_ _ | refine blk_drew ?_ | refine blk_alloc ?_ _)); refine blk_put (cs := #[.int .i64 0, .int .i64 0]) ?_ 1 _ rfl; (with_reducible repeat (first | refine blk_drewN ?_ _ | refine blk_drew ?_ | refine blk_alloc ?_ _)); refine blk_put (cs := #[.int .i64 0, .int .i64 0]) ?_ 0 _ rfl; (with_reducible repeat (first | refine blk_drewN ?_ _ | refine blk_drew ?_ | refine blk_alloc ?_ _)); refine blk_far ?_ NB214_224.out _; (with_reducible repeat (first | refine blk_drewN ?_ _ | refine blk_drew ?_ | refine blk_alloc ?_ _)); refine blk_far ?_ NB214_224.out _; (with_reducible repeat (first | refine blk_drewN ?_ _ | refine blk_drew ?_ | refine blk_alloc ?_ _)); exact BK214.out) Try.underlying28 rfl (by kernel_rfl)) rfl ?_
   exact ⟨by first | rfl | (simp [errW_none, errW_some] <;> rfl) | (simp [*, errW_none, errW_some] <;> rfl), bl⟩
 ·replace c7 := Bool.eq_false_iff.mpr c7
  subst c7
  have H1 : (some (0, 0, false)) = some (r1, r2, r3) := by rw [if_neg (show ¬ (false = true) by decide)] at H; exact H
  clear H
  have H := H1
  clear H1
  simp only [Option.some.injEq, Prod.mk.injEq] at H
  obtain ⟨rfl, rfl, rfl⟩ := H
  go_enter Try.func135, Try.ntmps135
  try go_wp2_with (first | ((with_reducible refine gate_dst (N := 3) rfl ?_); refine bx 3 #[.int .i64 a0_0, .int .i64 a0_1, .int .i64 a0_2, .int .i64 a0_3] 68 ?_; intro gb211 hg w75 hbox hb; have BK211 := Aside0.mk (hbox); have GW211 := Aside0.mk (bz hg); have GE211 := GW211; replace HB := Aside0.mk (bs hb); clear hb hbox hg) | ((with_reducible refine gate_dst (N := 4) rfl ?_); refine bx 4 #[.int .i64 a1_0, .int .i64 a1_1, .int .i64 a1_2, .int .i64 a1_3] 68 ?_; intro gb212 hg w76 hbox hb; have BK212 := Aside0.mk (hbox); have GW212 := Aside0.mk (bz hg); have GE212 := GW212; have NB211_212 := Aside0.mk (bn gb211 hg); have NB212_211 := Aside0.mk NB211_212.out.symm; replace BK211 := Aside0.mk (bb gb211 hb); replace HB := Aside0.mk (bs hb); clear hb hbox hg) | ((with_reducible refine gate_dst (N := 5) rfl ?_); refine bx 5 #[.int .i64 a2_0, .int .i64 a2_1] 28 ?_; intro gb213 hg w77 hbox hb; have BK213 := Aside0.mk (hbox); have GW213 := Aside0.mk (bz hg); have GE213 := GW213; have NB211_213 := Aside0.mk (bn gb211 hg); have NB213_211 := Aside0.mk NB211_213.out.symm; have NB212_213 := Aside0.mk (bn gb212 hg); have NB213_212 := Aside0.mk NB212_213.out.symm; replace BK211 := Aside0.mk (bb gb211 hb); replace BK212 := Aside0.mk (bb gb212 hb); replace HB := Aside0.mk (bs hb); clear hb hbox hg) | ((with_reducible refine gate_dst (N := 6) rfl ?_); refine bx 6 #[.int .i64 0, .int .i64 0] 28 ?_; intro gb214 hg w78 hbox hb; have BK214 := Aside0.mk (hbox); have GW214 := Aside0.mk (bz hg); have GE214 := GW214; have NB211_214 := Aside0.mk (bn gb211 hg); have NB214_211 := Aside0.mk NB211_214.out.symm; have NB212_214 := Aside0.mk (bn gb212 hg); have NB214_212 := Aside0.mk NB212_214.out.symm; have NB213_214 := Aside0.mk (bn gb213 hg); have NB214_213 := Aside0.mk NB213_214.out.symm; replace BK211 := Aside0.mk (bb gb211 hb); replace BK212 := Aside0.mk (bb gb212 hb); replace BK213 := Aside0.mk (bb gb213 hb); replace HB := Aside0.mk (bs hb); clear hb hbox hg; have hnb79 := NB213_211.out; have hnc79 := NB211_213.out; have hnb80 := NB213_212.out; have hnc80 := NB212_213.out; have hnb81 := NB213_214.out; have hnc81 := NB214_213.out; have hcz82_0 : w78.cell? ⟨gb213, 0, none⟩ = some (.int .i64 a2_0) := (blk_cell BK213.out 0).trans rfl; have hcz82_1 : w78.cell? ⟨gb213, 1, none⟩ = some (.int .i64 a2_1) := (blk_cell BK213.out 1).trans rfl; have hfz82_0 := blk_frozen BK213.out 0; have hfz82_1 := blk_frozen BK213.out 1; have hnb83 := NB211_212.out; have hnc83 := NB212_211.out; have hnb84 := NB211_214.out; have hnc84 := NB214_211.out; have hcz85_0 : w78.cell? ⟨gb211, 0, none⟩ = some (.int .i64 a0_0) := (blk_cell BK211.out 0).trans rfl; have hcz85_1 : w78.cell? ⟨gb211, 1, none⟩ = some (.int .i64 a0_1) := (blk_cell BK211.out 1).trans rfl; have hcz85_2 : w78.cell? ⟨gb211, 2, none⟩ = some (.int .i64 a0_2) := (blk_cell BK211.out 2).trans rfl; have hcz85_3 : w78.cell? ⟨gb211, 3, none⟩ = some (.int .i64 a0_3) := (blk_cell BK211.out 3).trans rfl; have hfz85_0 := blk_frozen BK211.out 0; have hfz85_1 := blk_frozen BK211.out 1; have hfz85_2 := blk_frozen BK211.out 2; have hfz85_3 := blk_frozen BK211.out 3) | ((with_reducible refine gate_callee (f := 101) rfl ?_); refine gl 16 Try.func101 #[.agg #[.int .i64 a2_0, .int .i64 a2_1], .agg #[.int .i64 a0_0, .int .i64 a0_1]] ?_; (with_reducible refine (spec_raSub.calls k a2_0 a2_1 a0_0 a0_1 t215 t216 false _ A4.out).mono ?_); rintro e w86 ⟨rfl, hb⟩; refine ⟨_, rfl, ?_⟩; replace BK211 := Aside0.mk (bb gb211 hb); replace BK212 := Aside0.mk (bb gb212 hb); replace BK213 := Aside0.mk (bb gb213 hb); replace BK214 := Aside0.mk (bb gb214 hb); replace HB := Aside0.mk (bs hb); (try clear hb); (try clear hb2); (try clear hk); (try clear hi)) | ((with_reducible refine gate_dst (N := 8) rfl ?_); refine bx 8 #[.int .i64 0, .int .i64 0] 28 ?_; intro gb218 hg w87 hbox hb; have BK218 := Aside0.mk (hbox); have GW218 := Aside0.mk (bz hg); have GE218 := GW218; have NB211_218 := Aside0.mk (bn gb211 hg); have NB218_211 := Aside0.mk NB211_218.out.symm; have NB212_218 := Aside0.mk (bn gb212 hg); have NB218_212 := Aside0.mk NB212_218.out.symm; have NB213_218 := Aside0.mk (bn gb213 hg); have NB218_213 := Aside0.mk NB213_218.out.symm; have NB214_218 := Aside0.mk (bn gb214 hg); have NB218_214 := Aside0.mk NB214_218.out.symm; replace BK211 := Aside0.mk (bb gb211 hb); replace BK212 := Aside0.mk (bb gb212 hb); replace BK213 := Aside0.mk (bb gb213 hb); replace BK214 := Aside0.mk (bb gb214 hb); replace HB := Aside0.mk (bs hb); clear hb hbox hg; have hnb88 := NB218_211.out; have hnc88 := NB211_218.out; have hnb89 := NB218_212.out; have hnc89 := NB212_218.out; have hnb90 := NB218_213.out; have hnc90 := NB213_218.out; have hnb91 := NB218_214.out; have hnc91 := NB214_218.out; have hcz92_0 : w87.cell? ⟨gb218, 0, none⟩ = some (.int .i64 0) := (blk_cell BK218.out 0).trans rfl; have hcz92_1 : w87.cell? ⟨gb218, 1, none⟩ = some (.int .i64 0) := (blk_cell BK218.out 1).trans rfl; have hfz92_0 := blk_frozen BK218.out 0; have hfz92_1 := blk_frozen BK218.out 1))
  have n0_ : Aside0 (((w87.setCell ⟨gb218, 0, none⟩ (.int .i64 t215)).setCell ⟨gb218, 1, none⟩ (.int .i64 t216)).heap[gb211]? = some (.cells #[.int .i64 a0_0, .int .i64 a0_1, .int .i64 a0_2, .int .i64 a0_3] 68 (0, 0))) := ⟨by (with_reducible repeat (first | refine blk_drewN ?_ _ | refine blk_drew ?_ | refine blk_alloc ?_ _)); refine blk_far ?_ NB211_218.out _; (with_reducible repeat (first | refine blk_drewN ?_ _ | refine blk_drew ?_ | refine blk_alloc ?_ _)); refine blk_far ?_ NB211_218.out _; (with_reducible repeat (first | refine blk_drewN ?_ _ | refine blk_drew ?_ | refine blk_alloc ?_ _)); exact BK211.out⟩
  have n1_ : Aside0 (((w87.setCell ⟨gb218, 0, none⟩ (.int .i64 t215)).setCell ⟨gb218, 1, none⟩ (.int .i64 t216)).heap[gb212]? = some (.cells #[.int .i64 a1_0, .int .i64 a1_1, .int .i64 a1_2, .int .i64 a1_3] 68 (0, 0))) := ⟨by (with_reducible repeat (first | refine blk_drewN ?_ _ | refine blk_drew ?_ | refine blk_alloc ?_ _)); refine blk_far ?_ NB212_218.out _; (with_reducible repeat (first | refine blk_drewN ?_ _ | refine blk_drew ?_ | refine blk_alloc ?_ _)); refine blk_far ?_ NB212_218.out _; (with_reducible repeat (first | refine blk_drewN ?_ _ | refine blk_drew ?_ | refine blk_alloc ?_ _)); exact BK212.out⟩
  have n2_ : Aside0 (((w87.setCell ⟨gb218, 0, none⟩ (.int .i64 t215)).setCell ⟨gb218, 1, none⟩ (.int .i64 t216)).heap[gb213]? = some (.cells #[.int .i64 a2_0, .int .i64 a2_1] 28 (0, 0))) := ⟨by (with_reducible repeat (first | refine blk_drewN ?_ _ | refine blk_drew ?_ | refine blk_alloc ?_ _)); refine blk_far ?_ NB213_218.out _; (with_reducible repeat (first | refine blk_drewN ?_ _ | refine blk_drew ?_ | refine blk_alloc ?_ _)); refine blk_far ?_ NB213_218.out _; (with_reducible repeat (first | refine blk_drewN ?_ _ | refine blk_drew ?_ | refine blk_alloc ?_ _)); exact BK213.out⟩
  have n3_ : Aside0 (((w87.setCell ⟨gb218, 0, none⟩ (.int .i64 t215)).setCell ⟨gb218, 1, none⟩ (.int .i64 t216)).heap[gb214]? = some (.cells #[.int .i64 0, .int .i64 0] 28 (0, 0))) := ⟨by (with_reducible repeat (first | refine blk_drewN ?_ _ | refine blk_drew ?_ | refine blk_alloc ?_ _)); refine blk_far ?_ NB214_218.out _; (with_reducible repeat (first | refine blk_drewN ?_ _ | refine blk_drew ?_ | refine blk_alloc ?_ _)); refine blk_far ?_ NB214_218.out _; (with_reducible repeat (first | refine blk_drewN ?_ _ | refine blk_drew ?_ | refine blk_alloc ?_ _)); exact BK214.out⟩
  have n4_ : Aside0 (((w87.setCell ⟨gb218, 0, none⟩ (.int .i64 t215)).setCell ⟨gb218, 1, none⟩ (.int .i64 t216)).heap[gb218]? = some (.cells #[.int .i64 t215, .int .i64 t216] 28 (0, 0))) := ⟨by (with_reducible repeat (first | refine blk_drewN ?_ _ | refine blk_drew ?_ | refine blk_alloc ?_ _)); refine blk_put (cs := #[.int .i64 t215, .int .i64 0]) ?_ 1 _ rfl; (with_reducible repeat (first | refine blk_drewN ?_ _ | refine blk_drew ?_ | refine blk_alloc ?_ _)); refine blk_put (cs := #[.int .i64 0, .int .i64 0]) ?_ 0 _ rfl; (with_reducible repeat (first | refine blk_drewN ?_ _ | refine blk_drew ?_ | refine blk_alloc ?_ _)); exact BK218.out⟩
  have n5_ : Aside0 (Below w.heap.size w ((w87.setCell ⟨gb218, 0, none⟩ (.int .i64 t215)).setCell ⟨gb218, 1, none⟩ (.int .i64 t216))) := ⟨bl⟩
  (try clear BK211)
  (try clear BK212)
  (try clear BK213)
  (try clear BK214)
  (try clear BK218)
  (try clear HB)
  generalize ((w87.setCell ⟨gb218, 0, none⟩ (.int .i64 t215)).setCell ⟨gb218, 1, none⟩ (.int .i64 t216)) = w93 at n0_ n1_ n2_ n3_ n4_ n5_ ⊢
  have BK211 := n0_
  have BK212 := n1_
  have BK213 := n2_
  have BK214 := n3_
  have BK218 := n4_
  have HB := n5_
  clear n0_ n1_ n2_ n3_ n4_ n5_
  replace BK211 := Aside0.mk (blk_drew BK211.out)
  replace BK212 := Aside0.mk (blk_drew BK212.out)
  replace BK213 := Aside0.mk (blk_drew BK213.out)
  replace BK214 := Aside0.mk (blk_drew BK214.out)
  replace BK218 := Aside0.mk (blk_drew BK218.out)
  replace HB := Aside0.mk (below_drew1 HB.out)
  refine start_ (n := 11) (S := fun w' => w'.cell? ⟨gb218, 0, none⟩ = some (.int .i64 t215) ∧ w'.cell? ⟨gb218, 1, none⟩ = some (.int .i64 t216) ∧ w'.cell? ⟨gb211, 0, none⟩ = some (.int .i64 a0_0) ∧ w'.cell? ⟨gb211, 1, none⟩ = some (.int .i64 a0_1) ∧ w'.cell? ⟨gb211, 2, none⟩ = some (.int .i64 a0_2) ∧ w'.cell? ⟨gb211, 3, none⟩ = some (.int .i64 a0_3) ∧ w'.cell? ⟨gb212, 0, none⟩ = some (.int .i64 a1_0) ∧ w'.cell? ⟨gb212, 1, none⟩ = some (.int .i64 a1_1) ∧ w'.cell? ⟨gb212, 2, none⟩ = some (.int .i64 a1_2) ∧ w'.cell? ⟨gb212, 3, none⟩ = some (.int .i64 a1_3)) (ds := []) (tb 0 11) (by kernel_rfl) rfl rfl ⟨(blk_cell BK218.out 0).trans rfl, (blk_cell BK218.out 1).trans rfl, (blk_cell BK211.out 0).trans rfl, (blk_cell BK211.out 1).trans rfl, (blk_cell BK211.out 2).trans rfl, (blk_cell BK211.out 3).trans rfl, (blk_cell BK212.out 0).trans rfl, (blk_cell BK212.out 1).trans rfl, (blk_cell BK212.out 2).trans rfl, (blk_cell BK212.out 3).trans rfl⟩ (fun hHeld => ?_); refine with_tabW spec_imOn.tab2 spec_imOn.bits2 (fun HT_ HW_ => ?_)
  generalize w93.drew = w94 at BK211 BK212 BK213 BK214 BK218 HB hHeld ⊢
  refine tk 0 20 (tb 1 10) (hy := by rintro w' ⟨s0, s1, s2, s3, s4, s5, s6, s7, s8, s9⟩; go_simp; with_reducible rfl) (h := ?_)
  refine tk 1 21 (tb 2 9) (hy := by rintro w' ⟨s0, s1, s2, s3, s4, s5, s6, s7, s8, s9⟩; go_simp; with_reducible rfl) (h := ?_)
  refine tk 2 22 (tb 3 8) (hy := by rintro w' ⟨s0, s1, s2, s3, s4, s5, s6, s7, s8, s9⟩; go_simp; with_reducible rfl) (h := ?_)
  refine join_ (σ := Nat) 2 (tb 9 2) (fun s_ => [(23, .agg #[.int .i64 t219, .int .i64 t220]), (24, .tuple #[.agg #[.int .i64 t221, .int .i64 t222], .bool t223]), (10, .pointer (some ⟨s_, 0, none⟩)), (19, .tuple #[.agg #[.int .i64 t221, .int .i64 t222], .bool t223]), (25, .agg #[.int .i64 t221, .int .i64 t222]), (26, .bool t223)]) (fun s_ w' => (w'.cell? ⟨gb218, 0, none⟩ = some (.int .i64 t215) ∧ w'.cell? ⟨gb218, 1, none⟩ = some (.int .i64 t216) ∧ w'.cell? ⟨gb211, 0, none⟩ = some (.int .i64 a0_0) ∧ w'.cell? ⟨gb211, 1, none⟩ = some (.int .i64 a0_1) ∧ w'.cell? ⟨gb211, 2, none⟩ = some (.int .i64 a0_2) ∧ w'.cell? ⟨gb211, 3, none⟩ = some (.int .i64 a0_3) ∧ w'.cell? ⟨gb212, 0, none⟩ = some (.int .i64 a1_0) ∧ w'.cell? ⟨gb212, 1, none⟩ = some (.int .i64 a1_1) ∧ w'.cell? ⟨gb212, 2, none⟩ = some (.int .i64 a1_2) ∧ w'.cell? ⟨gb212, 3, none⟩ = some (.int .i64 a1_3)) ∧ (w'.heap[gb211]? = some (.cells #[.int .i64 a0_0, .int .i64 a0_1, .int .i64 a0_2, .int .i64 a0_3] 68 (0, 0))) ∧ (w'.heap[gb212]? = some (.cells #[.int .i64 a1_0, .int .i64 a1_1, .int .i64 a1_2, .int .i64 a1_3] 68 (0, 0))) ∧ (w'.heap[gb213]? = some (.cells #[.int .i64 a2_0, .int .i64 a2_1] 28 (0, 0))) ∧ (w'.heap[gb214]? = some (.cells #[.int .i64 0, .int .i64 0] 28 (0, 0))) ∧ (w'.heap[gb218]? = some (.cells #[.int .i64 t215, .int .i64 t216] 28 (0, 0))) ∧ (w'.heap[s_]? = some (.cells #[.int .i64 0, .int .i64 0] 28 (0, 0))) ∧ (w.heap.size ≤ s_) ∧ (w.heap.size ≤ s_) ∧ (gb211 ≠ s_) ∧ (s_ ≠ gb211) ∧ (gb212 ≠ s_) ∧ (s_ ≠ gb212) ∧ (gb213 ≠ s_) ∧ (s_ ≠ gb213) ∧ (gb214 ≠ s_) ∧ (s_ ≠ gb214) ∧ (gb218 ≠ s_) ∧ (s_ ≠ gb218) ∧ (Below w.heap.size w w')) ?_ ?_
  rotate_left
  ·intro hCont
   refine two_ (i := 3) (j := 8) (Ni := some 23) (Nj := some 10) (tb 4 7) #[true, true, true, false, false, false, false, false, true, false, false] rfl rfl rfl rfl (two_of HT_.out (by kernel_rfl)) (by decide) (by decide) (fun K hK => ?_) (fun K hK => ?_)
   ·skip
    refine gs Try.func84 #[.agg #[.int .i64 a0_0, .int .i64 a0_1, .int .i64 a0_2, .int .i64 a0_3], .agg #[.int .i64 a1_0, .int .i64 a1_1, .int .i64 a1_2, .int .i64 a1_3]] ?_
    with_reducible refine (spec_imSlope.calls k a0_0 a0_1 a0_2 a0_3 a1_0 a1_1 a1_2 a1_3 t219 t220 _ A5.out).mono ?_
    rintro e w95 ⟨rfl, hb⟩
    refine ⟨_, rfl, ?_⟩
    replace BK211 := Aside0.mk (bb gb211 hb)
    replace BK212 := Aside0.mk (bb gb212 hb)
    replace BK213 := Aside0.mk (bb gb213 hb)
    replace BK214 := Aside0.mk (bb gb214 hb)
    replace BK218 := Aside0.mk (bb gb218 hb)
    replace HB := Aside0.mk (bs hb)
    (try clear hb)
    (try clear hb2)
    (try clear hk)
    (try clear hi)
    refine hK.out _ _ ⟨(blk_cell BK218.out 0).trans rfl, (blk_cell BK218.out 1).trans rfl, (blk_cell BK211.out 0).trans rfl, (blk_cell BK211.out 1).trans rfl, (blk_cell BK211.out 2).trans rfl, (blk_cell BK211.out 3).trans rfl, (blk_cell BK212.out 0).trans rfl, (blk_cell BK212.out 1).trans rfl, (blk_cell BK212.out 2).trans rfl, (blk_cell BK212.out 3).trans rfl⟩ (fun hHeld => ?_)
    clear hK K
    refine nm 23 ?_
    refine two_ (i := 4) (j := 8) (Ni := some 24) (Nj := some 10) (tb 5 6) #[true, true, true, true, false, false, false, false, true, false, false] rfl rfl rfl rfl (two_of HT_.out (by kernel_rfl)) (by decide) (by decide) (fun K hK => ?_) (fun K hK => ?_)
    ·skip
     refine gs Try.func100 #[.agg #[.int .i64 t215, .int .i64 t216], .agg #[.int .i64 t219, .int .i64 t220]] ?_
     with_reducible refine (spec_raMul.calls k t215 t216 t219 t220 t221 t222 t223 _ A6.out).mono ?_
     rintro e w96 ⟨rfl, hb⟩
     refine ⟨_, rfl, ?_⟩
     replace BK211 := Aside0.mk (bb gb211 hb)
     replace BK212 := Aside0.mk (bb gb212 hb)
     replace BK213 := Aside0.mk (bb gb213 hb)
     replace BK214 := Aside0.mk (bb gb214 hb)
     replace BK218 := Aside0.mk (bb gb218 hb)
     replace HB := Aside0.mk (bs hb)
     (try clear hb)
     (try clear hb2)
     (try clear hk)
     (try clear hi)
     refine hK.out _ _ ⟨(blk_cell BK218.out 0).trans rfl, (blk_cell BK218.out 1).trans rfl, (blk_cell BK211.out 0).trans rfl, (blk_cell BK211.out 1).trans rfl, (blk_cell BK211.out 2).trans rfl, (blk_cell BK211.out 3).trans rfl, (blk_cell BK212.out 0).trans rfl, (blk_cell BK212.out 1).trans rfl, (blk_cell BK212.out 2).trans rfl, (blk_cell BK212.out 3).trans rfl⟩ (fun hHeld => ?_)
     clear hK K
     refine nm 24 ?_
     refine pu 5 19 (tb 6 5) ?_
     refine pu 6 25 (tb 7 4) ?_
     refine pu 7 26 (tb 8 3) ?_
     refine on 8 10 (tb 9 2) (fun K hK => ?_)
     refine box_step ?hg (N := 10) ?hd (cs := #[.int .i64 0, .int .i64 0]) (t := 28) ?hr ?_; (case hd => rfl); (case hg => rfl); (case hr => first | (go_simp; done) | (go_simp; rfl))
     intro gb224 hg w97 hbox hb
     have BK224 := Aside0.mk (hbox)
     have GW224 := Aside0.mk (bz hg)
     have GE224 := GW224
     have NB211_224 := Aside0.mk (bn gb211 hg)
     have NB224_211 := Aside0.mk NB211_224.out.symm
     have NB212_224 := Aside0.mk (bn gb212 hg)
     have NB224_212 := Aside0.mk NB212_224.out.symm
     have NB213_224 := Aside0.mk (bn gb213 hg)
     have NB224_213 := Aside0.mk NB213_224.out.symm
     have NB214_224 := Aside0.mk (bn gb214 hg)
     have NB224_214 := Aside0.mk NB214_224.out.symm
     have NB218_224 := Aside0.mk (bn gb218 hg)
     have NB224_218 := Aside0.mk NB218_224.out.symm
     replace BK211 := Aside0.mk (bb gb211 hb)
     replace BK212 := Aside0.mk (bb gb212 hb)
     replace BK213 := Aside0.mk (bb gb213 hb)
     replace BK214 := Aside0.mk (bb gb214 hb)
     replace BK218 := Aside0.mk (bb gb218 hb)
     replace HB := Aside0.mk (bs hb)
     clear hb hbox hg
     refine hK.out _ _ ⟨(blk_cell BK218.out 0).trans rfl, (blk_cell BK218.out 1).trans rfl, (blk_cell BK211.out 0).trans rfl, (blk_cell BK211.out 1).trans rfl, (blk_cell BK211.out 2).trans rfl, (blk_cell BK211.out 3).trans rfl, (blk_cell BK212.out 0).trans rfl, (blk_cell BK212.out 1).trans rfl, (blk_cell BK212.out 2).trans rfl, (blk_cell BK212.out 3).trans rfl⟩ (fun hHeld => ?_)
     clear hK K
     refine nm 10 ?_
     exact norm_ (by simp only [putAll, Act.put, List.setIfInBounds_toArray, List.set_cons_zero, List.set_cons_succ]) (hCont (gb224) _ ⟨hHeld, (bo gb211), (bo gb212), (bo gb213), (bo gb214), (bo gb218), (bo gb224), GW224.out, GE224.out, NB211_224.out, NB224_211.out, NB212_224.out, NB224_212.out, NB213_224.out, NB224_213.out, NB214_224.out, NB224_214.out, NB218_224.out, NB224_218.out, bl⟩)
    ·skip
     refine box_step ?hg (N := 10) ?hd (cs := #[.int .i64 0, .int .i64 0]) (t := 28) ?hr ?_; (case hd => rfl); (case hg => rfl); (case hr => first | (go_simp; done) | (go_simp; rfl))
     intro gb224 hg w96 hbox hb
     have BK224 := Aside0.mk (hbox)
     have GW224 := Aside0.mk (bz hg)
     have GE224 := GW224
     have NB211_224 := Aside0.mk (bn gb211 hg)
     have NB224_211 := Aside0.mk NB211_224.out.symm
     have NB212_224 := Aside0.mk (bn gb212 hg)
     have NB224_212 := Aside0.mk NB212_224.out.symm
     have NB213_224 := Aside0.mk (bn gb213 hg)
     have NB224_213 := Aside0.mk NB213_224.out.symm
     have NB214_224 := Aside0.mk (bn gb214 hg)
     have NB224_214 := Aside0.mk NB214_224.out.symm
     have NB218_224 := Aside0.mk (bn gb218 hg)
     have NB224_218 := Aside0.mk NB218_224.out.symm
     replace BK211 := Aside0.mk (bb gb211 hb)
     replace BK212 := Aside0.mk (bb gb212 hb)
     replace BK213 := Aside0.mk (bb gb213 hb)
     replace BK214 := Aside0.mk (bb gb214 hb)
     replace BK218 := Aside0.mk (bb gb218 hb)
     replace HB := Aside0.mk (bs hb)
     clear hb hbox hg
     refine hK.out _ _ ⟨(blk_cell BK218.out 0).trans rfl, (blk_cell BK218.out 1).trans rfl, (blk_cell BK211.out 0).trans rfl, (blk_cell BK211.out 1).trans rfl, (blk_cell BK211.out 2).trans rfl, (blk_cell BK211.out 3).trans rfl, (blk_cell BK212.out 0).trans rfl, (blk_cell BK212.out 1).trans rfl, (blk_cell BK212.out 2).trans rfl, (blk_cell BK212.out 3).trans rfl⟩ (fun hHeld => ?_)
     clear hK K
     refine nm 10 ?_
     refine on 4 24 #[true, true, true, true, true, false, false, false, true, false, false] (fun K hK => ?_)
     refine gs Try.func100 #[.agg #[.int .i64 t215, .int .i64 t216], .agg #[.int .i64 t219, .int .i64 t220]] ?_
     with_reducible refine (spec_raMul.calls k t215 t216 t219 t220 t221 t222 t223 _ A6.out).mono ?_
     rintro e w97 ⟨rfl, hb⟩
     refine ⟨_, rfl, ?_⟩
     replace BK211 := Aside0.mk (bb gb211 hb)
     replace BK212 := Aside0.mk (bb gb212 hb)
     replace BK213 := Aside0.mk (bb gb213 hb)
     replace BK214 := Aside0.mk (bb gb214 hb)
     replace BK218 := Aside0.mk (bb gb218 hb)
     replace BK224 := Aside0.mk (bb gb224 hb)
     replace HB := Aside0.mk (bs hb)
     (try clear hb)
     (try clear hb2)
     (try clear hk)
     (try clear hi)
     refine hK.out _ _ ⟨(blk_cell BK218.out 0).trans rfl, (blk_cell BK218.out 1).trans rfl, (blk_cell BK211.out 0).trans rfl, (blk_cell BK211.out 1).trans rfl, (blk_cell BK211.out 2).trans rfl, (blk_cell BK211.out 3).trans rfl, (blk_cell BK212.out 0).trans rfl, (blk_cell BK212.out 1).trans rfl, (blk_cell BK212.out 2).trans rfl, (blk_cell BK212.out 3).trans rfl⟩ (fun hHeld => ?_)
     clear hK K
     refine nm 24 ?_
     refine pu 5 19 #[true, true, true, true, true, true, false, false, true, false, false] ?_
     refine pu 6 25 #[true, true, true, true, true, true, true, false, true, false, false] ?_
     refine pu 7 26 (tb 9 2) ?_
     exact norm_ (by simp only [putAll, Act.put, List.setIfInBounds_toArray, List.set_cons_zero, List.set_cons_succ]) (hCont (gb224) _ ⟨hHeld, (bo gb211), (bo gb212), (bo gb213), (bo gb214), (bo gb218), (bo gb224), GW224.out, GE224.out, NB211_224.out, NB224_211.out, NB212_224.out, NB224_212.out, NB213_224.out, NB224_213.out, NB214_224.out, NB224_214.out, NB218_224.out, NB224_218.out, bl⟩)
   ·skip
    refine box_step ?hg (N := 10) ?hd (cs := #[.int .i64 0, .int .i64 0]) (t := 28) ?hr ?_; (case hd => rfl); (case hg => rfl); (case hr => first | (go_simp; done) | (go_simp; rfl))
    intro gb224 hg w95 hbox hb
    have BK224 := Aside0.mk (hbox)
    have GW224 := Aside0.mk (bz hg)
    have GE224 := GW224
    have NB211_224 := Aside0.mk (bn gb211 hg)
    have NB224_211 := Aside0.mk NB211_224.out.symm
    have NB212_224 := Aside0.mk (bn gb212 hg)
    have NB224_212 := Aside0.mk NB212_224.out.symm
    have NB213_224 := Aside0.mk (bn gb213 hg)
    have NB224_213 := Aside0.mk NB213_224.out.symm
    have NB214_224 := Aside0.mk (bn gb214 hg)
    have NB224_214 := Aside0.mk NB214_224.out.symm
    have NB218_224 := Aside0.mk (bn gb218 hg)
    have NB224_218 := Aside0.mk NB218_224.out.symm
    replace BK211 := Aside0.mk (bb gb211 hb)
    replace BK212 := Aside0.mk (bb gb212 hb)
    replace BK213 := Aside0.mk (bb gb213 hb)
    replace BK214 := Aside0.mk (bb gb214 hb)
    replace BK218 := Aside0.mk (bb gb218 hb)
    replace HB := Aside0.mk (bs hb)
    clear hb hbox hg
    refine hK.out _ _ ⟨(blk_cell BK218.out 0).trans rfl, (blk_cell BK218.out 1).trans rfl, (blk_cell BK211.out 0).trans rfl, (blk_cell BK211.out 1).trans rfl, (blk_cell BK211.out 2).trans rfl, (blk_cell BK211.out 3).trans rfl, (blk_cell BK212.out 0).trans rfl, (blk_cell BK212.out 1).trans rfl, (blk_cell BK212.out 2).trans rfl, (blk_cell BK212.out 3).trans rfl⟩ (fun hHeld => ?_)
    clear hK K
    refine nm 10 ?_
    refine on 3 23 #[true, true, true, true, false, false, false, false, true, false, false] (fun K hK => ?_)
    refine gs Try.func84 #[.agg #[.int .i64 a0_0, .int .i64 a0_1, .int .i64 a0_2, .int .i64 a0_3], .agg #[.int .i64 a1_0, .int .i64 a1_1, .int .i64 a1_2, .int .i64 a1_3]] ?_
    with_reducible refine (spec_imSlope.calls k a0_0 a0_1 a0_2 a0_3 a1_0 a1_1 a1_2 a1_3 t219 t220 _ A5.out).mono ?_
    rintro e w96 ⟨rfl, hb⟩
    refine ⟨_, rfl, ?_⟩
    replace BK211 := Aside0.mk (bb gb211 hb)
    replace BK212 := Aside0.mk (bb gb212 hb)
    replace BK213 := Aside0.mk (bb gb213 hb)
    replace BK214 := Aside0.mk (bb gb214 hb)
    replace BK218 := Aside0.mk (bb gb218 hb)
    replace BK224 := Aside0.mk (bb gb224 hb)
    replace HB := Aside0.mk (bs hb)
    (try clear hb)
    (try clear hb2)
    (try clear hk)
    (try clear hi)
    refine hK.out _ _ ⟨(blk_cell BK218.out 0).trans rfl, (blk_cell BK218.out 1).trans rfl, (blk_cell BK211.out 0).trans rfl, (blk_cell BK211.out 1).trans rfl, (blk_cell BK211.out 2).trans rfl, (blk_cell BK211.out 3).trans rfl, (blk_cell BK212.out 0).trans rfl, (blk_cell BK212.out 1).trans rfl, (blk_cell BK212.out 2).trans rfl, (blk_cell BK212.out 3).trans rfl⟩ (fun hHeld => ?_)
    clear hK K
    refine nm 23 ?_
    refine on 4 24 #[true, true, true, true, true, false, false, false, true, false, false] (fun K hK => ?_)
    refine gs Try.func100 #[.agg #[.int .i64 t215, .int .i64 t216], .agg #[.int .i64 t219, .int .i64 t220]] ?_
    with_reducible refine (spec_raMul.calls k t215 t216 t219 t220 t221 t222 t223 _ A6.out).mono ?_
    rintro e w97 ⟨rfl, hb⟩
    refine ⟨_, rfl, ?_⟩
    replace BK211 := Aside0.mk (bb gb211 hb)
    replace BK212 := Aside0.mk (bb gb212 hb)
    replace BK213 := Aside0.mk (bb gb213 hb)
    replace BK214 := Aside0.mk (bb gb214 hb)
    replace BK218 := Aside0.mk (bb gb218 hb)
    replace BK224 := Aside0.mk (bb gb224 hb)
    replace HB := Aside0.mk (bs hb)
    (try clear hb)
    (try clear hb2)
    (try clear hk)
    (try clear hi)
    refine hK.out _ _ ⟨(blk_cell BK218.out 0).trans rfl, (blk_cell BK218.out 1).trans rfl, (blk_cell BK211.out 0).trans rfl, (blk_cell BK211.out 1).trans rfl, (blk_cell BK211.out 2).trans rfl, (blk_cell BK211.out 3).trans rfl, (blk_cell BK212.out 0).trans rfl, (blk_cell BK212.out 1).trans rfl, (blk_cell BK212.out 2).trans rfl, (blk_cell BK212.out 3).trans rfl⟩ (fun hHeld => ?_)
    clear hK K
    refine nm 24 ?_
    refine pu 5 19 #[true, true, true, true, true, true, false, false, true, false, false] ?_
    refine pu 6 25 #[true, true, true, true, true, true, true, false, true, false, false] ?_
    refine pu 7 26 (tb 9 2) ?_
    exact norm_ (by simp only [putAll, Act.put, List.setIfInBounds_toArray, List.set_cons_zero, List.set_cons_succ]) (hCont (gb224) _ ⟨hHeld, (bo gb211), (bo gb212), (bo gb213), (bo gb214), (bo gb218), (bo gb224), GW224.out, GE224.out, NB211_224.out, NB224_211.out, NB212_224.out, NB224_212.out, NB213_224.out, NB224_213.out, NB214_224.out, NB224_214.out, NB218_224.out, NB224_218.out, bl⟩)
  rintro gb224 w98 ⟨hS_, h0_, h1_, h2_, h3_, h4_, h5_, h6_, h7_, h8_, h9_, h10_, h11_, h12_, h13_, h14_, h15_, h16_, h17_, h18_⟩
  have n0_ : Aside0 (w98.heap[gb211]? = some (.cells #[.int .i64 a0_0, .int .i64 a0_1, .int .i64 a0_2, .int .i64 a0_3] 68 (0, 0))) := ⟨h0_⟩
  have n1_ : Aside0 (w98.heap[gb212]? = some (.cells #[.int .i64 a1_0, .int .i64 a1_1, .int .i64 a1_2, .int .i64 a1_3] 68 (0, 0))) := ⟨h1_⟩
  have n2_ : Aside0 (w98.heap[gb213]? = some (.cells #[.int .i64 a2_0, .int .i64 a2_1] 28 (0, 0))) := ⟨h2_⟩
  have n3_ : Aside0 (w98.heap[gb214]? = some (.cells #[.int .i64 0, .int .i64 0] 28 (0, 0))) := ⟨h3_⟩
  have n4_ : Aside0 (w98.heap[gb218]? = some (.cells #[.int .i64 t215, .int .i64 t216] 28 (0, 0))) := ⟨h4_⟩
  have n5_ : Aside0 (w98.heap[gb224]? = some (.cells #[.int .i64 0, .int .i64 0] 28 (0, 0))) := ⟨h5_⟩
  have n6_ : Aside0 (w.heap.size ≤ gb224) := ⟨h6_⟩
  have n7_ : Aside0 (w.heap.size ≤ gb224) := ⟨h7_⟩
  have n8_ : Aside0 (gb211 ≠ gb224) := ⟨h8_⟩
  have n9_ : Aside0 (gb224 ≠ gb211) := ⟨h9_⟩
  have n10_ : Aside0 (gb212 ≠ gb224) := ⟨h10_⟩
  have n11_ : Aside0 (gb224 ≠ gb212) := ⟨h11_⟩
  have n12_ : Aside0 (gb213 ≠ gb224) := ⟨h12_⟩
  have n13_ : Aside0 (gb224 ≠ gb213) := ⟨h13_⟩
  have n14_ : Aside0 (gb214 ≠ gb224) := ⟨h14_⟩
  have n15_ : Aside0 (gb224 ≠ gb214) := ⟨h15_⟩
  have n16_ : Aside0 (gb218 ≠ gb224) := ⟨h16_⟩
  have n17_ : Aside0 (gb224 ≠ gb218) := ⟨h17_⟩
  have n18_ : Aside0 (Below w.heap.size w w98) := ⟨h18_⟩
  clear BK211
  clear BK212
  clear BK213
  clear BK214
  clear BK218
  clear HB
  clear h0_ h1_ h2_ h3_ h4_ h5_ h6_ h7_ h8_ h9_ h10_ h11_ h12_ h13_ h14_ h15_ h16_ h17_ h18_
  have BK211 := n0_
  have BK212 := n1_
  have BK213 := n2_
  have BK214 := n3_
  have BK218 := n4_
  have BK224 := n5_
  have GW224 := n6_
  have GE224 := n7_
  have NB211_224 := n8_
  have NB224_211 := n9_
  have NB212_224 := n10_
  have NB224_212 := n11_
  have NB213_224 := n12_
  have NB224_213 := n13_
  have NB214_224 := n14_
  have NB224_214 := n15_
  have NB218_224 := n16_
  have NB224_218 := n17_
  have HB := n18_
  clear n0_ n1_ n2_ n3_ n4_ n5_ n6_ n7_ n8_ n9_ n10_ n11_ n12_ n13_ n14_ n15_ n16_ n17_ n18_
  have hHeld : w98.cell? ⟨gb218, 0, none⟩ = some (.int .i64 t215) ∧ w98.cell? ⟨gb218, 1, none⟩ = some (.int .i64 t216) ∧ w98.cell? ⟨gb211, 0, none⟩ = some (.int .i64 a0_0) ∧ w98.cell? ⟨gb211, 1, none⟩ = some (.int .i64 a0_1) ∧ w98.cell? ⟨gb211, 2, none⟩ = some (.int .i64 a0_2) ∧ w98.cell? ⟨gb211, 3, none⟩ = some (.int .i64 a0_3) ∧ w98.cell? ⟨gb212, 0, none⟩ = some (.int .i64 a1_0) ∧ w98.cell? ⟨gb212, 1, none⟩ = some (.int .i64 a1_1) ∧ w98.cell? ⟨gb212, 2, none⟩ = some (.int .i64 a1_2) ∧ w98.cell? ⟨gb212, 3, none⟩ = some (.int .i64 a1_3) := hS_
  refine norm_ (a' := ?_) ?_ ?_
  rotate_left
  ·simp only [putAll, Act.put, List.setIfInBounds_toArray, List.set_cons_zero, List.set_cons_succ]
   rfl
  refine one_ (i := 9) (N := none) (tb 10 1) rfl rfl (one_of HT_.out (by kernel_rfl)) (by decide) (fun K hK => ?_)
  have hs99 : w98.cell? ⟨gb224, 0, none⟩ = some (.int .i64 0) := (blk_cell BK224.out 0).trans rfl
  have hfs99 := blk_frozen BK224.out 0
  have hns99_0 := NB211_224.out
  have hns99_1 := NB212_224.out
  have hns99_2 := NB213_224.out
  have hns99_3 := NB214_224.out
  have hns99_4 := NB218_224.out
  have hms99_0 := NB224_211.out
  have hms99_1 := NB224_212.out
  have hms99_2 := NB224_213.out
  have hms99_3 := NB224_214.out
  have hms99_4 := NB224_218.out
  have hs100 : w98.cell? ⟨gb224, 1, none⟩ = some (.int .i64 0) := (blk_cell BK224.out 1).trans rfl
  have hfs100 := blk_frozen BK224.out 1
  have hns100_0 := NB211_224.out
  have hns100_1 := NB212_224.out
  have hns100_2 := NB213_224.out
  have hns100_3 := NB214_224.out
  have hns100_4 := NB218_224.out
  have hms100_0 := NB224_211.out
  have hms100_1 := NB224_212.out
  have hms100_2 := NB224_213.out
  have hms100_3 := NB224_214.out
  have hms100_4 := NB224_218.out
  refine skip_ (w1 := ?_) (by rfl) rfl ?_ ?_
  rotate_left
  ·go_simp
   rfl
  refine hK.out _ _ ⟨(by (iterate 2 refine (cell_far (p := ⟨gb224, _, none⟩) NB218_224.out _).trans ?_); exact hHeld.1), (by (iterate 2 refine (cell_far (p := ⟨gb224, _, none⟩) NB218_224.out _).trans ?_); exact hHeld.2.1), (by (iterate 2 refine (cell_far (p := ⟨gb224, _, none⟩) NB211_224.out _).trans ?_); exact hHeld.2.2.1), (by (iterate 2 refine (cell_far (p := ⟨gb224, _, none⟩) NB211_224.out _).trans ?_); exact hHeld.2.2.2.1), (by (iterate 2 refine (cell_far (p := ⟨gb224, _, none⟩) NB211_224.out _).trans ?_); exact hHeld.2.2.2.2.1), (by (iterate 2 refine (cell_far (p := ⟨gb224, _, none⟩) NB211_224.out _).trans ?_); exact hHeld.2.2.2.2.2.1), (by (iterate 2 refine (cell_far (p := ⟨gb224, _, none⟩) NB212_224.out _).trans ?_); exact hHeld.2.2.2.2.2.2.1), (by (iterate 2 refine (cell_far (p := ⟨gb224, _, none⟩) NB212_224.out _).trans ?_); exact hHeld.2.2.2.2.2.2.2.1), (by (iterate 2 refine (cell_far (p := ⟨gb224, _, none⟩) NB212_224.out _).trans ?_); exact hHeld.2.2.2.2.2.2.2.2.1), (by (iterate 2 refine (cell_far (p := ⟨gb224, _, none⟩) NB212_224.out _).trans ?_); exact hHeld.2.2.2.2.2.2.2.2.2)⟩ (fun hHeld => ?_)
  clear hK K
  refine pu 10 11 (tb 11 0) ?_
  refine done_ (done_of HT_.out (by kernel_rfl)) ?_
  have hnb101 := NB214_212.out
  have hnc101 := NB212_214.out
  have hnb102 := NB214_224.out
  have hnc102 := NB224_214.out
  have hcz103_0 : w98.cell? ⟨gb214, 0, none⟩ = some (.int .i64 0) := (blk_cell BK214.out 0).trans rfl
  have hcz103_1 : w98.cell? ⟨gb214, 1, none⟩ = some (.int .i64 0) := (blk_cell BK214.out 1).trans rfl
  have hfz103_0 := blk_frozen BK214.out 0
  have hfz103_1 := blk_frozen BK214.out 1
  try go_wp2
  refine bodyPost_ret (results_ct rfl _ _ gb214 28 #[.int .i64 0, .int .i64 0] (0, 0) _ rfl (by (with_reducible repeat (first | refine blk_drewN ?_ _ | refine blk_drew ?_ | refine blk_alloc ?_ _)); refine blk_put (cs := #[.int .i64 0, .int .i64 0]) ?_ 1 _ rfl; (with_reducible repeat (first | refine blk_drewN ?_ _ | refine blk_drew ?_ | refine blk_alloc ?_ _)); refine blk_put (cs := #[.int .i64 0, .int .i64 0]) ?_ 0 _ rfl; (with_reducible repeat (first | refine blk_drewN ?_ _ | refine blk_drew ?_ | refine blk_alloc ?_ _)); refine blk_far ?_ NB214_224.out _; (with_reducible repeat (first | refine blk_drewN ?_ _ | refine blk_drew ?_ | refine blk_alloc ?_ _)); refine blk_far ?_ NB214_224.out _; (with_reducible repeat (first | refine blk_drewN ?_ _ | refine blk_drew ?_ | refine blk_alloc ?_ _)); exact BK214.out) Try.underlying28 rfl (by kernel_rfl)) rfl ?_
  exact ⟨by first | rfl | (simp [errW_none, errW_some] <;> rfl) | (simp [*, errW_none, errW_some] <;> rfl), bl⟩

end Go.Proofs.Ytmecnnnagallnaa.PFnExactPiecesOf
