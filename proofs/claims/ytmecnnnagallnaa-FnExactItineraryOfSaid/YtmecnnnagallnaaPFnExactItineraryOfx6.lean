-- Written by this session's program wip/pp (the kit's print tool with additions) 35421559b90ae4d0a3588c463048766b98c2df88dd9212a6774a882060cdf62d
import Derived.Test.YtmecnnnagallnaaPFnExactItineraryOfx0
import Derived.Test.YtmecnnnagallnaaPFnExactItineraryOfx5
namespace Go.Proofs.Ytmecnnnagallnaa.PFnExactItineraryOf
open Go.RowKit Go.Proofs.YtmecnnnagallnaaW.PrintWords Go.Proofs.YtmecnnnagallnaaW.PrintLast Go.Proofs.YtmecnnnagallnaaW.PrintMore
attribute [local go_sem] max2_int min2_int max_two min_two max_three min_three max_four min_four   -- for this text's walks alone
set_option linter.unusedVariables false
set_option linter.unusedSimpArgs false

/-! ### spec_imOn: function 135 -/
def spec_imOn.f (k : Nat) (a0_0 : Int) (a0_1 : Int) (a0_2 : Int) (a0_3 : Int) (a1_0 : Int) (a1_1 : Int) (a1_2 : Int) (a1_3 : Int) (a2_0 : Int) (a2_1 : Int) : Option (Int × Int × Bool) := (spec_raSub.f k a2_0 a2_1 a0_0 a0_1).bind fun bt203 => ((spec_imSlope.f k a0_0 a0_1 a0_2 a0_3 a1_0 a1_1 a1_2 a1_3).bind fun bt207 => ((spec_raMul.f k bt203.1 bt203.2.1 bt207.1 bt207.2).bind fun bt209 => (if bt203.2.2 = true then (if bt209.2.2 = true then ((spec_raAdd.f k a0_2 a0_3 bt209.1 bt209.2.1).bind fun bt213 => (some (bt213.1, bt213.2.1, bt213.2.2))) else (some (0, 0, false))) else (some (0, 0, false)))))
def spec_imOn.T2 : Bool × List (List Nat × List Nat) := (true, [([], []), ([], []), ([], []), ([1, 2], [1, 2]), ([0, 3, 3], [0, 3]), ([4], [4]), ([5], [5]), ([5], [5]), ([], []), ([8, 6, 4, 0, 1, 2, 3, 4, 5, 6, 8], [6, 8]), ([7, 9, 0, 1, 2, 3, 4, 5, 6, 7, 8, 9], [7])])
def spec_imOn.B2 : List Nat := [0, 0, 0, 6, 15, 31, 63, 63, 0, 383, 1023]
theorem spec_imOn.tab2 : rtab .any (opsOf Try.f135 2) = spec_imOn.T2 := by kernel_rfl
theorem spec_imOn.bits2 : waitsOk spec_imOn.T2.2 spec_imOn.B2 = true := by kernel_rfl
set_option maxHeartbeats 8000000 in
set_option maxRecDepth 100000 in
theorem spec_imOn.calls (k : Nat) (a0_0 : Int) (a0_1 : Int) (a0_2 : Int) (a0_3 : Int) (a1_0 : Int) (a1_1 : Int) (a1_2 : Int) (a1_3 : Int) (a2_0 : Int) (a2_1 : Int) (r1 : Int) (r2 : Int) (r3 : Bool) (w : World) (h : spec_imOn.f k a0_0 a0_1 a0_2 a0_3 a1_0 a1_1 a1_2 a1_3 a2_0 a2_1 = some (r1, r2, r3)) :
  Calls Try.prog 135 #[.agg #[.int .i64 a0_0, .int .i64 a0_1, .int .i64 a0_2, .int .i64 a0_3], .agg #[.int .i64 a1_0, .int .i64 a1_1, .int .i64 a1_2, .int .i64 a1_3], .agg #[.int .i64 a2_0, .int .i64 a2_1]] w fun e w' => e = .returned (.tuple #[.agg #[.int .i64 r1, .int .i64 r2], .bool r3]) ∧ Below w.heap.size w w' := by
 have hu68 := Try.underlying68
 have hu28 := Try.underlying28
 have HB := Aside0.mk (Below.refl w.heap.size w)
 have H : ((spec_raSub.f k a2_0 a2_1 a0_0 a0_1).bind fun bt203 => ((spec_imSlope.f k a0_0 a0_1 a0_2 a0_3 a1_0 a1_1 a1_2 a1_3).bind fun bt207 => ((spec_raMul.f k bt203.1 bt203.2.1 bt207.1 bt207.2).bind fun bt209 => (if bt203.2.2 = true then (if bt209.2.2 = true then ((spec_raAdd.f k a0_2 a0_3 bt209.1 bt209.2.1).bind fun bt213 => (some (bt213.1, bt213.2.1, bt213.2.2))) else (some (0, 0, false))) else (some (0, 0, false)))))) = some (r1, r2, r3) := h
 clear h
 replace H := Option.bind_eq_some_iff.mp H
 obtain ⟨⟨t203, t204, t205⟩, A40, H⟩ := H
 replace H : ((spec_imSlope.f k a0_0 a0_1 a0_2 a0_3 a1_0 a1_1 a1_2 a1_3).bind fun bt207 => ((spec_raMul.f k t203 t204 bt207.1 bt207.2).bind fun bt209 => (if t205 = true then (if bt209.2.2 = true then ((spec_raAdd.f k a0_2 a0_3 bt209.1 bt209.2.1).bind fun bt213 => (some (bt213.1, bt213.2.1, bt213.2.2))) else (some (0, 0, false))) else (some (0, 0, false))))) = some (r1, r2, r3) := H
 have A4 := Aside0.mk A40
 clear A40
 replace H := Option.bind_eq_some_iff.mp H
 obtain ⟨⟨t207, t208⟩, A50, H⟩ := H
 replace H : ((spec_raMul.f k t203 t204 t207 t208).bind fun bt209 => (if t205 = true then (if bt209.2.2 = true then ((spec_raAdd.f k a0_2 a0_3 bt209.1 bt209.2.1).bind fun bt213 => (some (bt213.1, bt213.2.1, bt213.2.2))) else (some (0, 0, false))) else (some (0, 0, false)))) = some (r1, r2, r3) := H
 have A5 := Aside0.mk A50
 clear A50
 replace H := Option.bind_eq_some_iff.mp H
 obtain ⟨⟨t209, t210, t211⟩, A60, H⟩ := H
 replace H : (if t205 = true then (if t211 = true then ((spec_raAdd.f k a0_2 a0_3 t209 t210).bind fun bt213 => (some (bt213.1, bt213.2.1, bt213.2.2))) else (some (0, 0, false))) else (some (0, 0, false))) = some (r1, r2, r3) := H
 have A6 := Aside0.mk A60
 clear A60
 by_cases c7 : t205 = true
 ·subst c7
  have H1 : (if t211 = true then ((spec_raAdd.f k a0_2 a0_3 t209 t210).bind fun bt213 => (some (bt213.1, bt213.2.1, bt213.2.2))) else (some (0, 0, false))) = some (r1, r2, r3) := by rw [if_pos rfl] at H; exact H
  clear H
  have H := H1
  clear H1
  by_cases c8 : t211 = true
  ·subst c8
   have H1 : ((spec_raAdd.f k a0_2 a0_3 t209 t210).bind fun bt213 => (some (bt213.1, bt213.2.1, bt213.2.2))) = some (r1, r2, r3) := by rw [if_pos rfl] at H; exact H
   clear H
   have H := H1
   clear H1
   replace H := Option.bind_eq_some_iff.mp H
   obtain ⟨⟨t213, t214, t215⟩, A90, H⟩ := H
   replace H : (some (t213, t214, t215)) = some (r1, r2, r3) := H
   have A9 := Aside0.mk A90
   clear A90
   simp only [Option.some.injEq, Prod.mk.injEq] at H
   obtain ⟨rfl, rfl, rfl⟩ := H
   go_enter Try.func135, Try.ntmps135
   try go_wp2_with (first | ((with_reducible refine gate_dst (N := 3) rfl ?_); refine bx 3 #[.int .i64 a0_0, .int .i64 a0_1, .int .i64 a0_2, .int .i64 a0_3] 68 ?_; intro gb199 hg w10 hbox hb; have BK199 := Aside0.mk (hbox); have GW199 := Aside0.mk (bz hg); have GE199 := GW199; replace HB := kh hb; clear hb hbox hg) | ((with_reducible refine gate_dst (N := 4) rfl ?_); refine bx 4 #[.int .i64 a1_0, .int .i64 a1_1, .int .i64 a1_2, .int .i64 a1_3] 68 ?_; intro gb200 hg w11 hbox hb; have BK200 := Aside0.mk (hbox); have GW200 := Aside0.mk (bz hg); have GE200 := GW200; have NB199_200 := Aside0.mk (bn gb199 hg); have NB200_199 := sy NB199_200; replace BK199 := kb BK199 hb; replace HB := kh hb; clear hb hbox hg) | ((with_reducible refine gate_dst (N := 5) rfl ?_); refine bx 5 #[.int .i64 a2_0, .int .i64 a2_1] 28 ?_; intro gb201 hg w12 hbox hb; have BK201 := Aside0.mk (hbox); have GW201 := Aside0.mk (bz hg); have GE201 := GW201; have NB199_201 := Aside0.mk (bn gb199 hg); have NB201_199 := sy NB199_201; have NB200_201 := Aside0.mk (bn gb200 hg); have NB201_200 := sy NB200_201; replace BK199 := kb BK199 hb; replace BK200 := kb BK200 hb; replace HB := kh hb; clear hb hbox hg) | ((with_reducible refine gate_dst (N := 6) rfl ?_); refine bx 6 #[.int .i64 0, .int .i64 0] 28 ?_; intro gb202 hg w13 hbox hb; have BK202 := Aside0.mk (hbox); have GW202 := Aside0.mk (bz hg); have GE202 := GW202; have NB199_202 := Aside0.mk (bn gb199 hg); have NB202_199 := sy NB199_202; have NB200_202 := Aside0.mk (bn gb200 hg); have NB202_200 := sy NB200_202; have NB201_202 := Aside0.mk (bn gb201 hg); have NB202_201 := sy NB201_202; replace BK199 := kb BK199 hb; replace BK200 := kb BK200 hb; replace BK201 := kb BK201 hb; replace HB := kh hb; clear hb hbox hg; have hnb14 := NB201_199.out; have hnc14 := NB199_201.out; have hnb15 := NB201_200.out; have hnc15 := NB200_201.out; have hnb16 := NB201_202.out; have hnc16 := NB202_201.out; obtain ⟨hcz17_0, hcz17_1, hfz17_0, hfz17_1⟩ := b2 BK201; have hnb18 := NB199_200.out; have hnc18 := NB200_199.out; have hnb19 := NB199_202.out; have hnc19 := NB202_199.out; obtain ⟨hcz20_0, hcz20_1, hcz20_2, hcz20_3, hfz20_0, hfz20_1, hfz20_2, hfz20_3⟩ := b4 BK199) | ((with_reducible refine gate_callee (f := 101) rfl ?_); refine gl 16 Try.func101 #[.agg #[.int .i64 a2_0, .int .i64 a2_1], .agg #[.int .i64 a0_0, .int .i64 a0_1]] ?_; (with_reducible refine (spec_raSub.calls k a2_0 a2_1 a0_0 a0_1 t203 t204 true _ A4.out).mono ?_); rintro e w21 ⟨rfl, hb⟩; refine ⟨_, rfl, ?_⟩; replace BK199 := kb BK199 hb; replace BK200 := kb BK200 hb; replace BK201 := kb BK201 hb; replace BK202 := kb BK202 hb; replace HB := kh hb; (try clear hb); (try clear hb2); (try clear hk); (try clear hi)) | ((with_reducible refine gate_dst (N := 8) rfl ?_); refine bx 8 #[.int .i64 0, .int .i64 0] 28 ?_; intro gb206 hg w22 hbox hb; have BK206 := Aside0.mk (hbox); have GW206 := Aside0.mk (bz hg); have GE206 := GW206; have NB199_206 := Aside0.mk (bn gb199 hg); have NB206_199 := sy NB199_206; have NB200_206 := Aside0.mk (bn gb200 hg); have NB206_200 := sy NB200_206; have NB201_206 := Aside0.mk (bn gb201 hg); have NB206_201 := sy NB201_206; have NB202_206 := Aside0.mk (bn gb202 hg); have NB206_202 := sy NB202_206; replace BK199 := kb BK199 hb; replace BK200 := kb BK200 hb; replace BK201 := kb BK201 hb; replace BK202 := kb BK202 hb; replace HB := kh hb; clear hb hbox hg; have hnb23 := NB206_199.out; have hnc23 := NB199_206.out; have hnb24 := NB206_200.out; have hnc24 := NB200_206.out; have hnb25 := NB206_201.out; have hnc25 := NB201_206.out; have hnb26 := NB206_202.out; have hnc26 := NB202_206.out; obtain ⟨hcz27_0, hcz27_1, hfz27_0, hfz27_1⟩ := b2 BK206))
   have n0_ : Aside0 (((w22.setCell ⟨gb206, 0, none⟩ (.int .i64 t203)).setCell ⟨gb206, 1, none⟩ (.int .i64 t204)).heap[gb199]? = some (.cells #[.int .i64 a0_0, .int .i64 a0_1, .int .i64 a0_2, .int .i64 a0_3] 68 (0, 0))) := ⟨by (with_reducible repeat (first | refine blk_drewN ?_ _ | refine blk_drew ?_ | refine blk_alloc ?_ _)); refine blk_far ?_ NB199_206.out _; (with_reducible repeat (first | refine blk_drewN ?_ _ | refine blk_drew ?_ | refine blk_alloc ?_ _)); refine blk_far ?_ NB199_206.out _; (with_reducible repeat (first | refine blk_drewN ?_ _ | refine blk_drew ?_ | refine blk_alloc ?_ _)); exact BK199.out⟩
   have n1_ : Aside0 (((w22.setCell ⟨gb206, 0, none⟩ (.int .i64 t203)).setCell ⟨gb206, 1, none⟩ (.int .i64 t204)).heap[gb200]? = some (.cells #[.int .i64 a1_0, .int .i64 a1_1, .int .i64 a1_2, .int .i64 a1_3] 68 (0, 0))) := ⟨by (with_reducible repeat (first | refine blk_drewN ?_ _ | refine blk_drew ?_ | refine blk_alloc ?_ _)); refine blk_far ?_ NB200_206.out _; (with_reducible repeat (first | refine blk_drewN ?_ _ | refine blk_drew ?_ | refine blk_alloc ?_ _)); refine blk_far ?_ NB200_206.out _; (with_reducible repeat (first | refine blk_drewN ?_ _ | refine blk_drew ?_ | refine blk_alloc ?_ _)); exact BK200.out⟩
   have n2_ : Aside0 (((w22.setCell ⟨gb206, 0, none⟩ (.int .i64 t203)).setCell ⟨gb206, 1, none⟩ (.int .i64 t204)).heap[gb201]? = some (.cells #[.int .i64 a2_0, .int .i64 a2_1] 28 (0, 0))) := ⟨by (with_reducible repeat (first | refine blk_drewN ?_ _ | refine blk_drew ?_ | refine blk_alloc ?_ _)); refine blk_far ?_ NB201_206.out _; (with_reducible repeat (first | refine blk_drewN ?_ _ | refine blk_drew ?_ | refine blk_alloc ?_ _)); refine blk_far ?_ NB201_206.out _; (with_reducible repeat (first | refine blk_drewN ?_ _ | refine blk_drew ?_ | refine blk_alloc ?_ _)); exact BK201.out⟩
   have n3_ : Aside0 (((w22.setCell ⟨gb206, 0, none⟩ (.int .i64 t203)).setCell ⟨gb206, 1, none⟩ (.int .i64 t204)).heap[gb202]? = some (.cells #[.int .i64 0, .int .i64 0] 28 (0, 0))) := ⟨by (with_reducible repeat (first | refine blk_drewN ?_ _ | refine blk_drew ?_ | refine blk_alloc ?_ _)); refine blk_far ?_ NB202_206.out _; (with_reducible repeat (first | refine blk_drewN ?_ _ | refine blk_drew ?_ | refine blk_alloc ?_ _)); refine blk_far ?_ NB202_206.out _; (with_reducible repeat (first | refine blk_drewN ?_ _ | refine blk_drew ?_ | refine blk_alloc ?_ _)); exact BK202.out⟩
   have n4_ : Aside0 (((w22.setCell ⟨gb206, 0, none⟩ (.int .i64 t203)).setCell ⟨gb206, 1, none⟩ (.int .i64 t204)).heap[gb206]? = some (.cells #[.int .i64 t203, .int .i64 t204] 28 (0, 0))) := ⟨by (with_reducible repeat (first | refine blk_drewN ?_ _ | refine blk_drew ?_ | refine blk_alloc ?_ _)); refine blk_put (cs := #[.int .i64 t203, .int .i64 0]) ?_ 1 _ rfl; (with_reducible repeat (first | refine blk_drewN ?_ _ | refine blk_drew ?_ | refine blk_alloc ?_ _)); refine blk_put (cs := #[.int .i64 0, .int .i64 0]) ?_ 0 _ rfl; (with_reducible repeat (first | refine blk_drewN ?_ _ | refine blk_drew ?_ | refine blk_alloc ?_ _)); exact BK206.out⟩
   have n5_ : Aside0 (Below w.heap.size w ((w22.setCell ⟨gb206, 0, none⟩ (.int .i64 t203)).setCell ⟨gb206, 1, none⟩ (.int .i64 t204))) := ⟨bl⟩
   (try clear BK199)
   (try clear BK200)
   (try clear BK201)
   (try clear BK202)
   (try clear BK206)
   (try clear HB)
   generalize ((w22.setCell ⟨gb206, 0, none⟩ (.int .i64 t203)).setCell ⟨gb206, 1, none⟩ (.int .i64 t204)) = w28 at n0_ n1_ n2_ n3_ n4_ n5_ ⊢
   have BK199 := n0_
   have BK200 := n1_
   have BK201 := n2_
   have BK202 := n3_
   have BK206 := n4_
   have HB := n5_
   clear n0_ n1_ n2_ n3_ n4_ n5_
   replace BK199 := Aside0.mk (blk_drew BK199.out)
   replace BK200 := Aside0.mk (blk_drew BK200.out)
   replace BK201 := Aside0.mk (blk_drew BK201.out)
   replace BK202 := Aside0.mk (blk_drew BK202.out)
   replace BK206 := Aside0.mk (blk_drew BK206.out)
   replace HB := Aside0.mk (below_drew1 HB.out)
   refine start_ (n := 11) (S := fun w' => w'.cell? ⟨gb206, 0, none⟩ = some (.int .i64 t203) ∧ w'.cell? ⟨gb206, 1, none⟩ = some (.int .i64 t204) ∧ w'.cell? ⟨gb199, 0, none⟩ = some (.int .i64 a0_0) ∧ w'.cell? ⟨gb199, 1, none⟩ = some (.int .i64 a0_1) ∧ w'.cell? ⟨gb199, 2, none⟩ = some (.int .i64 a0_2) ∧ w'.cell? ⟨gb199, 3, none⟩ = some (.int .i64 a0_3) ∧ w'.cell? ⟨gb200, 0, none⟩ = some (.int .i64 a1_0) ∧ w'.cell? ⟨gb200, 1, none⟩ = some (.int .i64 a1_1) ∧ w'.cell? ⟨gb200, 2, none⟩ = some (.int .i64 a1_2) ∧ w'.cell? ⟨gb200, 3, none⟩ = some (.int .i64 a1_3)) (ds := []) (tb 0 11) (by kernel_rfl) rfl rfl ⟨(blk_cell BK206.out 0).trans rfl, (blk_cell BK206.out 1).trans rfl, (blk_cell BK199.out 0).trans rfl, (blk_cell BK199.out 1).trans rfl, (blk_cell BK199.out 2).trans rfl, (blk_cell BK199.out 3).trans rfl, (blk_cell BK200.out 0).trans rfl, (blk_cell BK200.out 1).trans rfl, (blk_cell BK200.out 2).trans rfl, (blk_cell BK200.out 3).trans rfl⟩ (fun hHeld => ?_); refine with_tabW spec_imOn.tab2 spec_imOn.bits2 (fun HT_ HW_ => ?_)
   generalize w28.drew = w29 at BK199 BK200 BK201 BK202 BK206 HB hHeld ⊢
   refine tk 0 20 (tb 1 10) (hy := by rintro w' ⟨s0, s1, s2, s3, s4, s5, s6, s7, s8, s9⟩; go_simp; with_reducible rfl) (h := ?_)
   refine tk 1 21 (tb 2 9) (hy := by rintro w' ⟨s0, s1, s2, s3, s4, s5, s6, s7, s8, s9⟩; go_simp; with_reducible rfl) (h := ?_)
   refine tk 2 22 (tb 3 8) (hy := by rintro w' ⟨s0, s1, s2, s3, s4, s5, s6, s7, s8, s9⟩; go_simp; with_reducible rfl) (h := ?_)
   refine join_ (σ := Nat) 2 (tb 9 2) (fun s_ => [(23, .agg #[.int .i64 t207, .int .i64 t208]), (24, .tuple #[.agg #[.int .i64 t209, .int .i64 t210], .bool true]), (10, .pointer (some ⟨s_, 0, none⟩)), (19, .tuple #[.agg #[.int .i64 t209, .int .i64 t210], .bool true]), (25, .agg #[.int .i64 t209, .int .i64 t210]), (26, .bool true)]) (fun s_ w' => (w'.cell? ⟨gb206, 0, none⟩ = some (.int .i64 t203) ∧ w'.cell? ⟨gb206, 1, none⟩ = some (.int .i64 t204) ∧ w'.cell? ⟨gb199, 0, none⟩ = some (.int .i64 a0_0) ∧ w'.cell? ⟨gb199, 1, none⟩ = some (.int .i64 a0_1) ∧ w'.cell? ⟨gb199, 2, none⟩ = some (.int .i64 a0_2) ∧ w'.cell? ⟨gb199, 3, none⟩ = some (.int .i64 a0_3) ∧ w'.cell? ⟨gb200, 0, none⟩ = some (.int .i64 a1_0) ∧ w'.cell? ⟨gb200, 1, none⟩ = some (.int .i64 a1_1) ∧ w'.cell? ⟨gb200, 2, none⟩ = some (.int .i64 a1_2) ∧ w'.cell? ⟨gb200, 3, none⟩ = some (.int .i64 a1_3)) ∧ (w'.heap[gb199]? = some (.cells #[.int .i64 a0_0, .int .i64 a0_1, .int .i64 a0_2, .int .i64 a0_3] 68 (0, 0))) ∧ (w'.heap[gb200]? = some (.cells #[.int .i64 a1_0, .int .i64 a1_1, .int .i64 a1_2, .int .i64 a1_3] 68 (0, 0))) ∧ (w'.heap[gb201]? = some (.cells #[.int .i64 a2_0, .int .i64 a2_1] 28 (0, 0))) ∧ (w'.heap[gb202]? = some (.cells #[.int .i64 0, .int .i64 0] 28 (0, 0))) ∧ (w'.heap[gb206]? = some (.cells #[.int .i64 t203, .int .i64 t204] 28 (0, 0))) ∧ (w'.heap[s_]? = some (.cells #[.int .i64 0, .int .i64 0] 28 (0, 0))) ∧ (w.heap.size ≤ s_) ∧ (w.heap.size ≤ s_) ∧ (gb199 ≠ s_) ∧ (s_ ≠ gb199) ∧ (gb200 ≠ s_) ∧ (s_ ≠ gb200) ∧ (gb201 ≠ s_) ∧ (s_ ≠ gb201) ∧ (gb202 ≠ s_) ∧ (s_ ≠ gb202) ∧ (gb206 ≠ s_) ∧ (s_ ≠ gb206) ∧ (Below w.heap.size w w')) ?_ ?_
   rotate_left
   ·intro hCont
    refine two_ (i := 3) (j := 8) (Ni := some 23) (Nj := some 10) (tb 4 7) #[true, true, true, false, false, false, false, false, true, false, false] rfl rfl rfl rfl (two_of HT_.out (by kernel_rfl)) (by decide) (by decide) (fun K hK => ?_) (fun K hK => ?_)
    ·skip
     refine gs Try.func84 #[.agg #[.int .i64 a0_0, .int .i64 a0_1, .int .i64 a0_2, .int .i64 a0_3], .agg #[.int .i64 a1_0, .int .i64 a1_1, .int .i64 a1_2, .int .i64 a1_3]] ?_
     with_reducible refine (spec_imSlope.calls k a0_0 a0_1 a0_2 a0_3 a1_0 a1_1 a1_2 a1_3 t207 t208 _ A5.out).mono ?_
     rintro e w30 ⟨rfl, hb⟩
     refine ⟨_, rfl, ?_⟩
     replace BK199 := kb BK199 hb
     replace BK200 := kb BK200 hb
     replace BK201 := kb BK201 hb
     replace BK202 := kb BK202 hb
     replace BK206 := kb BK206 hb
     replace HB := kh hb
     (try clear hb)
     (try clear hb2)
     (try clear hk)
     (try clear hi)
     refine hK.out _ _ ⟨(blk_cell BK206.out 0).trans rfl, (blk_cell BK206.out 1).trans rfl, (blk_cell BK199.out 0).trans rfl, (blk_cell BK199.out 1).trans rfl, (blk_cell BK199.out 2).trans rfl, (blk_cell BK199.out 3).trans rfl, (blk_cell BK200.out 0).trans rfl, (blk_cell BK200.out 1).trans rfl, (blk_cell BK200.out 2).trans rfl, (blk_cell BK200.out 3).trans rfl⟩ (fun hHeld => ?_)
     clear hK K
     refine nm 23 ?_
     refine two_ (i := 4) (j := 8) (Ni := some 24) (Nj := some 10) (tb 5 6) #[true, true, true, true, false, false, false, false, true, false, false] rfl rfl rfl rfl (two_of HT_.out (by kernel_rfl)) (by decide) (by decide) (fun K hK => ?_) (fun K hK => ?_)
     ·skip
      refine gs Try.func100 #[.agg #[.int .i64 t203, .int .i64 t204], .agg #[.int .i64 t207, .int .i64 t208]] ?_
      with_reducible refine (spec_raMul.calls k t203 t204 t207 t208 t209 t210 true _ A6.out).mono ?_
      rintro e w31 ⟨rfl, hb⟩
      refine ⟨_, rfl, ?_⟩
      replace BK199 := kb BK199 hb
      replace BK200 := kb BK200 hb
      replace BK201 := kb BK201 hb
      replace BK202 := kb BK202 hb
      replace BK206 := kb BK206 hb
      replace HB := kh hb
      (try clear hb)
      (try clear hb2)
      (try clear hk)
      (try clear hi)
      refine hK.out _ _ ⟨(blk_cell BK206.out 0).trans rfl, (blk_cell BK206.out 1).trans rfl, (blk_cell BK199.out 0).trans rfl, (blk_cell BK199.out 1).trans rfl, (blk_cell BK199.out 2).trans rfl, (blk_cell BK199.out 3).trans rfl, (blk_cell BK200.out 0).trans rfl, (blk_cell BK200.out 1).trans rfl, (blk_cell BK200.out 2).trans rfl, (blk_cell BK200.out 3).trans rfl⟩ (fun hHeld => ?_)
      clear hK K
      refine nm 24 ?_
      refine pu 5 19 (tb 6 5) ?_
      refine pu 6 25 (tb 7 4) ?_
      refine pu 7 26 (tb 8 3) ?_
      refine on 8 10 (tb 9 2) (fun K hK => ?_)
      refine box_step ?hg (N := 10) ?hd (cs := #[.int .i64 0, .int .i64 0]) (t := 28) ?hr ?_; (case hd => rfl); (case hg => rfl); (case hr => first | (go_simp; done) | (go_simp; rfl))
      intro gb212 hg w32 hbox hb
      have BK212 := Aside0.mk (hbox)
      have GW212 := Aside0.mk (bz hg)
      have GE212 := GW212
      have NB199_212 := Aside0.mk (bn gb199 hg)
      have NB212_199 := sy NB199_212
      have NB200_212 := Aside0.mk (bn gb200 hg)
      have NB212_200 := sy NB200_212
      have NB201_212 := Aside0.mk (bn gb201 hg)
      have NB212_201 := sy NB201_212
      have NB202_212 := Aside0.mk (bn gb202 hg)
      have NB212_202 := sy NB202_212
      have NB206_212 := Aside0.mk (bn gb206 hg)
      have NB212_206 := sy NB206_212
      replace BK199 := kb BK199 hb
      replace BK200 := kb BK200 hb
      replace BK201 := kb BK201 hb
      replace BK202 := kb BK202 hb
      replace BK206 := kb BK206 hb
      replace HB := kh hb
      clear hb hbox hg
      refine hK.out _ _ ⟨(blk_cell BK206.out 0).trans rfl, (blk_cell BK206.out 1).trans rfl, (blk_cell BK199.out 0).trans rfl, (blk_cell BK199.out 1).trans rfl, (blk_cell BK199.out 2).trans rfl, (blk_cell BK199.out 3).trans rfl, (blk_cell BK200.out 0).trans rfl, (blk_cell BK200.out 1).trans rfl, (blk_cell BK200.out 2).trans rfl, (blk_cell BK200.out 3).trans rfl⟩ (fun hHeld => ?_)
      clear hK K
      refine nm 10 ?_
      exact norm_ (by simp only [putAll, Act.put, List.setIfInBounds_toArray, List.set_cons_zero, List.set_cons_succ]) (hCont (gb212) _ ⟨hHeld, (bo gb199), (bo gb200), (bo gb201), (bo gb202), (bo gb206), (bo gb212), GW212.out, GE212.out, NB199_212.out, NB212_199.out, NB200_212.out, NB212_200.out, NB201_212.out, NB212_201.out, NB202_212.out, NB212_202.out, NB206_212.out, NB212_206.out, bl⟩)
     ·skip
      refine box_step ?hg (N := 10) ?hd (cs := #[.int .i64 0, .int .i64 0]) (t := 28) ?hr ?_; (case hd => rfl); (case hg => rfl); (case hr => first | (go_simp; done) | (go_simp; rfl))
      intro gb212 hg w31 hbox hb
      have BK212 := Aside0.mk (hbox)
      have GW212 := Aside0.mk (bz hg)
      have GE212 := GW212
      have NB199_212 := Aside0.mk (bn gb199 hg)
      have NB212_199 := sy NB199_212
      have NB200_212 := Aside0.mk (bn gb200 hg)
      have NB212_200 := sy NB200_212
      have NB201_212 := Aside0.mk (bn gb201 hg)
      have NB212_201 := sy NB201_212
      have NB202_212 := Aside0.mk (bn gb202 hg)
      have NB212_202 := sy NB202_212
      have NB206_212 := Aside0.mk (bn gb206 hg)
      have NB212_206 := sy NB206_212
      replace BK199 := kb BK199 hb
      replace BK200 := kb BK200 hb
      replace BK201 := kb BK201 hb
      replace BK202 := kb BK202 hb
      replace BK206 := kb BK206 hb
      replace HB := kh hb
      clear hb hbox hg
      refine hK.out _ _ ⟨(blk_cell BK206.out 0).trans rfl, (blk_cell BK206.out 1).trans rfl, (blk_cell BK199.out 0).trans rfl, (blk_cell BK199.out 1).trans rfl, (blk_cell BK199.out 2).trans rfl, (blk_cell BK199.out 3).trans rfl, (blk_cell BK200.out 0).trans rfl, (blk_cell BK200.out 1).trans rfl, (blk_cell BK200.out 2).trans rfl, (blk_cell BK200.out 3).trans rfl⟩ (fun hHeld => ?_)
      clear hK K
      refine nm 10 ?_
      refine on 4 24 #[true, true, true, true, true, false, false, false, true, false, false] (fun K hK => ?_)
      refine gs Try.func100 #[.agg #[.int .i64 t203, .int .i64 t204], .agg #[.int .i64 t207, .int .i64 t208]] ?_
      with_reducible refine (spec_raMul.calls k t203 t204 t207 t208 t209 t210 true _ A6.out).mono ?_
      rintro e w32 ⟨rfl, hb⟩
      refine ⟨_, rfl, ?_⟩
      replace BK199 := kb BK199 hb
      replace BK200 := kb BK200 hb
      replace BK201 := kb BK201 hb
      replace BK202 := kb BK202 hb
      replace BK206 := kb BK206 hb
      replace BK212 := kb BK212 hb
      replace HB := kh hb
      (try clear hb)
      (try clear hb2)
      (try clear hk)
      (try clear hi)
      refine hK.out _ _ ⟨(blk_cell BK206.out 0).trans rfl, (blk_cell BK206.out 1).trans rfl, (blk_cell BK199.out 0).trans rfl, (blk_cell BK199.out 1).trans rfl, (blk_cell BK199.out 2).trans rfl, (blk_cell BK199.out 3).trans rfl, (blk_cell BK200.out 0).trans rfl, (blk_cell BK200.out 1).trans rfl, (blk_cell BK200.out 2).trans rfl, (blk_cell BK200.out 3).trans rfl⟩ (fun hHeld => ?_)
      clear hK K
      refine nm 24 ?_
      refine pu 5 19 #[true, true, true, true, true, true, false, false, true, false, false] ?_
      refine pu 6 25 #[true, true, true, true, true, true, true, false, true, false, false] ?_
      refine pu 7 26 (tb 9 2) ?_
      exact norm_ (by simp only [putAll, Act.put, List.setIfInBounds_toArray, List.set_cons_zero, List.set_cons_succ]) (hCont (gb212) _ ⟨hHeld, (bo gb199), (bo gb200), (bo gb201), (bo gb202), (bo gb206), (bo gb212), GW212.out, GE212.out, NB199_212.out, NB212_199.out, NB200_212.out, NB212_200.out, NB201_212.out, NB212_201.out, NB202_212.out, NB212_202.out, NB206_212.out, NB212_206.out, bl⟩)
    ·skip
     refine box_step ?hg (N := 10) ?hd (cs := #[.int .i64 0, .int .i64 0]) (t := 28) ?hr ?_; (case hd => rfl); (case hg => rfl); (case hr => first | (go_simp; done) | (go_simp; rfl))
     intro gb212 hg w30 hbox hb
     have BK212 := Aside0.mk (hbox)
     have GW212 := Aside0.mk (bz hg)
     have GE212 := GW212
     have NB199_212 := Aside0.mk (bn gb199 hg)
     have NB212_199 := sy NB199_212
     have NB200_212 := Aside0.mk (bn gb200 hg)
     have NB212_200 := sy NB200_212
     have NB201_212 := Aside0.mk (bn gb201 hg)
     have NB212_201 := sy NB201_212
     have NB202_212 := Aside0.mk (bn gb202 hg)
     have NB212_202 := sy NB202_212
     have NB206_212 := Aside0.mk (bn gb206 hg)
     have NB212_206 := sy NB206_212
     replace BK199 := kb BK199 hb
     replace BK200 := kb BK200 hb
     replace BK201 := kb BK201 hb
     replace BK202 := kb BK202 hb
     replace BK206 := kb BK206 hb
     replace HB := kh hb
     clear hb hbox hg
     refine hK.out _ _ ⟨(blk_cell BK206.out 0).trans rfl, (blk_cell BK206.out 1).trans rfl, (blk_cell BK199.out 0).trans rfl, (blk_cell BK199.out 1).trans rfl, (blk_cell BK199.out 2).trans rfl, (blk_cell BK199.out 3).trans rfl, (blk_cell BK200.out 0).trans rfl, (blk_cell BK200.out 1).trans rfl, (blk_cell BK200.out 2).trans rfl, (blk_cell BK200.out 3).trans rfl⟩ (fun hHeld => ?_)
     clear hK K
     refine nm 10 ?_
     refine on 3 23 #[true, true, true, true, false, false, false, false, true, false, false] (fun K hK => ?_)
     refine gs Try.func84 #[.agg #[.int .i64 a0_0, .int .i64 a0_1, .int .i64 a0_2, .int .i64 a0_3], .agg #[.int .i64 a1_0, .int .i64 a1_1, .int .i64 a1_2, .int .i64 a1_3]] ?_
     with_reducible refine (spec_imSlope.calls k a0_0 a0_1 a0_2 a0_3 a1_0 a1_1 a1_2 a1_3 t207 t208 _ A5.out).mono ?_
     rintro e w31 ⟨rfl, hb⟩
     refine ⟨_, rfl, ?_⟩
     replace BK199 := kb BK199 hb
     replace BK200 := kb BK200 hb
     replace BK201 := kb BK201 hb
     replace BK202 := kb BK202 hb
     replace BK206 := kb BK206 hb
     replace BK212 := kb BK212 hb
     replace HB := kh hb
     (try clear hb)
     (try clear hb2)
     (try clear hk)
     (try clear hi)
     refine hK.out _ _ ⟨(blk_cell BK206.out 0).trans rfl, (blk_cell BK206.out 1).trans rfl, (blk_cell BK199.out 0).trans rfl, (blk_cell BK199.out 1).trans rfl, (blk_cell BK199.out 2).trans rfl, (blk_cell BK199.out 3).trans rfl, (blk_cell BK200.out 0).trans rfl, (blk_cell BK200.out 1).trans rfl, (blk_cell BK200.out 2).trans rfl, (blk_cell BK200.out 3).trans rfl⟩ (fun hHeld => ?_)
     clear hK K
     refine nm 23 ?_
     refine on 4 24 #[true, true, true, true, true, false, false, false, true, false, false] (fun K hK => ?_)
     refine gs Try.func100 #[.agg #[.int .i64 t203, .int .i64 t204], .agg #[.int .i64 t207, .int .i64 t208]] ?_
     with_reducible refine (spec_raMul.calls k t203 t204 t207 t208 t209 t210 true _ A6.out).mono ?_
     rintro e w32 ⟨rfl, hb⟩
     refine ⟨_, rfl, ?_⟩
     replace BK199 := kb BK199 hb
     replace BK200 := kb BK200 hb
     replace BK201 := kb BK201 hb
     replace BK202 := kb BK202 hb
     replace BK206 := kb BK206 hb
     replace BK212 := kb BK212 hb
     replace HB := kh hb
     (try clear hb)
     (try clear hb2)
     (try clear hk)
     (try clear hi)
     refine hK.out _ _ ⟨(blk_cell BK206.out 0).trans rfl, (blk_cell BK206.out 1).trans rfl, (blk_cell BK199.out 0).trans rfl, (blk_cell BK199.out 1).trans rfl, (blk_cell BK199.out 2).trans rfl, (blk_cell BK199.out 3).trans rfl, (blk_cell BK200.out 0).trans rfl, (blk_cell BK200.out 1).trans rfl, (blk_cell BK200.out 2).trans rfl, (blk_cell BK200.out 3).trans rfl⟩ (fun hHeld => ?_)
     clear hK K
     refine nm 24 ?_
     refine pu 5 19 #[true, true, true, true, true, true, false, false, true, false, false] ?_
     refine pu 6 25 #[true, true, true, true, true, true, true, false, true, false, false] ?_
     refine pu 7 26 (tb 9 2) ?_
     exact norm_ (by simp only [putAll, Act.put, List.setIfInBounds_toArray, List.set_cons_zero, List.set_cons_succ]) (hCont (gb212) _ ⟨hHeld, (bo gb199), (bo gb200), (bo gb201), (bo gb202), (bo gb206), (bo gb212), GW212.out, GE212.out, NB199_212.out, NB212_199.out, NB200_212.out, NB212_200.out, NB201_212.out, NB212_201.out, NB202_212.out, NB212_202.out, NB206_212.out, NB212_206.out, bl⟩)
   rintro gb212 w33 ⟨hS_, h0_, h1_, h2_, h3_, h4_, h5_, h6_, h7_, h8_, h9_, h10_, h11_, h12_, h13_, h14_, h15_, h16_, h17_, h18_⟩
   have n0_ : Aside0 (w33.heap[gb199]? = some (.cells #[.int .i64 a0_0, .int .i64 a0_1, .int .i64 a0_2, .int .i64 a0_3] 68 (0, 0))) := ⟨h0_⟩
   have n1_ : Aside0 (w33.heap[gb200]? = some (.cells #[.int .i64 a1_0, .int .i64 a1_1, .int .i64 a1_2, .int .i64 a1_3] 68 (0, 0))) := ⟨h1_⟩
   have n2_ : Aside0 (w33.heap[gb201]? = some (.cells #[.int .i64 a2_0, .int .i64 a2_1] 28 (0, 0))) := ⟨h2_⟩
   have n3_ : Aside0 (w33.heap[gb202]? = some (.cells #[.int .i64 0, .int .i64 0] 28 (0, 0))) := ⟨h3_⟩
   have n4_ : Aside0 (w33.heap[gb206]? = some (.cells #[.int .i64 t203, .int .i64 t204] 28 (0, 0))) := ⟨h4_⟩
   have n5_ : Aside0 (w33.heap[gb212]? = some (.cells #[.int .i64 0, .int .i64 0] 28 (0, 0))) := ⟨h5_⟩
   have n6_ : Aside0 (w.heap.size ≤ gb212) := ⟨h6_⟩
   have n7_ : Aside0 (w.heap.size ≤ gb212) := ⟨h7_⟩
   have n8_ : Aside0 (gb199 ≠ gb212) := ⟨h8_⟩
   have n9_ : Aside0 (gb212 ≠ gb199) := ⟨h9_⟩
   have n10_ : Aside0 (gb200 ≠ gb212) := ⟨h10_⟩
   have n11_ : Aside0 (gb212 ≠ gb200) := ⟨h11_⟩
   have n12_ : Aside0 (gb201 ≠ gb212) := ⟨h12_⟩
   have n13_ : Aside0 (gb212 ≠ gb201) := ⟨h13_⟩
   have n14_ : Aside0 (gb202 ≠ gb212) := ⟨h14_⟩
   have n15_ : Aside0 (gb212 ≠ gb202) := ⟨h15_⟩
   have n16_ : Aside0 (gb206 ≠ gb212) := ⟨h16_⟩
   have n17_ : Aside0 (gb212 ≠ gb206) := ⟨h17_⟩
   have n18_ : Aside0 (Below w.heap.size w w33) := ⟨h18_⟩
   clear BK199
   clear BK200
   clear BK201
   clear BK202
   clear BK206
   clear HB
   clear h0_ h1_ h2_ h3_ h4_ h5_ h6_ h7_ h8_ h9_ h10_ h11_ h12_ h13_ h14_ h15_ h16_ h17_ h18_
   have BK199 := n0_
   have BK200 := n1_
   have BK201 := n2_
   have BK202 := n3_
   have BK206 := n4_
   have BK212 := n5_
   have GW212 := n6_
   have GE212 := n7_
   have NB199_212 := n8_
   have NB212_199 := n9_
   have NB200_212 := n10_
   have NB212_200 := n11_
   have NB201_212 := n12_
   have NB212_201 := n13_
   have NB202_212 := n14_
   have NB212_202 := n15_
   have NB206_212 := n16_
   have NB212_206 := n17_
   have HB := n18_
   clear n0_ n1_ n2_ n3_ n4_ n5_ n6_ n7_ n8_ n9_ n10_ n11_ n12_ n13_ n14_ n15_ n16_ n17_ n18_
   have hHeld : w33.cell? ⟨gb206, 0, none⟩ = some (.int .i64 t203) ∧ w33.cell? ⟨gb206, 1, none⟩ = some (.int .i64 t204) ∧ w33.cell? ⟨gb199, 0, none⟩ = some (.int .i64 a0_0) ∧ w33.cell? ⟨gb199, 1, none⟩ = some (.int .i64 a0_1) ∧ w33.cell? ⟨gb199, 2, none⟩ = some (.int .i64 a0_2) ∧ w33.cell? ⟨gb199, 3, none⟩ = some (.int .i64 a0_3) ∧ w33.cell? ⟨gb200, 0, none⟩ = some (.int .i64 a1_0) ∧ w33.cell? ⟨gb200, 1, none⟩ = some (.int .i64 a1_1) ∧ w33.cell? ⟨gb200, 2, none⟩ = some (.int .i64 a1_2) ∧ w33.cell? ⟨gb200, 3, none⟩ = some (.int .i64 a1_3) := hS_
   refine norm_ (a' := ?_) ?_ ?_
   rotate_left
   ·simp only [putAll, Act.put, List.setIfInBounds_toArray, List.set_cons_zero, List.set_cons_succ]
    rfl
   refine one_ (i := 9) (N := none) (tb 10 1) rfl rfl (one_of HT_.out (by kernel_rfl)) (by decide) (fun K hK => ?_)
   have hs34 : w33.cell? ⟨gb212, 0, none⟩ = some (.int .i64 0) := (blk_cell BK212.out 0).trans rfl
   have hfs34 := blk_frozen BK212.out 0
   have hns34_0 := NB199_212.out
   have hns34_1 := NB200_212.out
   have hns34_2 := NB201_212.out
   have hns34_3 := NB202_212.out
   have hns34_4 := NB206_212.out
   have hms34_0 := NB212_199.out
   have hms34_1 := NB212_200.out
   have hms34_2 := NB212_201.out
   have hms34_3 := NB212_202.out
   have hms34_4 := NB212_206.out
   have hs35 : w33.cell? ⟨gb212, 1, none⟩ = some (.int .i64 0) := (blk_cell BK212.out 1).trans rfl
   have hfs35 := blk_frozen BK212.out 1
   have hns35_0 := NB199_212.out
   have hns35_1 := NB200_212.out
   have hns35_2 := NB201_212.out
   have hns35_3 := NB202_212.out
   have hns35_4 := NB206_212.out
   have hms35_0 := NB212_199.out
   have hms35_1 := NB212_200.out
   have hms35_2 := NB212_201.out
   have hms35_3 := NB212_202.out
   have hms35_4 := NB212_206.out
   refine skip_ (w1 := ?_) (by rfl) rfl ?_ ?_
   rotate_left
   ·go_simp
    rfl
   refine hK.out _ _ ⟨(by (iterate 2 refine (cell_far (p := ⟨gb212, _, none⟩) NB206_212.out _).trans ?_); exact hHeld.1), (by (iterate 2 refine (cell_far (p := ⟨gb212, _, none⟩) NB206_212.out _).trans ?_); exact hHeld.2.1), (by (iterate 2 refine (cell_far (p := ⟨gb212, _, none⟩) NB199_212.out _).trans ?_); exact hHeld.2.2.1), (by (iterate 2 refine (cell_far (p := ⟨gb212, _, none⟩) NB199_212.out _).trans ?_); exact hHeld.2.2.2.1), (by (iterate 2 refine (cell_far (p := ⟨gb212, _, none⟩) NB199_212.out _).trans ?_); exact hHeld.2.2.2.2.1), (by (iterate 2 refine (cell_far (p := ⟨gb212, _, none⟩) NB199_212.out _).trans ?_); exact hHeld.2.2.2.2.2.1), (by (iterate 2 refine (cell_far (p := ⟨gb212, _, none⟩) NB200_212.out _).trans ?_); exact hHeld.2.2.2.2.2.2.1), (by (iterate 2 refine (cell_far (p := ⟨gb212, _, none⟩) NB200_212.out _).trans ?_); exact hHeld.2.2.2.2.2.2.2.1), (by (iterate 2 refine (cell_far (p := ⟨gb212, _, none⟩) NB200_212.out _).trans ?_); exact hHeld.2.2.2.2.2.2.2.2.1), (by (iterate 2 refine (cell_far (p := ⟨gb212, _, none⟩) NB200_212.out _).trans ?_); exact hHeld.2.2.2.2.2.2.2.2.2)⟩ (fun hHeld => ?_)
   clear hK K
   refine pu 10 11 (tb 11 0) ?_
   refine done_ (done_of HT_.out (by kernel_rfl)) ?_
   have hnb36 := NB199_212.out
   have hnc36 := NB212_199.out
   obtain ⟨hcz37_0, hcz37_1, hcz37_2, hcz37_3, hfz37_0, hfz37_1, hfz37_2, hfz37_3⟩ := b4 BK199
   have hnb38 := NB212_200.out
   have hnc38 := NB200_212.out
   have hnb39 := NB212_201.out
   have hnc39 := NB201_212.out
   have hnb40 := NB212_202.out
   have hnc40 := NB202_212.out
   have hnb41 := NB212_206.out
   have hnc41 := NB206_212.out
   obtain ⟨hcz42_0, hcz42_1, hfz42_0, hfz42_1⟩ := b2 BK212
   try go_wp2_with (first | ((with_reducible refine gate_callee (f := 102) rfl ?_); refine gl 37 Try.func102 #[.agg #[.int .i64 a0_2, .int .i64 a0_3], .agg #[.int .i64 t209, .int .i64 t210]] ?_; (with_reducible refine (spec_raAdd.calls k a0_2 a0_3 t209 t210 t213 t214 t215 _ A9.out).mono ?_); rintro e w43 ⟨rfl, hb⟩; refine ⟨_, rfl, ?_⟩; replace BK199 := Aside0.mk (blk_below (g := gb199) (o := .cells #[.int .i64 a0_0, .int .i64 a0_1, .int .i64 a0_2, .int .i64 a0_3] 68 (0, 0)) (by (with_reducible repeat (first | refine blk_drewN ?_ _ | refine blk_drew ?_ | refine blk_alloc ?_ _)); refine blk_far ?_ NB199_212.out _; (with_reducible repeat (first | refine blk_drewN ?_ _ | refine blk_drew ?_ | refine blk_alloc ?_ _)); refine blk_far ?_ NB199_212.out _; (with_reducible repeat (first | refine blk_drewN ?_ _ | refine blk_drew ?_ | refine blk_alloc ?_ _)); exact BK199.out) hb); replace BK200 := Aside0.mk (blk_below (g := gb200) (o := .cells #[.int .i64 a1_0, .int .i64 a1_1, .int .i64 a1_2, .int .i64 a1_3] 68 (0, 0)) (by (with_reducible repeat (first | refine blk_drewN ?_ _ | refine blk_drew ?_ | refine blk_alloc ?_ _)); refine blk_far ?_ NB200_212.out _; (with_reducible repeat (first | refine blk_drewN ?_ _ | refine blk_drew ?_ | refine blk_alloc ?_ _)); refine blk_far ?_ NB200_212.out _; (with_reducible repeat (first | refine blk_drewN ?_ _ | refine blk_drew ?_ | refine blk_alloc ?_ _)); exact BK200.out) hb); replace BK201 := Aside0.mk (blk_below (g := gb201) (o := .cells #[.int .i64 a2_0, .int .i64 a2_1] 28 (0, 0)) (by (with_reducible repeat (first | refine blk_drewN ?_ _ | refine blk_drew ?_ | refine blk_alloc ?_ _)); refine blk_far ?_ NB201_212.out _; (with_reducible repeat (first | refine blk_drewN ?_ _ | refine blk_drew ?_ | refine blk_alloc ?_ _)); refine blk_far ?_ NB201_212.out _; (with_reducible repeat (first | refine blk_drewN ?_ _ | refine blk_drew ?_ | refine blk_alloc ?_ _)); exact BK201.out) hb); replace BK202 := Aside0.mk (blk_below (g := gb202) (o := .cells #[.int .i64 0, .int .i64 0] 28 (0, 0)) (by (with_reducible repeat (first | refine blk_drewN ?_ _ | refine blk_drew ?_ | refine blk_alloc ?_ _)); refine blk_far ?_ NB202_212.out _; (with_reducible repeat (first | refine blk_drewN ?_ _ | refine blk_drew ?_ | refine blk_alloc ?_ _)); refine blk_far ?_ NB202_212.out _; (with_reducible repeat (first | refine blk_drewN ?_ _ | refine blk_drew ?_ | refine blk_alloc ?_ _)); exact BK202.out) hb); replace BK206 := Aside0.mk (blk_below (g := gb206) (o := .cells #[.int .i64 t203, .int .i64 t204] 28 (0, 0)) (by (with_reducible repeat (first | refine blk_drewN ?_ _ | refine blk_drew ?_ | refine blk_alloc ?_ _)); refine blk_far ?_ NB206_212.out _; (with_reducible repeat (first | refine blk_drewN ?_ _ | refine blk_drew ?_ | refine blk_alloc ?_ _)); refine blk_far ?_ NB206_212.out _; (with_reducible repeat (first | refine blk_drewN ?_ _ | refine blk_drew ?_ | refine blk_alloc ?_ _)); exact BK206.out) hb); replace BK212 := Aside0.mk (blk_below (g := gb212) (o := .cells #[.int .i64 t209, .int .i64 t210] 28 (0, 0)) (by (with_reducible repeat (first | refine blk_drewN ?_ _ | refine blk_drew ?_ | refine blk_alloc ?_ _)); refine blk_put (cs := #[.int .i64 t209, .int .i64 0]) ?_ 1 _ rfl; (with_reducible repeat (first | refine blk_drewN ?_ _ | refine blk_drew ?_ | refine blk_alloc ?_ _)); refine blk_put (cs := #[.int .i64 0, .int .i64 0]) ?_ 0 _ rfl; (with_reducible repeat (first | refine blk_drewN ?_ _ | refine blk_drew ?_ | refine blk_alloc ?_ _)); exact BK212.out) hb); replace HB := kh hb; (try clear hb); (try clear hb2); (try clear hk); (try clear hi); have hnb44 := NB202_200.out; have hnc44 := NB200_202.out; obtain ⟨hcz45_0, hcz45_1, hfz45_0, hfz45_1⟩ := b2 BK202))
   refine bodyPost_ret (results_ct rfl _ _ gb202 28 #[.int .i64 t213, .int .i64 t214] (0, 0) _ rfl (by (with_reducible repeat (first | refine blk_drewN ?_ _ | refine blk_drew ?_ | refine blk_alloc ?_ _)); refine blk_put (cs := #[.int .i64 t213, .int .i64 0]) ?_ 1 _ rfl; (with_reducible repeat (first | refine blk_drewN ?_ _ | refine blk_drew ?_ | refine blk_alloc ?_ _)); refine blk_put (cs := #[.int .i64 0, .int .i64 0]) ?_ 0 _ rfl; (with_reducible repeat (first | refine blk_drewN ?_ _ | refine blk_drew ?_ | refine blk_alloc ?_ _)); exact BK202.out) Try.underlying28 rfl (by kernel_rfl)) rfl ?_
   exact ⟨rt, bl⟩
  ·replace c8 := Bool.eq_false_iff.mpr c8
   subst c8
   have H1 : (some (0, 0, false)) = some (r1, r2, r3) := by rw [if_neg (show ¬ (false = true) by decide)] at H; exact H
   clear H
   have H := H1
   clear H1
   simp only [Option.some.injEq, Prod.mk.injEq] at H
   obtain ⟨rfl, rfl, rfl⟩ := H
   go_enter Try.func135, Try.ntmps135
   try go_wp2_with (first | ((with_reducible refine gate_dst (N := 3) rfl ?_); refine bx 3 #[.int .i64 a0_0, .int .i64 a0_1, .int .i64 a0_2, .int .i64 a0_3] 68 ?_; intro gb199 hg w46 hbox hb; have BK199 := Aside0.mk (hbox); have GW199 := Aside0.mk (bz hg); have GE199 := GW199; replace HB := kh hb; clear hb hbox hg) | ((with_reducible refine gate_dst (N := 4) rfl ?_); refine bx 4 #[.int .i64 a1_0, .int .i64 a1_1, .int .i64 a1_2, .int .i64 a1_3] 68 ?_; intro gb200 hg w47 hbox hb; have BK200 := Aside0.mk (hbox); have GW200 := Aside0.mk (bz hg); have GE200 := GW200; have NB199_200 := Aside0.mk (bn gb199 hg); have NB200_199 := sy NB199_200; replace BK199 := kb BK199 hb; replace HB := kh hb; clear hb hbox hg) | ((with_reducible refine gate_dst (N := 5) rfl ?_); refine bx 5 #[.int .i64 a2_0, .int .i64 a2_1] 28 ?_; intro gb201 hg w48 hbox hb; have BK201 := Aside0.mk (hbox); have GW201 := Aside0.mk (bz hg); have GE201 := GW201; have NB199_201 := Aside0.mk (bn gb199 hg); have NB201_199 := sy NB199_201; have NB200_201 := Aside0.mk (bn gb200 hg); have NB201_200 := sy NB200_201; replace BK199 := kb BK199 hb; replace BK200 := kb BK200 hb; replace HB := kh hb; clear hb hbox hg) | ((with_reducible refine gate_dst (N := 6) rfl ?_); refine bx 6 #[.int .i64 0, .int .i64 0] 28 ?_; intro gb202 hg w49 hbox hb; have BK202 := Aside0.mk (hbox); have GW202 := Aside0.mk (bz hg); have GE202 := GW202; have NB199_202 := Aside0.mk (bn gb199 hg); have NB202_199 := sy NB199_202; have NB200_202 := Aside0.mk (bn gb200 hg); have NB202_200 := sy NB200_202; have NB201_202 := Aside0.mk (bn gb201 hg); have NB202_201 := sy NB201_202; replace BK199 := kb BK199 hb; replace BK200 := kb BK200 hb; replace BK201 := kb BK201 hb; replace HB := kh hb; clear hb hbox hg; have hnb50 := NB201_199.out; have hnc50 := NB199_201.out; have hnb51 := NB201_200.out; have hnc51 := NB200_201.out; have hnb52 := NB201_202.out; have hnc52 := NB202_201.out; obtain ⟨hcz53_0, hcz53_1, hfz53_0, hfz53_1⟩ := b2 BK201; have hnb54 := NB199_200.out; have hnc54 := NB200_199.out; have hnb55 := NB199_202.out; have hnc55 := NB202_199.out; obtain ⟨hcz56_0, hcz56_1, hcz56_2, hcz56_3, hfz56_0, hfz56_1, hfz56_2, hfz56_3⟩ := b4 BK199) | ((with_reducible refine gate_callee (f := 101) rfl ?_); refine gl 16 Try.func101 #[.agg #[.int .i64 a2_0, .int .i64 a2_1], .agg #[.int .i64 a0_0, .int .i64 a0_1]] ?_; (with_reducible refine (spec_raSub.calls k a2_0 a2_1 a0_0 a0_1 t203 t204 true _ A4.out).mono ?_); rintro e w57 ⟨rfl, hb⟩; refine ⟨_, rfl, ?_⟩; replace BK199 := kb BK199 hb; replace BK200 := kb BK200 hb; replace BK201 := kb BK201 hb; replace BK202 := kb BK202 hb; replace HB := kh hb; (try clear hb); (try clear hb2); (try clear hk); (try clear hi)) | ((with_reducible refine gate_dst (N := 8) rfl ?_); refine bx 8 #[.int .i64 0, .int .i64 0] 28 ?_; intro gb206 hg w58 hbox hb; have BK206 := Aside0.mk (hbox); have GW206 := Aside0.mk (bz hg); have GE206 := GW206; have NB199_206 := Aside0.mk (bn gb199 hg); have NB206_199 := sy NB199_206; have NB200_206 := Aside0.mk (bn gb200 hg); have NB206_200 := sy NB200_206; have NB201_206 := Aside0.mk (bn gb201 hg); have NB206_201 := sy NB201_206; have NB202_206 := Aside0.mk (bn gb202 hg); have NB206_202 := sy NB202_206; replace BK199 := kb BK199 hb; replace BK200 := kb BK200 hb; replace BK201 := kb BK201 hb; replace BK202 := kb BK202 hb; replace HB := kh hb; clear hb hbox hg; have hnb59 := NB206_199.out; have hnc59 := NB199_206.out; have hnb60 := NB206_200.out; have hnc60 := NB200_206.out; have hnb61 := NB206_201.out; have hnc61 := NB201_206.out; have hnb62 := NB206_202.out; have hnc62 := NB202_206.out; obtain ⟨hcz63_0, hcz63_1, hfz63_0, hfz63_1⟩ := b2 BK206))
   have n0_ : Aside0 (((w58.setCell ⟨gb206, 0, none⟩ (.int .i64 t203)).setCell ⟨gb206, 1, none⟩ (.int .i64 t204)).heap[gb199]? = some (.cells #[.int .i64 a0_0, .int .i64 a0_1, .int .i64 a0_2, .int .i64 a0_3] 68 (0, 0))) := ⟨by (with_reducible repeat (first | refine blk_drewN ?_ _ | refine blk_drew ?_ | refine blk_alloc ?_ _)); refine blk_far ?_ NB199_206.out _; (with_reducible repeat (first | refine blk_drewN ?_ _ | refine blk_drew ?_ | refine blk_alloc ?_ _)); refine blk_far ?_ NB199_206.out _; (with_reducible repeat (first | refine blk_drewN ?_ _ | refine blk_drew ?_ | refine blk_alloc ?_ _)); exact BK199.out⟩
   have n1_ : Aside0 (((w58.setCell ⟨gb206, 0, none⟩ (.int .i64 t203)).setCell ⟨gb206, 1, none⟩ (.int .i64 t204)).heap[gb200]? = some (.cells #[.int .i64 a1_0, .int .i64 a1_1, .int .i64 a1_2, .int .i64 a1_3] 68 (0, 0))) := ⟨by (with_reducible repeat (first | refine blk_drewN ?_ _ | refine blk_drew ?_ | refine blk_alloc ?_ _)); refine blk_far ?_ NB200_206.out _; (with_reducible repeat (first | refine blk_drewN ?_ _ | refine blk_drew ?_ | refine blk_alloc ?_ _)); refine blk_far ?_ NB200_206.out _; (with_reducible repeat (first | refine blk_drewN ?_ _ | refine blk_drew ?_ | refine blk_alloc ?_ _)); exact BK200.out⟩
   have n2_ : Aside0 (((w58.setCell ⟨gb206, 0, none⟩ (.int .i64 t203)).setCell ⟨gb206, 1, none⟩ (.int .i64 t204)).heap[gb201]? = some (.cells #[.int .i64 a2_0, .int .i64 a2_1] 28 (0, 0))) := ⟨by (with_reducible repeat (first | refine blk_drewN ?_ _ | refine blk_drew ?_ | refine blk_alloc ?_ _)); refine blk_far ?_ NB201_206.out _; (with_reducible repeat (first | refine blk_drewN ?_ _ | refine blk_drew ?_ | refine blk_alloc ?_ _)); refine blk_far ?_ NB201_206.out _; (with_reducible repeat (first | refine blk_drewN ?_ _ | refine blk_drew ?_ | refine blk_alloc ?_ _)); exact BK201.out⟩
   have n3_ : Aside0 (((w58.setCell ⟨gb206, 0, none⟩ (.int .i64 t203)).setCell ⟨gb206, 1, none⟩ (.int .i64 t204)).heap[gb202]? = some (.cells #[.int .i64 0, .int .i64 0] 28 (0, 0))) := ⟨by (with_reducible repeat (first | refine blk_drewN ?_ _ | refine blk_drew ?_ | refine blk_alloc ?_ _)); refine blk_far ?_ NB202_206.out _; (with_reducible repeat (first | refine blk_drewN ?_ _ | refine blk_drew ?_ | refine blk_alloc ?_ _)); refine blk_far ?_ NB202_206.out _; (with_reducible repeat (first | refine blk_drewN ?_ _ | refine blk_drew ?_ | refine blk_alloc ?_ _)); exact BK202.out⟩
   have n4_ : Aside0 (((w58.setCell ⟨gb206, 0, none⟩ (.int .i64 t203)).setCell ⟨gb206, 1, none⟩ (.int .i64 t204)).heap[gb206]? = some (.cells #[.int .i64 t203, .int .i64 t204] 28 (0, 0))) := ⟨by (with_reducible repeat (first | refine blk_drewN ?_ _ | refine blk_drew ?_ | refine blk_alloc ?_ _)); refine blk_put (cs := #[.int .i64 t203, .int .i64 0]) ?_ 1 _ rfl; (with_reducible repeat (first | refine blk_drewN ?_ _ | refine blk_drew ?_ | refine blk_alloc ?_ _)); refine blk_put (cs := #[.int .i64 0, .int .i64 0]) ?_ 0 _ rfl; (with_reducible repeat (first | refine blk_drewN ?_ _ | refine blk_drew ?_ | refine blk_alloc ?_ _)); exact BK206.out⟩
   have n5_ : Aside0 (Below w.heap.size w ((w58.setCell ⟨gb206, 0, none⟩ (.int .i64 t203)).setCell ⟨gb206, 1, none⟩ (.int .i64 t204))) := ⟨bl⟩
   (try clear BK199)
   (try clear BK200)
   (try clear BK201)
   (try clear BK202)
   (try clear BK206)
   (try clear HB)
   generalize ((w58.setCell ⟨gb206, 0, none⟩ (.int .i64 t203)).setCell ⟨gb206, 1, none⟩ (.int .i64 t204)) = w64 at n0_ n1_ n2_ n3_ n4_ n5_ ⊢
   have BK199 := n0_
   have BK200 := n1_
   have BK201 := n2_
   have BK202 := n3_
   have BK206 := n4_
   have HB := n5_
   clear n0_ n1_ n2_ n3_ n4_ n5_
   replace BK199 := Aside0.mk (blk_drew BK199.out)
   replace BK200 := Aside0.mk (blk_drew BK200.out)
   replace BK201 := Aside0.mk (blk_drew BK201.out)
   replace BK202 := Aside0.mk (blk_drew BK202.out)
   replace BK206 := Aside0.mk (blk_drew BK206.out)
   replace HB := Aside0.mk (below_drew1 HB.out)
   refine start_ (n := 11) (S := fun w' => w'.cell? ⟨gb206, 0, none⟩ = some (.int .i64 t203) ∧ w'.cell? ⟨gb206, 1, none⟩ = some (.int .i64 t204) ∧ w'.cell? ⟨gb199, 0, none⟩ = some (.int .i64 a0_0) ∧ w'.cell? ⟨gb199, 1, none⟩ = some (.int .i64 a0_1) ∧ w'.cell? ⟨gb199, 2, none⟩ = some (.int .i64 a0_2) ∧ w'.cell? ⟨gb199, 3, none⟩ = some (.int .i64 a0_3) ∧ w'.cell? ⟨gb200, 0, none⟩ = some (.int .i64 a1_0) ∧ w'.cell? ⟨gb200, 1, none⟩ = some (.int .i64 a1_1) ∧ w'.cell? ⟨gb200, 2, none⟩ = some (.int .i64 a1_2) ∧ w'.cell? ⟨gb200, 3, none⟩ = some (.int .i64 a1_3)) (ds := []) (tb 0 11) (by kernel_rfl) rfl rfl ⟨(blk_cell BK206.out 0).trans rfl, (blk_cell BK206.out 1).trans rfl, (blk_cell BK199.out 0).trans rfl, (blk_cell BK199.out 1).trans rfl, (blk_cell BK199.out 2).trans rfl, (blk_cell BK199.out 3).trans rfl, (blk_cell BK200.out 0).trans rfl, (blk_cell BK200.out 1).trans rfl, (blk_cell BK200.out 2).trans rfl, (blk_cell BK200.out 3).trans rfl⟩ (fun hHeld => ?_); refine with_tabW spec_imOn.tab2 spec_imOn.bits2 (fun HT_ HW_ => ?_)
   generalize w64.drew = w65 at BK199 BK200 BK201 BK202 BK206 HB hHeld ⊢
   refine tk 0 20 (tb 1 10) (hy := by rintro w' ⟨s0, s1, s2, s3, s4, s5, s6, s7, s8, s9⟩; go_simp; with_reducible rfl) (h := ?_)
   refine tk 1 21 (tb 2 9) (hy := by rintro w' ⟨s0, s1, s2, s3, s4, s5, s6, s7, s8, s9⟩; go_simp; with_reducible rfl) (h := ?_)
   refine tk 2 22 (tb 3 8) (hy := by rintro w' ⟨s0, s1, s2, s3, s4, s5, s6, s7, s8, s9⟩; go_simp; with_reducible rfl) (h := ?_)
   refine join_ (σ := Nat) 2 (tb 9 2) (fun s_ => [(23, .agg #[.int .i64 t207, .int .i64 t208]), (24, .tuple #[.agg #[.int .i64 t209, .int .i64 t210], .bool false]), (10, .pointer (some ⟨s_, 0, none⟩)), (19, .tuple #[.agg #[.int .i64 t209, .int .i64 t210], .bool false]), (25, .agg #[.int .i64 t209, .int .i64 t210]), (26, .bool false)]) (fun s_ w' => (w'.cell? ⟨gb206, 0, none⟩ = some (.int .i64 t203) ∧ w'.cell? ⟨gb206, 1, none⟩ = some (.int .i64 t204) ∧ w'.cell? ⟨gb199, 0, none⟩ = some (.int .i64 a0_0) ∧ w'.cell? ⟨gb199, 1, none⟩ = some (.int .i64 a0_1) ∧ w'.cell? ⟨gb199, 2, none⟩ = some (.int .i64 a0_2) ∧ w'.cell? ⟨gb199, 3, none⟩ = some (.int .i64 a0_3) ∧ w'.cell? ⟨gb200, 0, none⟩ = some (.int .i64 a1_0) ∧ w'.cell? ⟨gb200, 1, none⟩ = some (.int .i64 a1_1) ∧ w'.cell? ⟨gb200, 2, none⟩ = some (.int .i64 a1_2) ∧ w'.cell? ⟨gb200, 3, none⟩ = some (.int .i64 a1_3)) ∧ (w'.heap[gb199]? = some (.cells #[.int .i64 a0_0, .int .i64 a0_1, .int .i64 a0_2, .int .i64 a0_3] 68 (0, 0))) ∧ (w'.heap[gb200]? = some (.cells #[.int .i64 a1_0, .int .i64 a1_1, .int .i64 a1_2, .int .i64 a1_3] 68 (0, 0))) ∧ (w'.heap[gb201]? = some (.cells #[.int .i64 a2_0, .int .i64 a2_1] 28 (0, 0))) ∧ (w'.heap[gb202]? = some (.cells #[.int .i64 0, .int .i64 0] 28 (0, 0))) ∧ (w'.heap[gb206]? = some (.cells #[.int .i64 t203, .int .i64 t204] 28 (0, 0))) ∧ (w'.heap[s_]? = some (.cells #[.int .i64 0, .int .i64 0] 28 (0, 0))) ∧ (w.heap.size ≤ s_) ∧ (w.heap.size ≤ s_) ∧ (gb199 ≠ s_) ∧ (s_ ≠ gb199) ∧ (gb200 ≠ s_) ∧ (s_ ≠ gb200) ∧ (gb201 ≠ s_) ∧ (s_ ≠ gb201) ∧ (gb202 ≠ s_) ∧ (s_ ≠ gb202) ∧ (gb206 ≠ s_) ∧ (s_ ≠ gb206) ∧ (Below w.heap.size w w')) ?_ ?_
   rotate_left
   ·intro hCont
    refine two_ (i := 3) (j := 8) (Ni := some 23) (Nj := some 10) (tb 4 7) #[true, true, true, false, false, false, false, false, true, false, false] rfl rfl rfl rfl (two_of HT_.out (by kernel_rfl)) (by decide) (by decide) (fun K hK => ?_) (fun K hK => ?_)
    ·skip
     refine gs Try.func84 #[.agg #[.int .i64 a0_0, .int .i64 a0_1, .int .i64 a0_2, .int .i64 a0_3], .agg #[.int .i64 a1_0, .int .i64 a1_1, .int .i64 a1_2, .int .i64 a1_3]] ?_
     with_reducible refine (spec_imSlope.calls k a0_0 a0_1 a0_2 a0_3 a1_0 a1_1 a1_2 a1_3 t207 t208 _ A5.out).mono ?_
     rintro e w66 ⟨rfl, hb⟩
     refine ⟨_, rfl, ?_⟩
     replace BK199 := kb BK199 hb
     replace BK200 := kb BK200 hb
     replace BK201 := kb BK201 hb
     replace BK202 := kb BK202 hb
     replace BK206 := kb BK206 hb
     replace HB := kh hb
     (try clear hb)
     (try clear hb2)
     (try clear hk)
     (try clear hi)
     refine hK.out _ _ ⟨(blk_cell BK206.out 0).trans rfl, (blk_cell BK206.out 1).trans rfl, (blk_cell BK199.out 0).trans rfl, (blk_cell BK199.out 1).trans rfl, (blk_cell BK199.out 2).trans rfl, (blk_cell BK199.out 3).trans rfl, (blk_cell BK200.out 0).trans rfl, (blk_cell BK200.out 1).trans rfl, (blk_cell BK200.out 2).trans rfl, (blk_cell BK200.out 3).trans rfl⟩ (fun hHeld => ?_)
     clear hK K
     refine nm 23 ?_
     refine two_ (i := 4) (j := 8) (Ni := some 24) (Nj := some 10) (tb 5 6) #[true, true, true, true, false, false, false, false, true, false, false] rfl rfl rfl rfl (two_of HT_.out (by kernel_rfl)) (by decide) (by decide) (fun K hK => ?_) (fun K hK => ?_)
     ·skip
      refine gs Try.func100 #[.agg #[.int .i64 t203, .int .i64 t204], .agg #[.int .i64 t207, .int .i64 t208]] ?_
      with_reducible refine (spec_raMul.calls k t203 t204 t207 t208 t209 t210 false _ A6.out).mono ?_
      rintro e w67 ⟨rfl, hb⟩
      refine ⟨_, rfl, ?_⟩
      replace BK199 := kb BK199 hb
      replace BK200 := kb BK200 hb
      replace BK201 := kb BK201 hb
      replace BK202 := kb BK202 hb
      replace BK206 := kb BK206 hb
      replace HB := kh hb
      (try clear hb)
      (try clear hb2)
      (try clear hk)
      (try clear hi)
      refine hK.out _ _ ⟨(blk_cell BK206.out 0).trans rfl, (blk_cell BK206.out 1).trans rfl, (blk_cell BK199.out 0).trans rfl, (blk_cell BK199.out 1).trans rfl, (blk_cell BK199.out 2).trans rfl, (blk_cell BK199.out 3).trans rfl, (blk_cell BK200.out 0).trans rfl, (blk_cell BK200.out 1).trans rfl, (blk_cell BK200.out 2).trans rfl, (blk_cell BK200.out 3).trans rfl⟩ (fun hHeld => ?_)
      clear hK K
      refine nm 24 ?_
      refine pu 5 19 (tb 6 5) ?_
      refine pu 6 25 (tb 7 4) ?_
      refine pu 7 26 (tb 8 3) ?_
      refine on 8 10 (tb 9 2) (fun K hK => ?_)
      refine box_step ?hg (N := 10) ?hd (cs := #[.int .i64 0, .int .i64 0]) (t := 28) ?hr ?_; (case hd => rfl); (case hg => rfl); (case hr => first | (go_simp; done) | (go_simp; rfl))
      intro gb212 hg w68 hbox hb
      have BK212 := Aside0.mk (hbox)
      have GW212 := Aside0.mk (bz hg)
      have GE212 := GW212
      have NB199_212 := Aside0.mk (bn gb199 hg)
      have NB212_199 := sy NB199_212
      have NB200_212 := Aside0.mk (bn gb200 hg)
      have NB212_200 := sy NB200_212
      have NB201_212 := Aside0.mk (bn gb201 hg)
      have NB212_201 := sy NB201_212
      have NB202_212 := Aside0.mk (bn gb202 hg)
      have NB212_202 := sy NB202_212
      have NB206_212 := Aside0.mk (bn gb206 hg)
      have NB212_206 := sy NB206_212
      replace BK199 := kb BK199 hb
      replace BK200 := kb BK200 hb
      replace BK201 := kb BK201 hb
      replace BK202 := kb BK202 hb
      replace BK206 := kb BK206 hb
      replace HB := kh hb
      clear hb hbox hg
      refine hK.out _ _ ⟨(blk_cell BK206.out 0).trans rfl, (blk_cell BK206.out 1).trans rfl, (blk_cell BK199.out 0).trans rfl, (blk_cell BK199.out 1).trans rfl, (blk_cell BK199.out 2).trans rfl, (blk_cell BK199.out 3).trans rfl, (blk_cell BK200.out 0).trans rfl, (blk_cell BK200.out 1).trans rfl, (blk_cell BK200.out 2).trans rfl, (blk_cell BK200.out 3).trans rfl⟩ (fun hHeld => ?_)
      clear hK K
      refine nm 10 ?_
      exact norm_ (by simp only [putAll, Act.put, List.setIfInBounds_toArray, List.set_cons_zero, List.set_cons_succ]) (hCont (gb212) _ ⟨hHeld, (bo gb199), (bo gb200), (bo gb201), (bo gb202), (bo gb206), (bo gb212), GW212.out, GE212.out, NB199_212.out, NB212_199.out, NB200_212.out, NB212_200.out, NB201_212.out, NB212_201.out, NB202_212.out, NB212_202.out, NB206_212.out, NB212_206.out, bl⟩)
     ·skip
      refine box_step ?hg (N := 10) ?hd (cs := #[.int .i64 0, .int .i64 0]) (t := 28) ?hr ?_; (case hd => rfl); (case hg => rfl); (case hr => first | (go_simp; done) | (go_simp; rfl))
      intro gb212 hg w67 hbox hb
      have BK212 := Aside0.mk (hbox)
      have GW212 := Aside0.mk (bz hg)
      have GE212 := GW212
      have NB199_212 := Aside0.mk (bn gb199 hg)
      have NB212_199 := sy NB199_212
      have NB200_212 := Aside0.mk (bn gb200 hg)
      have NB212_200 := sy NB200_212
      have NB201_212 := Aside0.mk (bn gb201 hg)
      have NB212_201 := sy NB201_212
      have NB202_212 := Aside0.mk (bn gb202 hg)
      have NB212_202 := sy NB202_212
      have NB206_212 := Aside0.mk (bn gb206 hg)
      have NB212_206 := sy NB206_212
      replace BK199 := kb BK199 hb
      replace BK200 := kb BK200 hb
      replace BK201 := kb BK201 hb
      replace BK202 := kb BK202 hb
      replace BK206 := kb BK206 hb
      replace HB := kh hb
      clear hb hbox hg
      refine hK.out _ _ ⟨(blk_cell BK206.out 0).trans rfl, (blk_cell BK206.out 1).trans rfl, (blk_cell BK199.out 0).trans rfl, (blk_cell BK199.out 1).trans rfl, (blk_cell BK199.out 2).trans rfl, (blk_cell BK199.out 3).trans rfl, (blk_cell BK200.out 0).trans rfl, (blk_cell BK200.out 1).trans rfl, (blk_cell BK200.out 2).trans rfl, (blk_cell BK200.out 3).trans rfl⟩ (fun hHeld => ?_)
      clear hK K
      refine nm 10 ?_
      refine on 4 24 #[true, true, true, true, true, false, false, false, true, false, false] (fun K hK => ?_)
      refine gs Try.func100 #[.agg #[.int .i64 t203, .int .i64 t204], .agg #[.int .i64 t207, .int .i64 t208]] ?_
      with_reducible refine (spec_raMul.calls k t203 t204 t207 t208 t209 t210 false _ A6.out).mono ?_
      rintro e w68 ⟨rfl, hb⟩
      refine ⟨_, rfl, ?_⟩
      replace BK199 := kb BK199 hb
      replace BK200 := kb BK200 hb
      replace BK201 := kb BK201 hb
      replace BK202 := kb BK202 hb
      replace BK206 := kb BK206 hb
      replace BK212 := kb BK212 hb
      replace HB := kh hb
      (try clear hb)
      (try clear hb2)
      (try clear hk)
      (try clear hi)
      refine hK.out _ _ ⟨(blk_cell BK206.out 0).trans rfl, (blk_cell BK206.out 1).trans rfl, (blk_cell BK199.out 0).trans rfl, (blk_cell BK199.out 1).trans rfl, (blk_cell BK199.out 2).trans rfl, (blk_cell BK199.out 3).trans rfl, (blk_cell BK200.out 0).trans rfl, (blk_cell BK200.out 1).trans rfl, (blk_cell BK200.out 2).trans rfl, (blk_cell BK200.out 3).trans rfl⟩ (fun hHeld => ?_)
      clear hK K
      refine nm 24 ?_
      refine pu 5 19 #[true, true, true, true, true, true, false, false, true, false, false] ?_
      refine pu 6 25 #[true, true, true, true, true, true, true, false, true, false, false] ?_
      refine pu 7 26 (tb 9 2) ?_
      exact norm_ (by simp only [putAll, Act.put, List.setIfInBounds_toArray, List.set_cons_zero, List.set_cons_succ]) (hCont (gb212) _ ⟨hHeld, (bo gb199), (bo gb200), (bo gb201), (bo gb202), (bo gb206), (bo gb212), GW212.out, GE212.out, NB199_212.out, NB212_199.out, NB200_212.out, NB212_200.out, NB201_212.out, NB212_201.out, NB202_212.out, NB212_202.out, NB206_212.out, NB212_206.out, bl⟩)
    ·skip
     refine box_step ?hg (N := 10) ?hd (cs := #[.int .i64 0, .int .i64 0]) (t := 28) ?hr ?_; (case hd => rfl); (case hg => rfl); (case hr => first | (go_simp; done) | (go_simp; rfl))
     intro gb212 hg w66 hbox hb
     have BK212 := Aside0.mk (hbox)
     have GW212 := Aside0.mk (bz hg)
     have GE212 := GW212
     have NB199_212 := Aside0.mk (bn gb199 hg)
     have NB212_199 := sy NB199_212
     have NB200_212 := Aside0.mk (bn gb200 hg)
     have NB212_200 := sy NB200_212
     have NB201_212 := Aside0.mk (bn gb201 hg)
     have NB212_201 := sy NB201_212
     have NB202_212 := Aside0.mk (bn gb202 hg)
     have NB212_202 := sy NB202_212
     have NB206_212 := Aside0.mk (bn gb206 hg)
     have NB212_206 := sy NB206_212
     replace BK199 := kb BK199 hb
     replace BK200 := kb BK200 hb
     replace BK201 := kb BK201 hb
     replace BK202 := kb BK202 hb
     replace BK206 := kb BK206 hb
     replace HB := kh hb
     clear hb hbox hg
     refine hK.out _ _ ⟨(blk_cell BK206.out 0).trans rfl, (blk_cell BK206.out 1).trans rfl, (blk_cell BK199.out 0).trans rfl, (blk_cell BK199.out 1).trans rfl, (blk_cell BK199.out 2).trans rfl, (blk_cell BK199.out 3).trans rfl, (blk_cell BK200.out 0).trans rfl, (blk_cell BK200.out 1).trans rfl, (blk_cell BK200.out 2).trans rfl, (blk_cell BK200.out 3).trans rfl⟩ (fun hHeld => ?_)
     clear hK K
     refine nm 10 ?_
     refine on 3 23 #[true, true, true, true, false, false, false, false, true, false, false] (fun K hK => ?_)
     refine gs Try.func84 #[.agg #[.int .i64 a0_0, .int .i64 a0_1, .int .i64 a0_2, .int .i64 a0_3], .agg #[.int .i64 a1_0, .int .i64 a1_1, .int .i64 a1_2, .int .i64 a1_3]] ?_
     with_reducible refine (spec_imSlope.calls k a0_0 a0_1 a0_2 a0_3 a1_0 a1_1 a1_2 a1_3 t207 t208 _ A5.out).mono ?_
     rintro e w67 ⟨rfl, hb⟩
     refine ⟨_, rfl, ?_⟩
     replace BK199 := kb BK199 hb
     replace BK200 := kb BK200 hb
     replace BK201 := kb BK201 hb
     replace BK202 := kb BK202 hb
     replace BK206 := kb BK206 hb
     replace BK212 := kb BK212 hb
     replace HB := kh hb
     (try clear hb)
     (try clear hb2)
     (try clear hk)
     (try clear hi)
     refine hK.out _ _ ⟨(blk_cell BK206.out 0).trans rfl, (blk_cell BK206.out 1).trans rfl, (blk_cell BK199.out 0).trans rfl, (blk_cell BK199.out 1).trans rfl, (blk_cell BK199.out 2).trans rfl, (blk_cell BK199.out 3).trans rfl, (blk_cell BK200.out 0).trans rfl, (blk_cell BK200.out 1).trans rfl, (blk_cell BK200.out 2).trans rfl, (blk_cell BK200.out 3).trans rfl⟩ (fun hHeld => ?_)
     clear hK K
     refine nm 23 ?_
     refine on 4 24 #[true, true, true, true, true, false, false, false, true, false, false] (fun K hK => ?_)
     refine gs Try.func100 #[.agg #[.int .i64 t203, .int .i64 t204], .agg #[.int .i64 t207, .int .i64 t208]] ?_
     with_reducible refine (spec_raMul.calls k t203 t204 t207 t208 t209 t210 false _ A6.out).mono ?_
     rintro e w68 ⟨rfl, hb⟩
     refine ⟨_, rfl, ?_⟩
     replace BK199 := kb BK199 hb
     replace BK200 := kb BK200 hb
     replace BK201 := kb BK201 hb
     replace BK202 := kb BK202 hb
     replace BK206 := kb BK206 hb
     replace BK212 := kb BK212 hb
     replace HB := kh hb
     (try clear hb)
     (try clear hb2)
     (try clear hk)
     (try clear hi)
     refine hK.out _ _ ⟨(blk_cell BK206.out 0).trans rfl, (blk_cell BK206.out 1).trans rfl, (blk_cell BK199.out 0).trans rfl, (blk_cell BK199.out 1).trans rfl, (blk_cell BK199.out 2).trans rfl, (blk_cell BK199.out 3).trans rfl, (blk_cell BK200.out 0).trans rfl, (blk_cell BK200.out 1).trans rfl, (blk_cell BK200.out 2).trans rfl, (blk_cell BK200.out 3).trans rfl⟩ (fun hHeld => ?_)
     clear hK K
     refine nm 24 ?_
     refine pu 5 19 #[true, true, true, true, true, true, false, false, true, false, false] ?_
     refine pu 6 25 #[true, true, true, true, true, true, true, false, true, false, false] ?_
     refine pu 7 26 (tb 9 2) ?_
     exact norm_ (by simp only [putAll, Act.put, List.setIfInBounds_toArray, List.set_cons_zero, List.set_cons_succ]) (hCont (gb212) _ ⟨hHeld, (bo gb199), (bo gb200), (bo gb201), (bo gb202), (bo gb206), (bo gb212), GW212.out, GE212.out, NB199_212.out, NB212_199.out, NB200_212.out, NB212_200.out, NB201_212.out, NB212_201.out, NB202_212.out, NB212_202.out, NB206_212.out, NB212_206.out, bl⟩)
   rintro gb212 w69 ⟨hS_, h0_, h1_, h2_, h3_, h4_, h5_, h6_, h7_, h8_, h9_, h10_, h11_, h12_, h13_, h14_, h15_, h16_, h17_, h18_⟩
   have n0_ : Aside0 (w69.heap[gb199]? = some (.cells #[.int .i64 a0_0, .int .i64 a0_1, .int .i64 a0_2, .int .i64 a0_3] 68 (0, 0))) := ⟨h0_⟩
   have n1_ : Aside0 (w69.heap[gb200]? = some (.cells #[.int .i64 a1_0, .int .i64 a1_1, .int .i64 a1_2, .int .i64 a1_3] 68 (0, 0))) := ⟨h1_⟩
   have n2_ : Aside0 (w69.heap[gb201]? = some (.cells #[.int .i64 a2_0, .int .i64 a2_1] 28 (0, 0))) := ⟨h2_⟩
   have n3_ : Aside0 (w69.heap[gb202]? = some (.cells #[.int .i64 0, .int .i64 0] 28 (0, 0))) := ⟨h3_⟩
   have n4_ : Aside0 (w69.heap[gb206]? = some (.cells #[.int .i64 t203, .int .i64 t204] 28 (0, 0))) := ⟨h4_⟩
   have n5_ : Aside0 (w69.heap[gb212]? = some (.cells #[.int .i64 0, .int .i64 0] 28 (0, 0))) := ⟨h5_⟩
   have n6_ : Aside0 (w.heap.size ≤ gb212) := ⟨h6_⟩
   have n7_ : Aside0 (w.heap.size ≤ gb212) := ⟨h7_⟩
   have n8_ : Aside0 (gb199 ≠ gb212) := ⟨h8_⟩
   have n9_ : Aside0 (gb212 ≠ gb199) := ⟨h9_⟩
   have n10_ : Aside0 (gb200 ≠ gb212) := ⟨h10_⟩
   have n11_ : Aside0 (gb212 ≠ gb200) := ⟨h11_⟩
   have n12_ : Aside0 (gb201 ≠ gb212) := ⟨h12_⟩
   have n13_ : Aside0 (gb212 ≠ gb201) := ⟨h13_⟩
   have n14_ : Aside0 (gb202 ≠ gb212) := ⟨h14_⟩
   have n15_ : Aside0 (gb212 ≠ gb202) := ⟨h15_⟩
   have n16_ : Aside0 (gb206 ≠ gb212) := ⟨h16_⟩
   have n17_ : Aside0 (gb212 ≠ gb206) := ⟨h17_⟩
   have n18_ : Aside0 (Below w.heap.size w w69) := ⟨h18_⟩
   clear BK199
   clear BK200
   clear BK201
   clear BK202
   clear BK206
   clear HB
   clear h0_ h1_ h2_ h3_ h4_ h5_ h6_ h7_ h8_ h9_ h10_ h11_ h12_ h13_ h14_ h15_ h16_ h17_ h18_
   have BK199 := n0_
   have BK200 := n1_
   have BK201 := n2_
   have BK202 := n3_
   have BK206 := n4_
   have BK212 := n5_
   have GW212 := n6_
   have GE212 := n7_
   have NB199_212 := n8_
   have NB212_199 := n9_
   have NB200_212 := n10_
   have NB212_200 := n11_
   have NB201_212 := n12_
   have NB212_201 := n13_
   have NB202_212 := n14_
   have NB212_202 := n15_
   have NB206_212 := n16_
   have NB212_206 := n17_
   have HB := n18_
   clear n0_ n1_ n2_ n3_ n4_ n5_ n6_ n7_ n8_ n9_ n10_ n11_ n12_ n13_ n14_ n15_ n16_ n17_ n18_
   have hHeld : w69.cell? ⟨gb206, 0, none⟩ = some (.int .i64 t203) ∧ w69.cell? ⟨gb206, 1, none⟩ = some (.int .i64 t204) ∧ w69.cell? ⟨gb199, 0, none⟩ = some (.int .i64 a0_0) ∧ w69.cell? ⟨gb199, 1, none⟩ = some (.int .i64 a0_1) ∧ w69.cell? ⟨gb199, 2, none⟩ = some (.int .i64 a0_2) ∧ w69.cell? ⟨gb199, 3, none⟩ = some (.int .i64 a0_3) ∧ w69.cell? ⟨gb200, 0, none⟩ = some (.int .i64 a1_0) ∧ w69.cell? ⟨gb200, 1, none⟩ = some (.int .i64 a1_1) ∧ w69.cell? ⟨gb200, 2, none⟩ = some (.int .i64 a1_2) ∧ w69.cell? ⟨gb200, 3, none⟩ = some (.int .i64 a1_3) := hS_
   refine norm_ (a' := ?_) ?_ ?_
   rotate_left
   ·simp only [putAll, Act.put, List.setIfInBounds_toArray, List.set_cons_zero, List.set_cons_succ]
    rfl
   refine one_ (i := 9) (N := none) (tb 10 1) rfl rfl (one_of HT_.out (by kernel_rfl)) (by decide) (fun K hK => ?_)
   have hs70 : w69.cell? ⟨gb212, 0, none⟩ = some (.int .i64 0) := (blk_cell BK212.out 0).trans rfl
   have hfs70 := blk_frozen BK212.out 0
   have hns70_0 := NB199_212.out
   have hns70_1 := NB200_212.out
   have hns70_2 := NB201_212.out
   have hns70_3 := NB202_212.out
   have hns70_4 := NB206_212.out
   have hms70_0 := NB212_199.out
   have hms70_1 := NB212_200.out
   have hms70_2 := NB212_201.out
   have hms70_3 := NB212_202.out
   have hms70_4 := NB212_206.out
   have hs71 : w69.cell? ⟨gb212, 1, none⟩ = some (.int .i64 0) := (blk_cell BK212.out 1).trans rfl
   have hfs71 := blk_frozen BK212.out 1
   have hns71_0 := NB199_212.out
   have hns71_1 := NB200_212.out
   have hns71_2 := NB201_212.out
   have hns71_3 := NB202_212.out
   have hns71_4 := NB206_212.out
   have hms71_0 := NB212_199.out
   have hms71_1 := NB212_200.out
   have hms71_2 := NB212_201.out
   have hms71_3 := NB212_202.out
   have hms71_4 := NB212_206.out
   refine skip_ (w1 := ?_) (by rfl) rfl ?_ ?_
   rotate_left
   ·go_simp
    rfl
   refine hK.out _ _ ⟨(by (iterate 2 refine (cell_far (p := ⟨gb212, _, none⟩) NB206_212.out _).trans ?_); exact hHeld.1), (by (iterate 2 refine (cell_far (p := ⟨gb212, _, none⟩) NB206_212.out _).trans ?_); exact hHeld.2.1), (by (iterate 2 refine (cell_far (p := ⟨gb212, _, none⟩) NB199_212.out _).trans ?_); exact hHeld.2.2.1), (by (iterate 2 refine (cell_far (p := ⟨gb212, _, none⟩) NB199_212.out _).trans ?_); exact hHeld.2.2.2.1), (by (iterate 2 refine (cell_far (p := ⟨gb212, _, none⟩) NB199_212.out _).trans ?_); exact hHeld.2.2.2.2.1), (by (iterate 2 refine (cell_far (p := ⟨gb212, _, none⟩) NB199_212.out _).trans ?_); exact hHeld.2.2.2.2.2.1), (by (iterate 2 refine (cell_far (p := ⟨gb212, _, none⟩) NB200_212.out _).trans ?_); exact hHeld.2.2.2.2.2.2.1), (by (iterate 2 refine (cell_far (p := ⟨gb212, _, none⟩) NB200_212.out _).trans ?_); exact hHeld.2.2.2.2.2.2.2.1), (by (iterate 2 refine (cell_far (p := ⟨gb212, _, none⟩) NB200_212.out _).trans ?_); exact hHeld.2.2.2.2.2.2.2.2.1), (by (iterate 2 refine (cell_far (p := ⟨gb212, _, none⟩) NB200_212.out _).trans ?_); exact hHeld.2.2.2.2.2.2.2.2.2)⟩ (fun hHeld => ?_)
   clear hK K
   refine pu 10 11 (tb 11 0) ?_
   refine done_ (done_of HT_.out (by kernel_rfl)) ?_
   have hnb72 := NB202_200.out
   have hnc72 := NB200_202.out
   have hnb73 := NB202_212.out
   have hnc73 := NB212_202.out
   obtain ⟨hcz74_0, hcz74_1, hfz74_0, hfz74_1⟩ := b2 BK202
   try go_wp2
   refine bodyPost_ret (results_ct rfl _ _ gb202 28 #[.int .i64 0, .int .i64 0] (0, 0) _ rfl (by (with_reducible repeat (first | refine blk_drewN ?_ _ | refine blk_drew ?_ | refine blk_alloc ?_ _)); refine blk_put (cs := #[.int .i64 0, .int .i64 0]) ?_ 1 _ rfl; (with_reducible repeat (first | refine blk_drewN ?_ _ | refine blk_drew ?_ | refine blk_alloc ?_ _)); refine blk_put (cs := #[.int .i64 0, .int .i64 0]) ?_ 0 _ rfl; (with_reducible repeat (first | refine blk_drewN ?_ _ | refine blk_drew ?_ | refine blk_alloc ?_ _)); refine blk_far ?_ NB202_212.out _; (with_reducible repeat (first | refine blk_drewN ?_ _ | refine blk_drew ?_ | refine blk_alloc ?_ _)); refine blk_far ?_ NB202_212.out _; (with_reducible repeat (first | refine blk_drewN ?_ _ | refine blk_drew ?_ | refine blk_alloc ?_ _)); exact BK202.out) Try.underlying28 rfl (by kernel_rfl)) rfl ?_
   exact ⟨rt, bl⟩
 ·replace c7 := Bool.eq_false_iff.mpr c7
  subst c7
  have H1 : (some (0, 0, false)) = some (r1, r2, r3) := by rw [if_neg (show ¬ (false = true) by decide)] at H; exact H
  clear H
  have H := H1
  clear H1
  simp only [Option.some.injEq, Prod.mk.injEq] at H
  obtain ⟨rfl, rfl, rfl⟩ := H
  go_enter Try.func135, Try.ntmps135
  try go_wp2_with (first | ((with_reducible refine gate_dst (N := 3) rfl ?_); refine bx 3 #[.int .i64 a0_0, .int .i64 a0_1, .int .i64 a0_2, .int .i64 a0_3] 68 ?_; intro gb199 hg w75 hbox hb; have BK199 := Aside0.mk (hbox); have GW199 := Aside0.mk (bz hg); have GE199 := GW199; replace HB := kh hb; clear hb hbox hg) | ((with_reducible refine gate_dst (N := 4) rfl ?_); refine bx 4 #[.int .i64 a1_0, .int .i64 a1_1, .int .i64 a1_2, .int .i64 a1_3] 68 ?_; intro gb200 hg w76 hbox hb; have BK200 := Aside0.mk (hbox); have GW200 := Aside0.mk (bz hg); have GE200 := GW200; have NB199_200 := Aside0.mk (bn gb199 hg); have NB200_199 := sy NB199_200; replace BK199 := kb BK199 hb; replace HB := kh hb; clear hb hbox hg) | ((with_reducible refine gate_dst (N := 5) rfl ?_); refine bx 5 #[.int .i64 a2_0, .int .i64 a2_1] 28 ?_; intro gb201 hg w77 hbox hb; have BK201 := Aside0.mk (hbox); have GW201 := Aside0.mk (bz hg); have GE201 := GW201; have NB199_201 := Aside0.mk (bn gb199 hg); have NB201_199 := sy NB199_201; have NB200_201 := Aside0.mk (bn gb200 hg); have NB201_200 := sy NB200_201; replace BK199 := kb BK199 hb; replace BK200 := kb BK200 hb; replace HB := kh hb; clear hb hbox hg) | ((with_reducible refine gate_dst (N := 6) rfl ?_); refine bx 6 #[.int .i64 0, .int .i64 0] 28 ?_; intro gb202 hg w78 hbox hb; have BK202 := Aside0.mk (hbox); have GW202 := Aside0.mk (bz hg); have GE202 := GW202; have NB199_202 := Aside0.mk (bn gb199 hg); have NB202_199 := sy NB199_202; have NB200_202 := Aside0.mk (bn gb200 hg); have NB202_200 := sy NB200_202; have NB201_202 := Aside0.mk (bn gb201 hg); have NB202_201 := sy NB201_202; replace BK199 := kb BK199 hb; replace BK200 := kb BK200 hb; replace BK201 := kb BK201 hb; replace HB := kh hb; clear hb hbox hg; have hnb79 := NB201_199.out; have hnc79 := NB199_201.out; have hnb80 := NB201_200.out; have hnc80 := NB200_201.out; have hnb81 := NB201_202.out; have hnc81 := NB202_201.out; obtain ⟨hcz82_0, hcz82_1, hfz82_0, hfz82_1⟩ := b2 BK201; have hnb83 := NB199_200.out; have hnc83 := NB200_199.out; have hnb84 := NB199_202.out; have hnc84 := NB202_199.out; obtain ⟨hcz85_0, hcz85_1, hcz85_2, hcz85_3, hfz85_0, hfz85_1, hfz85_2, hfz85_3⟩ := b4 BK199) | ((with_reducible refine gate_callee (f := 101) rfl ?_); refine gl 16 Try.func101 #[.agg #[.int .i64 a2_0, .int .i64 a2_1], .agg #[.int .i64 a0_0, .int .i64 a0_1]] ?_; (with_reducible refine (spec_raSub.calls k a2_0 a2_1 a0_0 a0_1 t203 t204 false _ A4.out).mono ?_); rintro e w86 ⟨rfl, hb⟩; refine ⟨_, rfl, ?_⟩; replace BK199 := kb BK199 hb; replace BK200 := kb BK200 hb; replace BK201 := kb BK201 hb; replace BK202 := kb BK202 hb; replace HB := kh hb; (try clear hb); (try clear hb2); (try clear hk); (try clear hi)) | ((with_reducible refine gate_dst (N := 8) rfl ?_); refine bx 8 #[.int .i64 0, .int .i64 0] 28 ?_; intro gb206 hg w87 hbox hb; have BK206 := Aside0.mk (hbox); have GW206 := Aside0.mk (bz hg); have GE206 := GW206; have NB199_206 := Aside0.mk (bn gb199 hg); have NB206_199 := sy NB199_206; have NB200_206 := Aside0.mk (bn gb200 hg); have NB206_200 := sy NB200_206; have NB201_206 := Aside0.mk (bn gb201 hg); have NB206_201 := sy NB201_206; have NB202_206 := Aside0.mk (bn gb202 hg); have NB206_202 := sy NB202_206; replace BK199 := kb BK199 hb; replace BK200 := kb BK200 hb; replace BK201 := kb BK201 hb; replace BK202 := kb BK202 hb; replace HB := kh hb; clear hb hbox hg; have hnb88 := NB206_199.out; have hnc88 := NB199_206.out; have hnb89 := NB206_200.out; have hnc89 := NB200_206.out; have hnb90 := NB206_201.out; have hnc90 := NB201_206.out; have hnb91 := NB206_202.out; have hnc91 := NB202_206.out; obtain ⟨hcz92_0, hcz92_1, hfz92_0, hfz92_1⟩ := b2 BK206))
  have n0_ : Aside0 (((w87.setCell ⟨gb206, 0, none⟩ (.int .i64 t203)).setCell ⟨gb206, 1, none⟩ (.int .i64 t204)).heap[gb199]? = some (.cells #[.int .i64 a0_0, .int .i64 a0_1, .int .i64 a0_2, .int .i64 a0_3] 68 (0, 0))) := ⟨by (with_reducible repeat (first | refine blk_drewN ?_ _ | refine blk_drew ?_ | refine blk_alloc ?_ _)); refine blk_far ?_ NB199_206.out _; (with_reducible repeat (first | refine blk_drewN ?_ _ | refine blk_drew ?_ | refine blk_alloc ?_ _)); refine blk_far ?_ NB199_206.out _; (with_reducible repeat (first | refine blk_drewN ?_ _ | refine blk_drew ?_ | refine blk_alloc ?_ _)); exact BK199.out⟩
  have n1_ : Aside0 (((w87.setCell ⟨gb206, 0, none⟩ (.int .i64 t203)).setCell ⟨gb206, 1, none⟩ (.int .i64 t204)).heap[gb200]? = some (.cells #[.int .i64 a1_0, .int .i64 a1_1, .int .i64 a1_2, .int .i64 a1_3] 68 (0, 0))) := ⟨by (with_reducible repeat (first | refine blk_drewN ?_ _ | refine blk_drew ?_ | refine blk_alloc ?_ _)); refine blk_far ?_ NB200_206.out _; (with_reducible repeat (first | refine blk_drewN ?_ _ | refine blk_drew ?_ | refine blk_alloc ?_ _)); refine blk_far ?_ NB200_206.out _; (with_reducible repeat (first | refine blk_drewN ?_ _ | refine blk_drew ?_ | refine blk_alloc ?_ _)); exact BK200.out⟩
  have n2_ : Aside0 (((w87.setCell ⟨gb206, 0, none⟩ (.int .i64 t203)).setCell ⟨gb206, 1, none⟩ (.int .i64 t204)).heap[gb201]? = some (.cells #[.int .i64 a2_0, .int .i64 a2_1] 28 (0, 0))) := ⟨by (with_reducible repeat (first | refine blk_drewN ?_ _ | refine blk_drew ?_ | refine blk_alloc ?_ _)); refine blk_far ?_ NB201_206.out _; (with_reducible repeat (first | refine blk_drewN ?_ _ | refine blk_drew ?_ | refine blk_alloc ?_ _)); refine blk_far ?_ NB201_206.out _; (with_reducible repeat (first | refine blk_drewN ?_ _ | refine blk_drew ?_ | refine blk_alloc ?_ _)); exact BK201.out⟩
  have n3_ : Aside0 (((w87.setCell ⟨gb206, 0, none⟩ (.int .i64 t203)).setCell ⟨gb206, 1, none⟩ (.int .i64 t204)).heap[gb202]? = some (.cells #[.int .i64 0, .int .i64 0] 28 (0, 0))) := ⟨by (with_reducible repeat (first | refine blk_drewN ?_ _ | refine blk_drew ?_ | refine blk_alloc ?_ _)); refine blk_far ?_ NB202_206.out _; (with_reducible repeat (first | refine blk_drewN ?_ _ | refine blk_drew ?_ | refine blk_alloc ?_ _)); refine blk_far ?_ NB202_206.out _; (with_reducible repeat (first | refine blk_drewN ?_ _ | refine blk_drew ?_ | refine blk_alloc ?_ _)); exact BK202.out⟩
  have n4_ : Aside0 (((w87.setCell ⟨gb206, 0, none⟩ (.int .i64 t203)).setCell ⟨gb206, 1, none⟩ (.int .i64 t204)).heap[gb206]? = some (.cells #[.int .i64 t203, .int .i64 t204] 28 (0, 0))) := ⟨by (with_reducible repeat (first | refine blk_drewN ?_ _ | refine blk_drew ?_ | refine blk_alloc ?_ _)); refine blk_put (cs := #[.int .i64 t203, .int .i64 0]) ?_ 1 _ rfl; (with_reducible repeat (first | refine blk_drewN ?_ _ | refine blk_drew ?_ | refine blk_alloc ?_ _)); refine blk_put (cs := #[.int .i64 0, .int .i64 0]) ?_ 0 _ rfl; (with_reducible repeat (first | refine blk_drewN ?_ _ | refine blk_drew ?_ | refine blk_alloc ?_ _)); exact BK206.out⟩
  have n5_ : Aside0 (Below w.heap.size w ((w87.setCell ⟨gb206, 0, none⟩ (.int .i64 t203)).setCell ⟨gb206, 1, none⟩ (.int .i64 t204))) := ⟨bl⟩
  (try clear BK199)
  (try clear BK200)
  (try clear BK201)
  (try clear BK202)
  (try clear BK206)
  (try clear HB)
  generalize ((w87.setCell ⟨gb206, 0, none⟩ (.int .i64 t203)).setCell ⟨gb206, 1, none⟩ (.int .i64 t204)) = w93 at n0_ n1_ n2_ n3_ n4_ n5_ ⊢
  have BK199 := n0_
  have BK200 := n1_
  have BK201 := n2_
  have BK202 := n3_
  have BK206 := n4_
  have HB := n5_
  clear n0_ n1_ n2_ n3_ n4_ n5_
  replace BK199 := Aside0.mk (blk_drew BK199.out)
  replace BK200 := Aside0.mk (blk_drew BK200.out)
  replace BK201 := Aside0.mk (blk_drew BK201.out)
  replace BK202 := Aside0.mk (blk_drew BK202.out)
  replace BK206 := Aside0.mk (blk_drew BK206.out)
  replace HB := Aside0.mk (below_drew1 HB.out)
  refine start_ (n := 11) (S := fun w' => w'.cell? ⟨gb206, 0, none⟩ = some (.int .i64 t203) ∧ w'.cell? ⟨gb206, 1, none⟩ = some (.int .i64 t204) ∧ w'.cell? ⟨gb199, 0, none⟩ = some (.int .i64 a0_0) ∧ w'.cell? ⟨gb199, 1, none⟩ = some (.int .i64 a0_1) ∧ w'.cell? ⟨gb199, 2, none⟩ = some (.int .i64 a0_2) ∧ w'.cell? ⟨gb199, 3, none⟩ = some (.int .i64 a0_3) ∧ w'.cell? ⟨gb200, 0, none⟩ = some (.int .i64 a1_0) ∧ w'.cell? ⟨gb200, 1, none⟩ = some (.int .i64 a1_1) ∧ w'.cell? ⟨gb200, 2, none⟩ = some (.int .i64 a1_2) ∧ w'.cell? ⟨gb200, 3, none⟩ = some (.int .i64 a1_3)) (ds := []) (tb 0 11) (by kernel_rfl) rfl rfl ⟨(blk_cell BK206.out 0).trans rfl, (blk_cell BK206.out 1).trans rfl, (blk_cell BK199.out 0).trans rfl, (blk_cell BK199.out 1).trans rfl, (blk_cell BK199.out 2).trans rfl, (blk_cell BK199.out 3).trans rfl, (blk_cell BK200.out 0).trans rfl, (blk_cell BK200.out 1).trans rfl, (blk_cell BK200.out 2).trans rfl, (blk_cell BK200.out 3).trans rfl⟩ (fun hHeld => ?_); refine with_tabW spec_imOn.tab2 spec_imOn.bits2 (fun HT_ HW_ => ?_)
  generalize w93.drew = w94 at BK199 BK200 BK201 BK202 BK206 HB hHeld ⊢
  refine tk 0 20 (tb 1 10) (hy := by rintro w' ⟨s0, s1, s2, s3, s4, s5, s6, s7, s8, s9⟩; go_simp; with_reducible rfl) (h := ?_)
  refine tk 1 21 (tb 2 9) (hy := by rintro w' ⟨s0, s1, s2, s3, s4, s5, s6, s7, s8, s9⟩; go_simp; with_reducible rfl) (h := ?_)
  refine tk 2 22 (tb 3 8) (hy := by rintro w' ⟨s0, s1, s2, s3, s4, s5, s6, s7, s8, s9⟩; go_simp; with_reducible rfl) (h := ?_)
  refine join_ (σ := Nat) 2 (tb 9 2) (fun s_ => [(23, .agg #[.int .i64 t207, .int .i64 t208]), (24, .tuple #[.agg #[.int .i64 t209, .int .i64 t210], .bool t211]), (10, .pointer (some ⟨s_, 0, none⟩)), (19, .tuple #[.agg #[.int .i64 t209, .int .i64 t210], .bool t211]), (25, .agg #[.int .i64 t209, .int .i64 t210]), (26, .bool t211)]) (fun s_ w' => (w'.cell? ⟨gb206, 0, none⟩ = some (.int .i64 t203) ∧ w'.cell? ⟨gb206, 1, none⟩ = some (.int .i64 t204) ∧ w'.cell? ⟨gb199, 0, none⟩ = some (.int .i64 a0_0) ∧ w'.cell? ⟨gb199, 1, none⟩ = some (.int .i64 a0_1) ∧ w'.cell? ⟨gb199, 2, none⟩ = some (.int .i64 a0_2) ∧ w'.cell? ⟨gb199, 3, none⟩ = some (.int .i64 a0_3) ∧ w'.cell? ⟨gb200, 0, none⟩ = some (.int .i64 a1_0) ∧ w'.cell? ⟨gb200, 1, none⟩ = some (.int .i64 a1_1) ∧ w'.cell? ⟨gb200, 2, none⟩ = some (.int .i64 a1_2) ∧ w'.cell? ⟨gb200, 3, none⟩ = some (.int .i64 a1_3)) ∧ (w'.heap[gb199]? = some (.cells #[.int .i64 a0_0, .int .i64 a0_1, .int .i64 a0_2, .int .i64 a0_3] 68 (0, 0))) ∧ (w'.heap[gb200]? = some (.cells #[.int .i64 a1_0, .int .i64 a1_1, .int .i64 a1_2, .int .i64 a1_3] 68 (0, 0))) ∧ (w'.heap[gb201]? = some (.cells #[.int .i64 a2_0, .int .i64 a2_1] 28 (0, 0))) ∧ (w'.heap[gb202]? = some (.cells #[.int .i64 0, .int .i64 0] 28 (0, 0))) ∧ (w'.heap[gb206]? = some (.cells #[.int .i64 t203, .int .i64 t204] 28 (0, 0))) ∧ (w'.heap[s_]? = some (.cells #[.int .i64 0, .int .i64 0] 28 (0, 0))) ∧ (w.heap.size ≤ s_) ∧ (w.heap.size ≤ s_) ∧ (gb199 ≠ s_) ∧ (s_ ≠ gb199) ∧ (gb200 ≠ s_) ∧ (s_ ≠ gb200) ∧ (gb201 ≠ s_) ∧ (s_ ≠ gb201) ∧ (gb202 ≠ s_) ∧ (s_ ≠ gb202) ∧ (gb206 ≠ s_) ∧ (s_ ≠ gb206) ∧ (Below w.heap.size w w')) ?_ ?_
  rotate_left
  ·intro hCont
   refine two_ (i := 3) (j := 8) (Ni := some 23) (Nj := some 10) (tb 4 7) #[true, true, true, false, false, false, false, false, true, false, false] rfl rfl rfl rfl (two_of HT_.out (by kernel_rfl)) (by decide) (by decide) (fun K hK => ?_) (fun K hK => ?_)
   ·skip
    refine gs Try.func84 #[.agg #[.int .i64 a0_0, .int .i64 a0_1, .int .i64 a0_2, .int .i64 a0_3], .agg #[.int .i64 a1_0, .int .i64 a1_1, .int .i64 a1_2, .int .i64 a1_3]] ?_
    with_reducible refine (spec_imSlope.calls k a0_0 a0_1 a0_2 a0_3 a1_0 a1_1 a1_2 a1_3 t207 t208 _ A5.out).mono ?_
    rintro e w95 ⟨rfl, hb⟩
    refine ⟨_, rfl, ?_⟩
    replace BK199 := kb BK199 hb
    replace BK200 := kb BK200 hb
    replace BK201 := kb BK201 hb
    replace BK202 := kb BK202 hb
    replace BK206 := kb BK206 hb
    replace HB := kh hb
    (try clear hb)
    (try clear hb2)
    (try clear hk)
    (try clear hi)
    refine hK.out _ _ ⟨(blk_cell BK206.out 0).trans rfl, (blk_cell BK206.out 1).trans rfl, (blk_cell BK199.out 0).trans rfl, (blk_cell BK199.out 1).trans rfl, (blk_cell BK199.out 2).trans rfl, (blk_cell BK199.out 3).trans rfl, (blk_cell BK200.out 0).trans rfl, (blk_cell BK200.out 1).trans rfl, (blk_cell BK200.out 2).trans rfl, (blk_cell BK200.out 3).trans rfl⟩ (fun hHeld => ?_)
    clear hK K
    refine nm 23 ?_
    refine two_ (i := 4) (j := 8) (Ni := some 24) (Nj := some 10) (tb 5 6) #[true, true, true, true, false, false, false, false, true, false, false] rfl rfl rfl rfl (two_of HT_.out (by kernel_rfl)) (by decide) (by decide) (fun K hK => ?_) (fun K hK => ?_)
    ·skip
     refine gs Try.func100 #[.agg #[.int .i64 t203, .int .i64 t204], .agg #[.int .i64 t207, .int .i64 t208]] ?_
     with_reducible refine (spec_raMul.calls k t203 t204 t207 t208 t209 t210 t211 _ A6.out).mono ?_
     rintro e w96 ⟨rfl, hb⟩
     refine ⟨_, rfl, ?_⟩
     replace BK199 := kb BK199 hb
     replace BK200 := kb BK200 hb
     replace BK201 := kb BK201 hb
     replace BK202 := kb BK202 hb
     replace BK206 := kb BK206 hb
     replace HB := kh hb
     (try clear hb)
     (try clear hb2)
     (try clear hk)
     (try clear hi)
     refine hK.out _ _ ⟨(blk_cell BK206.out 0).trans rfl, (blk_cell BK206.out 1).trans rfl, (blk_cell BK199.out 0).trans rfl, (blk_cell BK199.out 1).trans rfl, (blk_cell BK199.out 2).trans rfl, (blk_cell BK199.out 3).trans rfl, (blk_cell BK200.out 0).trans rfl, (blk_cell BK200.out 1).trans rfl, (blk_cell BK200.out 2).trans rfl, (blk_cell BK200.out 3).trans rfl⟩ (fun hHeld => ?_)
     clear hK K
     refine nm 24 ?_
     refine pu 5 19 (tb 6 5) ?_
     refine pu 6 25 (tb 7 4) ?_
     refine pu 7 26 (tb 8 3) ?_
     refine on 8 10 (tb 9 2) (fun K hK => ?_)
     refine box_step ?hg (N := 10) ?hd (cs := #[.int .i64 0, .int .i64 0]) (t := 28) ?hr ?_; (case hd => rfl); (case hg => rfl); (case hr => first | (go_simp; done) | (go_simp; rfl))
     intro gb212 hg w97 hbox hb
     have BK212 := Aside0.mk (hbox)
     have GW212 := Aside0.mk (bz hg)
     have GE212 := GW212
     have NB199_212 := Aside0.mk (bn gb199 hg)
     have NB212_199 := sy NB199_212
     have NB200_212 := Aside0.mk (bn gb200 hg)
     have NB212_200 := sy NB200_212
     have NB201_212 := Aside0.mk (bn gb201 hg)
     have NB212_201 := sy NB201_212
     have NB202_212 := Aside0.mk (bn gb202 hg)
     have NB212_202 := sy NB202_212
     have NB206_212 := Aside0.mk (bn gb206 hg)
     have NB212_206 := sy NB206_212
     replace BK199 := kb BK199 hb
     replace BK200 := kb BK200 hb
     replace BK201 := kb BK201 hb
     replace BK202 := kb BK202 hb
     replace BK206 := kb BK206 hb
     replace HB := kh hb
     clear hb hbox hg
     refine hK.out _ _ ⟨(blk_cell BK206.out 0).trans rfl, (blk_cell BK206.out 1).trans rfl, (blk_cell BK199.out 0).trans rfl, (blk_cell BK199.out 1).trans rfl, (blk_cell BK199.out 2).trans rfl, (blk_cell BK199.out 3).trans rfl, (blk_cell BK200.out 0).trans rfl, (blk_cell BK200.out 1).trans rfl, (blk_cell BK200.out 2).trans rfl, (blk_cell BK200.out 3).trans rfl⟩ (fun hHeld => ?_)
     clear hK K
     refine nm 10 ?_
     exact norm_ (by simp only [putAll, Act.put, List.setIfInBounds_toArray, List.set_cons_zero, List.set_cons_succ]) (hCont (gb212) _ ⟨hHeld, (bo gb199), (bo gb200), (bo gb201), (bo gb202), (bo gb206), (bo gb212), GW212.out, GE212.out, NB199_212.out, NB212_199.out, NB200_212.out, NB212_200.out, NB201_212.out, NB212_201.out, NB202_212.out, NB212_202.out, NB206_212.out, NB212_206.out, bl⟩)
    ·skip
     refine box_step ?hg (N := 10) ?hd (cs := #[.int .i64 0, .int .i64 0]) (t := 28) ?hr ?_; (case hd => rfl); (case hg => rfl); (case hr => first | (go_simp; done) | (go_simp; rfl))
     intro gb212 hg w96 hbox hb
     have BK212 := Aside0.mk (hbox)
     have GW212 := Aside0.mk (bz hg)
     have GE212 := GW212
     have NB199_212 := Aside0.mk (bn gb199 hg)
     have NB212_199 := sy NB199_212
     have NB200_212 := Aside0.mk (bn gb200 hg)
     have NB212_200 := sy NB200_212
     have NB201_212 := Aside0.mk (bn gb201 hg)
     have NB212_201 := sy NB201_212
     have NB202_212 := Aside0.mk (bn gb202 hg)
     have NB212_202 := sy NB202_212
     have NB206_212 := Aside0.mk (bn gb206 hg)
     have NB212_206 := sy NB206_212
     replace BK199 := kb BK199 hb
     replace BK200 := kb BK200 hb
     replace BK201 := kb BK201 hb
     replace BK202 := kb BK202 hb
     replace BK206 := kb BK206 hb
     replace HB := kh hb
     clear hb hbox hg
     refine hK.out _ _ ⟨(blk_cell BK206.out 0).trans rfl, (blk_cell BK206.out 1).trans rfl, (blk_cell BK199.out 0).trans rfl, (blk_cell BK199.out 1).trans rfl, (blk_cell BK199.out 2).trans rfl, (blk_cell BK199.out 3).trans rfl, (blk_cell BK200.out 0).trans rfl, (blk_cell BK200.out 1).trans rfl, (blk_cell BK200.out 2).trans rfl, (blk_cell BK200.out 3).trans rfl⟩ (fun hHeld => ?_)
     clear hK K
     refine nm 10 ?_
     refine on 4 24 #[true, true, true, true, true, false, false, false, true, false, false] (fun K hK => ?_)
     refine gs Try.func100 #[.agg #[.int .i64 t203, .int .i64 t204], .agg #[.int .i64 t207, .int .i64 t208]] ?_
     with_reducible refine (spec_raMul.calls k t203 t204 t207 t208 t209 t210 t211 _ A6.out).mono ?_
     rintro e w97 ⟨rfl, hb⟩
     refine ⟨_, rfl, ?_⟩
     replace BK199 := kb BK199 hb
     replace BK200 := kb BK200 hb
     replace BK201 := kb BK201 hb
     replace BK202 := kb BK202 hb
     replace BK206 := kb BK206 hb
     replace BK212 := kb BK212 hb
     replace HB := kh hb
     (try clear hb)
     (try clear hb2)
     (try clear hk)
     (try clear hi)
     refine hK.out _ _ ⟨(blk_cell BK206.out 0).trans rfl, (blk_cell BK206.out 1).trans rfl, (blk_cell BK199.out 0).trans rfl, (blk_cell BK199.out 1).trans rfl, (blk_cell BK199.out 2).trans rfl, (blk_cell BK199.out 3).trans rfl, (blk_cell BK200.out 0).trans rfl, (blk_cell BK200.out 1).trans rfl, (blk_cell BK200.out 2).trans rfl, (blk_cell BK200.out 3).trans rfl⟩ (fun hHeld => ?_)
     clear hK K
     refine nm 24 ?_
     refine pu 5 19 #[true, true, true, true, true, true, false, false, true, false, false] ?_
     refine pu 6 25 #[true, true, true, true, true, true, true, false, true, false, false] ?_
     refine pu 7 26 (tb 9 2) ?_
     exact norm_ (by simp only [putAll, Act.put, List.setIfInBounds_toArray, List.set_cons_zero, List.set_cons_succ]) (hCont (gb212) _ ⟨hHeld, (bo gb199), (bo gb200), (bo gb201), (bo gb202), (bo gb206), (bo gb212), GW212.out, GE212.out, NB199_212.out, NB212_199.out, NB200_212.out, NB212_200.out, NB201_212.out, NB212_201.out, NB202_212.out, NB212_202.out, NB206_212.out, NB212_206.out, bl⟩)
   ·skip
    refine box_step ?hg (N := 10) ?hd (cs := #[.int .i64 0, .int .i64 0]) (t := 28) ?hr ?_; (case hd => rfl); (case hg => rfl); (case hr => first | (go_simp; done) | (go_simp; rfl))
    intro gb212 hg w95 hbox hb
    have BK212 := Aside0.mk (hbox)
    have GW212 := Aside0.mk (bz hg)
    have GE212 := GW212
    have NB199_212 := Aside0.mk (bn gb199 hg)
    have NB212_199 := sy NB199_212
    have NB200_212 := Aside0.mk (bn gb200 hg)
    have NB212_200 := sy NB200_212
    have NB201_212 := Aside0.mk (bn gb201 hg)
    have NB212_201 := sy NB201_212
    have NB202_212 := Aside0.mk (bn gb202 hg)
    have NB212_202 := sy NB202_212
    have NB206_212 := Aside0.mk (bn gb206 hg)
    have NB212_206 := sy NB206_212
    replace BK199 := kb BK199 hb
    replace BK200 := kb BK200 hb
    replace BK201 := kb BK201 hb
    replace BK202 := kb BK202 hb
    replace BK206 := kb BK206 hb
    replace HB := kh hb
    clear hb hbox hg
    refine hK.out _ _ ⟨(blk_cell BK206.out 0).trans rfl, (blk_cell BK206.out 1).trans rfl, (blk_cell BK199.out 0).trans rfl, (blk_cell BK199.out 1).trans rfl, (blk_cell BK199.out 2).trans rfl, (blk_cell BK199.out 3).trans rfl, (blk_cell BK200.out 0).trans rfl, (blk_cell BK200.out 1).trans rfl, (blk_cell BK200.out 2).trans rfl, (blk_cell BK200.out 3).trans rfl⟩ (fun hHeld => ?_)
    clear hK K
    refine nm 10 ?_
    refine on 3 23 #[true, true, true, true, false, false, false, false, true, false, false] (fun K hK => ?_)
    refine gs Try.func84 #[.agg #[.int .i64 a0_0, .int .i64 a0_1, .int .i64 a0_2, .int .i64 a0_3], .agg #[.int .i64 a1_0, .int .i64 a1_1, .int .i64 a1_2, .int .i64 a1_3]] ?_
    with_reducible refine (spec_imSlope.calls k a0_0 a0_1 a0_2 a0_3 a1_0 a1_1 a1_2 a1_3 t207 t208 _ A5.out).mono ?_
    rintro e w96 ⟨rfl, hb⟩
    refine ⟨_, rfl, ?_⟩
    replace BK199 := kb BK199 hb
    replace BK200 := kb BK200 hb
    replace BK201 := kb BK201 hb
    replace BK202 := kb BK202 hb
    replace BK206 := kb BK206 hb
    replace BK212 := kb BK212 hb
    replace HB := kh hb
    (try clear hb)
    (try clear hb2)
    (try clear hk)
    (try clear hi)
    refine hK.out _ _ ⟨(blk_cell BK206.out 0).trans rfl, (blk_cell BK206.out 1).trans rfl, (blk_cell BK199.out 0).trans rfl, (blk_cell BK199.out 1).trans rfl, (blk_cell BK199.out 2).trans rfl, (blk_cell BK199.out 3).trans rfl, (blk_cell BK200.out 0).trans rfl, (blk_cell BK200.out 1).trans rfl, (blk_cell BK200.out 2).trans rfl, (blk_cell BK200.out 3).trans rfl⟩ (fun hHeld => ?_)
    clear hK K
    refine nm 23 ?_
    refine on 4 24 #[true, true, true, true, true, false, false, false, true, false, false] (fun K hK => ?_)
    refine gs Try.func100 #[.agg #[.int .i64 t203, .int .i64 t204], .agg #[.int .i64 t207, .int .i64 t208]] ?_
    with_reducible refine (spec_raMul.calls k t203 t204 t207 t208 t209 t210 t211 _ A6.out).mono ?_
    rintro e w97 ⟨rfl, hb⟩
    refine ⟨_, rfl, ?_⟩
    replace BK199 := kb BK199 hb
    replace BK200 := kb BK200 hb
    replace BK201 := kb BK201 hb
    replace BK202 := kb BK202 hb
    replace BK206 := kb BK206 hb
    replace BK212 := kb BK212 hb
    replace HB := kh hb
    (try clear hb)
    (try clear hb2)
    (try clear hk)
    (try clear hi)
    refine hK.out _ _ ⟨(blk_cell BK206.out 0).trans rfl, (blk_cell BK206.out 1).trans rfl, (blk_cell BK199.out 0).trans rfl, (blk_cell BK199.out 1).trans rfl, (blk_cell BK199.out 2).trans rfl, (blk_cell BK199.out 3).trans rfl, (blk_cell BK200.out 0).trans rfl, (blk_cell BK200.out 1).trans rfl, (blk_cell BK200.out 2).trans rfl, (blk_cell BK200.out 3).trans rfl⟩ (fun hHeld => ?_)
    clear hK K
    refine nm 24 ?_
    refine pu 5 19 #[true, true, true, true, true, true, false, false, true, false, false] ?_
    refine pu 6 25 #[true, true, true, true, true, true, true, false, true, false, false] ?_
    refine pu 7 26 (tb 9 2) ?_
    exact norm_ (by simp only [putAll, Act.put, List.setIfInBounds_toArray, List.set_cons_zero, List.set_cons_succ]) (hCont (gb212) _ ⟨hHeld, (bo gb199), (bo gb200), (bo gb201), (bo gb202), (bo gb206), (bo gb212), GW212.out, GE212.out, NB199_212.out, NB212_199.out, NB200_212.out, NB212_200.out, NB201_212.out, NB212_201.out, NB202_212.out, NB212_202.out, NB206_212.out, NB212_206.out, bl⟩)
  rintro gb212 w98 ⟨hS_, h0_, h1_, h2_, h3_, h4_, h5_, h6_, h7_, h8_, h9_, h10_, h11_, h12_, h13_, h14_, h15_, h16_, h17_, h18_⟩
  have n0_ : Aside0 (w98.heap[gb199]? = some (.cells #[.int .i64 a0_0, .int .i64 a0_1, .int .i64 a0_2, .int .i64 a0_3] 68 (0, 0))) := ⟨h0_⟩
  have n1_ : Aside0 (w98.heap[gb200]? = some (.cells #[.int .i64 a1_0, .int .i64 a1_1, .int .i64 a1_2, .int .i64 a1_3] 68 (0, 0))) := ⟨h1_⟩
  have n2_ : Aside0 (w98.heap[gb201]? = some (.cells #[.int .i64 a2_0, .int .i64 a2_1] 28 (0, 0))) := ⟨h2_⟩
  have n3_ : Aside0 (w98.heap[gb202]? = some (.cells #[.int .i64 0, .int .i64 0] 28 (0, 0))) := ⟨h3_⟩
  have n4_ : Aside0 (w98.heap[gb206]? = some (.cells #[.int .i64 t203, .int .i64 t204] 28 (0, 0))) := ⟨h4_⟩
  have n5_ : Aside0 (w98.heap[gb212]? = some (.cells #[.int .i64 0, .int .i64 0] 28 (0, 0))) := ⟨h5_⟩
  have n6_ : Aside0 (w.heap.size ≤ gb212) := ⟨h6_⟩
  have n7_ : Aside0 (w.heap.size ≤ gb212) := ⟨h7_⟩
  have n8_ : Aside0 (gb199 ≠ gb212) := ⟨h8_⟩
  have n9_ : Aside0 (gb212 ≠ gb199) := ⟨h9_⟩
  have n10_ : Aside0 (gb200 ≠ gb212) := ⟨h10_⟩
  have n11_ : Aside0 (gb212 ≠ gb200) := ⟨h11_⟩
  have n12_ : Aside0 (gb201 ≠ gb212) := ⟨h12_⟩
  have n13_ : Aside0 (gb212 ≠ gb201) := ⟨h13_⟩
  have n14_ : Aside0 (gb202 ≠ gb212) := ⟨h14_⟩
  have n15_ : Aside0 (gb212 ≠ gb202) := ⟨h15_⟩
  have n16_ : Aside0 (gb206 ≠ gb212) := ⟨h16_⟩
  have n17_ : Aside0 (gb212 ≠ gb206) := ⟨h17_⟩
  have n18_ : Aside0 (Below w.heap.size w w98) := ⟨h18_⟩
  clear BK199
  clear BK200
  clear BK201
  clear BK202
  clear BK206
  clear HB
  clear h0_ h1_ h2_ h3_ h4_ h5_ h6_ h7_ h8_ h9_ h10_ h11_ h12_ h13_ h14_ h15_ h16_ h17_ h18_
  have BK199 := n0_
  have BK200 := n1_
  have BK201 := n2_
  have BK202 := n3_
  have BK206 := n4_
  have BK212 := n5_
  have GW212 := n6_
  have GE212 := n7_
  have NB199_212 := n8_
  have NB212_199 := n9_
  have NB200_212 := n10_
  have NB212_200 := n11_
  have NB201_212 := n12_
  have NB212_201 := n13_
  have NB202_212 := n14_
  have NB212_202 := n15_
  have NB206_212 := n16_
  have NB212_206 := n17_
  have HB := n18_
  clear n0_ n1_ n2_ n3_ n4_ n5_ n6_ n7_ n8_ n9_ n10_ n11_ n12_ n13_ n14_ n15_ n16_ n17_ n18_
  have hHeld : w98.cell? ⟨gb206, 0, none⟩ = some (.int .i64 t203) ∧ w98.cell? ⟨gb206, 1, none⟩ = some (.int .i64 t204) ∧ w98.cell? ⟨gb199, 0, none⟩ = some (.int .i64 a0_0) ∧ w98.cell? ⟨gb199, 1, none⟩ = some (.int .i64 a0_1) ∧ w98.cell? ⟨gb199, 2, none⟩ = some (.int .i64 a0_2) ∧ w98.cell? ⟨gb199, 3, none⟩ = some (.int .i64 a0_3) ∧ w98.cell? ⟨gb200, 0, none⟩ = some (.int .i64 a1_0) ∧ w98.cell? ⟨gb200, 1, none⟩ = some (.int .i64 a1_1) ∧ w98.cell? ⟨gb200, 2, none⟩ = some (.int .i64 a1_2) ∧ w98.cell? ⟨gb200, 3, none⟩ = some (.int .i64 a1_3) := hS_
  refine norm_ (a' := ?_) ?_ ?_
  rotate_left
  ·simp only [putAll, Act.put, List.setIfInBounds_toArray, List.set_cons_zero, List.set_cons_succ]
   rfl
  refine one_ (i := 9) (N := none) (tb 10 1) rfl rfl (one_of HT_.out (by kernel_rfl)) (by decide) (fun K hK => ?_)
  have hs99 : w98.cell? ⟨gb212, 0, none⟩ = some (.int .i64 0) := (blk_cell BK212.out 0).trans rfl
  have hfs99 := blk_frozen BK212.out 0
  have hns99_0 := NB199_212.out
  have hns99_1 := NB200_212.out
  have hns99_2 := NB201_212.out
  have hns99_3 := NB202_212.out
  have hns99_4 := NB206_212.out
  have hms99_0 := NB212_199.out
  have hms99_1 := NB212_200.out
  have hms99_2 := NB212_201.out
  have hms99_3 := NB212_202.out
  have hms99_4 := NB212_206.out
  have hs100 : w98.cell? ⟨gb212, 1, none⟩ = some (.int .i64 0) := (blk_cell BK212.out 1).trans rfl
  have hfs100 := blk_frozen BK212.out 1
  have hns100_0 := NB199_212.out
  have hns100_1 := NB200_212.out
  have hns100_2 := NB201_212.out
  have hns100_3 := NB202_212.out
  have hns100_4 := NB206_212.out
  have hms100_0 := NB212_199.out
  have hms100_1 := NB212_200.out
  have hms100_2 := NB212_201.out
  have hms100_3 := NB212_202.out
  have hms100_4 := NB212_206.out
  refine skip_ (w1 := ?_) (by rfl) rfl ?_ ?_
  rotate_left
  ·go_simp
   rfl
  refine hK.out _ _ ⟨(by (iterate 2 refine (cell_far (p := ⟨gb212, _, none⟩) NB206_212.out _).trans ?_); exact hHeld.1), (by (iterate 2 refine (cell_far (p := ⟨gb212, _, none⟩) NB206_212.out _).trans ?_); exact hHeld.2.1), (by (iterate 2 refine (cell_far (p := ⟨gb212, _, none⟩) NB199_212.out _).trans ?_); exact hHeld.2.2.1), (by (iterate 2 refine (cell_far (p := ⟨gb212, _, none⟩) NB199_212.out _).trans ?_); exact hHeld.2.2.2.1), (by (iterate 2 refine (cell_far (p := ⟨gb212, _, none⟩) NB199_212.out _).trans ?_); exact hHeld.2.2.2.2.1), (by (iterate 2 refine (cell_far (p := ⟨gb212, _, none⟩) NB199_212.out _).trans ?_); exact hHeld.2.2.2.2.2.1), (by (iterate 2 refine (cell_far (p := ⟨gb212, _, none⟩) NB200_212.out _).trans ?_); exact hHeld.2.2.2.2.2.2.1), (by (iterate 2 refine (cell_far (p := ⟨gb212, _, none⟩) NB200_212.out _).trans ?_); exact hHeld.2.2.2.2.2.2.2.1), (by (iterate 2 refine (cell_far (p := ⟨gb212, _, none⟩) NB200_212.out _).trans ?_); exact hHeld.2.2.2.2.2.2.2.2.1), (by (iterate 2 refine (cell_far (p := ⟨gb212, _, none⟩) NB200_212.out _).trans ?_); exact hHeld.2.2.2.2.2.2.2.2.2)⟩ (fun hHeld => ?_)
  clear hK K
  refine pu 10 11 (tb 11 0) ?_
  refine done_ (done_of HT_.out (by kernel_rfl)) ?_
  have hnb101 := NB202_200.out
  have hnc101 := NB200_202.out
  have hnb102 := NB202_212.out
  have hnc102 := NB212_202.out
  obtain ⟨hcz103_0, hcz103_1, hfz103_0, hfz103_1⟩ := b2 BK202
  try go_wp2
  refine bodyPost_ret (results_ct rfl _ _ gb202 28 #[.int .i64 0, .int .i64 0] (0, 0) _ rfl (by (with_reducible repeat (first | refine blk_drewN ?_ _ | refine blk_drew ?_ | refine blk_alloc ?_ _)); refine blk_put (cs := #[.int .i64 0, .int .i64 0]) ?_ 1 _ rfl; (with_reducible repeat (first | refine blk_drewN ?_ _ | refine blk_drew ?_ | refine blk_alloc ?_ _)); refine blk_put (cs := #[.int .i64 0, .int .i64 0]) ?_ 0 _ rfl; (with_reducible repeat (first | refine blk_drewN ?_ _ | refine blk_drew ?_ | refine blk_alloc ?_ _)); refine blk_far ?_ NB202_212.out _; (with_reducible repeat (first | refine blk_drewN ?_ _ | refine blk_drew ?_ | refine blk_alloc ?_ _)); refine blk_far ?_ NB202_212.out _; (with_reducible repeat (first | refine blk_drewN ?_ _ | refine blk_drew ?_ | refine blk_alloc ?_ _)); exact BK202.out) Try.underlying28 rfl (by kernel_rfl)) rfl ?_
  exact ⟨rt, bl⟩

end Go.Proofs.Ytmecnnnagallnaa.PFnExactItineraryOf
