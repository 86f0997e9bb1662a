-- Written by this session's program wip/pp (the kit's print tool with additions) 35421559b90ae4d0a3588c463048766b98c2df88dd9212a6774a882060cdf62d
import Derived.Test.YtannadjfkaghjaaPFnExactIsRepellingx0
import Derived.Test.YtannadjfkaghjaaPFnExactIsRepellingx5
namespace Go.Proofs.Ytannadjfkaghjaa.PFnExactIsRepelling
open Go.RowKit Go.Proofs.YtannadjfkaghjaaW.PrintWords Go.Proofs.YtannadjfkaghjaaW.PrintLast Go.Proofs.YtannadjfkaghjaaW.PrintMore
attribute [local go_sem] max2_int min2_int max_two min_two max_three min_three max_four min_four   -- for this text's walks alone
set_option linter.unusedVariables false
set_option linter.unusedSimpArgs false

/-! ### spec_imOn: function 120 -/
def spec_imOn.f (k : Nat) (a0_0 : Int) (a0_1 : Int) (a0_2 : Int) (a0_3 : Int) (a1_0 : Int) (a1_1 : Int) (a1_2 : Int) (a1_3 : Int) (a2_0 : Int) (a2_1 : Int) : Option (Int × Int × Bool) := (spec_raSub.f k a2_0 a2_1 a0_0 a0_1).bind fun bt190 => ((spec_imSlope.f k a0_0 a0_1 a0_2 a0_3 a1_0 a1_1 a1_2 a1_3).bind fun bt194 => ((spec_raMul.f k bt190.1 bt190.2.1 bt194.1 bt194.2).bind fun bt196 => (if bt190.2.2 = true then (if bt196.2.2 = true then ((spec_raAdd.f k a0_2 a0_3 bt196.1 bt196.2.1).bind fun bt200 => (some (bt200.1, bt200.2.1, bt200.2.2))) else (some (0, 0, false))) else (some (0, 0, false)))))
def spec_imOn.T2 : Bool × List (List Nat × List Nat) := (true, [([], []), ([], []), ([], []), ([1, 2], [1, 2]), ([0, 3, 3], [0, 3]), ([4], [4]), ([5], [5]), ([5], [5]), ([], []), ([8, 6, 4, 0, 1, 2, 3, 4, 5, 6, 8], [6, 8]), ([7, 9, 0, 1, 2, 3, 4, 5, 6, 7, 8, 9], [7])])
def spec_imOn.B2 : List Nat := [0, 0, 0, 6, 15, 31, 63, 63, 0, 383, 1023]
theorem spec_imOn.tab2 : rtab .any (opsOf Try.f120 2) = spec_imOn.T2 := by kernel_rfl
theorem spec_imOn.bits2 : waitsOk spec_imOn.T2.2 spec_imOn.B2 = true := by kernel_rfl
set_option maxHeartbeats 8000000 in
set_option maxRecDepth 100000 in
theorem spec_imOn.calls (k : Nat) (a0_0 : Int) (a0_1 : Int) (a0_2 : Int) (a0_3 : Int) (a1_0 : Int) (a1_1 : Int) (a1_2 : Int) (a1_3 : Int) (a2_0 : Int) (a2_1 : Int) (r1 : Int) (r2 : Int) (r3 : Bool) (w : World) (h : spec_imOn.f k a0_0 a0_1 a0_2 a0_3 a1_0 a1_1 a1_2 a1_3 a2_0 a2_1 = some (r1, r2, r3)) :
  Calls Try.prog 120 #[.agg #[.int .i64 a0_0, .int .i64 a0_1, .int .i64 a0_2, .int .i64 a0_3], .agg #[.int .i64 a1_0, .int .i64 a1_1, .int .i64 a1_2, .int .i64 a1_3], .agg #[.int .i64 a2_0, .int .i64 a2_1]] w fun e w' => e = .returned (.tuple #[.agg #[.int .i64 r1, .int .i64 r2], .bool r3]) ∧ Below w.heap.size w w' := by
 have hu73 := Try.underlying73
 have hu53 := Try.underlying53
 have HB := Aside0.mk (Below.refl w.heap.size w)
 have H : ((spec_raSub.f k a2_0 a2_1 a0_0 a0_1).bind fun bt190 => ((spec_imSlope.f k a0_0 a0_1 a0_2 a0_3 a1_0 a1_1 a1_2 a1_3).bind fun bt194 => ((spec_raMul.f k bt190.1 bt190.2.1 bt194.1 bt194.2).bind fun bt196 => (if bt190.2.2 = true then (if bt196.2.2 = true then ((spec_raAdd.f k a0_2 a0_3 bt196.1 bt196.2.1).bind fun bt200 => (some (bt200.1, bt200.2.1, bt200.2.2))) else (some (0, 0, false))) else (some (0, 0, false)))))) = some (r1, r2, r3) := h
 clear h
 replace H := Option.bind_eq_some_iff.mp H
 obtain ⟨⟨t190, t191, t192⟩, A40, H⟩ := H
 replace H : ((spec_imSlope.f k a0_0 a0_1 a0_2 a0_3 a1_0 a1_1 a1_2 a1_3).bind fun bt194 => ((spec_raMul.f k t190 t191 bt194.1 bt194.2).bind fun bt196 => (if t192 = true then (if bt196.2.2 = true then ((spec_raAdd.f k a0_2 a0_3 bt196.1 bt196.2.1).bind fun bt200 => (some (bt200.1, bt200.2.1, bt200.2.2))) else (some (0, 0, false))) else (some (0, 0, false))))) = some (r1, r2, r3) := H
 have A4 := Aside0.mk A40
 clear A40
 replace H := Option.bind_eq_some_iff.mp H
 obtain ⟨⟨t194, t195⟩, A50, H⟩ := H
 replace H : ((spec_raMul.f k t190 t191 t194 t195).bind fun bt196 => (if t192 = true then (if bt196.2.2 = true then ((spec_raAdd.f k a0_2 a0_3 bt196.1 bt196.2.1).bind fun bt200 => (some (bt200.1, bt200.2.1, bt200.2.2))) else (some (0, 0, false))) else (some (0, 0, false)))) = some (r1, r2, r3) := H
 have A5 := Aside0.mk A50
 clear A50
 replace H := Option.bind_eq_some_iff.mp H
 obtain ⟨⟨t196, t197, t198⟩, A60, H⟩ := H
 replace H : (if t192 = true then (if t198 = true then ((spec_raAdd.f k a0_2 a0_3 t196 t197).bind fun bt200 => (some (bt200.1, bt200.2.1, bt200.2.2))) else (some (0, 0, false))) else (some (0, 0, false))) = some (r1, r2, r3) := H
 have A6 := Aside0.mk A60
 clear A60
 by_cases c7 : t192 = true
 ·subst c7
  have H1 : (if t198 = true then ((spec_raAdd.f k a0_2 a0_3 t196 t197).bind fun bt200 => (some (bt200.1, bt200.2.1, bt200.2.2))) else (some (0, 0, false))) = some (r1, r2, r3) := by rw [if_pos rfl] at H; exact H
  clear H
  have H := H1
  clear H1
  by_cases c8 : t198 = true
  ·subst c8
   have H1 : ((spec_raAdd.f k a0_2 a0_3 t196 t197).bind fun bt200 => (some (bt200.1, bt200.2.1, bt200.2.2))) = some (r1, r2, r3) := by rw [if_pos rfl] at H; exact H
   clear H
   have H := H1
   clear H1
   replace H := Option.bind_eq_some_iff.mp H
   obtain ⟨⟨t200, t201, t202⟩, A90, H⟩ := H
   replace H : (some (t200, t201, t202)) = some (r1, r2, r3) := H
   have A9 := Aside0.mk A90
   clear A90
   simp only [Option.some.injEq, Prod.mk.injEq] at H
   obtain ⟨rfl, rfl, rfl⟩ := H
   go_enter Try.func120, Try.ntmps120
   try go_wp2_with (first | ((with_reducible refine gate_dst (N := 3) rfl ?_); refine bx 3 #[.int .i64 a0_0, .int .i64 a0_1, .int .i64 a0_2, .int .i64 a0_3] 73 ?_; intro gb186 hg w10 hbox hb; have BK186 := Aside0.mk (hbox); have GW186 := Aside0.mk (bz hg); have GE186 := GW186; replace HB := kh hb; clear hb hbox hg) | ((with_reducible refine gate_dst (N := 4) rfl ?_); refine bx 4 #[.int .i64 a1_0, .int .i64 a1_1, .int .i64 a1_2, .int .i64 a1_3] 73 ?_; intro gb187 hg w11 hbox hb; have BK187 := Aside0.mk (hbox); have GW187 := Aside0.mk (bz hg); have GE187 := GW187; have NB186_187 := Aside0.mk (bn gb186 hg); have NB187_186 := sy NB186_187; replace BK186 := kb BK186 hb; replace HB := kh hb; clear hb hbox hg) | ((with_reducible refine gate_dst (N := 5) rfl ?_); refine bx 5 #[.int .i64 a2_0, .int .i64 a2_1] 53 ?_; intro gb188 hg w12 hbox hb; have BK188 := Aside0.mk (hbox); have GW188 := Aside0.mk (bz hg); have GE188 := GW188; have NB186_188 := Aside0.mk (bn gb186 hg); have NB188_186 := sy NB186_188; have NB187_188 := Aside0.mk (bn gb187 hg); have NB188_187 := sy NB187_188; replace BK186 := kb BK186 hb; replace BK187 := kb BK187 hb; replace HB := kh hb; clear hb hbox hg) | ((with_reducible refine gate_dst (N := 6) rfl ?_); refine bx 6 #[.int .i64 0, .int .i64 0] 53 ?_; intro gb189 hg w13 hbox hb; have BK189 := Aside0.mk (hbox); have GW189 := Aside0.mk (bz hg); have GE189 := GW189; have NB186_189 := Aside0.mk (bn gb186 hg); have NB189_186 := sy NB186_189; have NB187_189 := Aside0.mk (bn gb187 hg); have NB189_187 := sy NB187_189; have NB188_189 := Aside0.mk (bn gb188 hg); have NB189_188 := sy NB188_189; replace BK186 := kb BK186 hb; replace BK187 := kb BK187 hb; replace BK188 := kb BK188 hb; replace HB := kh hb; clear hb hbox hg; have hnb14 := NB188_186.out; have hnc14 := NB186_188.out; have hnb15 := NB188_187.out; have hnc15 := NB187_188.out; have hnb16 := NB188_189.out; have hnc16 := NB189_188.out; obtain ⟨hcz17_0, hcz17_1, hfz17_0, hfz17_1⟩ := b2 BK188; have hnb18 := NB186_187.out; have hnc18 := NB187_186.out; have hnb19 := NB186_189.out; have hnc19 := NB189_186.out; obtain ⟨hcz20_0, hcz20_1, hcz20_2, hcz20_3, hfz20_0, hfz20_1, hfz20_2, hfz20_3⟩ := b4 BK186) | ((with_reducible refine gate_callee (f := 109) rfl ?_); refine gl 16 Try.func109 #[.agg #[.int .i64 a2_0, .int .i64 a2_1], .agg #[.int .i64 a0_0, .int .i64 a0_1]] ?_; (with_reducible refine (spec_raSub.calls k a2_0 a2_1 a0_0 a0_1 t190 t191 true _ A4.out).mono ?_); rintro e w21 ⟨rfl, hb⟩; refine ⟨_, rfl, ?_⟩; replace BK186 := kb BK186 hb; replace BK187 := kb BK187 hb; replace BK188 := kb BK188 hb; replace BK189 := kb BK189 hb; replace HB := kh hb; (try clear hb); (try clear hb2); (try clear hk); (try clear hi)) | ((with_reducible refine gate_dst (N := 8) rfl ?_); refine bx 8 #[.int .i64 0, .int .i64 0] 53 ?_; intro gb193 hg w22 hbox hb; have BK193 := Aside0.mk (hbox); have GW193 := Aside0.mk (bz hg); have GE193 := GW193; have NB186_193 := Aside0.mk (bn gb186 hg); have NB193_186 := sy NB186_193; have NB187_193 := Aside0.mk (bn gb187 hg); have NB193_187 := sy NB187_193; have NB188_193 := Aside0.mk (bn gb188 hg); have NB193_188 := sy NB188_193; have NB189_193 := Aside0.mk (bn gb189 hg); have NB193_189 := sy NB189_193; replace BK186 := kb BK186 hb; replace BK187 := kb BK187 hb; replace BK188 := kb BK188 hb; replace BK189 := kb BK189 hb; replace HB := kh hb; clear hb hbox hg; have hnb23 := NB193_186.out; have hnc23 := NB186_193.out; have hnb24 := NB193_187.out; have hnc24 := NB187_193.out; have hnb25 := NB193_188.out; have hnc25 := NB188_193.out; have hnb26 := NB193_189.out; have hnc26 := NB189_193.out; obtain ⟨hcz27_0, hcz27_1, hfz27_0, hfz27_1⟩ := b2 BK193))
   have n0_ : Aside0 (((w22.setCell ⟨gb193, 0, none⟩ (.int .i64 t190)).setCell ⟨gb193, 1, none⟩ (.int .i64 t191)).heap[gb186]? = some (.cells #[.int .i64 a0_0, .int .i64 a0_1, .int .i64 a0_2, .int .i64 a0_3] 73 (0, 0))) := ⟨by (with_reducible repeat (first | refine blk_drewN ?_ _ | refine blk_drew ?_ | refine blk_alloc ?_ _)); refine blk_far ?_ NB186_193.out _; (with_reducible repeat (first | refine blk_drewN ?_ _ | refine blk_drew ?_ | refine blk_alloc ?_ _)); refine blk_far ?_ NB186_193.out _; (with_reducible repeat (first | refine blk_drewN ?_ _ | refine blk_drew ?_ | refine blk_alloc ?_ _)); exact BK186.out⟩
   have n1_ : Aside0 (((w22.setCell ⟨gb193, 0, none⟩ (.int .i64 t190)).setCell ⟨gb193, 1, none⟩ (.int .i64 t191)).heap[gb187]? = some (.cells #[.int .i64 a1_0, .int .i64 a1_1, .int .i64 a1_2, .int .i64 a1_3] 73 (0, 0))) := ⟨by (with_reducible repeat (first | refine blk_drewN ?_ _ | refine blk_drew ?_ | refine blk_alloc ?_ _)); refine blk_far ?_ NB187_193.out _; (with_reducible repeat (first | refine blk_drewN ?_ _ | refine blk_drew ?_ | refine blk_alloc ?_ _)); refine blk_far ?_ NB187_193.out _; (with_reducible repeat (first | refine blk_drewN ?_ _ | refine blk_drew ?_ | refine blk_alloc ?_ _)); exact BK187.out⟩
   have n2_ : Aside0 (((w22.setCell ⟨gb193, 0, none⟩ (.int .i64 t190)).setCell ⟨gb193, 1, none⟩ (.int .i64 t191)).heap[gb188]? = some (.cells #[.int .i64 a2_0, .int .i64 a2_1] 53 (0, 0))) := ⟨by (with_reducible repeat (first | refine blk_drewN ?_ _ | refine blk_drew ?_ | refine blk_alloc ?_ _)); refine blk_far ?_ NB188_193.out _; (with_reducible repeat (first | refine blk_drewN ?_ _ | refine blk_drew ?_ | refine blk_alloc ?_ _)); refine blk_far ?_ NB188_193.out _; (with_reducible repeat (first | refine blk_drewN ?_ _ | refine blk_drew ?_ | refine blk_alloc ?_ _)); exact BK188.out⟩
   have n3_ : Aside0 (((w22.setCell ⟨gb193, 0, none⟩ (.int .i64 t190)).setCell ⟨gb193, 1, none⟩ (.int .i64 t191)).heap[gb189]? = some (.cells #[.int .i64 0, .int .i64 0] 53 (0, 0))) := ⟨by (with_reducible repeat (first | refine blk_drewN ?_ _ | refine blk_drew ?_ | refine blk_alloc ?_ _)); refine blk_far ?_ NB189_193.out _; (with_reducible repeat (first | refine blk_drewN ?_ _ | refine blk_drew ?_ | refine blk_alloc ?_ _)); refine blk_far ?_ NB189_193.out _; (with_reducible repeat (first | refine blk_drewN ?_ _ | refine blk_drew ?_ | refine blk_alloc ?_ _)); exact BK189.out⟩
   have n4_ : Aside0 (((w22.setCell ⟨gb193, 0, none⟩ (.int .i64 t190)).setCell ⟨gb193, 1, none⟩ (.int .i64 t191)).heap[gb193]? = some (.cells #[.int .i64 t190, .int .i64 t191] 53 (0, 0))) := ⟨by (with_reducible repeat (first | refine blk_drewN ?_ _ | refine blk_drew ?_ | refine blk_alloc ?_ _)); refine blk_put (cs := #[.int .i64 t190, .int .i64 0]) ?_ 1 _ rfl; (with_reducible repeat (first | refine blk_drewN ?_ _ | refine blk_drew ?_ | refine blk_alloc ?_ _)); refine blk_put (cs := #[.int .i64 0, .int .i64 0]) ?_ 0 _ rfl; (with_reducible repeat (first | refine blk_drewN ?_ _ | refine blk_drew ?_ | refine blk_alloc ?_ _)); exact BK193.out⟩
   have n5_ : Aside0 (Below w.heap.size w ((w22.setCell ⟨gb193, 0, none⟩ (.int .i64 t190)).setCell ⟨gb193, 1, none⟩ (.int .i64 t191))) := ⟨bl⟩
   (try clear BK186)
   (try clear BK187)
   (try clear BK188)
   (try clear BK189)
   (try clear BK193)
   (try clear HB)
   generalize ((w22.setCell ⟨gb193, 0, none⟩ (.int .i64 t190)).setCell ⟨gb193, 1, none⟩ (.int .i64 t191)) = w28 at n0_ n1_ n2_ n3_ n4_ n5_ ⊢
   have BK186 := n0_
   have BK187 := n1_
   have BK188 := n2_
   have BK189 := n3_
   have BK193 := n4_
   have HB := n5_
   clear n0_ n1_ n2_ n3_ n4_ n5_
   replace BK186 := Aside0.mk (blk_drew BK186.out)
   replace BK187 := Aside0.mk (blk_drew BK187.out)
   replace BK188 := Aside0.mk (blk_drew BK188.out)
   replace BK189 := Aside0.mk (blk_drew BK189.out)
   replace BK193 := Aside0.mk (blk_drew BK193.out)
   replace HB := Aside0.mk (below_drew1 HB.out)
   refine start_ (n := 11) (S := fun w' => w'.cell? ⟨gb193, 0, none⟩ = some (.int .i64 t190) ∧ w'.cell? ⟨gb193, 1, none⟩ = some (.int .i64 t191) ∧ w'.cell? ⟨gb186, 0, none⟩ = some (.int .i64 a0_0) ∧ w'.cell? ⟨gb186, 1, none⟩ = some (.int .i64 a0_1) ∧ w'.cell? ⟨gb186, 2, none⟩ = some (.int .i64 a0_2) ∧ w'.cell? ⟨gb186, 3, none⟩ = some (.int .i64 a0_3) ∧ w'.cell? ⟨gb187, 0, none⟩ = some (.int .i64 a1_0) ∧ w'.cell? ⟨gb187, 1, none⟩ = some (.int .i64 a1_1) ∧ w'.cell? ⟨gb187, 2, none⟩ = some (.int .i64 a1_2) ∧ w'.cell? ⟨gb187, 3, none⟩ = some (.int .i64 a1_3)) (ds := []) (tb 0 11) (by kernel_rfl) rfl rfl ⟨(blk_cell BK193.out 0).trans rfl, (blk_cell BK193.out 1).trans rfl, (blk_cell BK186.out 0).trans rfl, (blk_cell BK186.out 1).trans rfl, (blk_cell BK186.out 2).trans rfl, (blk_cell BK186.out 3).trans rfl, (blk_cell BK187.out 0).trans rfl, (blk_cell BK187.out 1).trans rfl, (blk_cell BK187.out 2).trans rfl, (blk_cell BK187.out 3).trans rfl⟩ (fun hHeld => ?_); refine with_tabW spec_imOn.tab2 spec_imOn.bits2 (fun HT_ HW_ => ?_)
   generalize w28.drew = w29 at BK186 BK187 BK188 BK189 BK193 HB hHeld ⊢
   refine tk 0 20 (tb 1 10) (hy := by rintro w' ⟨s0, s1, s2, s3, s4, s5, s6, s7, s8, s9⟩; go_simp; with_reducible rfl) (h := ?_)
   refine tk 1 21 (tb 2 9) (hy := by rintro w' ⟨s0, s1, s2, s3, s4, s5, s6, s7, s8, s9⟩; go_simp; with_reducible rfl) (h := ?_)
   refine tk 2 22 (tb 3 8) (hy := by rintro w' ⟨s0, s1, s2, s3, s4, s5, s6, s7, s8, s9⟩; go_simp; with_reducible rfl) (h := ?_)
   refine join_ (σ := Nat) 2 (tb 9 2) (fun s_ => [(23, .agg #[.int .i64 t194, .int .i64 t195]), (24, .tuple #[.agg #[.int .i64 t196, .int .i64 t197], .bool true]), (10, .pointer (some ⟨s_, 0, none⟩)), (19, .tuple #[.agg #[.int .i64 t196, .int .i64 t197], .bool true]), (25, .agg #[.int .i64 t196, .int .i64 t197]), (26, .bool true)]) (fun s_ w' => (w'.cell? ⟨gb193, 0, none⟩ = some (.int .i64 t190) ∧ w'.cell? ⟨gb193, 1, none⟩ = some (.int .i64 t191) ∧ w'.cell? ⟨gb186, 0, none⟩ = some (.int .i64 a0_0) ∧ w'.cell? ⟨gb186, 1, none⟩ = some (.int .i64 a0_1) ∧ w'.cell? ⟨gb186, 2, none⟩ = some (.int .i64 a0_2) ∧ w'.cell? ⟨gb186, 3, none⟩ = some (.int .i64 a0_3) ∧ w'.cell? ⟨gb187, 0, none⟩ = some (.int .i64 a1_0) ∧ w'.cell? ⟨gb187, 1, none⟩ = some (.int .i64 a1_1) ∧ w'.cell? ⟨gb187, 2, none⟩ = some (.int .i64 a1_2) ∧ w'.cell? ⟨gb187, 3, none⟩ = some (.int .i64 a1_3)) ∧ (w'.heap[gb186]? = some (.cells #[.int .i64 a0_0, .int .i64 a0_1, .int .i64 a0_2, .int .i64 a0_3] 73 (0, 0))) ∧ (w'.heap[gb187]? = some (.cells #[.int .i64 a1_0, .int .i64 a1_1, .int .i64 a1_2, .int .i64 a1_3] 73 (0, 0))) ∧ (w'.heap[gb188]? = some (.cells #[.int .i64 a2_0, .int .i64 a2_1] 53 (0, 0))) ∧ (w'.heap[gb189]? = some (.cells #[.int .i64 0, .int .i64 0] 53 (0, 0))) ∧ (w'.heap[gb193]? = some (.cells #[.int .i64 t190, .int .i64 t191] 53 (0, 0))) ∧ (w'.heap[s_]? = some (.cells #[.int .i64 0, .int .i64 0] 53 (0, 0))) ∧ (w.heap.size ≤ s_) ∧ (w.heap.size ≤ s_) ∧ (gb186 ≠ s_) ∧ (s_ ≠ gb186) ∧ (gb187 ≠ s_) ∧ (s_ ≠ gb187) ∧ (gb188 ≠ s_) ∧ (s_ ≠ gb188) ∧ (gb189 ≠ s_) ∧ (s_ ≠ gb189) ∧ (gb193 ≠ s_) ∧ (s_ ≠ gb193) ∧ (Below w.heap.size w w')) ?_ ?_
   rotate_left
   ·intro hCont
    refine two_ (i := 3) (j := 8) (Ni := some 23) (Nj := some 10) (tb 4 7) #[true, true, true, false, false, false, false, false, true, false, false] rfl rfl rfl rfl (two_of HT_.out (by kernel_rfl)) (by decide) (by decide) (fun K hK => ?_) (fun K hK => ?_)
    ·skip
     refine gs Try.func96 #[.agg #[.int .i64 a0_0, .int .i64 a0_1, .int .i64 a0_2, .int .i64 a0_3], .agg #[.int .i64 a1_0, .int .i64 a1_1, .int .i64 a1_2, .int .i64 a1_3]] ?_
     with_reducible refine (spec_imSlope.calls k a0_0 a0_1 a0_2 a0_3 a1_0 a1_1 a1_2 a1_3 t194 t195 _ A5.out).mono ?_
     rintro e w30 ⟨rfl, hb⟩
     refine ⟨_, rfl, ?_⟩
     replace BK186 := kb BK186 hb
     replace BK187 := kb BK187 hb
     replace BK188 := kb BK188 hb
     replace BK189 := kb BK189 hb
     replace BK193 := kb BK193 hb
     replace HB := kh hb
     (try clear hb)
     (try clear hb2)
     (try clear hk)
     (try clear hi)
     refine hK.out _ _ ⟨(blk_cell BK193.out 0).trans rfl, (blk_cell BK193.out 1).trans rfl, (blk_cell BK186.out 0).trans rfl, (blk_cell BK186.out 1).trans rfl, (blk_cell BK186.out 2).trans rfl, (blk_cell BK186.out 3).trans rfl, (blk_cell BK187.out 0).trans rfl, (blk_cell BK187.out 1).trans rfl, (blk_cell BK187.out 2).trans rfl, (blk_cell BK187.out 3).trans rfl⟩ (fun hHeld => ?_)
     clear hK K
     refine nm 23 ?_
     refine two_ (i := 4) (j := 8) (Ni := some 24) (Nj := some 10) (tb 5 6) #[true, true, true, true, false, false, false, false, true, false, false] rfl rfl rfl rfl (two_of HT_.out (by kernel_rfl)) (by decide) (by decide) (fun K hK => ?_) (fun K hK => ?_)
     ·skip
      refine gs Try.func82 #[.agg #[.int .i64 t190, .int .i64 t191], .agg #[.int .i64 t194, .int .i64 t195]] ?_
      with_reducible refine (spec_raMul.calls k t190 t191 t194 t195 t196 t197 true _ A6.out).mono ?_
      rintro e w31 ⟨rfl, hb⟩
      refine ⟨_, rfl, ?_⟩
      replace BK186 := kb BK186 hb
      replace BK187 := kb BK187 hb
      replace BK188 := kb BK188 hb
      replace BK189 := kb BK189 hb
      replace BK193 := kb BK193 hb
      replace HB := kh hb
      (try clear hb)
      (try clear hb2)
      (try clear hk)
      (try clear hi)
      refine hK.out _ _ ⟨(blk_cell BK193.out 0).trans rfl, (blk_cell BK193.out 1).trans rfl, (blk_cell BK186.out 0).trans rfl, (blk_cell BK186.out 1).trans rfl, (blk_cell BK186.out 2).trans rfl, (blk_cell BK186.out 3).trans rfl, (blk_cell BK187.out 0).trans rfl, (blk_cell BK187.out 1).trans rfl, (blk_cell BK187.out 2).trans rfl, (blk_cell BK187.out 3).trans rfl⟩ (fun hHeld => ?_)
      clear hK K
      refine nm 24 ?_
      refine pu 5 19 (tb 6 5) ?_
      refine pu 6 25 (tb 7 4) ?_
      refine pu 7 26 (tb 8 3) ?_
      refine on 8 10 (tb 9 2) (fun K hK => ?_)
      refine box_step ?hg (N := 10) ?hd (cs := #[.int .i64 0, .int .i64 0]) (t := 53) ?hr ?_; (case hd => rfl); (case hg => rfl); (case hr => first | (go_simp; done) | (go_simp; rfl))
      intro gb199 hg w32 hbox hb
      have BK199 := Aside0.mk (hbox)
      have GW199 := Aside0.mk (bz hg)
      have GE199 := GW199
      have NB186_199 := Aside0.mk (bn gb186 hg)
      have NB199_186 := sy NB186_199
      have NB187_199 := Aside0.mk (bn gb187 hg)
      have NB199_187 := sy NB187_199
      have NB188_199 := Aside0.mk (bn gb188 hg)
      have NB199_188 := sy NB188_199
      have NB189_199 := Aside0.mk (bn gb189 hg)
      have NB199_189 := sy NB189_199
      have NB193_199 := Aside0.mk (bn gb193 hg)
      have NB199_193 := sy NB193_199
      replace BK186 := kb BK186 hb
      replace BK187 := kb BK187 hb
      replace BK188 := kb BK188 hb
      replace BK189 := kb BK189 hb
      replace BK193 := kb BK193 hb
      replace HB := kh hb
      clear hb hbox hg
      refine hK.out _ _ ⟨(blk_cell BK193.out 0).trans rfl, (blk_cell BK193.out 1).trans rfl, (blk_cell BK186.out 0).trans rfl, (blk_cell BK186.out 1).trans rfl, (blk_cell BK186.out 2).trans rfl, (blk_cell BK186.out 3).trans rfl, (blk_cell BK187.out 0).trans rfl, (blk_cell BK187.out 1).trans rfl, (blk_cell BK187.out 2).trans rfl, (blk_cell BK187.out 3).trans rfl⟩ (fun hHeld => ?_)
      clear hK K
      refine nm 10 ?_
      exact norm_ (by simp only [putAll, Act.put, List.setIfInBounds_toArray, List.set_cons_zero, List.set_cons_succ]) (hCont (gb199) _ ⟨hHeld, (bo gb186), (bo gb187), (bo gb188), (bo gb189), (bo gb193), (bo gb199), GW199.out, GE199.out, NB186_199.out, NB199_186.out, NB187_199.out, NB199_187.out, NB188_199.out, NB199_188.out, NB189_199.out, NB199_189.out, NB193_199.out, NB199_193.out, bl⟩)
     ·skip
      refine box_step ?hg (N := 10) ?hd (cs := #[.int .i64 0, .int .i64 0]) (t := 53) ?hr ?_; (case hd => rfl); (case hg => rfl); (case hr => first | (go_simp; done) | (go_simp; rfl))
      intro gb199 hg w31 hbox hb
      have BK199 := Aside0.mk (hbox)
      have GW199 := Aside0.mk (bz hg)
      have GE199 := GW199
      have NB186_199 := Aside0.mk (bn gb186 hg)
      have NB199_186 := sy NB186_199
      have NB187_199 := Aside0.mk (bn gb187 hg)
      have NB199_187 := sy NB187_199
      have NB188_199 := Aside0.mk (bn gb188 hg)
      have NB199_188 := sy NB188_199
      have NB189_199 := Aside0.mk (bn gb189 hg)
      have NB199_189 := sy NB189_199
      have NB193_199 := Aside0.mk (bn gb193 hg)
      have NB199_193 := sy NB193_199
      replace BK186 := kb BK186 hb
      replace BK187 := kb BK187 hb
      replace BK188 := kb BK188 hb
      replace BK189 := kb BK189 hb
      replace BK193 := kb BK193 hb
      replace HB := kh hb
      clear hb hbox hg
      refine hK.out _ _ ⟨(blk_cell BK193.out 0).trans rfl, (blk_cell BK193.out 1).trans rfl, (blk_cell BK186.out 0).trans rfl, (blk_cell BK186.out 1).trans rfl, (blk_cell BK186.out 2).trans rfl, (blk_cell BK186.out 3).trans rfl, (blk_cell BK187.out 0).trans rfl, (blk_cell BK187.out 1).trans rfl, (blk_cell BK187.out 2).trans rfl, (blk_cell BK187.out 3).trans rfl⟩ (fun hHeld => ?_)
      clear hK K
      refine nm 10 ?_
      refine on 4 24 #[true, true, true, true, true, false, false, false, true, false, false] (fun K hK => ?_)
      refine gs Try.func82 #[.agg #[.int .i64 t190, .int .i64 t191], .agg #[.int .i64 t194, .int .i64 t195]] ?_
      with_reducible refine (spec_raMul.calls k t190 t191 t194 t195 t196 t197 true _ A6.out).mono ?_
      rintro e w32 ⟨rfl, hb⟩
      refine ⟨_, rfl, ?_⟩
      replace BK186 := kb BK186 hb
      replace BK187 := kb BK187 hb
      replace BK188 := kb BK188 hb
      replace BK189 := kb BK189 hb
      replace BK193 := kb BK193 hb
      replace BK199 := kb BK199 hb
      replace HB := kh hb
      (try clear hb)
      (try clear hb2)
      (try clear hk)
      (try clear hi)
      refine hK.out _ _ ⟨(blk_cell BK193.out 0).trans rfl, (blk_cell BK193.out 1).trans rfl, (blk_cell BK186.out 0).trans rfl, (blk_cell BK186.out 1).trans rfl, (blk_cell BK186.out 2).trans rfl, (blk_cell BK186.out 3).trans rfl, (blk_cell BK187.out 0).trans rfl, (blk_cell BK187.out 1).trans rfl, (blk_cell BK187.out 2).trans rfl, (blk_cell BK187.out 3).trans rfl⟩ (fun hHeld => ?_)
      clear hK K
      refine nm 24 ?_
      refine pu 5 19 #[true, true, true, true, true, true, false, false, true, false, false] ?_
      refine pu 6 25 #[true, true, true, true, true, true, true, false, true, false, false] ?_
      refine pu 7 26 (tb 9 2) ?_
      exact norm_ (by simp only [putAll, Act.put, List.setIfInBounds_toArray, List.set_cons_zero, List.set_cons_succ]) (hCont (gb199) _ ⟨hHeld, (bo gb186), (bo gb187), (bo gb188), (bo gb189), (bo gb193), (bo gb199), GW199.out, GE199.out, NB186_199.out, NB199_186.out, NB187_199.out, NB199_187.out, NB188_199.out, NB199_188.out, NB189_199.out, NB199_189.out, NB193_199.out, NB199_193.out, bl⟩)
    ·skip
     refine box_step ?hg (N := 10) ?hd (cs := #[.int .i64 0, .int .i64 0]) (t := 53) ?hr ?_; (case hd => rfl); (case hg => rfl); (case hr => first | (go_simp; done) | (go_simp; rfl))
     intro gb199 hg w30 hbox hb
     have BK199 := Aside0.mk (hbox)
     have GW199 := Aside0.mk (bz hg)
     have GE199 := GW199
     have NB186_199 := Aside0.mk (bn gb186 hg)
     have NB199_186 := sy NB186_199
     have NB187_199 := Aside0.mk (bn gb187 hg)
     have NB199_187 := sy NB187_199
     have NB188_199 := Aside0.mk (bn gb188 hg)
     have NB199_188 := sy NB188_199
     have NB189_199 := Aside0.mk (bn gb189 hg)
     have NB199_189 := sy NB189_199
     have NB193_199 := Aside0.mk (bn gb193 hg)
     have NB199_193 := sy NB193_199
     replace BK186 := kb BK186 hb
     replace BK187 := kb BK187 hb
     replace BK188 := kb BK188 hb
     replace BK189 := kb BK189 hb
     replace BK193 := kb BK193 hb
     replace HB := kh hb
     clear hb hbox hg
     refine hK.out _ _ ⟨(blk_cell BK193.out 0).trans rfl, (blk_cell BK193.out 1).trans rfl, (blk_cell BK186.out 0).trans rfl, (blk_cell BK186.out 1).trans rfl, (blk_cell BK186.out 2).trans rfl, (blk_cell BK186.out 3).trans rfl, (blk_cell BK187.out 0).trans rfl, (blk_cell BK187.out 1).trans rfl, (blk_cell BK187.out 2).trans rfl, (blk_cell BK187.out 3).trans rfl⟩ (fun hHeld => ?_)
     clear hK K
     refine nm 10 ?_
     refine on 3 23 #[true, true, true, true, false, false, false, false, true, false, false] (fun K hK => ?_)
     refine gs Try.func96 #[.agg #[.int .i64 a0_0, .int .i64 a0_1, .int .i64 a0_2, .int .i64 a0_3], .agg #[.int .i64 a1_0, .int .i64 a1_1, .int .i64 a1_2, .int .i64 a1_3]] ?_
     with_reducible refine (spec_imSlope.calls k a0_0 a0_1 a0_2 a0_3 a1_0 a1_1 a1_2 a1_3 t194 t195 _ A5.out).mono ?_
     rintro e w31 ⟨rfl, hb⟩
     refine ⟨_, rfl, ?_⟩
     replace BK186 := kb BK186 hb
     replace BK187 := kb BK187 hb
     replace BK188 := kb BK188 hb
     replace BK189 := kb BK189 hb
     replace BK193 := kb BK193 hb
     replace BK199 := kb BK199 hb
     replace HB := kh hb
     (try clear hb)
     (try clear hb2)
     (try clear hk)
     (try clear hi)
     refine hK.out _ _ ⟨(blk_cell BK193.out 0).trans rfl, (blk_cell BK193.out 1).trans rfl, (blk_cell BK186.out 0).trans rfl, (blk_cell BK186.out 1).trans rfl, (blk_cell BK186.out 2).trans rfl, (blk_cell BK186.out 3).trans rfl, (blk_cell BK187.out 0).trans rfl, (blk_cell BK187.out 1).trans rfl, (blk_cell BK187.out 2).trans rfl, (blk_cell BK187.out 3).trans rfl⟩ (fun hHeld => ?_)
     clear hK K
     refine nm 23 ?_
     refine on 4 24 #[true, true, true, true, true, false, false, false, true, false, false] (fun K hK => ?_)
     refine gs Try.func82 #[.agg #[.int .i64 t190, .int .i64 t191], .agg #[.int .i64 t194, .int .i64 t195]] ?_
     with_reducible refine (spec_raMul.calls k t190 t191 t194 t195 t196 t197 true _ A6.out).mono ?_
     rintro e w32 ⟨rfl, hb⟩
     refine ⟨_, rfl, ?_⟩
     replace BK186 := kb BK186 hb
     replace BK187 := kb BK187 hb
     replace BK188 := kb BK188 hb
     replace BK189 := kb BK189 hb
     replace BK193 := kb BK193 hb
     replace BK199 := kb BK199 hb
     replace HB := kh hb
     (try clear hb)
     (try clear hb2)
     (try clear hk)
     (try clear hi)
     refine hK.out _ _ ⟨(blk_cell BK193.out 0).trans rfl, (blk_cell BK193.out 1).trans rfl, (blk_cell BK186.out 0).trans rfl, (blk_cell BK186.out 1).trans rfl, (blk_cell BK186.out 2).trans rfl, (blk_cell BK186.out 3).trans rfl, (blk_cell BK187.out 0).trans rfl, (blk_cell BK187.out 1).trans rfl, (blk_cell BK187.out 2).trans rfl, (blk_cell BK187.out 3).trans rfl⟩ (fun hHeld => ?_)
     clear hK K
     refine nm 24 ?_
     refine pu 5 19 #[true, true, true, true, true, true, false, false, true, false, false] ?_
     refine pu 6 25 #[true, true, true, true, true, true, true, false, true, false, false] ?_
     refine pu 7 26 (tb 9 2) ?_
     exact norm_ (by simp only [putAll, Act.put, List.setIfInBounds_toArray, List.set_cons_zero, List.set_cons_succ]) (hCont (gb199) _ ⟨hHeld, (bo gb186), (bo gb187), (bo gb188), (bo gb189), (bo gb193), (bo gb199), GW199.out, GE199.out, NB186_199.out, NB199_186.out, NB187_199.out, NB199_187.out, NB188_199.out, NB199_188.out, NB189_199.out, NB199_189.out, NB193_199.out, NB199_193.out, bl⟩)
   rintro gb199 w33 ⟨hS_, h0_, h1_, h2_, h3_, h4_, h5_, h6_, h7_, h8_, h9_, h10_, h11_, h12_, h13_, h14_, h15_, h16_, h17_, h18_⟩
   have n0_ : Aside0 (w33.heap[gb186]? = some (.cells #[.int .i64 a0_0, .int .i64 a0_1, .int .i64 a0_2, .int .i64 a0_3] 73 (0, 0))) := ⟨h0_⟩
   have n1_ : Aside0 (w33.heap[gb187]? = some (.cells #[.int .i64 a1_0, .int .i64 a1_1, .int .i64 a1_2, .int .i64 a1_3] 73 (0, 0))) := ⟨h1_⟩
   have n2_ : Aside0 (w33.heap[gb188]? = some (.cells #[.int .i64 a2_0, .int .i64 a2_1] 53 (0, 0))) := ⟨h2_⟩
   have n3_ : Aside0 (w33.heap[gb189]? = some (.cells #[.int .i64 0, .int .i64 0] 53 (0, 0))) := ⟨h3_⟩
   have n4_ : Aside0 (w33.heap[gb193]? = some (.cells #[.int .i64 t190, .int .i64 t191] 53 (0, 0))) := ⟨h4_⟩
   have n5_ : Aside0 (w33.heap[gb199]? = some (.cells #[.int .i64 0, .int .i64 0] 53 (0, 0))) := ⟨h5_⟩
   have n6_ : Aside0 (w.heap.size ≤ gb199) := ⟨h6_⟩
   have n7_ : Aside0 (w.heap.size ≤ gb199) := ⟨h7_⟩
   have n8_ : Aside0 (gb186 ≠ gb199) := ⟨h8_⟩
   have n9_ : Aside0 (gb199 ≠ gb186) := ⟨h9_⟩
   have n10_ : Aside0 (gb187 ≠ gb199) := ⟨h10_⟩
   have n11_ : Aside0 (gb199 ≠ gb187) := ⟨h11_⟩
   have n12_ : Aside0 (gb188 ≠ gb199) := ⟨h12_⟩
   have n13_ : Aside0 (gb199 ≠ gb188) := ⟨h13_⟩
   have n14_ : Aside0 (gb189 ≠ gb199) := ⟨h14_⟩
   have n15_ : Aside0 (gb199 ≠ gb189) := ⟨h15_⟩
   have n16_ : Aside0 (gb193 ≠ gb199) := ⟨h16_⟩
   have n17_ : Aside0 (gb199 ≠ gb193) := ⟨h17_⟩
   have n18_ : Aside0 (Below w.heap.size w w33) := ⟨h18_⟩
   clear BK186
   clear BK187
   clear BK188
   clear BK189
   clear BK193
   clear HB
   clear h0_ h1_ h2_ h3_ h4_ h5_ h6_ h7_ h8_ h9_ h10_ h11_ h12_ h13_ h14_ h15_ h16_ h17_ h18_
   have BK186 := n0_
   have BK187 := n1_
   have BK188 := n2_
   have BK189 := n3_
   have BK193 := n4_
   have BK199 := n5_
   have GW199 := n6_
   have GE199 := n7_
   have NB186_199 := n8_
   have NB199_186 := n9_
   have NB187_199 := n10_
   have NB199_187 := n11_
   have NB188_199 := n12_
   have NB199_188 := n13_
   have NB189_199 := n14_
   have NB199_189 := n15_
   have NB193_199 := n16_
   have NB199_193 := n17_
   have HB := n18_
   clear n0_ n1_ n2_ n3_ n4_ n5_ n6_ n7_ n8_ n9_ n10_ n11_ n12_ n13_ n14_ n15_ n16_ n17_ n18_
   have hHeld : w33.cell? ⟨gb193, 0, none⟩ = some (.int .i64 t190) ∧ w33.cell? ⟨gb193, 1, none⟩ = some (.int .i64 t191) ∧ w33.cell? ⟨gb186, 0, none⟩ = some (.int .i64 a0_0) ∧ w33.cell? ⟨gb186, 1, none⟩ = some (.int .i64 a0_1) ∧ w33.cell? ⟨gb186, 2, none⟩ = some (.int .i64 a0_2) ∧ w33.cell? ⟨gb186, 3, none⟩ = some (.int .i64 a0_3) ∧ w33.cell? ⟨gb187, 0, none⟩ = some (.int .i64 a1_0) ∧ w33.cell? ⟨gb187, 1, none⟩ = some (.int .i64 a1_1) ∧ w33.cell? ⟨gb187, 2, none⟩ = some (.int .i64 a1_2) ∧ w33.cell? ⟨gb187, 3, none⟩ = some (.int .i64 a1_3) := hS_
   refine norm_ (a' := ?_) ?_ ?_
   rotate_left
   ·simp only [putAll, Act.put, List.setIfInBounds_toArray, List.set_cons_zero, List.set_cons_succ]
    rfl
   refine one_ (i := 9) (N := none) (tb 10 1) rfl rfl (one_of HT_.out (by kernel_rfl)) (by decide) (fun K hK => ?_)
   have hs34 : w33.cell? ⟨gb199, 0, none⟩ = some (.int .i64 0) := (blk_cell BK199.out 0).trans rfl
   have hfs34 := blk_frozen BK199.out 0
   have hns34_0 := NB186_199.out
   have hns34_1 := NB187_199.out
   have hns34_2 := NB188_199.out
   have hns34_3 := NB189_199.out
   have hns34_4 := NB193_199.out
   have hms34_0 := NB199_186.out
   have hms34_1 := NB199_187.out
   have hms34_2 := NB199_188.out
   have hms34_3 := NB199_189.out
   have hms34_4 := NB199_193.out
   have hs35 : w33.cell? ⟨gb199, 1, none⟩ = some (.int .i64 0) := (blk_cell BK199.out 1).trans rfl
   have hfs35 := blk_frozen BK199.out 1
   have hns35_0 := NB186_199.out
   have hns35_1 := NB187_199.out
   have hns35_2 := NB188_199.out
   have hns35_3 := NB189_199.out
   have hns35_4 := NB193_199.out
   have hms35_0 := NB199_186.out
   have hms35_1 := NB199_187.out
   have hms35_2 := NB199_188.out
   have hms35_3 := NB199_189.out
   have hms35_4 := NB199_193.out
   refine skip_ (w1 := ?_) (by rfl) rfl ?_ ?_
   rotate_left
   ·go_simp
    rfl
   refine hK.out _ _ ⟨(by (iterate 2 refine (cell_far (p := ⟨gb199, _, none⟩) NB193_199.out _).trans ?_); exact hHeld.1), (by (iterate 2 refine (cell_far (p := ⟨gb199, _, none⟩) NB193_199.out _).trans ?_); exact hHeld.2.1), (by (iterate 2 refine (cell_far (p := ⟨gb199, _, none⟩) NB186_199.out _).trans ?_); exact hHeld.2.2.1), (by (iterate 2 refine (cell_far (p := ⟨gb199, _, none⟩) NB186_199.out _).trans ?_); exact hHeld.2.2.2.1), (by (iterate 2 refine (cell_far (p := ⟨gb199, _, none⟩) NB186_199.out _).trans ?_); exact hHeld.2.2.2.2.1), (by (iterate 2 refine (cell_far (p := ⟨gb199, _, none⟩) NB186_199.out _).trans ?_); exact hHeld.2.2.2.2.2.1), (by (iterate 2 refine (cell_far (p := ⟨gb199, _, none⟩) NB187_199.out _).trans ?_); exact hHeld.2.2.2.2.2.2.1), (by (iterate 2 refine (cell_far (p := ⟨gb199, _, none⟩) NB187_199.out _).trans ?_); exact hHeld.2.2.2.2.2.2.2.1), (by (iterate 2 refine (cell_far (p := ⟨gb199, _, none⟩) NB187_199.out _).trans ?_); exact hHeld.2.2.2.2.2.2.2.2.1), (by (iterate 2 refine (cell_far (p := ⟨gb199, _, none⟩) NB187_199.out _).trans ?_); exact hHeld.2.2.2.2.2.2.2.2.2)⟩ (fun hHeld => ?_)
   clear hK K
   refine pu 10 11 (tb 11 0) ?_
   refine done_ (done_of HT_.out (by kernel_rfl)) ?_
   have hnb36 := NB186_199.out
   have hnc36 := NB199_186.out
   obtain ⟨hcz37_0, hcz37_1, hcz37_2, hcz37_3, hfz37_0, hfz37_1, hfz37_2, hfz37_3⟩ := b4 BK186
   have hnb38 := NB199_187.out
   have hnc38 := NB187_199.out
   have hnb39 := NB199_188.out
   have hnc39 := NB188_199.out
   have hnb40 := NB199_189.out
   have hnc40 := NB189_199.out
   have hnb41 := NB199_193.out
   have hnc41 := NB193_199.out
   obtain ⟨hcz42_0, hcz42_1, hfz42_0, hfz42_1⟩ := b2 BK199
   try go_wp2_with (first | ((with_reducible refine gate_callee (f := 131) rfl ?_); refine gl 37 Try.func131 #[.agg #[.int .i64 a0_2, .int .i64 a0_3], .agg #[.int .i64 t196, .int .i64 t197]] ?_; (with_reducible refine (spec_raAdd.calls k a0_2 a0_3 t196 t197 t200 t201 t202 _ A9.out).mono ?_); rintro e w43 ⟨rfl, hb⟩; refine ⟨_, rfl, ?_⟩; replace BK186 := Aside0.mk (blk_below (g := gb186) (o := .cells #[.int .i64 a0_0, .int .i64 a0_1, .int .i64 a0_2, .int .i64 a0_3] 73 (0, 0)) (by (with_reducible repeat (first | refine blk_drewN ?_ _ | refine blk_drew ?_ | refine blk_alloc ?_ _)); refine blk_far ?_ NB186_199.out _; (with_reducible repeat (first | refine blk_drewN ?_ _ | refine blk_drew ?_ | refine blk_alloc ?_ _)); refine blk_far ?_ NB186_199.out _; (with_reducible repeat (first | refine blk_drewN ?_ _ | refine blk_drew ?_ | refine blk_alloc ?_ _)); exact BK186.out) hb); replace BK187 := Aside0.mk (blk_below (g := gb187) (o := .cells #[.int .i64 a1_0, .int .i64 a1_1, .int .i64 a1_2, .int .i64 a1_3] 73 (0, 0)) (by (with_reducible repeat (first | refine blk_drewN ?_ _ | refine blk_drew ?_ | refine blk_alloc ?_ _)); refine blk_far ?_ NB187_199.out _; (with_reducible repeat (first | refine blk_drewN ?_ _ | refine blk_drew ?_ | refine blk_alloc ?_ _)); refine blk_far ?_ NB187_199.out _; (with_reducible repeat (first | refine blk_drewN ?_ _ | refine blk_drew ?_ | refine blk_alloc ?_ _)); exact BK187.out) hb); replace BK188 := Aside0.mk (blk_below (g := gb188) (o := .cells #[.int .i64 a2_0, .int .i64 a2_1] 53 (0, 0)) (by (with_reducible repeat (first | refine blk_drewN ?_ _ | refine blk_drew ?_ | refine blk_alloc ?_ _)); refine blk_far ?_ NB188_199.out _; (with_reducible repeat (first | refine blk_drewN ?_ _ | refine blk_drew ?_ | refine blk_alloc ?_ _)); refine blk_far ?_ NB188_199.out _; (with_reducible repeat (first | refine blk_drewN ?_ _ | refine blk_drew ?_ | refine blk_alloc ?_ _)); exact BK188.out) hb); replace BK189 := Aside0.mk (blk_below (g := gb189) (o := .cells #[.int .i64 0, .int .i64 0] 53 (0, 0)) (by (with_reducible repeat (first | refine blk_drewN ?_ _ | refine blk_drew ?_ | refine blk_alloc ?_ _)); refine blk_far ?_ NB189_199.out _; (with_reducible repeat (first | refine blk_drewN ?_ _ | refine blk_drew ?_ | refine blk_alloc ?_ _)); refine blk_far ?_ NB189_199.out _; (with_reducible repeat (first | refine blk_drewN ?_ _ | refine blk_drew ?_ | refine blk_alloc ?_ _)); exact BK189.out) hb); replace BK193 := Aside0.mk (blk_below (g := gb193) (o := .cells #[.int .i64 t190, .int .i64 t191] 53 (0, 0)) (by (with_reducible repeat (first | refine blk_drewN ?_ _ | refine blk_drew ?_ | refine blk_alloc ?_ _)); refine blk_far ?_ NB193_199.out _; (with_reducible repeat (first | refine blk_drewN ?_ _ | refine blk_drew ?_ | refine blk_alloc ?_ _)); refine blk_far ?_ NB193_199.out _; (with_reducible repeat (first | refine blk_drewN ?_ _ | refine blk_drew ?_ | refine blk_alloc ?_ _)); exact BK193.out) hb); replace BK199 := Aside0.mk (blk_below (g := gb199) (o := .cells #[.int .i64 t196, .int .i64 t197] 53 (0, 0)) (by (with_reducible repeat (first | refine blk_drewN ?_ _ | refine blk_drew ?_ | refine blk_alloc ?_ _)); refine blk_put (cs := #[.int .i64 t196, .int .i64 0]) ?_ 1 _ rfl; (with_reducible repeat (first | refine blk_drewN ?_ _ | refine blk_drew ?_ | refine blk_alloc ?_ _)); refine blk_put (cs := #[.int .i64 0, .int .i64 0]) ?_ 0 _ rfl; (with_reducible repeat (first | refine blk_drewN ?_ _ | refine blk_drew ?_ | refine blk_alloc ?_ _)); exact BK199.out) hb); replace HB := kh hb; (try clear hb); (try clear hb2); (try clear hk); (try clear hi); have hnb44 := NB189_187.out; have hnc44 := NB187_189.out; obtain ⟨hcz45_0, hcz45_1, hfz45_0, hfz45_1⟩ := b2 BK189))
   refine bodyPost_ret (results_ct rfl _ _ gb189 53 #[.int .i64 t200, .int .i64 t201] (0, 0) _ rfl (by (with_reducible repeat (first | refine blk_drewN ?_ _ | refine blk_drew ?_ | refine blk_alloc ?_ _)); refine blk_put (cs := #[.int .i64 t200, .int .i64 0]) ?_ 1 _ rfl; (with_reducible repeat (first | refine blk_drewN ?_ _ | refine blk_drew ?_ | refine blk_alloc ?_ _)); refine blk_put (cs := #[.int .i64 0, .int .i64 0]) ?_ 0 _ rfl; (with_reducible repeat (first | refine blk_drewN ?_ _ | refine blk_drew ?_ | refine blk_alloc ?_ _)); exact BK189.out) Try.underlying53 rfl (by kernel_rfl)) rfl ?_
   exact ⟨rt, bl⟩
  ·replace c8 := Bool.eq_false_iff.mpr c8
   subst c8
   have H1 : (some (0, 0, false)) = some (r1, r2, r3) := by rw [if_neg (show ¬ (false = true) by decide)] at H; exact H
   clear H
   have H := H1
   clear H1
   simp only [Option.some.injEq, Prod.mk.injEq] at H
   obtain ⟨rfl, rfl, rfl⟩ := H
   go_enter Try.func120, Try.ntmps120
   try go_wp2_with (first | ((with_reducible refine gate_dst (N := 3) rfl ?_); refine bx 3 #[.int .i64 a0_0, .int .i64 a0_1, .int .i64 a0_2, .int .i64 a0_3] 73 ?_; intro gb186 hg w46 hbox hb; have BK186 := Aside0.mk (hbox); have GW186 := Aside0.mk (bz hg); have GE186 := GW186; replace HB := kh hb; clear hb hbox hg) | ((with_reducible refine gate_dst (N := 4) rfl ?_); refine bx 4 #[.int .i64 a1_0, .int .i64 a1_1, .int .i64 a1_2, .int .i64 a1_3] 73 ?_; intro gb187 hg w47 hbox hb; have BK187 := Aside0.mk (hbox); have GW187 := Aside0.mk (bz hg); have GE187 := GW187; have NB186_187 := Aside0.mk (bn gb186 hg); have NB187_186 := sy NB186_187; replace BK186 := kb BK186 hb; replace HB := kh hb; clear hb hbox hg) | ((with_reducible refine gate_dst (N := 5) rfl ?_); refine bx 5 #[.int .i64 a2_0, .int .i64 a2_1] 53 ?_; intro gb188 hg w48 hbox hb; have BK188 := Aside0.mk (hbox); have GW188 := Aside0.mk (bz hg); have GE188 := GW188; have NB186_188 := Aside0.mk (bn gb186 hg); have NB188_186 := sy NB186_188; have NB187_188 := Aside0.mk (bn gb187 hg); have NB188_187 := sy NB187_188; replace BK186 := kb BK186 hb; replace BK187 := kb BK187 hb; replace HB := kh hb; clear hb hbox hg) | ((with_reducible refine gate_dst (N := 6) rfl ?_); refine bx 6 #[.int .i64 0, .int .i64 0] 53 ?_; intro gb189 hg w49 hbox hb; have BK189 := Aside0.mk (hbox); have GW189 := Aside0.mk (bz hg); have GE189 := GW189; have NB186_189 := Aside0.mk (bn gb186 hg); have NB189_186 := sy NB186_189; have NB187_189 := Aside0.mk (bn gb187 hg); have NB189_187 := sy NB187_189; have NB188_189 := Aside0.mk (bn gb188 hg); have NB189_188 := sy NB188_189; replace BK186 := kb BK186 hb; replace BK187 := kb BK187 hb; replace BK188 := kb BK188 hb; replace HB := kh hb; clear hb hbox hg; have hnb50 := NB188_186.out; have hnc50 := NB186_188.out; have hnb51 := NB188_187.out; have hnc51 := NB187_188.out; have hnb52 := NB188_189.out; have hnc52 := NB189_188.out; obtain ⟨hcz53_0, hcz53_1, hfz53_0, hfz53_1⟩ := b2 BK188; have hnb54 := NB186_187.out; have hnc54 := NB187_186.out; have hnb55 := NB186_189.out; have hnc55 := NB189_186.out; obtain ⟨hcz56_0, hcz56_1, hcz56_2, hcz56_3, hfz56_0, hfz56_1, hfz56_2, hfz56_3⟩ := b4 BK186) | ((with_reducible refine gate_callee (f := 109) rfl ?_); refine gl 16 Try.func109 #[.agg #[.int .i64 a2_0, .int .i64 a2_1], .agg #[.int .i64 a0_0, .int .i64 a0_1]] ?_; (with_reducible refine (spec_raSub.calls k a2_0 a2_1 a0_0 a0_1 t190 t191 true _ A4.out).mono ?_); rintro e w57 ⟨rfl, hb⟩; refine ⟨_, rfl, ?_⟩; replace BK186 := kb BK186 hb; replace BK187 := kb BK187 hb; replace BK188 := kb BK188 hb; replace BK189 := kb BK189 hb; replace HB := kh hb; (try clear hb); (try clear hb2); (try clear hk); (try clear hi)) | ((with_reducible refine gate_dst (N := 8) rfl ?_); refine bx 8 #[.int .i64 0, .int .i64 0] 53 ?_; intro gb193 hg w58 hbox hb; have BK193 := Aside0.mk (hbox); have GW193 := Aside0.mk (bz hg); have GE193 := GW193; have NB186_193 := Aside0.mk (bn gb186 hg); have NB193_186 := sy NB186_193; have NB187_193 := Aside0.mk (bn gb187 hg); have NB193_187 := sy NB187_193; have NB188_193 := Aside0.mk (bn gb188 hg); have NB193_188 := sy NB188_193; have NB189_193 := Aside0.mk (bn gb189 hg); have NB193_189 := sy NB189_193; replace BK186 := kb BK186 hb; replace BK187 := kb BK187 hb; replace BK188 := kb BK188 hb; replace BK189 := kb BK189 hb; replace HB := kh hb; clear hb hbox hg; have hnb59 := NB193_186.out; have hnc59 := NB186_193.out; have hnb60 := NB193_187.out; have hnc60 := NB187_193.out; have hnb61 := NB193_188.out; have hnc61 := NB188_193.out; have hnb62 := NB193_189.out; have hnc62 := NB189_193.out; obtain ⟨hcz63_0, hcz63_1, hfz63_0, hfz63_1⟩ := b2 BK193))
   have n0_ : Aside0 (((w58.setCell ⟨gb193, 0, none⟩ (.int .i64 t190)).setCell ⟨gb193, 1, none⟩ (.int .i64 t191)).heap[gb186]? = some (.cells #[.int .i64 a0_0, .int .i64 a0_1, .int .i64 a0_2, .int .i64 a0_3] 73 (0, 0))) := ⟨by (with_reducible repeat (first | refine blk_drewN ?_ _ | refine blk_drew ?_ | refine blk_alloc ?_ _)); refine blk_far ?_ NB186_193.out _; (with_reducible repeat (first | refine blk_drewN ?_ _ | refine blk_drew ?_ | refine blk_alloc ?_ _)); refine blk_far ?_ NB186_193.out _; (with_reducible repeat (first | refine blk_drewN ?_ _ | refine blk_drew ?_ | refine blk_alloc ?_ _)); exact BK186.out⟩
   have n1_ : Aside0 (((w58.setCell ⟨gb193, 0, none⟩ (.int .i64 t190)).setCell ⟨gb193, 1, none⟩ (.int .i64 t191)).heap[gb187]? = some (.cells #[.int .i64 a1_0, .int .i64 a1_1, .int .i64 a1_2, .int .i64 a1_3] 73 (0, 0))) := ⟨by (with_reducible repeat (first | refine blk_drewN ?_ _ | refine blk_drew ?_ | refine blk_alloc ?_ _)); refine blk_far ?_ NB187_193.out _; (with_reducible repeat (first | refine blk_drewN ?_ _ | refine blk_drew ?_ | refine blk_alloc ?_ _)); refine blk_far ?_ NB187_193.out _; (with_reducible repeat (first | refine blk_drewN ?_ _ | refine blk_drew ?_ | refine blk_alloc ?_ _)); exact BK187.out⟩
   have n2_ : Aside0 (((w58.setCell ⟨gb193, 0, none⟩ (.int .i64 t190)).setCell ⟨gb193, 1, none⟩ (.int .i64 t191)).heap[gb188]? = some (.cells #[.int .i64 a2_0, .int .i64 a2_1] 53 (0, 0))) := ⟨by (with_reducible repeat (first | refine blk_drewN ?_ _ | refine blk_drew ?_ | refine blk_alloc ?_ _)); refine blk_far ?_ NB188_193.out _; (with_reducible repeat (first | refine blk_drewN ?_ _ | refine blk_drew ?_ | refine blk_alloc ?_ _)); refine blk_far ?_ NB188_193.out _; (with_reducible repeat (first | refine blk_drewN ?_ _ | refine blk_drew ?_ | refine blk_alloc ?_ _)); exact BK188.out⟩
   have n3_ : Aside0 (((w58.setCell ⟨gb193, 0, none⟩ (.int .i64 t190)).setCell ⟨gb193, 1, none⟩ (.int .i64 t191)).heap[gb189]? = some (.cells #[.int .i64 0, .int .i64 0] 53 (0, 0))) := ⟨by (with_reducible repeat (first | refine blk_drewN ?_ _ | refine blk_drew ?_ | refine blk_alloc ?_ _)); refine blk_far ?_ NB189_193.out _; (with_reducible repeat (first | refine blk_drewN ?_ _ | refine blk_drew ?_ | refine blk_alloc ?_ _)); refine blk_far ?_ NB189_193.out _; (with_reducible repeat (first | refine blk_drewN ?_ _ | refine blk_drew ?_ | refine blk_alloc ?_ _)); exact BK189.out⟩
   have n4_ : Aside0 (((w58.setCell ⟨gb193, 0, none⟩ (.int .i64 t190)).setCell ⟨gb193, 1, none⟩ (.int .i64 t191)).heap[gb193]? = some (.cells #[.int .i64 t190, .int .i64 t191] 53 (0, 0))) := ⟨by (with_reducible repeat (first | refine blk_drewN ?_ _ | refine blk_drew ?_ | refine blk_alloc ?_ _)); refine blk_put (cs := #[.int .i64 t190, .int .i64 0]) ?_ 1 _ rfl; (with_reducible repeat (first | refine blk_drewN ?_ _ | refine blk_drew ?_ | refine blk_alloc ?_ _)); refine blk_put (cs := #[.int .i64 0, .int .i64 0]) ?_ 0 _ rfl; (with_reducible repeat (first | refine blk_drewN ?_ _ | refine blk_drew ?_ | refine blk_alloc ?_ _)); exact BK193.out⟩
   have n5_ : Aside0 (Below w.heap.size w ((w58.setCell ⟨gb193, 0, none⟩ (.int .i64 t190)).setCell ⟨gb193, 1, none⟩ (.int .i64 t191))) := ⟨bl⟩
   (try clear BK186)
   (try clear BK187)
   (try clear BK188)
   (try clear BK189)
   (try clear BK193)
   (try clear HB)
   generalize ((w58.setCell ⟨gb193, 0, none⟩ (.int .i64 t190)).setCell ⟨gb193, 1, none⟩ (.int .i64 t191)) = w64 at n0_ n1_ n2_ n3_ n4_ n5_ ⊢
   have BK186 := n0_
   have BK187 := n1_
   have BK188 := n2_
   have BK189 := n3_
   have BK193 := n4_
   have HB := n5_
   clear n0_ n1_ n2_ n3_ n4_ n5_
   replace BK186 := Aside0.mk (blk_drew BK186.out)
   replace BK187 := Aside0.mk (blk_drew BK187.out)
   replace BK188 := Aside0.mk (blk_drew BK188.out)
   replace BK189 := Aside0.mk (blk_drew BK189.out)
   replace BK193 := Aside0.mk (blk_drew BK193.out)
   replace HB := Aside0.mk (below_drew1 HB.out)
   refine start_ (n := 11) (S := fun w' => w'.cell? ⟨gb193, 0, none⟩ = some (.int .i64 t190) ∧ w'.cell? ⟨gb193, 1, none⟩ = some (.int .i64 t191) ∧ w'.cell? ⟨gb186, 0, none⟩ = some (.int .i64 a0_0) ∧ w'.cell? ⟨gb186, 1, none⟩ = some (.int .i64 a0_1) ∧ w'.cell? ⟨gb186, 2, none⟩ = some (.int .i64 a0_2) ∧ w'.cell? ⟨gb186, 3, none⟩ = some (.int .i64 a0_3) ∧ w'.cell? ⟨gb187, 0, none⟩ = some (.int .i64 a1_0) ∧ w'.cell? ⟨gb187, 1, none⟩ = some (.int .i64 a1_1) ∧ w'.cell? ⟨gb187, 2, none⟩ = some (.int .i64 a1_2) ∧ w'.cell? ⟨gb187, 3, none⟩ = some (.int .i64 a1_3)) (ds := []) (tb 0 11) (by kernel_rfl) rfl rfl ⟨(blk_cell BK193.out 0).trans rfl, (blk_cell BK193.out 1).trans rfl, (blk_cell BK186.out 0).trans rfl, (blk_cell BK186.out 1).trans rfl, (blk_cell BK186.out 2).trans rfl, (blk_cell BK186.out 3).trans rfl, (blk_cell BK187.out 0).trans rfl, (blk_cell BK187.out 1).trans rfl, (blk_cell BK187.out 2).trans rfl, (blk_cell BK187.out 3).trans rfl⟩ (fun hHeld => ?_); refine with_tabW spec_imOn.tab2 spec_imOn.bits2 (fun HT_ HW_ => ?_)
   generalize w64.drew = w65 at BK186 BK187 BK188 BK189 BK193 HB hHeld ⊢
   refine tk 0 20 (tb 1 10) (hy := by rintro w' ⟨s0, s1, s2, s3, s4, s5, s6, s7, s8, s9⟩; go_simp; with_reducible rfl) (h := ?_)
   refine tk 1 21 (tb 2 9) (hy := by rintro w' ⟨s0, s1, s2, s3, s4, s5, s6, s7, s8, s9⟩; go_simp; with_reducible rfl) (h := ?_)
   refine tk 2 22 (tb 3 8) (hy := by rintro w' ⟨s0, s1, s2, s3, s4, s5, s6, s7, s8, s9⟩; go_simp; with_reducible rfl) (h := ?_)
   refine join_ (σ := Nat) 2 (tb 9 2) (fun s_ => [(23, .agg #[.int .i64 t194, .int .i64 t195]), (24, .tuple #[.agg #[.int .i64 t196, .int .i64 t197], .bool false]), (10, .pointer (some ⟨s_, 0, none⟩)), (19, .tuple #[.agg #[.int .i64 t196, .int .i64 t197], .bool false]), (25, .agg #[.int .i64 t196, .int .i64 t197]), (26, .bool false)]) (fun s_ w' => (w'.cell? ⟨gb193, 0, none⟩ = some (.int .i64 t190) ∧ w'.cell? ⟨gb193, 1, none⟩ = some (.int .i64 t191) ∧ w'.cell? ⟨gb186, 0, none⟩ = some (.int .i64 a0_0) ∧ w'.cell? ⟨gb186, 1, none⟩ = some (.int .i64 a0_1) ∧ w'.cell? ⟨gb186, 2, none⟩ = some (.int .i64 a0_2) ∧ w'.cell? ⟨gb186, 3, none⟩ = some (.int .i64 a0_3) ∧ w'.cell? ⟨gb187, 0, none⟩ = some (.int .i64 a1_0) ∧ w'.cell? ⟨gb187, 1, none⟩ = some (.int .i64 a1_1) ∧ w'.cell? ⟨gb187, 2, none⟩ = some (.int .i64 a1_2) ∧ w'.cell? ⟨gb187, 3, none⟩ = some (.int .i64 a1_3)) ∧ (w'.heap[gb186]? = some (.cells #[.int .i64 a0_0, .int .i64 a0_1, .int .i64 a0_2, .int .i64 a0_3] 73 (0, 0))) ∧ (w'.heap[gb187]? = some (.cells #[.int .i64 a1_0, .int .i64 a1_1, .int .i64 a1_2, .int .i64 a1_3] 73 (0, 0))) ∧ (w'.heap[gb188]? = some (.cells #[.int .i64 a2_0, .int .i64 a2_1] 53 (0, 0))) ∧ (w'.heap[gb189]? = some (.cells #[.int .i64 0, .int .i64 0] 53 (0, 0))) ∧ (w'.heap[gb193]? = some (.cells #[.int .i64 t190, .int .i64 t191] 53 (0, 0))) ∧ (w'.heap[s_]? = some (.cells #[.int .i64 0, .int .i64 0] 53 (0, 0))) ∧ (w.heap.size ≤ s_) ∧ (w.heap.size ≤ s_) ∧ (gb186 ≠ s_) ∧ (s_ ≠ gb186) ∧ (gb187 ≠ s_) ∧ (s_ ≠ gb187) ∧ (gb188 ≠ s_) ∧ (s_ ≠ gb188) ∧ (gb189 ≠ s_) ∧ (s_ ≠ gb189) ∧ (gb193 ≠ s_) ∧ (s_ ≠ gb193) ∧ (Below w.heap.size w w')) ?_ ?_
   rotate_left
   ·intro hCont
    refine two_ (i := 3) (j := 8) (Ni := some 23) (Nj := some 10) (tb 4 7) #[true, true, true, false, false, false, false, false, true, false, false] rfl rfl rfl rfl (two_of HT_.out (by kernel_rfl)) (by decide) (by decide) (fun K hK => ?_) (fun K hK => ?_)
    ·skip
     refine gs Try.func96 #[.agg #[.int .i64 a0_0, .int .i64 a0_1, .int .i64 a0_2, .int .i64 a0_3], .agg #[.int .i64 a1_0, .int .i64 a1_1, .int .i64 a1_2, .int .i64 a1_3]] ?_
     with_reducible refine (spec_imSlope.calls k a0_0 a0_1 a0_2 a0_3 a1_0 a1_1 a1_2 a1_3 t194 t195 _ A5.out).mono ?_
     rintro e w66 ⟨rfl, hb⟩
     refine ⟨_, rfl, ?_⟩
     replace BK186 := kb BK186 hb
     replace BK187 := kb BK187 hb
     replace BK188 := kb BK188 hb
     replace BK189 := kb BK189 hb
     replace BK193 := kb BK193 hb
     replace HB := kh hb
     (try clear hb)
     (try clear hb2)
     (try clear hk)
     (try clear hi)
     refine hK.out _ _ ⟨(blk_cell BK193.out 0).trans rfl, (blk_cell BK193.out 1).trans rfl, (blk_cell BK186.out 0).trans rfl, (blk_cell BK186.out 1).trans rfl, (blk_cell BK186.out 2).trans rfl, (blk_cell BK186.out 3).trans rfl, (blk_cell BK187.out 0).trans rfl, (blk_cell BK187.out 1).trans rfl, (blk_cell BK187.out 2).trans rfl, (blk_cell BK187.out 3).trans rfl⟩ (fun hHeld => ?_)
     clear hK K
     refine nm 23 ?_
     refine two_ (i := 4) (j := 8) (Ni := some 24) (Nj := some 10) (tb 5 6) #[true, true, true, true, false, false, false, false, true, false, false] rfl rfl rfl rfl (two_of HT_.out (by kernel_rfl)) (by decide) (by decide) (fun K hK => ?_) (fun K hK => ?_)
     ·skip
      refine gs Try.func82 #[.agg #[.int .i64 t190, .int .i64 t191], .agg #[.int .i64 t194, .int .i64 t195]] ?_
      with_reducible refine (spec_raMul.calls k t190 t191 t194 t195 t196 t197 false _ A6.out).mono ?_
      rintro e w67 ⟨rfl, hb⟩
      refine ⟨_, rfl, ?_⟩
      replace BK186 := kb BK186 hb
      replace BK187 := kb BK187 hb
      replace BK188 := kb BK188 hb
      replace BK189 := kb BK189 hb
      replace BK193 := kb BK193 hb
      replace HB := kh hb
      (try clear hb)
      (try clear hb2)
      (try clear hk)
      (try clear hi)
      refine hK.out _ _ ⟨(blk_cell BK193.out 0).trans rfl, (blk_cell BK193.out 1).trans rfl, (blk_cell BK186.out 0).trans rfl, (blk_cell BK186.out 1).trans rfl, (blk_cell BK186.out 2).trans rfl, (blk_cell BK186.out 3).trans rfl, (blk_cell BK187.out 0).trans rfl, (blk_cell BK187.out 1).trans rfl, (blk_cell BK187.out 2).trans rfl, (blk_cell BK187.out 3).trans rfl⟩ (fun hHeld => ?_)
      clear hK K
      refine nm 24 ?_
      refine pu 5 19 (tb 6 5) ?_
      refine pu 6 25 (tb 7 4) ?_
      refine pu 7 26 (tb 8 3) ?_
      refine on 8 10 (tb 9 2) (fun K hK => ?_)
      refine box_step ?hg (N := 10) ?hd (cs := #[.int .i64 0, .int .i64 0]) (t := 53) ?hr ?_; (case hd => rfl); (case hg => rfl); (case hr => first | (go_simp; done) | (go_simp; rfl))
      intro gb199 hg w68 hbox hb
      have BK199 := Aside0.mk (hbox)
      have GW199 := Aside0.mk (bz hg)
      have GE199 := GW199
      have NB186_199 := Aside0.mk (bn gb186 hg)
      have NB199_186 := sy NB186_199
      have NB187_199 := Aside0.mk (bn gb187 hg)
      have NB199_187 := sy NB187_199
      have NB188_199 := Aside0.mk (bn gb188 hg)
      have NB199_188 := sy NB188_199
      have NB189_199 := Aside0.mk (bn gb189 hg)
      have NB199_189 := sy NB189_199
      have NB193_199 := Aside0.mk (bn gb193 hg)
      have NB199_193 := sy NB193_199
      replace BK186 := kb BK186 hb
      replace BK187 := kb BK187 hb
      replace BK188 := kb BK188 hb
      replace BK189 := kb BK189 hb
      replace BK193 := kb BK193 hb
      replace HB := kh hb
      clear hb hbox hg
      refine hK.out _ _ ⟨(blk_cell BK193.out 0).trans rfl, (blk_cell BK193.out 1).trans rfl, (blk_cell BK186.out 0).trans rfl, (blk_cell BK186.out 1).trans rfl, (blk_cell BK186.out 2).trans rfl, (blk_cell BK186.out 3).trans rfl, (blk_cell BK187.out 0).trans rfl, (blk_cell BK187.out 1).trans rfl, (blk_cell BK187.out 2).trans rfl, (blk_cell BK187.out 3).trans rfl⟩ (fun hHeld => ?_)
      clear hK K
      refine nm 10 ?_
      exact norm_ (by simp only [putAll, Act.put, List.setIfInBounds_toArray, List.set_cons_zero, List.set_cons_succ]) (hCont (gb199) _ ⟨hHeld, (bo gb186), (bo gb187), (bo gb188), (bo gb189), (bo gb193), (bo gb199), GW199.out, GE199.out, NB186_199.out, NB199_186.out, NB187_199.out, NB199_187.out, NB188_199.out, NB199_188.out, NB189_199.out, NB199_189.out, NB193_199.out, NB199_193.out, bl⟩)
     ·skip
      refine box_step ?hg (N := 10) ?hd (cs := #[.int .i64 0, .int .i64 0]) (t := 53) ?hr ?_; (case hd => rfl); (case hg => rfl); (case hr => first | (go_simp; done) | (go_simp; rfl))
      intro gb199 hg w67 hbox hb
      have BK199 := Aside0.mk (hbox)
      have GW199 := Aside0.mk (bz hg)
      have GE199 := GW199
      have NB186_199 := Aside0.mk (bn gb186 hg)
      have NB199_186 := sy NB186_199
      have NB187_199 := Aside0.mk (bn gb187 hg)
      have NB199_187 := sy NB187_199
      have NB188_199 := Aside0.mk (bn gb188 hg)
      have NB199_188 := sy NB188_199
      have NB189_199 := Aside0.mk (bn gb189 hg)
      have NB199_189 := sy NB189_199
      have NB193_199 := Aside0.mk (bn gb193 hg)
      have NB199_193 := sy NB193_199
      replace BK186 := kb BK186 hb
      replace BK187 := kb BK187 hb
      replace BK188 := kb BK188 hb
      replace BK189 := kb BK189 hb
      replace BK193 := kb BK193 hb
      replace HB := kh hb
      clear hb hbox hg
      refine hK.out _ _ ⟨(blk_cell BK193.out 0).trans rfl, (blk_cell BK193.out 1).trans rfl, (blk_cell BK186.out 0).trans rfl, (blk_cell BK186.out 1).trans rfl, (blk_cell BK186.out 2).trans rfl, (blk_cell BK186.out 3).trans rfl, (blk_cell BK187.out 0).trans rfl, (blk_cell BK187.out 1).trans rfl, (blk_cell BK187.out 2).trans rfl, (blk_cell BK187.out 3).trans rfl⟩ (fun hHeld => ?_)
      clear hK K
      refine nm 10 ?_
      refine on 4 24 #[true, true, true, true, true, false, false, false, true, false, false] (fun K hK => ?_)
      refine gs Try.func82 #[.agg #[.int .i64 t190, .int .i64 t191], .agg #[.int .i64 t194, .int .i64 t195]] ?_
      with_reducible refine (spec_raMul.calls k t190 t191 t194 t195 t196 t197 false _ A6.out).mono ?_
      rintro e w68 ⟨rfl, hb⟩
      refine ⟨_, rfl, ?_⟩
      replace BK186 := kb BK186 hb
      replace BK187 := kb BK187 hb
      replace BK188 := kb BK188 hb
      replace BK189 := kb BK189 hb
      replace BK193 := kb BK193 hb
      replace BK199 := kb BK199 hb
      replace HB := kh hb
      (try clear hb)
      (try clear hb2)
      (try clear hk)
      (try clear hi)
      refine hK.out _ _ ⟨(blk_cell BK193.out 0).trans rfl, (blk_cell BK193.out 1).trans rfl, (blk_cell BK186.out 0).trans rfl, (blk_cell BK186.out 1).trans rfl, (blk_cell BK186.out 2).trans rfl, (blk_cell BK186.out 3).trans rfl, (blk_cell BK187.out 0).trans rfl, (blk_cell BK187.out 1).trans rfl, (blk_cell BK187.out 2).trans rfl, (blk_cell BK187.out 3).trans rfl⟩ (fun hHeld => ?_)
      clear hK K
      refine nm 24 ?_
      refine pu 5 19 #[true, true, true, true, true, true, false, false, true, false, false] ?_
      refine pu 6 25 #[true, true, true, true, true, true, true, false, true, false, false] ?_
      refine pu 7 26 (tb 9 2) ?_
      exact norm_ (by simp only [putAll, Act.put, List.setIfInBounds_toArray, List.set_cons_zero, List.set_cons_succ]) (hCont (gb199) _ ⟨hHeld, (bo gb186), (bo gb187), (bo gb188), (bo gb189), (bo gb193), (bo gb199), GW199.out, GE199.out, NB186_199.out, NB199_186.out, NB187_199.out, NB199_187.out, NB188_199.out, NB199_188.out, NB189_199.out, NB199_189.out, NB193_199.out, NB199_193.out, bl⟩)
    ·skip
     refine box_step ?hg (N := 10) ?hd (cs := #[.int .i64 0, .int .i64 0]) (t := 53) ?hr ?_; (case hd => rfl); (case hg => rfl); (case hr => first | (go_simp; done) | (go_simp; rfl))
     intro gb199 hg w66 hbox hb
     have BK199 := Aside0.mk (hbox)
     have GW199 := Aside0.mk (bz hg)
     have GE199 := GW199
     have NB186_199 := Aside0.mk (bn gb186 hg)
     have NB199_186 := sy NB186_199
     have NB187_199 := Aside0.mk (bn gb187 hg)
     have NB199_187 := sy NB187_199
     have NB188_199 := Aside0.mk (bn gb188 hg)
     have NB199_188 := sy NB188_199
     have NB189_199 := Aside0.mk (bn gb189 hg)
     have NB199_189 := sy NB189_199
     have NB193_199 := Aside0.mk (bn gb193 hg)
     have NB199_193 := sy NB193_199
     replace BK186 := kb BK186 hb
     replace BK187 := kb BK187 hb
     replace BK188 := kb BK188 hb
     replace BK189 := kb BK189 hb
     replace BK193 := kb BK193 hb
     replace HB := kh hb
     clear hb hbox hg
     refine hK.out _ _ ⟨(blk_cell BK193.out 0).trans rfl, (blk_cell BK193.out 1).trans rfl, (blk_cell BK186.out 0).trans rfl, (blk_cell BK186.out 1).trans rfl, (blk_cell BK186.out 2).trans rfl, (blk_cell BK186.out 3).trans rfl, (blk_cell BK187.out 0).trans rfl, (blk_cell BK187.out 1).trans rfl, (blk_cell BK187.out 2).trans rfl, (blk_cell BK187.out 3).trans rfl⟩ (fun hHeld => ?_)
     clear hK K
     refine nm 10 ?_
     refine on 3 23 #[true, true, true, true, false, false, false, false, true, false, false] (fun K hK => ?_)
     refine gs Try.func96 #[.agg #[.int .i64 a0_0, .int .i64 a0_1, .int .i64 a0_2, .int .i64 a0_3], .agg #[.int .i64 a1_0, .int .i64 a1_1, .int .i64 a1_2, .int .i64 a1_3]] ?_
     with_reducible refine (spec_imSlope.calls k a0_0 a0_1 a0_2 a0_3 a1_0 a1_1 a1_2 a1_3 t194 t195 _ A5.out).mono ?_
     rintro e w67 ⟨rfl, hb⟩
     refine ⟨_, rfl, ?_⟩
     replace BK186 := kb BK186 hb
     replace BK187 := kb BK187 hb
     replace BK188 := kb BK188 hb
     replace BK189 := kb BK189 hb
     replace BK193 := kb BK193 hb
     replace BK199 := kb BK199 hb
     replace HB := kh hb
     (try clear hb)
     (try clear hb2)
     (try clear hk)
     (try clear hi)
     refine hK.out _ _ ⟨(blk_cell BK193.out 0).trans rfl, (blk_cell BK193.out 1).trans rfl, (blk_cell BK186.out 0).trans rfl, (blk_cell BK186.out 1).trans rfl, (blk_cell BK186.out 2).trans rfl, (blk_cell BK186.out 3).trans rfl, (blk_cell BK187.out 0).trans rfl, (blk_cell BK187.out 1).trans rfl, (blk_cell BK187.out 2).trans rfl, (blk_cell BK187.out 3).trans rfl⟩ (fun hHeld => ?_)
     clear hK K
     refine nm 23 ?_
     refine on 4 24 #[true, true, true, true, true, false, false, false, true, false, false] (fun K hK => ?_)
     refine gs Try.func82 #[.agg #[.int .i64 t190, .int .i64 t191], .agg #[.int .i64 t194, .int .i64 t195]] ?_
     with_reducible refine (spec_raMul.calls k t190 t191 t194 t195 t196 t197 false _ A6.out).mono ?_
     rintro e w68 ⟨rfl, hb⟩
     refine ⟨_, rfl, ?_⟩
     replace BK186 := kb BK186 hb
     replace BK187 := kb BK187 hb
     replace BK188 := kb BK188 hb
     replace BK189 := kb BK189 hb
     replace BK193 := kb BK193 hb
     replace BK199 := kb BK199 hb
     replace HB := kh hb
     (try clear hb)
     (try clear hb2)
     (try clear hk)
     (try clear hi)
     refine hK.out _ _ ⟨(blk_cell BK193.out 0).trans rfl, (blk_cell BK193.out 1).trans rfl, (blk_cell BK186.out 0).trans rfl, (blk_cell BK186.out 1).trans rfl, (blk_cell BK186.out 2).trans rfl, (blk_cell BK186.out 3).trans rfl, (blk_cell BK187.out 0).trans rfl, (blk_cell BK187.out 1).trans rfl, (blk_cell BK187.out 2).trans rfl, (blk_cell BK187.out 3).trans rfl⟩ (fun hHeld => ?_)
     clear hK K
     refine nm 24 ?_
     refine pu 5 19 #[true, true, true, true, true, true, false, false, true, false, false] ?_
     refine pu 6 25 #[true, true, true, true, true, true, true, false, true, false, false] ?_
     refine pu 7 26 (tb 9 2) ?_
     exact norm_ (by simp only [putAll, Act.put, List.setIfInBounds_toArray, List.set_cons_zero, List.set_cons_succ]) (hCont (gb199) _ ⟨hHeld, (bo gb186), (bo gb187), (bo gb188), (bo gb189), (bo gb193), (bo gb199), GW199.out, GE199.out, NB186_199.out, NB199_186.out, NB187_199.out, NB199_187.out, NB188_199.out, NB199_188.out, NB189_199.out, NB199_189.out, NB193_199.out, NB199_193.out, bl⟩)
   rintro gb199 w69 ⟨hS_, h0_, h1_, h2_, h3_, h4_, h5_, h6_, h7_, h8_, h9_, h10_, h11_, h12_, h13_, h14_, h15_, h16_, h17_, h18_⟩
   have n0_ : Aside0 (w69.heap[gb186]? = some (.cells #[.int .i64 a0_0, .int .i64 a0_1, .int .i64 a0_2, .int .i64 a0_3] 73 (0, 0))) := ⟨h0_⟩
   have n1_ : Aside0 (w69.heap[gb187]? = some (.cells #[.int .i64 a1_0, .int .i64 a1_1, .int .i64 a1_2, .int .i64 a1_3] 73 (0, 0))) := ⟨h1_⟩
   have n2_ : Aside0 (w69.heap[gb188]? = some (.cells #[.int .i64 a2_0, .int .i64 a2_1] 53 (0, 0))) := ⟨h2_⟩
   have n3_ : Aside0 (w69.heap[gb189]? = some (.cells #[.int .i64 0, .int .i64 0] 53 (0, 0))) := ⟨h3_⟩
   have n4_ : Aside0 (w69.heap[gb193]? = some (.cells #[.int .i64 t190, .int .i64 t191] 53 (0, 0))) := ⟨h4_⟩
   have n5_ : Aside0 (w69.heap[gb199]? = some (.cells #[.int .i64 0, .int .i64 0] 53 (0, 0))) := ⟨h5_⟩
   have n6_ : Aside0 (w.heap.size ≤ gb199) := ⟨h6_⟩
   have n7_ : Aside0 (w.heap.size ≤ gb199) := ⟨h7_⟩
   have n8_ : Aside0 (gb186 ≠ gb199) := ⟨h8_⟩
   have n9_ : Aside0 (gb199 ≠ gb186) := ⟨h9_⟩
   have n10_ : Aside0 (gb187 ≠ gb199) := ⟨h10_⟩
   have n11_ : Aside0 (gb199 ≠ gb187) := ⟨h11_⟩
   have n12_ : Aside0 (gb188 ≠ gb199) := ⟨h12_⟩
   have n13_ : Aside0 (gb199 ≠ gb188) := ⟨h13_⟩
   have n14_ : Aside0 (gb189 ≠ gb199) := ⟨h14_⟩
   have n15_ : Aside0 (gb199 ≠ gb189) := ⟨h15_⟩
   have n16_ : Aside0 (gb193 ≠ gb199) := ⟨h16_⟩
   have n17_ : Aside0 (gb199 ≠ gb193) := ⟨h17_⟩
   have n18_ : Aside0 (Below w.heap.size w w69) := ⟨h18_⟩
   clear BK186
   clear BK187
   clear BK188
   clear BK189
   clear BK193
   clear HB
   clear h0_ h1_ h2_ h3_ h4_ h5_ h6_ h7_ h8_ h9_ h10_ h11_ h12_ h13_ h14_ h15_ h16_ h17_ h18_
   have BK186 := n0_
   have BK187 := n1_
   have BK188 := n2_
   have BK189 := n3_
   have BK193 := n4_
   have BK199 := n5_
   have GW199 := n6_
   have GE199 := n7_
   have NB186_199 := n8_
   have NB199_186 := n9_
   have NB187_199 := n10_
   have NB199_187 := n11_
   have NB188_199 := n12_
   have NB199_188 := n13_
   have NB189_199 := n14_
   have NB199_189 := n15_
   have NB193_199 := n16_
   have NB199_193 := n17_
   have HB := n18_
   clear n0_ n1_ n2_ n3_ n4_ n5_ n6_ n7_ n8_ n9_ n10_ n11_ n12_ n13_ n14_ n15_ n16_ n17_ n18_
   have hHeld : w69.cell? ⟨gb193, 0, none⟩ = some (.int .i64 t190) ∧ w69.cell? ⟨gb193, 1, none⟩ = some (.int .i64 t191) ∧ w69.cell? ⟨gb186, 0, none⟩ = some (.int .i64 a0_0) ∧ w69.cell? ⟨gb186, 1, none⟩ = some (.int .i64 a0_1) ∧ w69.cell? ⟨gb186, 2, none⟩ = some (.int .i64 a0_2) ∧ w69.cell? ⟨gb186, 3, none⟩ = some (.int .i64 a0_3) ∧ w69.cell? ⟨gb187, 0, none⟩ = some (.int .i64 a1_0) ∧ w69.cell? ⟨gb187, 1, none⟩ = some (.int .i64 a1_1) ∧ w69.cell? ⟨gb187, 2, none⟩ = some (.int .i64 a1_2) ∧ w69.cell? ⟨gb187, 3, none⟩ = some (.int .i64 a1_3) := hS_
   refine norm_ (a' := ?_) ?_ ?_
   rotate_left
   ·simp only [putAll, Act.put, List.setIfInBounds_toArray, List.set_cons_zero, List.set_cons_succ]
    rfl
   refine one_ (i := 9) (N := none) (tb 10 1) rfl rfl (one_of HT_.out (by kernel_rfl)) (by decide) (fun K hK => ?_)
   have hs70 : w69.cell? ⟨gb199, 0, none⟩ = some (.int .i64 0) := (blk_cell BK199.out 0).trans rfl
   have hfs70 := blk_frozen BK199.out 0
   have hns70_0 := NB186_199.out
   have hns70_1 := NB187_199.out
   have hns70_2 := NB188_199.out
   have hns70_3 := NB189_199.out
   have hns70_4 := NB193_199.out
   have hms70_0 := NB199_186.out
   have hms70_1 := NB199_187.out
   have hms70_2 := NB199_188.out
   have hms70_3 := NB199_189.out
   have hms70_4 := NB199_193.out
   have hs71 : w69.cell? ⟨gb199, 1, none⟩ = some (.int .i64 0) := (blk_cell BK199.out 1).trans rfl
   have hfs71 := blk_frozen BK199.out 1
   have hns71_0 := NB186_199.out
   have hns71_1 := NB187_199.out
   have hns71_2 := NB188_199.out
   have hns71_3 := NB189_199.out
   have hns71_4 := NB193_199.out
   have hms71_0 := NB199_186.out
   have hms71_1 := NB199_187.out
   have hms71_2 := NB199_188.out
   have hms71_3 := NB199_189.out
   have hms71_4 := NB199_193.out
   refine skip_ (w1 := ?_) (by rfl) rfl ?_ ?_
   rotate_left
   ·go_simp
    rfl
   refine hK.out _ _ ⟨(by (iterate 2 refine (cell_far (p := ⟨gb199, _, none⟩) NB193_199.out _).trans ?_); exact hHeld.1), (by (iterate 2 refine (cell_far (p := ⟨gb199, _, none⟩) NB193_199.out _).trans ?_); exact hHeld.2.1), (by (iterate 2 refine (cell_far (p := ⟨gb199, _, none⟩) NB186_199.out _).trans ?_); exact hHeld.2.2.1), (by (iterate 2 refine (cell_far (p := ⟨gb199, _, none⟩) NB186_199.out _).trans ?_); exact hHeld.2.2.2.1), (by (iterate 2 refine (cell_far (p := ⟨gb199, _, none⟩) NB186_199.out _).trans ?_); exact hHeld.2.2.2.2.1), (by (iterate 2 refine (cell_far (p := ⟨gb199, _, none⟩) NB186_199.out _).trans ?_); exact hHeld.2.2.2.2.2.1), (by (iterate 2 refine (cell_far (p := ⟨gb199, _, none⟩) NB187_199.out _).trans ?_); exact hHeld.2.2.2.2.2.2.1), (by (iterate 2 refine (cell_far (p := ⟨gb199, _, none⟩) NB187_199.out _).trans ?_); exact hHeld.2.2.2.2.2.2.2.1), (by (iterate 2 refine (cell_far (p := ⟨gb199, _, none⟩) NB187_199.out _).trans ?_); exact hHeld.2.2.2.2.2.2.2.2.1), (by (iterate 2 refine (cell_far (p := ⟨gb199, _, none⟩) NB187_199.out _).trans ?_); exact hHeld.2.2.2.2.2.2.2.2.2)⟩ (fun hHeld => ?_)
   clear hK K
   refine pu 10 11 (tb 11 0) ?_
   refine done_ (done_of HT_.out (by kernel_rfl)) ?_
   have hnb72 := NB189_187.out
   have hnc72 := NB187_189.out
   have hnb73 := NB189_199.out
   have hnc73 := NB199_189.out
   obtain ⟨hcz74_0, hcz74_1, hfz74_0, hfz74_1⟩ := b2 BK189
   try go_wp2
   refine bodyPost_ret (results_ct rfl _ _ gb189 53 #[.int .i64 0, .int .i64 0] (0, 0) _ rfl (by (with_reducible repeat (first | refine blk_drewN ?_ _ | refine blk_drew ?_ | refine blk_alloc ?_ _)); refine blk_put (cs := #[.int .i64 0, .int .i64 0]) ?_ 1 _ rfl; (with_reducible repeat (first | refine blk_drewN ?_ _ | refine blk_drew ?_ | refine blk_alloc ?_ _)); refine blk_put (cs := #[.int .i64 0, .int .i64 0]) ?_ 0 _ rfl; (with_reducible repeat (first | refine blk_drewN ?_ _ | refine blk_drew ?_ | refine blk_alloc ?_ _)); refine blk_far ?_ NB189_199.out _; (with_reducible repeat (first | refine blk_drewN ?_ _ | refine blk_drew ?_ | refine blk_alloc ?_ _)); refine blk_far ?_ NB189_199.out _; (with_reducible repeat (first | refine blk_drewN ?_ _ | refine blk_drew ?_ | refine blk_alloc ?_ _)); exact BK189.out) Try.underlying53 rfl (by kernel_rfl)) rfl ?_
   exact ⟨rt, bl⟩
 ·replace c7 := Bool.eq_false_iff.mpr c7
  subst c7
  have H1 : (some (0, 0, false)) = some (r1, r2, r3) := by rw [if_neg (show ¬ (false = true) by decide)] at H; exact H
  clear H
  have H := H1
  clear H1
  simp only [Option.some.injEq, Prod.mk.injEq] at H
  obtain ⟨rfl, rfl, rfl⟩ := H
  go_enter Try.func120, Try.ntmps120
  try go_wp2_with (first | ((with_reducible refine gate_dst (N := 3) rfl ?_); refine bx 3 #[.int .i64 a0_0, .int .i64 a0_1, .int .i64 a0_2, .int .i64 a0_3] 73 ?_; intro gb186 hg w75 hbox hb; have BK186 := Aside0.mk (hbox); have GW186 := Aside0.mk (bz hg); have GE186 := GW186; replace HB := kh hb; clear hb hbox hg) | ((with_reducible refine gate_dst (N := 4) rfl ?_); refine bx 4 #[.int .i64 a1_0, .int .i64 a1_1, .int .i64 a1_2, .int .i64 a1_3] 73 ?_; intro gb187 hg w76 hbox hb; have BK187 := Aside0.mk (hbox); have GW187 := Aside0.mk (bz hg); have GE187 := GW187; have NB186_187 := Aside0.mk (bn gb186 hg); have NB187_186 := sy NB186_187; replace BK186 := kb BK186 hb; replace HB := kh hb; clear hb hbox hg) | ((with_reducible refine gate_dst (N := 5) rfl ?_); refine bx 5 #[.int .i64 a2_0, .int .i64 a2_1] 53 ?_; intro gb188 hg w77 hbox hb; have BK188 := Aside0.mk (hbox); have GW188 := Aside0.mk (bz hg); have GE188 := GW188; have NB186_188 := Aside0.mk (bn gb186 hg); have NB188_186 := sy NB186_188; have NB187_188 := Aside0.mk (bn gb187 hg); have NB188_187 := sy NB187_188; replace BK186 := kb BK186 hb; replace BK187 := kb BK187 hb; replace HB := kh hb; clear hb hbox hg) | ((with_reducible refine gate_dst (N := 6) rfl ?_); refine bx 6 #[.int .i64 0, .int .i64 0] 53 ?_; intro gb189 hg w78 hbox hb; have BK189 := Aside0.mk (hbox); have GW189 := Aside0.mk (bz hg); have GE189 := GW189; have NB186_189 := Aside0.mk (bn gb186 hg); have NB189_186 := sy NB186_189; have NB187_189 := Aside0.mk (bn gb187 hg); have NB189_187 := sy NB187_189; have NB188_189 := Aside0.mk (bn gb188 hg); have NB189_188 := sy NB188_189; replace BK186 := kb BK186 hb; replace BK187 := kb BK187 hb; replace BK188 := kb BK188 hb; replace HB := kh hb; clear hb hbox hg; have hnb79 := NB188_186.out; have hnc79 := NB186_188.out; have hnb80 := NB188_187.out; have hnc80 := NB187_188.out; have hnb81 := NB188_189.out; have hnc81 := NB189_188.out; obtain ⟨hcz82_0, hcz82_1, hfz82_0, hfz82_1⟩ := b2 BK188; have hnb83 := NB186_187.out; have hnc83 := NB187_186.out; have hnb84 := NB186_189.out; have hnc84 := NB189_186.out; obtain ⟨hcz85_0, hcz85_1, hcz85_2, hcz85_3, hfz85_0, hfz85_1, hfz85_2, hfz85_3⟩ := b4 BK186) | ((with_reducible refine gate_callee (f := 109) rfl ?_); refine gl 16 Try.func109 #[.agg #[.int .i64 a2_0, .int .i64 a2_1], .agg #[.int .i64 a0_0, .int .i64 a0_1]] ?_; (with_reducible refine (spec_raSub.calls k a2_0 a2_1 a0_0 a0_1 t190 t191 false _ A4.out).mono ?_); rintro e w86 ⟨rfl, hb⟩; refine ⟨_, rfl, ?_⟩; replace BK186 := kb BK186 hb; replace BK187 := kb BK187 hb; replace BK188 := kb BK188 hb; replace BK189 := kb BK189 hb; replace HB := kh hb; (try clear hb); (try clear hb2); (try clear hk); (try clear hi)) | ((with_reducible refine gate_dst (N := 8) rfl ?_); refine bx 8 #[.int .i64 0, .int .i64 0] 53 ?_; intro gb193 hg w87 hbox hb; have BK193 := Aside0.mk (hbox); have GW193 := Aside0.mk (bz hg); have GE193 := GW193; have NB186_193 := Aside0.mk (bn gb186 hg); have NB193_186 := sy NB186_193; have NB187_193 := Aside0.mk (bn gb187 hg); have NB193_187 := sy NB187_193; have NB188_193 := Aside0.mk (bn gb188 hg); have NB193_188 := sy NB188_193; have NB189_193 := Aside0.mk (bn gb189 hg); have NB193_189 := sy NB189_193; replace BK186 := kb BK186 hb; replace BK187 := kb BK187 hb; replace BK188 := kb BK188 hb; replace BK189 := kb BK189 hb; replace HB := kh hb; clear hb hbox hg; have hnb88 := NB193_186.out; have hnc88 := NB186_193.out; have hnb89 := NB193_187.out; have hnc89 := NB187_193.out; have hnb90 := NB193_188.out; have hnc90 := NB188_193.out; have hnb91 := NB193_189.out; have hnc91 := NB189_193.out; obtain ⟨hcz92_0, hcz92_1, hfz92_0, hfz92_1⟩ := b2 BK193))
  have n0_ : Aside0 (((w87.setCell ⟨gb193, 0, none⟩ (.int .i64 t190)).setCell ⟨gb193, 1, none⟩ (.int .i64 t191)).heap[gb186]? = some (.cells #[.int .i64 a0_0, .int .i64 a0_1, .int .i64 a0_2, .int .i64 a0_3] 73 (0, 0))) := ⟨by (with_reducible repeat (first | refine blk_drewN ?_ _ | refine blk_drew ?_ | refine blk_alloc ?_ _)); refine blk_far ?_ NB186_193.out _; (with_reducible repeat (first | refine blk_drewN ?_ _ | refine blk_drew ?_ | refine blk_alloc ?_ _)); refine blk_far ?_ NB186_193.out _; (with_reducible repeat (first | refine blk_drewN ?_ _ | refine blk_drew ?_ | refine blk_alloc ?_ _)); exact BK186.out⟩
  have n1_ : Aside0 (((w87.setCell ⟨gb193, 0, none⟩ (.int .i64 t190)).setCell ⟨gb193, 1, none⟩ (.int .i64 t191)).heap[gb187]? = some (.cells #[.int .i64 a1_0, .int .i64 a1_1, .int .i64 a1_2, .int .i64 a1_3] 73 (0, 0))) := ⟨by (with_reducible repeat (first | refine blk_drewN ?_ _ | refine blk_drew ?_ | refine blk_alloc ?_ _)); refine blk_far ?_ NB187_193.out _; (with_reducible repeat (first | refine blk_drewN ?_ _ | refine blk_drew ?_ | refine blk_alloc ?_ _)); refine blk_far ?_ NB187_193.out _; (with_reducible repeat (first | refine blk_drewN ?_ _ | refine blk_drew ?_ | refine blk_alloc ?_ _)); exact BK187.out⟩
  have n2_ : Aside0 (((w87.setCell ⟨gb193, 0, none⟩ (.int .i64 t190)).setCell ⟨gb193, 1, none⟩ (.int .i64 t191)).heap[gb188]? = some (.cells #[.int .i64 a2_0, .int .i64 a2_1] 53 (0, 0))) := ⟨by (with_reducible repeat (first | refine blk_drewN ?_ _ | refine blk_drew ?_ | refine blk_alloc ?_ _)); refine blk_far ?_ NB188_193.out _; (with_reducible repeat (first | refine blk_drewN ?_ _ | refine blk_drew ?_ | refine blk_alloc ?_ _)); refine blk_far ?_ NB188_193.out _; (with_reducible repeat (first | refine blk_drewN ?_ _ | refine blk_drew ?_ | refine blk_alloc ?_ _)); exact BK188.out⟩
  have n3_ : Aside0 (((w87.setCell ⟨gb193, 0, none⟩ (.int .i64 t190)).setCell ⟨gb193, 1, none⟩ (.int .i64 t191)).heap[gb189]? = some (.cells #[.int .i64 0, .int .i64 0] 53 (0, 0))) := ⟨by (with_reducible repeat (first | refine blk_drewN ?_ _ | refine blk_drew ?_ | refine blk_alloc ?_ _)); refine blk_far ?_ NB189_193.out _; (with_reducible repeat (first | refine blk_drewN ?_ _ | refine blk_drew ?_ | refine blk_alloc ?_ _)); refine blk_far ?_ NB189_193.out _; (with_reducible repeat (first | refine blk_drewN ?_ _ | refine blk_drew ?_ | refine blk_alloc ?_ _)); exact BK189.out⟩
  have n4_ : Aside0 (((w87.setCell ⟨gb193, 0, none⟩ (.int .i64 t190)).setCell ⟨gb193, 1, none⟩ (.int .i64 t191)).heap[gb193]? = some (.cells #[.int .i64 t190, .int .i64 t191] 53 (0, 0))) := ⟨by (with_reducible repeat (first | refine blk_drewN ?_ _ | refine blk_drew ?_ | refine blk_alloc ?_ _)); refine blk_put (cs := #[.int .i64 t190, .int .i64 0]) ?_ 1 _ rfl; (with_reducible repeat (first | refine blk_drewN ?_ _ | refine blk_drew ?_ | refine blk_alloc ?_ _)); refine blk_put (cs := #[.int .i64 0, .int .i64 0]) ?_ 0 _ rfl; (with_reducible repeat (first | refine blk_drewN ?_ _ | refine blk_drew ?_ | refine blk_alloc ?_ _)); exact BK193.out⟩
  have n5_ : Aside0 (Below w.heap.size w ((w87.setCell ⟨gb193, 0, none⟩ (.int .i64 t190)).setCell ⟨gb193, 1, none⟩ (.int .i64 t191))) := ⟨bl⟩
  (try clear BK186)
  (try clear BK187)
  (try clear BK188)
  (try clear BK189)
  (try clear BK193)
  (try clear HB)
  generalize ((w87.setCell ⟨gb193, 0, none⟩ (.int .i64 t190)).setCell ⟨gb193, 1, none⟩ (.int .i64 t191)) = w93 at n0_ n1_ n2_ n3_ n4_ n5_ ⊢
  have BK186 := n0_
  have BK187 := n1_
  have BK188 := n2_
  have BK189 := n3_
  have BK193 := n4_
  have HB := n5_
  clear n0_ n1_ n2_ n3_ n4_ n5_
  replace BK186 := Aside0.mk (blk_drew BK186.out)
  replace BK187 := Aside0.mk (blk_drew BK187.out)
  replace BK188 := Aside0.mk (blk_drew BK188.out)
  replace BK189 := Aside0.mk (blk_drew BK189.out)
  replace BK193 := Aside0.mk (blk_drew BK193.out)
  replace HB := Aside0.mk (below_drew1 HB.out)
  refine start_ (n := 11) (S := fun w' => w'.cell? ⟨gb193, 0, none⟩ = some (.int .i64 t190) ∧ w'.cell? ⟨gb193, 1, none⟩ = some (.int .i64 t191) ∧ w'.cell? ⟨gb186, 0, none⟩ = some (.int .i64 a0_0) ∧ w'.cell? ⟨gb186, 1, none⟩ = some (.int .i64 a0_1) ∧ w'.cell? ⟨gb186, 2, none⟩ = some (.int .i64 a0_2) ∧ w'.cell? ⟨gb186, 3, none⟩ = some (.int .i64 a0_3) ∧ w'.cell? ⟨gb187, 0, none⟩ = some (.int .i64 a1_0) ∧ w'.cell? ⟨gb187, 1, none⟩ = some (.int .i64 a1_1) ∧ w'.cell? ⟨gb187, 2, none⟩ = some (.int .i64 a1_2) ∧ w'.cell? ⟨gb187, 3, none⟩ = some (.int .i64 a1_3)) (ds := []) (tb 0 11) (by kernel_rfl) rfl rfl ⟨(blk_cell BK193.out 0).trans rfl, (blk_cell BK193.out 1).trans rfl, (blk_cell BK186.out 0).trans rfl, (blk_cell BK186.out 1).trans rfl, (blk_cell BK186.out 2).trans rfl, (blk_cell BK186.out 3).trans rfl, (blk_cell BK187.out 0).trans rfl, (blk_cell BK187.out 1).trans rfl, (blk_cell BK187.out 2).trans rfl, (blk_cell BK187.out 3).trans rfl⟩ (fun hHeld => ?_); refine with_tabW spec_imOn.tab2 spec_imOn.bits2 (fun HT_ HW_ => ?_)
  generalize w93.drew = w94 at BK186 BK187 BK188 BK189 BK193 HB hHeld ⊢
  refine tk 0 20 (tb 1 10) (hy := by rintro w' ⟨s0, s1, s2, s3, s4, s5, s6, s7, s8, s9⟩; go_simp; with_reducible rfl) (h := ?_)
  refine tk 1 21 (tb 2 9) (hy := by rintro w' ⟨s0, s1, s2, s3, s4, s5, s6, s7, s8, s9⟩; go_simp; with_reducible rfl) (h := ?_)
  refine tk 2 22 (tb 3 8) (hy := by rintro w' ⟨s0, s1, s2, s3, s4, s5, s6, s7, s8, s9⟩; go_simp; with_reducible rfl) (h := ?_)
  refine join_ (σ := Nat) 2 (tb 9 2) (fun s_ => [(23, .agg #[.int .i64 t194, .int .i64 t195]), (24, .tuple #[.agg #[.int .i64 t196, .int .i64 t197], .bool t198]), (10, .pointer (some ⟨s_, 0, none⟩)), (19, .tuple #[.agg #[.int .i64 t196, .int .i64 t197], .bool t198]), (25, .agg #[.int .i64 t196, .int .i64 t197]), (26, .bool t198)]) (fun s_ w' => (w'.cell? ⟨gb193, 0, none⟩ = some (.int .i64 t190) ∧ w'.cell? ⟨gb193, 1, none⟩ = some (.int .i64 t191) ∧ w'.cell? ⟨gb186, 0, none⟩ = some (.int .i64 a0_0) ∧ w'.cell? ⟨gb186, 1, none⟩ = some (.int .i64 a0_1) ∧ w'.cell? ⟨gb186, 2, none⟩ = some (.int .i64 a0_2) ∧ w'.cell? ⟨gb186, 3, none⟩ = some (.int .i64 a0_3) ∧ w'.cell? ⟨gb187, 0, none⟩ = some (.int .i64 a1_0) ∧ w'.cell? ⟨gb187, 1, none⟩ = some (.int .i64 a1_1) ∧ w'.cell? ⟨gb187, 2, none⟩ = some (.int .i64 a1_2) ∧ w'.cell? ⟨gb187, 3, none⟩ = some (.int .i64 a1_3)) ∧ (w'.heap[gb186]? = some (.cells #[.int .i64 a0_0, .int .i64 a0_1, .int .i64 a0_2, .int .i64 a0_3] 73 (0, 0))) ∧ (w'.heap[gb187]? = some (.cells #[.int .i64 a1_0, .int .i64 a1_1, .int .i64 a1_2, .int .i64 a1_3] 73 (0, 0))) ∧ (w'.heap[gb188]? = some (.cells #[.int .i64 a2_0, .int .i64 a2_1] 53 (0, 0))) ∧ (w'.heap[gb189]? = some (.cells #[.int .i64 0, .int .i64 0] 53 (0, 0))) ∧ (w'.heap[gb193]? = some (.cells #[.int .i64 t190, .int .i64 t191] 53 (0, 0))) ∧ (w'.heap[s_]? = some (.cells #[.int .i64 0, .int .i64 0] 53 (0, 0))) ∧ (w.heap.size ≤ s_) ∧ (w.heap.size ≤ s_) ∧ (gb186 ≠ s_) ∧ (s_ ≠ gb186) ∧ (gb187 ≠ s_) ∧ (s_ ≠ gb187) ∧ (gb188 ≠ s_) ∧ (s_ ≠ gb188) ∧ (gb189 ≠ s_) ∧ (s_ ≠ gb189) ∧ (gb193 ≠ s_) ∧ (s_ ≠ gb193) ∧ (Below w.heap.size w w')) ?_ ?_
  rotate_left
  ·intro hCont
   refine two_ (i := 3) (j := 8) (Ni := some 23) (Nj := some 10) (tb 4 7) #[true, true, true, false, false, false, false, false, true, false, false] rfl rfl rfl rfl (two_of HT_.out (by kernel_rfl)) (by decide) (by decide) (fun K hK => ?_) (fun K hK => ?_)
   ·skip
    refine gs Try.func96 #[.agg #[.int .i64 a0_0, .int .i64 a0_1, .int .i64 a0_2, .int .i64 a0_3], .agg #[.int .i64 a1_0, .int .i64 a1_1, .int .i64 a1_2, .int .i64 a1_3]] ?_
    with_reducible refine (spec_imSlope.calls k a0_0 a0_1 a0_2 a0_3 a1_0 a1_1 a1_2 a1_3 t194 t195 _ A5.out).mono ?_
    rintro e w95 ⟨rfl, hb⟩
    refine ⟨_, rfl, ?_⟩
    replace BK186 := kb BK186 hb
    replace BK187 := kb BK187 hb
    replace BK188 := kb BK188 hb
    replace BK189 := kb BK189 hb
    replace BK193 := kb BK193 hb
    replace HB := kh hb
    (try clear hb)
    (try clear hb2)
    (try clear hk)
    (try clear hi)
    refine hK.out _ _ ⟨(blk_cell BK193.out 0).trans rfl, (blk_cell BK193.out 1).trans rfl, (blk_cell BK186.out 0).trans rfl, (blk_cell BK186.out 1).trans rfl, (blk_cell BK186.out 2).trans rfl, (blk_cell BK186.out 3).trans rfl, (blk_cell BK187.out 0).trans rfl, (blk_cell BK187.out 1).trans rfl, (blk_cell BK187.out 2).trans rfl, (blk_cell BK187.out 3).trans rfl⟩ (fun hHeld => ?_)
    clear hK K
    refine nm 23 ?_
    refine two_ (i := 4) (j := 8) (Ni := some 24) (Nj := some 10) (tb 5 6) #[true, true, true, true, false, false, false, false, true, false, false] rfl rfl rfl rfl (two_of HT_.out (by kernel_rfl)) (by decide) (by decide) (fun K hK => ?_) (fun K hK => ?_)
    ·skip
     refine gs Try.func82 #[.agg #[.int .i64 t190, .int .i64 t191], .agg #[.int .i64 t194, .int .i64 t195]] ?_
     with_reducible refine (spec_raMul.calls k t190 t191 t194 t195 t196 t197 t198 _ A6.out).mono ?_
     rintro e w96 ⟨rfl, hb⟩
     refine ⟨_, rfl, ?_⟩
     replace BK186 := kb BK186 hb
     replace BK187 := kb BK187 hb
     replace BK188 := kb BK188 hb
     replace BK189 := kb BK189 hb
     replace BK193 := kb BK193 hb
     replace HB := kh hb
     (try clear hb)
     (try clear hb2)
     (try clear hk)
     (try clear hi)
     refine hK.out _ _ ⟨(blk_cell BK193.out 0).trans rfl, (blk_cell BK193.out 1).trans rfl, (blk_cell BK186.out 0).trans rfl, (blk_cell BK186.out 1).trans rfl, (blk_cell BK186.out 2).trans rfl, (blk_cell BK186.out 3).trans rfl, (blk_cell BK187.out 0).trans rfl, (blk_cell BK187.out 1).trans rfl, (blk_cell BK187.out 2).trans rfl, (blk_cell BK187.out 3).trans rfl⟩ (fun hHeld => ?_)
     clear hK K
     refine nm 24 ?_
     refine pu 5 19 (tb 6 5) ?_
     refine pu 6 25 (tb 7 4) ?_
     refine pu 7 26 (tb 8 3) ?_
     refine on 8 10 (tb 9 2) (fun K hK => ?_)
     refine box_step ?hg (N := 10) ?hd (cs := #[.int .i64 0, .int .i64 0]) (t := 53) ?hr ?_; (case hd => rfl); (case hg => rfl); (case hr => first | (go_simp; done) | (go_simp; rfl))
     intro gb199 hg w97 hbox hb
     have BK199 := Aside0.mk (hbox)
     have GW199 := Aside0.mk (bz hg)
     have GE199 := GW199
     have NB186_199 := Aside0.mk (bn gb186 hg)
     have NB199_186 := sy NB186_199
     have NB187_199 := Aside0.mk (bn gb187 hg)
     have NB199_187 := sy NB187_199
     have NB188_199 := Aside0.mk (bn gb188 hg)
     have NB199_188 := sy NB188_199
     have NB189_199 := Aside0.mk (bn gb189 hg)
     have NB199_189 := sy NB189_199
     have NB193_199 := Aside0.mk (bn gb193 hg)
     have NB199_193 := sy NB193_199
     replace BK186 := kb BK186 hb
     replace BK187 := kb BK187 hb
     replace BK188 := kb BK188 hb
     replace BK189 := kb BK189 hb
     replace BK193 := kb BK193 hb
     replace HB := kh hb
     clear hb hbox hg
     refine hK.out _ _ ⟨(blk_cell BK193.out 0).trans rfl, (blk_cell BK193.out 1).trans rfl, (blk_cell BK186.out 0).trans rfl, (blk_cell BK186.out 1).trans rfl, (blk_cell BK186.out 2).trans rfl, (blk_cell BK186.out 3).trans rfl, (blk_cell BK187.out 0).trans rfl, (blk_cell BK187.out 1).trans rfl, (blk_cell BK187.out 2).trans rfl, (blk_cell BK187.out 3).trans rfl⟩ (fun hHeld => ?_)
     clear hK K
     refine nm 10 ?_
     exact norm_ (by simp only [putAll, Act.put, List.setIfInBounds_toArray, List.set_cons_zero, List.set_cons_succ]) (hCont (gb199) _ ⟨hHeld, (bo gb186), (bo gb187), (bo gb188), (bo gb189), (bo gb193), (bo gb199), GW199.out, GE199.out, NB186_199.out, NB199_186.out, NB187_199.out, NB199_187.out, NB188_199.out, NB199_188.out, NB189_199.out, NB199_189.out, NB193_199.out, NB199_193.out, bl⟩)
    ·skip
     refine box_step ?hg (N := 10) ?hd (cs := #[.int .i64 0, .int .i64 0]) (t := 53) ?hr ?_; (case hd => rfl); (case hg => rfl); (case hr => first | (go_simp; done) | (go_simp; rfl))
     intro gb199 hg w96 hbox hb
     have BK199 := Aside0.mk (hbox)
     have GW199 := Aside0.mk (bz hg)
     have GE199 := GW199
     have NB186_199 := Aside0.mk (bn gb186 hg)
     have NB199_186 := sy NB186_199
     have NB187_199 := Aside0.mk (bn gb187 hg)
     have NB199_187 := sy NB187_199
     have NB188_199 := Aside0.mk (bn gb188 hg)
     have NB199_188 := sy NB188_199
     have NB189_199 := Aside0.mk (bn gb189 hg)
     have NB199_189 := sy NB189_199
     have NB193_199 := Aside0.mk (bn gb193 hg)
     have NB199_193 := sy NB193_199
     replace BK186 := kb BK186 hb
     replace BK187 := kb BK187 hb
     replace BK188 := kb BK188 hb
     replace BK189 := kb BK189 hb
     replace BK193 := kb BK193 hb
     replace HB := kh hb
     clear hb hbox hg
     refine hK.out _ _ ⟨(blk_cell BK193.out 0).trans rfl, (blk_cell BK193.out 1).trans rfl, (blk_cell BK186.out 0).trans rfl, (blk_cell BK186.out 1).trans rfl, (blk_cell BK186.out 2).trans rfl, (blk_cell BK186.out 3).trans rfl, (blk_cell BK187.out 0).trans rfl, (blk_cell BK187.out 1).trans rfl, (blk_cell BK187.out 2).trans rfl, (blk_cell BK187.out 3).trans rfl⟩ (fun hHeld => ?_)
     clear hK K
     refine nm 10 ?_
     refine on 4 24 #[true, true, true, true, true, false, false, false, true, false, false] (fun K hK => ?_)
     refine gs Try.func82 #[.agg #[.int .i64 t190, .int .i64 t191], .agg #[.int .i64 t194, .int .i64 t195]] ?_
     with_reducible refine (spec_raMul.calls k t190 t191 t194 t195 t196 t197 t198 _ A6.out).mono ?_
     rintro e w97 ⟨rfl, hb⟩
     refine ⟨_, rfl, ?_⟩
     replace BK186 := kb BK186 hb
     replace BK187 := kb BK187 hb
     replace BK188 := kb BK188 hb
     replace BK189 := kb BK189 hb
     replace BK193 := kb BK193 hb
     replace BK199 := kb BK199 hb
     replace HB := kh hb
     (try clear hb)
     (try clear hb2)
     (try clear hk)
     (try clear hi)
     refine hK.out _ _ ⟨(blk_cell BK193.out 0).trans rfl, (blk_cell BK193.out 1).trans rfl, (blk_cell BK186.out 0).trans rfl, (blk_cell BK186.out 1).trans rfl, (blk_cell BK186.out 2).trans rfl, (blk_cell BK186.out 3).trans rfl, (blk_cell BK187.out 0).trans rfl, (blk_cell BK187.out 1).trans rfl, (blk_cell BK187.out 2).trans rfl, (blk_cell BK187.out 3).trans rfl⟩ (fun hHeld => ?_)
     clear hK K
     refine nm 24 ?_
     refine pu 5 19 #[true, true, true, true, true, true, false, false, true, false, false] ?_
     refine pu 6 25 #[true, true, true, true, true, true, true, false, true, false, false] ?_
     refine pu 7 26 (tb 9 2) ?_
     exact norm_ (by simp only [putAll, Act.put, List.setIfInBounds_toArray, List.set_cons_zero, List.set_cons_succ]) (hCont (gb199) _ ⟨hHeld, (bo gb186), (bo gb187), (bo gb188), (bo gb189), (bo gb193), (bo gb199), GW199.out, GE199.out, NB186_199.out, NB199_186.out, NB187_199.out, NB199_187.out, NB188_199.out, NB199_188.out, NB189_199.out, NB199_189.out, NB193_199.out, NB199_193.out, bl⟩)
   ·skip
    refine box_step ?hg (N := 10) ?hd (cs := #[.int .i64 0, .int .i64 0]) (t := 53) ?hr ?_; (case hd => rfl); (case hg => rfl); (case hr => first | (go_simp; done) | (go_simp; rfl))
    intro gb199 hg w95 hbox hb
    have BK199 := Aside0.mk (hbox)
    have GW199 := Aside0.mk (bz hg)
    have GE199 := GW199
    have NB186_199 := Aside0.mk (bn gb186 hg)
    have NB199_186 := sy NB186_199
    have NB187_199 := Aside0.mk (bn gb187 hg)
    have NB199_187 := sy NB187_199
    have NB188_199 := Aside0.mk (bn gb188 hg)
    have NB199_188 := sy NB188_199
    have NB189_199 := Aside0.mk (bn gb189 hg)
    have NB199_189 := sy NB189_199
    have NB193_199 := Aside0.mk (bn gb193 hg)
    have NB199_193 := sy NB193_199
    replace BK186 := kb BK186 hb
    replace BK187 := kb BK187 hb
    replace BK188 := kb BK188 hb
    replace BK189 := kb BK189 hb
    replace BK193 := kb BK193 hb
    replace HB := kh hb
    clear hb hbox hg
    refine hK.out _ _ ⟨(blk_cell BK193.out 0).trans rfl, (blk_cell BK193.out 1).trans rfl, (blk_cell BK186.out 0).trans rfl, (blk_cell BK186.out 1).trans rfl, (blk_cell BK186.out 2).trans rfl, (blk_cell BK186.out 3).trans rfl, (blk_cell BK187.out 0).trans rfl, (blk_cell BK187.out 1).trans rfl, (blk_cell BK187.out 2).trans rfl, (blk_cell BK187.out 3).trans rfl⟩ (fun hHeld => ?_)
    clear hK K
    refine nm 10 ?_
    refine on 3 23 #[true, true, true, true, false, false, false, false, true, false, false] (fun K hK => ?_)
    refine gs Try.func96 #[.agg #[.int .i64 a0_0, .int .i64 a0_1, .int .i64 a0_2, .int .i64 a0_3], .agg #[.int .i64 a1_0, .int .i64 a1_1, .int .i64 a1_2, .int .i64 a1_3]] ?_
    with_reducible refine (spec_imSlope.calls k a0_0 a0_1 a0_2 a0_3 a1_0 a1_1 a1_2 a1_3 t194 t195 _ A5.out).mono ?_
    rintro e w96 ⟨rfl, hb⟩
    refine ⟨_, rfl, ?_⟩
    replace BK186 := kb BK186 hb
    replace BK187 := kb BK187 hb
    replace BK188 := kb BK188 hb
    replace BK189 := kb BK189 hb
    replace BK193 := kb BK193 hb
    replace BK199 := kb BK199 hb
    replace HB := kh hb
    (try clear hb)
    (try clear hb2)
    (try clear hk)
    (try clear hi)
    refine hK.out _ _ ⟨(blk_cell BK193.out 0).trans rfl, (blk_cell BK193.out 1).trans rfl, (blk_cell BK186.out 0).trans rfl, (blk_cell BK186.out 1).trans rfl, (blk_cell BK186.out 2).trans rfl, (blk_cell BK186.out 3).trans rfl, (blk_cell BK187.out 0).trans rfl, (blk_cell BK187.out 1).trans rfl, (blk_cell BK187.out 2).trans rfl, (blk_cell BK187.out 3).trans rfl⟩ (fun hHeld => ?_)
    clear hK K
    refine nm 23 ?_
    refine on 4 24 #[true, true, true, true, true, false, false, false, true, false, false] (fun K hK => ?_)
    refine gs Try.func82 #[.agg #[.int .i64 t190, .int .i64 t191], .agg #[.int .i64 t194, .int .i64 t195]] ?_
    with_reducible refine (spec_raMul.calls k t190 t191 t194 t195 t196 t197 t198 _ A6.out).mono ?_
    rintro e w97 ⟨rfl, hb⟩
    refine ⟨_, rfl, ?_⟩
    replace BK186 := kb BK186 hb
    replace BK187 := kb BK187 hb
    replace BK188 := kb BK188 hb
    replace BK189 := kb BK189 hb
    replace BK193 := kb BK193 hb
    replace BK199 := kb BK199 hb
    replace HB := kh hb
    (try clear hb)
    (try clear hb2)
    (try clear hk)
    (try clear hi)
    refine hK.out _ _ ⟨(blk_cell BK193.out 0).trans rfl, (blk_cell BK193.out 1).trans rfl, (blk_cell BK186.out 0).trans rfl, (blk_cell BK186.out 1).trans rfl, (blk_cell BK186.out 2).trans rfl, (blk_cell BK186.out 3).trans rfl, (blk_cell BK187.out 0).trans rfl, (blk_cell BK187.out 1).trans rfl, (blk_cell BK187.out 2).trans rfl, (blk_cell BK187.out 3).trans rfl⟩ (fun hHeld => ?_)
    clear hK K
    refine nm 24 ?_
    refine pu 5 19 #[true, true, true, true, true, true, false, false, true, false, false] ?_
    refine pu 6 25 #[true, true, true, true, true, true, true, false, true, false, false] ?_
    refine pu 7 26 (tb 9 2) ?_
    exact norm_ (by simp only [putAll, Act.put, List.setIfInBounds_toArray, List.set_cons_zero, List.set_cons_succ]) (hCont (gb199) _ ⟨hHeld, (bo gb186), (bo gb187), (bo gb188), (bo gb189), (bo gb193), (bo gb199), GW199.out, GE199.out, NB186_199.out, NB199_186.out, NB187_199.out, NB199_187.out, NB188_199.out, NB199_188.out, NB189_199.out, NB199_189.out, NB193_199.out, NB199_193.out, bl⟩)
  rintro gb199 w98 ⟨hS_, h0_, h1_, h2_, h3_, h4_, h5_, h6_, h7_, h8_, h9_, h10_, h11_, h12_, h13_, h14_, h15_, h16_, h17_, h18_⟩
  have n0_ : Aside0 (w98.heap[gb186]? = some (.cells #[.int .i64 a0_0, .int .i64 a0_1, .int .i64 a0_2, .int .i64 a0_3] 73 (0, 0))) := ⟨h0_⟩
  have n1_ : Aside0 (w98.heap[gb187]? = some (.cells #[.int .i64 a1_0, .int .i64 a1_1, .int .i64 a1_2, .int .i64 a1_3] 73 (0, 0))) := ⟨h1_⟩
  have n2_ : Aside0 (w98.heap[gb188]? = some (.cells #[.int .i64 a2_0, .int .i64 a2_1] 53 (0, 0))) := ⟨h2_⟩
  have n3_ : Aside0 (w98.heap[gb189]? = some (.cells #[.int .i64 0, .int .i64 0] 53 (0, 0))) := ⟨h3_⟩
  have n4_ : Aside0 (w98.heap[gb193]? = some (.cells #[.int .i64 t190, .int .i64 t191] 53 (0, 0))) := ⟨h4_⟩
  have n5_ : Aside0 (w98.heap[gb199]? = some (.cells #[.int .i64 0, .int .i64 0] 53 (0, 0))) := ⟨h5_⟩
  have n6_ : Aside0 (w.heap.size ≤ gb199) := ⟨h6_⟩
  have n7_ : Aside0 (w.heap.size ≤ gb199) := ⟨h7_⟩
  have n8_ : Aside0 (gb186 ≠ gb199) := ⟨h8_⟩
  have n9_ : Aside0 (gb199 ≠ gb186) := ⟨h9_⟩
  have n10_ : Aside0 (gb187 ≠ gb199) := ⟨h10_⟩
  have n11_ : Aside0 (gb199 ≠ gb187) := ⟨h11_⟩
  have n12_ : Aside0 (gb188 ≠ gb199) := ⟨h12_⟩
  have n13_ : Aside0 (gb199 ≠ gb188) := ⟨h13_⟩
  have n14_ : Aside0 (gb189 ≠ gb199) := ⟨h14_⟩
  have n15_ : Aside0 (gb199 ≠ gb189) := ⟨h15_⟩
  have n16_ : Aside0 (gb193 ≠ gb199) := ⟨h16_⟩
  have n17_ : Aside0 (gb199 ≠ gb193) := ⟨h17_⟩
  have n18_ : Aside0 (Below w.heap.size w w98) := ⟨h18_⟩
  clear BK186
  clear BK187
  clear BK188
  clear BK189
  clear BK193
  clear HB
  clear h0_ h1_ h2_ h3_ h4_ h5_ h6_ h7_ h8_ h9_ h10_ h11_ h12_ h13_ h14_ h15_ h16_ h17_ h18_
  have BK186 := n0_
  have BK187 := n1_
  have BK188 := n2_
  have BK189 := n3_
  have BK193 := n4_
  have BK199 := n5_
  have GW199 := n6_
  have GE199 := n7_
  have NB186_199 := n8_
  have NB199_186 := n9_
  have NB187_199 := n10_
  have NB199_187 := n11_
  have NB188_199 := n12_
  have NB199_188 := n13_
  have NB189_199 := n14_
  have NB199_189 := n15_
  have NB193_199 := n16_
  have NB199_193 := n17_
  have HB := n18_
  clear n0_ n1_ n2_ n3_ n4_ n5_ n6_ n7_ n8_ n9_ n10_ n11_ n12_ n13_ n14_ n15_ n16_ n17_ n18_
  have hHeld : w98.cell? ⟨gb193, 0, none⟩ = some (.int .i64 t190) ∧ w98.cell? ⟨gb193, 1, none⟩ = some (.int .i64 t191) ∧ w98.cell? ⟨gb186, 0, none⟩ = some (.int .i64 a0_0) ∧ w98.cell? ⟨gb186, 1, none⟩ = some (.int .i64 a0_1) ∧ w98.cell? ⟨gb186, 2, none⟩ = some (.int .i64 a0_2) ∧ w98.cell? ⟨gb186, 3, none⟩ = some (.int .i64 a0_3) ∧ w98.cell? ⟨gb187, 0, none⟩ = some (.int .i64 a1_0) ∧ w98.cell? ⟨gb187, 1, none⟩ = some (.int .i64 a1_1) ∧ w98.cell? ⟨gb187, 2, none⟩ = some (.int .i64 a1_2) ∧ w98.cell? ⟨gb187, 3, none⟩ = some (.int .i64 a1_3) := hS_
  refine norm_ (a' := ?_) ?_ ?_
  rotate_left
  ·simp only [putAll, Act.put, List.setIfInBounds_toArray, List.set_cons_zero, List.set_cons_succ]
   rfl
  refine one_ (i := 9) (N := none) (tb 10 1) rfl rfl (one_of HT_.out (by kernel_rfl)) (by decide) (fun K hK => ?_)
  have hs99 : w98.cell? ⟨gb199, 0, none⟩ = some (.int .i64 0) := (blk_cell BK199.out 0).trans rfl
  have hfs99 := blk_frozen BK199.out 0
  have hns99_0 := NB186_199.out
  have hns99_1 := NB187_199.out
  have hns99_2 := NB188_199.out
  have hns99_3 := NB189_199.out
  have hns99_4 := NB193_199.out
  have hms99_0 := NB199_186.out
  have hms99_1 := NB199_187.out
  have hms99_2 := NB199_188.out
  have hms99_3 := NB199_189.out
  have hms99_4 := NB199_193.out
  have hs100 : w98.cell? ⟨gb199, 1, none⟩ = some (.int .i64 0) := (blk_cell BK199.out 1).trans rfl
  have hfs100 := blk_frozen BK199.out 1
  have hns100_0 := NB186_199.out
  have hns100_1 := NB187_199.out
  have hns100_2 := NB188_199.out
  have hns100_3 := NB189_199.out
  have hns100_4 := NB193_199.out
  have hms100_0 := NB199_186.out
  have hms100_1 := NB199_187.out
  have hms100_2 := NB199_188.out
  have hms100_3 := NB199_189.out
  have hms100_4 := NB199_193.out
  refine skip_ (w1 := ?_) (by rfl) rfl ?_ ?_
  rotate_left
  ·go_simp
   rfl
  refine hK.out _ _ ⟨(by (iterate 2 refine (cell_far (p := ⟨gb199, _, none⟩) NB193_199.out _).trans ?_); exact hHeld.1), (by (iterate 2 refine (cell_far (p := ⟨gb199, _, none⟩) NB193_199.out _).trans ?_); exact hHeld.2.1), (by (iterate 2 refine (cell_far (p := ⟨gb199, _, none⟩) NB186_199.out _).trans ?_); exact hHeld.2.2.1), (by (iterate 2 refine (cell_far (p := ⟨gb199, _, none⟩) NB186_199.out _).trans ?_); exact hHeld.2.2.2.1), (by (iterate 2 refine (cell_far (p := ⟨gb199, _, none⟩) NB186_199.out _).trans ?_); exact hHeld.2.2.2.2.1), (by (iterate 2 refine (cell_far (p := ⟨gb199, _, none⟩) NB186_199.out _).trans ?_); exact hHeld.2.2.2.2.2.1), (by (iterate 2 refine (cell_far (p := ⟨gb199, _, none⟩) NB187_199.out _).trans ?_); exact hHeld.2.2.2.2.2.2.1), (by (iterate 2 refine (cell_far (p := ⟨gb199, _, none⟩) NB187_199.out _).trans ?_); exact hHeld.2.2.2.2.2.2.2.1), (by (iterate 2 refine (cell_far (p := ⟨gb199, _, none⟩) NB187_199.out _).trans ?_); exact hHeld.2.2.2.2.2.2.2.2.1), (by (iterate 2 refine (cell_far (p := ⟨gb199, _, none⟩) NB187_199.out _).trans ?_); exact hHeld.2.2.2.2.2.2.2.2.2)⟩ (fun hHeld => ?_)
  clear hK K
  refine pu 10 11 (tb 11 0) ?_
  refine done_ (done_of HT_.out (by kernel_rfl)) ?_
  have hnb101 := NB189_187.out
  have hnc101 := NB187_189.out
  have hnb102 := NB189_199.out
  have hnc102 := NB199_189.out
  obtain ⟨hcz103_0, hcz103_1, hfz103_0, hfz103_1⟩ := b2 BK189
  try go_wp2
  refine bodyPost_ret (results_ct rfl _ _ gb189 53 #[.int .i64 0, .int .i64 0] (0, 0) _ rfl (by (with_reducible repeat (first | refine blk_drewN ?_ _ | refine blk_drew ?_ | refine blk_alloc ?_ _)); refine blk_put (cs := #[.int .i64 0, .int .i64 0]) ?_ 1 _ rfl; (with_reducible repeat (first | refine blk_drewN ?_ _ | refine blk_drew ?_ | refine blk_alloc ?_ _)); refine blk_put (cs := #[.int .i64 0, .int .i64 0]) ?_ 0 _ rfl; (with_reducible repeat (first | refine blk_drewN ?_ _ | refine blk_drew ?_ | refine blk_alloc ?_ _)); refine blk_far ?_ NB189_199.out _; (with_reducible repeat (first | refine blk_drewN ?_ _ | refine blk_drew ?_ | refine blk_alloc ?_ _)); refine blk_far ?_ NB189_199.out _; (with_reducible repeat (first | refine blk_drewN ?_ _ | refine blk_drew ?_ | refine blk_alloc ?_ _)); exact BK189.out) Try.underlying53 rfl (by kernel_rfl)) rfl ?_
  exact ⟨rt, bl⟩

end Go.Proofs.Ytannadjfkaghjaa.PFnExactIsRepelling
