-- Written by this session's program wip/pp (the kit's print tool with additions) 35421559b90ae4d0a3588c463048766b98c2df88dd9212a6774a882060cdf62d
import Derived.Test.YtmecnnnagallnaaPFnExactLeastSlopex0
import Derived.Test.YtmecnnnagallnaaPFnExactLeastSlopex7
import Derived.Test.YtmecnnnagallnaaPFnExactLeastSlopex10
import Derived.Test.YtmecnnnagallnaaPFnExactLeastSlopex11
namespace Go.Proofs.Ytmecnnnagallnaa.PFnExactLeastSlope
open Go.RowKit Go.Proofs.YtmecnnnagallnaaW.PrintWords Go.Proofs.YtmecnnnagallnaaW.PrintLast Go.Proofs.YtmecnnnagallnaaW.PrintMore
attribute [local go_sem] max2_int min2_int max_two min_two max_three min_three max_four min_four   -- for this text's walks alone
set_option linter.unusedVariables false
set_option linter.unusedSimpArgs false

/-! ### impl_DivideRats: function 138 -/
def impl_DivideRats.f (k : Nat) (a0_0 : Int) (a0_1 : Int) (a1_0 : Int) (a1_1 : Int) : Option (Int × Int × Bool) := (impl_areRats.f k (([(⟨a0_0, a0_1⟩ : S28), (⟨a1_0, a1_1⟩ : S28)] : List (S28)))).bind fun t322 => (if t322 = true then (if a1_0 = 0 then (some (0, 0, false)) else ((impl_lowest.f k (wrap64 (a0_0 * a1_1)) (wrap64 (a0_1 * a1_0))).bind fun bt323 => (some (bt323.1, bt323.2.1, bt323.2.2)))) else (some (0, 0, false)))
set_option maxHeartbeats 8000000 in
set_option maxRecDepth 100000 in
theorem impl_DivideRats.calls (k : Nat) (a0_0 : Int) (a0_1 : Int) (a1_0 : Int) (a1_1 : Int) (r1 : Int) (r2 : Int) (r3 : Bool) (w : World) (h : impl_DivideRats.f k a0_0 a0_1 a1_0 a1_1 = some (r1, r2, r3)) :
  Calls Try.prog 138 #[.agg #[.int .i64 a0_0, .int .i64 a0_1], .agg #[.int .i64 a1_0, .int .i64 a1_1]] w fun e w' => e = .returned (.tuple #[.agg #[.int .i64 r1, .int .i64 r2], .bool r3]) ∧ Below w.heap.size w w' := by
 have hu28 := Try.underlying28
 have HB := Aside0.mk (Below.refl w.heap.size w)
 have H : ((impl_areRats.f k (([(⟨a0_0, a0_1⟩ : S28), (⟨a1_0, a1_1⟩ : S28)] : List (S28)))).bind fun t322 => (if t322 = true then (if a1_0 = 0 then (some (0, 0, false)) else ((impl_lowest.f k (wrap64 (a0_0 * a1_1)) (wrap64 (a0_1 * a1_0))).bind fun bt323 => (some (bt323.1, bt323.2.1, bt323.2.2)))) else (some (0, 0, false)))) = some (r1, r2, r3) := h
 clear h
 obtain ⟨y319, hy319⟩ : ∃ y_ : List (S28), y_ = (([(⟨a0_0, a0_1⟩ : S28), (⟨a1_0, a1_1⟩ : S28)] : List (S28))) := ⟨_, rfl⟩
 replace H : ((impl_areRats.f k y319).bind fun t322 => (if t322 = true then (if a1_0 = 0 then (some (0, 0, false)) else ((impl_lowest.f k (wrap64 (a0_0 * a1_1)) (wrap64 (a0_1 * a1_0))).bind fun bt323 => (some (bt323.1, bt323.2.1, bt323.2.2)))) else (some (0, 0, false)))) = some (r1, r2, r3) := by first | (rw [hy319]; with_reducible exact H) | (have H2_ := (Option.bind_some _ _).symm.trans H; rw [hy319]; with_reducible exact H2_) | (have H2_ := (Option.bind_some _ _).symm.trans H; with_reducible exact H2_) | with_reducible exact H | (rw [hy319]; exact H) | exact H
 have Ny319 := Aside0.mk hy319
 clear hy319
 replace H := Option.bind_eq_some_iff.mp H
 obtain ⟨t322, A30, H⟩ := H
 replace H : (if t322 = true then (if a1_0 = 0 then (some (0, 0, false)) else ((impl_lowest.f k (wrap64 (a0_0 * a1_1)) (wrap64 (a0_1 * a1_0))).bind fun bt323 => (some (bt323.1, bt323.2.1, bt323.2.2)))) else (some (0, 0, false))) = some (r1, r2, r3) := H
 have A3 := Aside0.mk A30
 clear A30
 by_cases c4 : t322 = true
 ·subst c4
  have H1 : (if a1_0 = 0 then (some (0, 0, false)) else ((impl_lowest.f k (wrap64 (a0_0 * a1_1)) (wrap64 (a0_1 * a1_0))).bind fun bt323 => (some (bt323.1, bt323.2.1, bt323.2.2)))) = some (r1, r2, r3) := by rw [if_pos rfl] at H; exact H
  clear H
  have H := H1
  clear H1
  by_cases c5 : a1_0 = 0
  ·rw [if_pos c5] at H
   have c5b0 : (a1_0 == 0) = true := beq_iff_eq.mpr c5
   have c5b1 : (a1_0 != 0) = false := bne_eq_false_iff_eq.mpr c5
   clear c5
   simp only [Option.some.injEq, Prod.mk.injEq] at H
   obtain ⟨rfl, rfl, rfl⟩ := H
   go_enter Try.func138, Try.ntmps138
   go_wp2_with (first | ((with_reducible refine gate_dst (N := 2) rfl ?_); refine bx 2 #[.int .i64 a0_0, .int .i64 a0_1] 28 ?_; intro gb316 hg w6 hbox hb; have BK316 := Aside0.mk (hbox); have GW316 := Aside0.mk (bz hg); have GE316 := GW316; replace HB := Aside0.mk (bs hb); clear hb hbox hg) | ((with_reducible refine gate_dst (N := 3) rfl ?_); refine bx 3 #[.int .i64 a1_0, .int .i64 a1_1] 28 ?_; intro gb317 hg w7 hbox hb; have BK317 := Aside0.mk (hbox); have GW317 := Aside0.mk (bz hg); have GE317 := GW317; have NB316_317 := Aside0.mk (bn gb316 hg); have NB317_316 := Aside0.mk NB316_317.out.symm; replace BK316 := Aside0.mk (bb gb316 hb); replace HB := Aside0.mk (bs hb); clear hb hbox hg) | ((with_reducible refine gate_dst (N := 4) rfl ?_); refine bx 4 #[.int .i64 0, .int .i64 0] 28 ?_; intro gb318 hg w8 hbox hb; have BK318 := Aside0.mk (hbox); have GW318 := Aside0.mk (bz hg); have GE318 := GW318; have NB316_318 := Aside0.mk (bn gb316 hg); have NB318_316 := Aside0.mk NB316_318.out.symm; have NB317_318 := Aside0.mk (bn gb317 hg); have NB318_317 := Aside0.mk NB317_318.out.symm; replace BK316 := Aside0.mk (bb gb316 hb); replace BK317 := Aside0.mk (bb gb317 hb); replace HB := Aside0.mk (bs hb); clear hb hbox hg; have hnb9 := NB316_317.out; have hnc9 := NB317_316.out; have hnb10 := NB316_318.out; have hnc10 := NB318_316.out; have hcz11_0 : w8.cell? ⟨gb316, 0, none⟩ = some (.int .i64 a0_0) := (blk_cell BK316.out 0).trans rfl; have hcz11_1 : w8.cell? ⟨gb316, 1, none⟩ = some (.int .i64 a0_1) := (blk_cell BK316.out 1).trans rfl; have hfz11_0 := blk_frozen BK316.out 0; have hfz11_1 := blk_frozen BK316.out 1; have hnb12 := NB317_318.out; have hnc12 := NB318_317.out; have hcz13_0 : w8.cell? ⟨gb317, 0, none⟩ = some (.int .i64 a1_0) := (blk_cell BK317.out 0).trans rfl; have hcz13_1 : w8.cell? ⟨gb317, 1, none⟩ = some (.int .i64 a1_1) := (blk_cell BK317.out 1).trans rfl; have hfz13_0 := blk_frozen BK317.out 0; have hfz13_1 := blk_frozen BK317.out 1) | ((with_reducible refine gate_dst (N := 8) rfl ?_); refine Kd.R_lit k28 _ 28 ?hg (N := 8) ?hd (xs := ([(⟨a0_0, a0_1⟩ : S28), (⟨a1_0, a1_1⟩ : S28)] : List (S28))) (inner := [.int .i64 a0_0, .int .i64 a0_1, .int .i64 a1_0, .int .i64 a1_1]) (ok := fun _ => True) (okp := fun _ => True) ?hr ?hp (fun _ hk => hk) trivial (Below.refl _ _) (Nat.le_refl _) (by simp) ?_; (case hd => rfl); (case hg => rfl); (case hr => first | (go_simp; done) | (go_simp; rfl)); (case hp => exact (Reps.c2 (show Kd.M k28 _ _ _ (⟨a0_0, a0_1⟩ : S28) [.int .i64 a0_0, .int .i64 a0_1] from (k28_mkM _ _ _ (⟨a0_0, a0_1⟩ : S28) )) (Reps.c2 (show Kd.M k28 _ _ _ (⟨a1_0, a1_1⟩ : S28) [.int .i64 a1_0, .int .i64 a1_1] from (k28_mkM _ _ _ (⟨a1_0, a1_1⟩ : S28) )) (Reps.none _ _)))); intro v320 w14 ho15 hb hg_ hnew_; clear hg_ hnew_; (first | rw [← Ny319.out] at ho15 | (simp only [Int.reduceToNat] at ho15; rw [← Ny319.out] at ho15)); have HO321 := Aside0.mk (Kd.R_lower (Kd.R_newB (Kd.R_newB (Kd.R_newB ho15 (g := gb316) (o := .cells #[.int .i64 a0_0, .int .i64 a0_1] 28 (0, 0)) (bo gb316)) (g := gb317) (o := .cells #[.int .i64 a1_0, .int .i64 a1_1] 28 (0, 0)) (bo gb317)) (g := gb318) (o := .cells #[.int .i64 0, .int .i64 0] 28 (0, 0)) (bo gb318)) (below_size bl)); replace BK316 := Aside0.mk (bb gb316 hb); replace BK317 := Aside0.mk (bb gb317 hb); replace BK318 := Aside0.mk (bb gb318 hb); replace HB := Aside0.mk (bs hb); clear hb ho15; obtain ⟨Ao16, co16, eo16⟩ := Kd.R_slice HO321.out; subst eo16) | ((with_reducible refine gate_callee (f := 139) rfl ?_); refine gl 9 Try.func139 #[.slice Ao16 y319.length co16] ?_; (with_reducible refine (impl_areRats.calls k _ _ y319 true _ ?side1 ?side2 A3.out).mono ?_); (case side1 => repeat (first | exact (Kd.R_reads' HO321.out).2.2 | (with_reducible refine Kd.C_alloc ?_ _) | (with_reducible refine Kd.C_drewN ?_ _) | (with_reducible refine Kd.C_drew ?_))); (case side2 => exact (Kd.R_reads' HO321.out).2.1); rintro e w17 ⟨rfl, hb⟩; refine ⟨_, rfl, ?_⟩; replace HO321 := Aside0.mk (Kd.R_below (by (with_reducible repeat (first | apply Kd.R_alloc | apply Kd.R_drewN | apply Kd.R_drew)); exact HO321.out) hb); replace BK316 := Aside0.mk (bb gb316 hb); replace BK317 := Aside0.mk (bb gb317 hb); replace BK318 := Aside0.mk (bb gb318 hb); replace HB := Aside0.mk (bs hb); (try clear hb); (try clear hb2); (try clear hk); (try clear hi); have hcz18_0 : w17.cell? ⟨gb317, 0, none⟩ = some (.int .i64 a1_0) := (blk_cell BK317.out 0).trans rfl; have hcz18_1 : w17.cell? ⟨gb317, 1, none⟩ = some (.int .i64 a1_1) := (blk_cell BK317.out 1).trans rfl; have hfz18_0 := blk_frozen BK317.out 0; have hfz18_1 := blk_frozen BK317.out 1; have hcz19_0 : w17.cell? ⟨gb318, 0, none⟩ = some (.int .i64 0) := (blk_cell BK318.out 0).trans rfl; have hcz19_1 : w17.cell? ⟨gb318, 1, none⟩ = some (.int .i64 0) := (blk_cell BK318.out 1).trans rfl; have hfz19_0 := blk_frozen BK318.out 0; have hfz19_1 := blk_frozen BK318.out 1))
   refine bodyPost_ret (results_ct rfl _ _ gb318 28 #[.int .i64 0, .int .i64 0] (0, 0) _ rfl (by (with_reducible repeat (first | refine blk_drewN ?_ _ | refine blk_drew ?_ | refine blk_alloc ?_ _)); refine blk_put (cs := #[.int .i64 0, .int .i64 0]) ?_ 1 _ rfl; (with_reducible repeat (first | refine blk_drewN ?_ _ | refine blk_drew ?_ | refine blk_alloc ?_ _)); refine blk_put (cs := #[.int .i64 0, .int .i64 0]) ?_ 0 _ rfl; (with_reducible repeat (first | refine blk_drewN ?_ _ | refine blk_drew ?_ | refine blk_alloc ?_ _)); exact BK318.out) Try.underlying28 rfl (by kernel_rfl)) rfl ?_
   exact ⟨by first | rfl | (simp [errW_none, errW_some] <;> rfl) | (simp [*, errW_none, errW_some] <;> rfl), bl⟩
  ·rw [if_neg c5] at H
   have c5b0 : (a1_0 == 0) = false := beq_eq_false_iff_ne.mpr c5
   have c5b1 : (a1_0 != 0) = true := bne_iff_ne.mpr c5
   replace H := Option.bind_eq_some_iff.mp H
   obtain ⟨⟨t323, t324, t325⟩, A200, H⟩ := H
   replace H : (some (t323, t324, t325)) = some (r1, r2, r3) := H
   have A20 := Aside0.mk A200
   clear A200
   simp only [Option.some.injEq, Prod.mk.injEq] at H
   obtain ⟨rfl, rfl, rfl⟩ := H
   go_enter Try.func138, Try.ntmps138
   go_wp2_with (first | ((with_reducible refine gate_dst (N := 2) rfl ?_); refine bx 2 #[.int .i64 a0_0, .int .i64 a0_1] 28 ?_; intro gb316 hg w21 hbox hb; have BK316 := Aside0.mk (hbox); have GW316 := Aside0.mk (bz hg); have GE316 := GW316; replace HB := Aside0.mk (bs hb); clear hb hbox hg) | ((with_reducible refine gate_dst (N := 3) rfl ?_); refine bx 3 #[.int .i64 a1_0, .int .i64 a1_1] 28 ?_; intro gb317 hg w22 hbox hb; have BK317 := Aside0.mk (hbox); have GW317 := Aside0.mk (bz hg); have GE317 := GW317; have NB316_317 := Aside0.mk (bn gb316 hg); have NB317_316 := Aside0.mk NB316_317.out.symm; replace BK316 := Aside0.mk (bb gb316 hb); replace HB := Aside0.mk (bs hb); clear hb hbox hg) | ((with_reducible refine gate_dst (N := 4) rfl ?_); refine bx 4 #[.int .i64 0, .int .i64 0] 28 ?_; intro gb318 hg w23 hbox hb; have BK318 := Aside0.mk (hbox); have GW318 := Aside0.mk (bz hg); have GE318 := GW318; have NB316_318 := Aside0.mk (bn gb316 hg); have NB318_316 := Aside0.mk NB316_318.out.symm; have NB317_318 := Aside0.mk (bn gb317 hg); have NB318_317 := Aside0.mk NB317_318.out.symm; replace BK316 := Aside0.mk (bb gb316 hb); replace BK317 := Aside0.mk (bb gb317 hb); replace HB := Aside0.mk (bs hb); clear hb hbox hg; have hnb24 := NB316_317.out; have hnc24 := NB317_316.out; have hnb25 := NB316_318.out; have hnc25 := NB318_316.out; have hcz26_0 : w23.cell? ⟨gb316, 0, none⟩ = some (.int .i64 a0_0) := (blk_cell BK316.out 0).trans rfl; have hcz26_1 : w23.cell? ⟨gb316, 1, none⟩ = some (.int .i64 a0_1) := (blk_cell BK316.out 1).trans rfl; have hfz26_0 := blk_frozen BK316.out 0; have hfz26_1 := blk_frozen BK316.out 1; have hnb27 := NB317_318.out; have hnc27 := NB318_317.out; have hcz28_0 : w23.cell? ⟨gb317, 0, none⟩ = some (.int .i64 a1_0) := (blk_cell BK317.out 0).trans rfl; have hcz28_1 : w23.cell? ⟨gb317, 1, none⟩ = some (.int .i64 a1_1) := (blk_cell BK317.out 1).trans rfl; have hfz28_0 := blk_frozen BK317.out 0; have hfz28_1 := blk_frozen BK317.out 1) | ((with_reducible refine gate_dst (N := 8) rfl ?_); refine Kd.R_lit k28 _ 28 ?hg (N := 8) ?hd (xs := ([(⟨a0_0, a0_1⟩ : S28), (⟨a1_0, a1_1⟩ : S28)] : List (S28))) (inner := [.int .i64 a0_0, .int .i64 a0_1, .int .i64 a1_0, .int .i64 a1_1]) (ok := fun _ => True) (okp := fun _ => True) ?hr ?hp (fun _ hk => hk) trivial (Below.refl _ _) (Nat.le_refl _) (by simp) ?_; (case hd => rfl); (case hg => rfl); (case hr => first | (go_simp; done) | (go_simp; rfl)); (case hp => exact (Reps.c2 (show Kd.M k28 _ _ _ (⟨a0_0, a0_1⟩ : S28) [.int .i64 a0_0, .int .i64 a0_1] from (k28_mkM _ _ _ (⟨a0_0, a0_1⟩ : S28) )) (Reps.c2 (show Kd.M k28 _ _ _ (⟨a1_0, a1_1⟩ : S28) [.int .i64 a1_0, .int .i64 a1_1] from (k28_mkM _ _ _ (⟨a1_0, a1_1⟩ : S28) )) (Reps.none _ _)))); intro v320 w29 ho30 hb hg_ hnew_; clear hg_ hnew_; (first | rw [← Ny319.out] at ho30 | (simp only [Int.reduceToNat] at ho30; rw [← Ny319.out] at ho30)); have HO321 := Aside0.mk (Kd.R_lower (Kd.R_newB (Kd.R_newB (Kd.R_newB ho30 (g := gb316) (o := .cells #[.int .i64 a0_0, .int .i64 a0_1] 28 (0, 0)) (bo gb316)) (g := gb317) (o := .cells #[.int .i64 a1_0, .int .i64 a1_1] 28 (0, 0)) (bo gb317)) (g := gb318) (o := .cells #[.int .i64 0, .int .i64 0] 28 (0, 0)) (bo gb318)) (below_size bl)); replace BK316 := Aside0.mk (bb gb316 hb); replace BK317 := Aside0.mk (bb gb317 hb); replace BK318 := Aside0.mk (bb gb318 hb); replace HB := Aside0.mk (bs hb); clear hb ho30; obtain ⟨Ao31, co31, eo31⟩ := Kd.R_slice HO321.out; subst eo31) | ((with_reducible refine gate_callee (f := 139) rfl ?_); refine gl 9 Try.func139 #[.slice Ao31 y319.length co31] ?_; (with_reducible refine (impl_areRats.calls k _ _ y319 true _ ?side1 ?side2 A3.out).mono ?_); (case side1 => repeat (first | exact (Kd.R_reads' HO321.out).2.2 | (with_reducible refine Kd.C_alloc ?_ _) | (with_reducible refine Kd.C_drewN ?_ _) | (with_reducible refine Kd.C_drew ?_))); (case side2 => exact (Kd.R_reads' HO321.out).2.1); rintro e w32 ⟨rfl, hb⟩; refine ⟨_, rfl, ?_⟩; replace HO321 := Aside0.mk (Kd.R_below (by (with_reducible repeat (first | apply Kd.R_alloc | apply Kd.R_drewN | apply Kd.R_drew)); exact HO321.out) hb); replace BK316 := Aside0.mk (bb gb316 hb); replace BK317 := Aside0.mk (bb gb317 hb); replace BK318 := Aside0.mk (bb gb318 hb); replace HB := Aside0.mk (bs hb); (try clear hb); (try clear hb2); (try clear hk); (try clear hi); have hcz33_0 : w32.cell? ⟨gb317, 0, none⟩ = some (.int .i64 a1_0) := (blk_cell BK317.out 0).trans rfl; have hcz33_1 : w32.cell? ⟨gb317, 1, none⟩ = some (.int .i64 a1_1) := (blk_cell BK317.out 1).trans rfl; have hfz33_0 := blk_frozen BK317.out 0; have hfz33_1 := blk_frozen BK317.out 1; have hcz34_0 : w32.cell? ⟨gb316, 0, none⟩ = some (.int .i64 a0_0) := (blk_cell BK316.out 0).trans rfl; have hcz34_1 : w32.cell? ⟨gb316, 1, none⟩ = some (.int .i64 a0_1) := (blk_cell BK316.out 1).trans rfl; have hfz34_0 := blk_frozen BK316.out 0; have hfz34_1 := blk_frozen BK316.out 1) | ((with_reducible refine gate_callee (f := 140) rfl ?_); refine gl 27 Try.func140 #[.int .i64 (wrap64 (a0_0 * a1_1)), .int .i64 (wrap64 (a0_1 * a1_0))] ?_; (with_reducible refine (impl_lowest.calls k (wrap64 (a0_0 * a1_1)) (wrap64 (a0_1 * a1_0)) t323 t324 t325 _ A20.out).mono ?_); rintro e w35 ⟨rfl, hb⟩; refine ⟨_, rfl, ?_⟩; replace HO321 := Aside0.mk (Kd.R_below (by (with_reducible repeat (first | apply Kd.R_alloc | apply Kd.R_drewN | apply Kd.R_drew)); exact HO321.out) hb); replace BK316 := Aside0.mk (bb gb316 hb); replace BK317 := Aside0.mk (bb gb317 hb); replace BK318 := Aside0.mk (bb gb318 hb); replace HB := Aside0.mk (bs hb); (try clear hb); (try clear hb2); (try clear hk); (try clear hi); have hcz36_0 : w35.cell? ⟨gb318, 0, none⟩ = some (.int .i64 0) := (blk_cell BK318.out 0).trans rfl; have hcz36_1 : w35.cell? ⟨gb318, 1, none⟩ = some (.int .i64 0) := (blk_cell BK318.out 1).trans rfl; have hfz36_0 := blk_frozen BK318.out 0; have hfz36_1 := blk_frozen BK318.out 1))
   refine bodyPost_ret (results_ct rfl _ _ gb318 28 #[.int .i64 t323, .int .i64 t324] (0, 0) _ rfl (by (with_reducible repeat (first | refine blk_drewN ?_ _ | refine blk_drew ?_ | refine blk_alloc ?_ _)); refine blk_put (cs := #[.int .i64 t323, .int .i64 0]) ?_ 1 _ rfl; (with_reducible repeat (first | refine blk_drewN ?_ _ | refine blk_drew ?_ | refine blk_alloc ?_ _)); refine blk_put (cs := #[.int .i64 0, .int .i64 0]) ?_ 0 _ rfl; (with_reducible repeat (first | refine blk_drewN ?_ _ | refine blk_drew ?_ | refine blk_alloc ?_ _)); exact BK318.out) Try.underlying28 rfl (by kernel_rfl)) rfl ?_
   exact ⟨by first | rfl | (simp [errW_none, errW_some] <;> rfl) | (simp [*, errW_none, errW_some] <;> rfl), bl⟩
 ·replace c4 := Bool.eq_false_iff.mpr c4
  subst c4
  have H1 : (some (0, 0, false)) = some (r1, r2, r3) := by rw [if_neg (show ¬ (false = true) by decide)] at H; exact H
  clear H
  have H := H1
  clear H1
  simp only [Option.some.injEq, Prod.mk.injEq] at H
  obtain ⟨rfl, rfl, rfl⟩ := H
  go_enter Try.func138, Try.ntmps138
  go_wp2_with (first | ((with_reducible refine gate_dst (N := 2) rfl ?_); refine bx 2 #[.int .i64 a0_0, .int .i64 a0_1] 28 ?_; intro gb316 hg w37 hbox hb; have BK316 := Aside0.mk (hbox); have GW316 := Aside0.mk (bz hg); have GE316 := GW316; replace HB := Aside0.mk (bs hb); clear hb hbox hg) | ((with_reducible refine gate_dst (N := 3) rfl ?_); refine bx 3 #[.int .i64 a1_0, .int .i64 a1_1] 28 ?_; intro gb317 hg w38 hbox hb; have BK317 := Aside0.mk (hbox); have GW317 := Aside0.mk (bz hg); have GE317 := GW317; have NB316_317 := Aside0.mk (bn gb316 hg); have NB317_316 := Aside0.mk NB316_317.out.symm; replace BK316 := Aside0.mk (bb gb316 hb); replace HB := Aside0.mk (bs hb); clear hb hbox hg) | ((with_reducible refine gate_dst (N := 4) rfl ?_); refine bx 4 #[.int .i64 0, .int .i64 0] 28 ?_; intro gb318 hg w39 hbox hb; have BK318 := Aside0.mk (hbox); have GW318 := Aside0.mk (bz hg); have GE318 := GW318; have NB316_318 := Aside0.mk (bn gb316 hg); have NB318_316 := Aside0.mk NB316_318.out.symm; have NB317_318 := Aside0.mk (bn gb317 hg); have NB318_317 := Aside0.mk NB317_318.out.symm; replace BK316 := Aside0.mk (bb gb316 hb); replace BK317 := Aside0.mk (bb gb317 hb); replace HB := Aside0.mk (bs hb); clear hb hbox hg; have hnb40 := NB316_317.out; have hnc40 := NB317_316.out; have hnb41 := NB316_318.out; have hnc41 := NB318_316.out; have hcz42_0 : w39.cell? ⟨gb316, 0, none⟩ = some (.int .i64 a0_0) := (blk_cell BK316.out 0).trans rfl; have hcz42_1 : w39.cell? ⟨gb316, 1, none⟩ = some (.int .i64 a0_1) := (blk_cell BK316.out 1).trans rfl; have hfz42_0 := blk_frozen BK316.out 0; have hfz42_1 := blk_frozen BK316.out 1; have hnb43 := NB317_318.out; have hnc43 := NB318_317.out; have hcz44_0 : w39.cell? ⟨gb317, 0, none⟩ = some (.int .i64 a1_0) := (blk_cell BK317.out 0).trans rfl; have hcz44_1 : w39.cell? ⟨gb317, 1, none⟩ = some (.int .i64 a1_1) := (blk_cell BK317.out 1).trans rfl; have hfz44_0 := blk_frozen BK317.out 0; have hfz44_1 := blk_frozen BK317.out 1) | ((with_reducible refine gate_dst (N := 8) rfl ?_); refine Kd.R_lit k28 _ 28 ?hg (N := 8) ?hd (xs := ([(⟨a0_0, a0_1⟩ : S28), (⟨a1_0, a1_1⟩ : S28)] : List (S28))) (inner := [.int .i64 a0_0, .int .i64 a0_1, .int .i64 a1_0, .int .i64 a1_1]) (ok := fun _ => True) (okp := fun _ => True) ?hr ?hp (fun _ hk => hk) trivial (Below.refl _ _) (Nat.le_refl _) (by simp) ?_; (case hd => rfl); (case hg => rfl); (case hr => first | (go_simp; done) | (go_simp; rfl)); (case hp => exact (Reps.c2 (show Kd.M k28 _ _ _ (⟨a0_0, a0_1⟩ : S28) [.int .i64 a0_0, .int .i64 a0_1] from (k28_mkM _ _ _ (⟨a0_0, a0_1⟩ : S28) )) (Reps.c2 (show Kd.M k28 _ _ _ (⟨a1_0, a1_1⟩ : S28) [.int .i64 a1_0, .int .i64 a1_1] from (k28_mkM _ _ _ (⟨a1_0, a1_1⟩ : S28) )) (Reps.none _ _)))); intro v320 w45 ho46 hb hg_ hnew_; clear hg_ hnew_; (first | rw [← Ny319.out] at ho46 | (simp only [Int.reduceToNat] at ho46; rw [← Ny319.out] at ho46)); have HO321 := Aside0.mk (Kd.R_lower (Kd.R_newB (Kd.R_newB (Kd.R_newB ho46 (g := gb316) (o := .cells #[.int .i64 a0_0, .int .i64 a0_1] 28 (0, 0)) (bo gb316)) (g := gb317) (o := .cells #[.int .i64 a1_0, .int .i64 a1_1] 28 (0, 0)) (bo gb317)) (g := gb318) (o := .cells #[.int .i64 0, .int .i64 0] 28 (0, 0)) (bo gb318)) (below_size bl)); replace BK316 := Aside0.mk (bb gb316 hb); replace BK317 := Aside0.mk (bb gb317 hb); replace BK318 := Aside0.mk (bb gb318 hb); replace HB := Aside0.mk (bs hb); clear hb ho46; obtain ⟨Ao47, co47, eo47⟩ := Kd.R_slice HO321.out; subst eo47) | ((with_reducible refine gate_callee (f := 139) rfl ?_); refine gl 9 Try.func139 #[.slice Ao47 y319.length co47] ?_; (with_reducible refine (impl_areRats.calls k _ _ y319 false _ ?side1 ?side2 A3.out).mono ?_); (case side1 => repeat (first | exact (Kd.R_reads' HO321.out).2.2 | (with_reducible refine Kd.C_alloc ?_ _) | (with_reducible refine Kd.C_drewN ?_ _) | (with_reducible refine Kd.C_drew ?_))); (case side2 => exact (Kd.R_reads' HO321.out).2.1); rintro e w48 ⟨rfl, hb⟩; refine ⟨_, rfl, ?_⟩; replace HO321 := Aside0.mk (Kd.R_below (by (with_reducible repeat (first | apply Kd.R_alloc | apply Kd.R_drewN | apply Kd.R_drew)); exact HO321.out) hb); replace BK316 := Aside0.mk (bb gb316 hb); replace BK317 := Aside0.mk (bb gb317 hb); replace BK318 := Aside0.mk (bb gb318 hb); replace HB := Aside0.mk (bs hb); (try clear hb); (try clear hb2); (try clear hk); (try clear hi); have hcz49_0 : w48.cell? ⟨gb318, 0, none⟩ = some (.int .i64 0) := (blk_cell BK318.out 0).trans rfl; have hcz49_1 : w48.cell? ⟨gb318, 1, none⟩ = some (.int .i64 0) := (blk_cell BK318.out 1).trans rfl; have hfz49_0 := blk_frozen BK318.out 0; have hfz49_1 := blk_frozen BK318.out 1))
  refine bodyPost_ret (results_ct rfl _ _ gb318 28 #[.int .i64 0, .int .i64 0] (0, 0) _ rfl (by (with_reducible repeat (first | refine blk_drewN ?_ _ | refine blk_drew ?_ | refine blk_alloc ?_ _)); refine blk_put (cs := #[.int .i64 0, .int .i64 0]) ?_ 1 _ rfl; (with_reducible repeat (first | refine blk_drewN ?_ _ | refine blk_drew ?_ | refine blk_alloc ?_ _)); refine blk_put (cs := #[.int .i64 0, .int .i64 0]) ?_ 0 _ rfl; (with_reducible repeat (first | refine blk_drewN ?_ _ | refine blk_drew ?_ | refine blk_alloc ?_ _)); exact BK318.out) Try.underlying28 rfl (by kernel_rfl)) rfl ?_
  exact ⟨by first | rfl | (simp [errW_none, errW_some] <;> rfl) | (simp [*, errW_none, errW_some] <;> rfl), bl⟩

/-! ### impl_calc_div: function 124 -/
def impl_calc_div.f (k : Nat) (s0_0 : Bool) (a1_0 : Int) (a1_1 : Int) (a2_0 : Int) (a2_1 : Int) : Option (Int × Int × Bool) := (impl_DivideRats.f k a1_0 a1_1 a2_0 a2_1).bind fun bt329 => ((impl_calc_keep.f s0_0 bt329.1 bt329.2.1 bt329.2.2).bind fun bt332 => (some (bt332.1, bt332.2.1, bt332.2.2)))
set_option maxHeartbeats 8000000 in
set_option maxRecDepth 100000 in
theorem impl_calc_div.calls (k : Nat) (g : Nat) (s0_0 : Bool) (a1_0 : Int) (a1_1 : Int) (a2_0 : Int) (a2_1 : Int) (r1 : Int) (r2 : Int) (r3 : Bool) (w0 w : World) (hI : IsS78 w0 w g s0_0) (hB : Below w0.heap.size w0 w) (h : impl_calc_div.f k s0_0 a1_0 a1_1 a2_0 a2_1 = some (r1, r2, r3)) :
  Calls Try.prog 124 #[.pointer (some ⟨g, 0, none⟩), .agg #[.int .i64 a1_0, .int .i64 a1_1], .agg #[.int .i64 a2_0, .int .i64 a2_1]] w fun e w' => e = .returned (.agg #[.int .i64 r1, .int .i64 r2]) ∧ IsS78 w0 w' g r3 ∧ Below w0.heap.size w0 w' ∧ KeepBut w w' g none := by
 have hu28 := Try.underlying28
 have HI0 := Aside0.mk hI
 have HK := Aside0.mk (KeepBut.refl w g none)
 have HL := Aside0.mk hB.size
 clear hI
 have HW0 := Aside0.mk hB.size
 have HB := Aside0.mk hB
 clear hB
 have H : ((impl_DivideRats.f k a1_0 a1_1 a2_0 a2_1).bind fun bt329 => ((impl_calc_keep.f s0_0 bt329.1 bt329.2.1 bt329.2.2).bind fun bt332 => (some (bt332.1, bt332.2.1, bt332.2.2)))) = some (r1, r2, r3) := h
 clear h
 replace H := Option.bind_eq_some_iff.mp H
 obtain ⟨⟨t329, t330, t331⟩, A40, H⟩ := H
 replace H : ((impl_calc_keep.f s0_0 t329 t330 t331).bind fun bt332 => (some (bt332.1, bt332.2.1, bt332.2.2))) = some (r1, r2, r3) := H
 have A4 := Aside0.mk A40
 clear A40
 replace H := Option.bind_eq_some_iff.mp H
 obtain ⟨⟨t332, t333, t334⟩, A50, H⟩ := H
 replace H : (some (t332, t333, t334)) = some (r1, r2, r3) := H
 have A5 := Aside0.mk A50
 clear A50
 simp only [Option.some.injEq, Prod.mk.injEq] at H
 obtain ⟨rfl, rfl, rfl⟩ := H
 go_enter Try.func124, Try.ntmps124
 go_wp2_with (first | ((with_reducible refine gate_dst (N := 4) rfl ?_); refine bx 4 #[.int .i64 a1_0, .int .i64 a1_1] 28 ?_; intro gb326 hg w6 hbox hb; have BK326 := Aside0.mk (hbox); have GW326 := Aside0.mk ((by rw [hg]; exact (keep_size (w := w) (g := g) (row := none) (by repeat (first | (with_reducible first | exact HK.out | apply KeepBut.set_ | apply keep_drewN | apply keep_drew | apply keep_alloc) | exact HK.out))) : w.heap.size ≤ gb326)); have GE326 := Aside0.mk ((Nat.le_trans HW0.out GW326.out : w0.heap.size ≤ gb326)); have NB0_326 := Aside0.mk ((by rw [hg]; exact Nat.ne_of_lt (IsS78.lt (show IsS78 w0 _ g s0_0 from by repeat (first | (with_reducible first | exact HI0.out | apply IsS78.alloc | apply IsS78.drewN | apply IsS78.drew | apply IsS78.set_0) | exact HI0.out))) : g ≠ gb326)); have NB326_0 := Aside0.mk NB0_326.out.symm; replace HK := Aside0.mk (KeepBut.trans (by repeat (first | (with_reducible first | exact HK.out | apply KeepBut.set_ | apply keep_drewN | apply keep_drew | apply keep_alloc) | exact HK.out)) (KeepBut.of_below hb g none) (.inl rfl)); replace HB := Aside0.mk (below_step (by repeat (first | (with_reducible first | exact HB.out | apply below_alloc | apply pw_below_drewN | apply below_drew1 | refine below_set ?_ (IsS78.ge HI0.out)) | exact HB.out)) hb); replace HI0 := Aside0.mk (IsS78.below (by repeat (first | (with_reducible first | exact HI0.out | apply IsS78.alloc | apply IsS78.drewN | apply IsS78.drew | apply IsS78.set_0) | exact HI0.out)) hb); clear hb hbox hg) | ((with_reducible refine gate_dst (N := 5) rfl ?_); refine bx 5 #[.int .i64 a2_0, .int .i64 a2_1] 28 ?_; intro gb327 hg w7 hbox hb; have BK327 := Aside0.mk (hbox); have GW327 := Aside0.mk ((by rw [hg]; exact (keep_size (w := w) (g := g) (row := none) (by repeat (first | (with_reducible first | exact HK.out | apply KeepBut.set_ | apply keep_drewN | apply keep_drew | apply keep_alloc | refine keep_far ?_ GW326.out _) | exact HK.out))) : w.heap.size ≤ gb327)); have GE327 := Aside0.mk ((Nat.le_trans HW0.out GW327.out : w0.heap.size ≤ gb327)); have NB326_327 := Aside0.mk (bn gb326 hg); have NB327_326 := Aside0.mk NB326_327.out.symm; have NB0_327 := Aside0.mk ((by rw [hg]; exact Nat.ne_of_lt (IsS78.lt (show IsS78 w0 _ g s0_0 from by repeat (first | (with_reducible first | exact HI0.out | apply IsS78.alloc | apply IsS78.drewN | apply IsS78.drew | apply IsS78.set_0 | refine IsS78.far ?_ NB0_326.out _) | exact HI0.out))) : g ≠ gb327)); have NB327_0 := Aside0.mk NB0_327.out.symm; replace BK326 := Aside0.mk (bb gb326 hb); replace HK := Aside0.mk (KeepBut.trans (by repeat (first | (with_reducible first | exact HK.out | apply KeepBut.set_ | apply keep_drewN | apply keep_drew | apply keep_alloc | refine keep_far ?_ GW326.out _) | exact HK.out)) (KeepBut.of_below hb g none) (.inl rfl)); replace HB := Aside0.mk (below_step (by repeat (first | (with_reducible first | exact HB.out | apply below_alloc | apply pw_below_drewN | apply below_drew1 | refine below_set ?_ (IsS78.ge HI0.out) | refine below_set ?_ GE326.out) | exact HB.out)) hb); replace HI0 := Aside0.mk (IsS78.below (by repeat (first | (with_reducible first | exact HI0.out | apply IsS78.alloc | apply IsS78.drewN | apply IsS78.drew | apply IsS78.set_0 | refine IsS78.far ?_ NB0_326.out _) | exact HI0.out)) hb); clear hb hbox hg) | ((with_reducible refine gate_dst (N := 6) rfl ?_); refine bx 6 #[.int .i64 0, .int .i64 0] 28 ?_; intro gb328 hg w8 hbox hb; have BK328 := Aside0.mk (hbox); have GW328 := Aside0.mk ((by rw [hg]; exact (keep_size (w := w) (g := g) (row := none) (by repeat (first | (with_reducible first | exact HK.out | apply KeepBut.set_ | apply keep_drewN | apply keep_drew | apply keep_alloc | refine keep_far ?_ GW326.out _ | refine keep_far ?_ GW327.out _) | exact HK.out))) : w.heap.size ≤ gb328)); have GE328 := Aside0.mk ((Nat.le_trans HW0.out GW328.out : w0.heap.size ≤ gb328)); have NB326_328 := Aside0.mk (bn gb326 hg); have NB328_326 := Aside0.mk NB326_328.out.symm; have NB327_328 := Aside0.mk (bn gb327 hg); have NB328_327 := Aside0.mk NB327_328.out.symm; have NB0_328 := Aside0.mk ((by rw [hg]; exact Nat.ne_of_lt (IsS78.lt (show IsS78 w0 _ g s0_0 from by repeat (first | (with_reducible first | exact HI0.out | apply IsS78.alloc | apply IsS78.drewN | apply IsS78.drew | apply IsS78.set_0 | refine IsS78.far ?_ NB0_326.out _ | refine IsS78.far ?_ NB0_327.out _) | exact HI0.out))) : g ≠ gb328)); have NB328_0 := Aside0.mk NB0_328.out.symm; replace BK326 := Aside0.mk (bb gb326 hb); replace BK327 := Aside0.mk (bb gb327 hb); replace HK := Aside0.mk (KeepBut.trans (by repeat (first | (with_reducible first | exact HK.out | apply KeepBut.set_ | apply keep_drewN | apply keep_drew | apply keep_alloc | refine keep_far ?_ GW326.out _ | refine keep_far ?_ GW327.out _) | exact HK.out)) (KeepBut.of_below hb g none) (.inl rfl)); replace HB := Aside0.mk (below_step (by repeat (first | (with_reducible first | exact HB.out | apply below_alloc | apply pw_below_drewN | apply below_drew1 | refine below_set ?_ (IsS78.ge HI0.out) | refine below_set ?_ GE326.out | refine below_set ?_ GE327.out) | exact HB.out)) hb); replace HI0 := Aside0.mk (IsS78.below (by repeat (first | (with_reducible first | exact HI0.out | apply IsS78.alloc | apply IsS78.drewN | apply IsS78.drew | apply IsS78.set_0 | refine IsS78.far ?_ NB0_326.out _ | refine IsS78.far ?_ NB0_327.out _) | exact HI0.out)) hb); clear hb hbox hg; have hnb9 := NB326_327.out; have hnc9 := NB327_326.out; have hnb10 := NB326_328.out; have hnc10 := NB328_326.out; have hnb11 := NB326_0.out; have hnc11 := NB0_326.out; have hcz12_0 : w8.cell? ⟨gb326, 0, none⟩ = some (.int .i64 a1_0) := (blk_cell BK326.out 0).trans rfl; have hcz12_1 : w8.cell? ⟨gb326, 1, none⟩ = some (.int .i64 a1_1) := (blk_cell BK326.out 1).trans rfl; have hfz12_0 := blk_frozen BK326.out 0; have hfz12_1 := blk_frozen BK326.out 1; have hnb13 := NB327_328.out; have hnc13 := NB328_327.out; have hnb14 := NB327_0.out; have hnc14 := NB0_327.out; have hcz15_0 : w8.cell? ⟨gb327, 0, none⟩ = some (.int .i64 a2_0) := (blk_cell BK327.out 0).trans rfl; have hcz15_1 : w8.cell? ⟨gb327, 1, none⟩ = some (.int .i64 a2_1) := (blk_cell BK327.out 1).trans rfl; have hfz15_0 := blk_frozen BK327.out 0; have hfz15_1 := blk_frozen BK327.out 1) | ((with_reducible refine gate_callee (f := 138) rfl ?_); refine gl 10 Try.func138 #[.agg #[.int .i64 a1_0, .int .i64 a1_1], .agg #[.int .i64 a2_0, .int .i64 a2_1]] ?_; (with_reducible refine (impl_DivideRats.calls k a1_0 a1_1 a2_0 a2_1 t329 t330 t331 _ A4.out).mono ?_); rintro e w16 ⟨rfl, hb⟩; refine ⟨_, rfl, ?_⟩; replace BK326 := Aside0.mk (bb gb326 hb); replace BK327 := Aside0.mk (bb gb327 hb); replace BK328 := Aside0.mk (bb gb328 hb); replace HK := Aside0.mk (KeepBut.trans (by repeat (first | (with_reducible first | exact HK.out | apply KeepBut.set_ | apply keep_drewN | apply keep_drew | apply keep_alloc | refine keep_far ?_ GW326.out _ | refine keep_far ?_ GW327.out _ | refine keep_far ?_ GW328.out _) | exact HK.out)) (KeepBut.of_below hb g none) (.inl rfl)); replace HB := Aside0.mk (below_step (by repeat (first | (with_reducible first | exact HB.out | apply below_alloc | apply pw_below_drewN | apply below_drew1 | refine below_set ?_ (IsS78.ge HI0.out) | refine below_set ?_ GE326.out | refine below_set ?_ GE327.out | refine below_set ?_ GE328.out) | exact HB.out)) hb); replace HI0 := Aside0.mk (IsS78.below (by repeat (first | (with_reducible first | exact HI0.out | apply IsS78.alloc | apply IsS78.drewN | apply IsS78.drew | apply IsS78.set_0 | refine IsS78.far ?_ NB0_326.out _ | refine IsS78.far ?_ NB0_327.out _ | refine IsS78.far ?_ NB0_328.out _) | exact HI0.out)) hb); (try clear hb); (try clear hb2); (try clear hk); (try clear hi)) | ((with_reducible refine gate_callee (f := 127) rfl ?_); refine gl 13 Try.func127 #[.pointer (some ⟨g, 0, none⟩), .agg #[.int .i64 t329, .int .i64 t330], .bool t331] ?_; (with_reducible refine (impl_calc_keep.calls g s0_0 t329 t330 t331 t332 t333 t334 w0 _ ?side1 ?side2 A5.out).mono ?_); (case side1 => repeat (first | (with_reducible first | exact HI0.out | apply IsS78.alloc | apply IsS78.drewN | apply IsS78.drew | apply IsS78.set_0 | refine IsS78.far ?_ NB0_326.out _ | refine IsS78.far ?_ NB0_327.out _ | refine IsS78.far ?_ NB0_328.out _) | exact HI0.out)); (case side2 => repeat (first | (with_reducible first | exact HB.out | apply below_alloc | apply pw_below_drewN | apply below_drew1 | refine below_set ?_ (IsS78.ge HI0.out) | refine below_set ?_ GE326.out | refine below_set ?_ GE327.out | refine below_set ?_ GE328.out) | exact HB.out)); rintro e w17 ⟨rfl, hi, hb, hk⟩; refine ⟨_, rfl, ?_⟩; replace BK326 := Aside0.mk (KeepBut.blk hk (g' := gb326) (o := .cells #[.int .i64 a1_0, .int .i64 a1_1] 28 (0, 0)) (bo gb326) NB326_0.out (by simp)); replace BK327 := Aside0.mk (KeepBut.blk hk (g' := gb327) (o := .cells #[.int .i64 a2_0, .int .i64 a2_1] 28 (0, 0)) (bo gb327) NB327_0.out (by simp)); replace BK328 := Aside0.mk (KeepBut.blk hk (g' := gb328) (o := .cells #[.int .i64 0, .int .i64 0] 28 (0, 0)) (bo gb328) NB328_0.out (by simp)); replace HK := Aside0.mk (KeepBut.trans (by repeat (first | (with_reducible first | exact HK.out | apply KeepBut.set_ | apply keep_drewN | apply keep_drew | apply keep_alloc | refine keep_far ?_ GW326.out _ | refine keep_far ?_ GW327.out _ | refine keep_far ?_ GW328.out _) | exact HK.out)) hk (.inl rfl)); replace HB := Aside0.mk (hb); replace HI0 := Aside0.mk (hi); (try clear hb); (try clear hb2); (try clear hk); (try clear hi); have hnb18 := NB328_0.out; have hnc18 := NB0_328.out; have hcz19_0 : w17.cell? ⟨gb328, 0, none⟩ = some (.int .i64 0) := (blk_cell BK328.out 0).trans rfl; have hcz19_1 : w17.cell? ⟨gb328, 1, none⟩ = some (.int .i64 0) := (blk_cell BK328.out 1).trans rfl; have hfz19_0 := blk_frozen BK328.out 0; have hfz19_1 := blk_frozen BK328.out 1))
 refine bodyPost_ret (results_cell_row rfl _ _ gb328 28 #[.int .i64 t332, .int .i64 t333] (0, 0) _ rfl (by (with_reducible repeat (first | refine blk_drewN ?_ _ | refine blk_drew ?_ | refine blk_alloc ?_ _)); refine blk_put (cs := #[.int .i64 t332, .int .i64 0]) ?_ 1 _ rfl; (with_reducible repeat (first | refine blk_drewN ?_ _ | refine blk_drew ?_ | refine blk_alloc ?_ _)); refine blk_put (cs := #[.int .i64 0, .int .i64 0]) ?_ 0 _ rfl; (with_reducible repeat (first | refine blk_drewN ?_ _ | refine blk_drew ?_ | refine blk_alloc ?_ _)); exact BK328.out) Try.underlying28 rfl (by kernel_rfl)) rfl ?_
 exact ⟨by first | rfl | (simp [errW_none, errW_some] <;> rfl) | (simp [*, errW_none, errW_some] <;> rfl), by repeat (first | (with_reducible first | exact HI0.out | apply IsS78.alloc | apply IsS78.drewN | apply IsS78.drew | apply IsS78.set_0 | refine IsS78.far ?_ NB0_326.out _ | refine IsS78.far ?_ NB0_327.out _ | refine IsS78.far ?_ NB0_328.out _) | exact HI0.out), by repeat (first | (with_reducible first | exact HB.out | apply below_alloc | apply pw_below_drewN | apply below_drew1 | refine below_set ?_ (IsS78.ge HI0.out) | refine below_set ?_ GE326.out | refine below_set ?_ GE327.out | refine below_set ?_ GE328.out) | exact HB.out), by repeat (first | (with_reducible first | exact HK.out | apply KeepBut.set_ | apply keep_drewN | apply keep_drew | apply keep_alloc | refine keep_far ?_ GW326.out _ | refine keep_far ?_ GW327.out _ | refine keep_far ?_ GW328.out _) | exact HK.out)⟩

/-! ### impl_calc_slope: function 96 -/
def impl_calc_slope.f (k : Nat) (s0_0 : Bool) (a1_0 : Int) (a1_1 : Int) (a1_2 : Int) (a1_3 : Int) (a2_0 : Int) (a2_1 : Int) (a2_2 : Int) (a2_3 : Int) : Option (Int × Int × Bool) := (impl_calc_sub.f k s0_0 a2_2 a2_3 a1_2 a1_3).bind fun bt338 => ((impl_calc_sub.f k bt338.2.2 a2_0 a2_1 a1_0 a1_1).bind fun bt341 => ((impl_calc_div.f k bt341.2.2 bt338.1 bt338.2.1 bt341.1 bt341.2.1).bind fun bt344 => (some (bt344.1, bt344.2.1, bt344.2.2))))
def impl_calc_slope.T1 : Bool × List (List Nat × List Nat) := (true, [([], []), ([], []), ([], []), ([2], [2]), ([], []), ([4], [4]), ([1, 3, 5], [1, 3, 5]), ([], []), ([], []), ([8], [8]), ([], []), ([10], [10]), ([7, 9, 11, 6], [7, 9, 11]), ([0, 6, 12, 12], [0, 6, 12]), ([13, 13, 0, 1, 2, 3, 4, 5, 6, 7, 8, 9, 10, 11, 12, 13], [13])])
def impl_calc_slope.B1 : List Nat := [0, 0, 0, 4, 0, 16, 62, 0, 0, 256, 0, 1024, 4094, 8191, 16383]
theorem impl_calc_slope.tab1 : rtab .any (opsOf Try.f96 1) = impl_calc_slope.T1 := by kernel_rfl
theorem impl_calc_slope.bits1 : waitsOk impl_calc_slope.T1.2 impl_calc_slope.B1 = true := by kernel_rfl
set_option maxHeartbeats 8000000 in
set_option maxRecDepth 100000 in
theorem impl_calc_slope.calls (k : Nat) (g : Nat) (s0_0 : Bool) (a1_0 : Int) (a1_1 : Int) (a1_2 : Int) (a1_3 : Int) (a2_0 : Int) (a2_1 : Int) (a2_2 : Int) (a2_3 : Int) (r1 : Int) (r2 : Int) (r3 : Bool) (w0 w : World) (hI : IsS78 w0 w g s0_0) (hB : Below w0.heap.size w0 w) (h : impl_calc_slope.f k s0_0 a1_0 a1_1 a1_2 a1_3 a2_0 a2_1 a2_2 a2_3 = some (r1, r2, r3)) :
  Calls Try.prog 96 #[.pointer (some ⟨g, 0, none⟩), .agg #[.int .i64 a1_0, .int .i64 a1_1, .int .i64 a1_2, .int .i64 a1_3], .agg #[.int .i64 a2_0, .int .i64 a2_1, .int .i64 a2_2, .int .i64 a2_3]] w fun e w' => e = .returned (.agg #[.int .i64 r1, .int .i64 r2]) ∧ IsS78 w0 w' g r3 ∧ Below w0.heap.size w0 w' ∧ KeepBut w w' g none := by
 have hu68 := Try.underlying68
 have hu28 := Try.underlying28
 have HI0 := Aside0.mk hI
 have HK := Aside0.mk (KeepBut.refl w g none)
 have HL := Aside0.mk hB.size
 clear hI
 have HW0 := Aside0.mk hB.size
 have HB := Aside0.mk hB
 clear hB
 have H : ((impl_calc_sub.f k s0_0 a2_2 a2_3 a1_2 a1_3).bind fun bt338 => ((impl_calc_sub.f k bt338.2.2 a2_0 a2_1 a1_0 a1_1).bind fun bt341 => ((impl_calc_div.f k bt341.2.2 bt338.1 bt338.2.1 bt341.1 bt341.2.1).bind fun bt344 => (some (bt344.1, bt344.2.1, bt344.2.2))))) = some (r1, r2, r3) := h
 clear h
 replace H := Option.bind_eq_some_iff.mp H
 obtain ⟨⟨t338, t339, t340⟩, A40, H⟩ := H
 replace H : ((impl_calc_sub.f k t340 a2_0 a2_1 a1_0 a1_1).bind fun bt341 => ((impl_calc_div.f k bt341.2.2 t338 t339 bt341.1 bt341.2.1).bind fun bt344 => (some (bt344.1, bt344.2.1, bt344.2.2)))) = some (r1, r2, r3) := H
 have A4 := Aside0.mk A40
 clear A40
 replace H := Option.bind_eq_some_iff.mp H
 obtain ⟨⟨t341, t342, t343⟩, A50, H⟩ := H
 replace H : ((impl_calc_div.f k t343 t338 t339 t341 t342).bind fun bt344 => (some (bt344.1, bt344.2.1, bt344.2.2))) = some (r1, r2, r3) := H
 have A5 := Aside0.mk A50
 clear A50
 replace H := Option.bind_eq_some_iff.mp H
 obtain ⟨⟨t344, t345, t346⟩, A60, H⟩ := H
 replace H : (some (t344, t345, t346)) = some (r1, r2, r3) := H
 have A6 := Aside0.mk A60
 clear A60
 simp only [Option.some.injEq, Prod.mk.injEq] at H
 obtain ⟨rfl, rfl, rfl⟩ := H
 go_enter Try.func96, Try.ntmps96
 try go_wp2_with (first | ((with_reducible refine gate_dst (N := 4) rfl ?_); refine bx 4 #[.int .i64 a1_0, .int .i64 a1_1, .int .i64 a1_2, .int .i64 a1_3] 68 ?_; intro gb335 hg w7 hbox hb; have BK335 := Aside0.mk (hbox); have GW335 := Aside0.mk ((by rw [hg]; exact (keep_size (w := w) (g := g) (row := none) (by repeat (first | (with_reducible first | exact HK.out | apply KeepBut.set_ | apply keep_drewN | apply keep_drew | apply keep_alloc) | exact HK.out))) : w.heap.size ≤ gb335)); have GE335 := Aside0.mk ((Nat.le_trans HW0.out GW335.out : w0.heap.size ≤ gb335)); have NB0_335 := Aside0.mk ((by rw [hg]; exact Nat.ne_of_lt (IsS78.lt (show IsS78 w0 _ g s0_0 from by repeat (first | (with_reducible first | exact HI0.out | apply IsS78.alloc | apply IsS78.drewN | apply IsS78.drew | apply IsS78.set_0) | exact HI0.out))) : g ≠ gb335)); have NB335_0 := Aside0.mk NB0_335.out.symm; replace HK := Aside0.mk (KeepBut.trans (by repeat (first | (with_reducible first | exact HK.out | apply KeepBut.set_ | apply keep_drewN | apply keep_drew | apply keep_alloc) | exact HK.out)) (KeepBut.of_below hb g none) (.inl rfl)); replace HB := Aside0.mk (below_step (by repeat (first | (with_reducible first | exact HB.out | apply below_alloc | apply pw_below_drewN | apply below_drew1 | refine below_set ?_ (IsS78.ge HI0.out)) | exact HB.out)) hb); replace HI0 := Aside0.mk (IsS78.below (by repeat (first | (with_reducible first | exact HI0.out | apply IsS78.alloc | apply IsS78.drewN | apply IsS78.drew | apply IsS78.set_0) | exact HI0.out)) hb); clear hb hbox hg) | ((with_reducible refine gate_dst (N := 5) rfl ?_); refine bx 5 #[.int .i64 a2_0, .int .i64 a2_1, .int .i64 a2_2, .int .i64 a2_3] 68 ?_; intro gb336 hg w8 hbox hb; have BK336 := Aside0.mk (hbox); have GW336 := Aside0.mk ((by rw [hg]; exact (keep_size (w := w) (g := g) (row := none) (by repeat (first | (with_reducible first | exact HK.out | apply KeepBut.set_ | apply keep_drewN | apply keep_drew | apply keep_alloc | refine keep_far ?_ GW335.out _) | exact HK.out))) : w.heap.size ≤ gb336)); have GE336 := Aside0.mk ((Nat.le_trans HW0.out GW336.out : w0.heap.size ≤ gb336)); have NB335_336 := Aside0.mk (bn gb335 hg); have NB336_335 := Aside0.mk NB335_336.out.symm; have NB0_336 := Aside0.mk ((by rw [hg]; exact Nat.ne_of_lt (IsS78.lt (show IsS78 w0 _ g s0_0 from by repeat (first | (with_reducible first | exact HI0.out | apply IsS78.alloc | apply IsS78.drewN | apply IsS78.drew | apply IsS78.set_0 | refine IsS78.far ?_ NB0_335.out _) | exact HI0.out))) : g ≠ gb336)); have NB336_0 := Aside0.mk NB0_336.out.symm; replace BK335 := Aside0.mk (bb gb335 hb); replace HK := Aside0.mk (KeepBut.trans (by repeat (first | (with_reducible first | exact HK.out | apply KeepBut.set_ | apply keep_drewN | apply keep_drew | apply keep_alloc | refine keep_far ?_ GW335.out _) | exact HK.out)) (KeepBut.of_below hb g none) (.inl rfl)); replace HB := Aside0.mk (below_step (by repeat (first | (with_reducible first | exact HB.out | apply below_alloc | apply pw_below_drewN | apply below_drew1 | refine below_set ?_ (IsS78.ge HI0.out) | refine below_set ?_ GE335.out) | exact HB.out)) hb); replace HI0 := Aside0.mk (IsS78.below (by repeat (first | (with_reducible first | exact HI0.out | apply IsS78.alloc | apply IsS78.drewN | apply IsS78.drew | apply IsS78.set_0 | refine IsS78.far ?_ NB0_335.out _) | exact HI0.out)) hb); clear hb hbox hg) | ((with_reducible refine gate_dst (N := 6) rfl ?_); refine bx 6 #[.int .i64 0, .int .i64 0] 28 ?_; intro gb337 hg w9 hbox hb; have BK337 := Aside0.mk (hbox); have GW337 := Aside0.mk ((by rw [hg]; exact (keep_size (w := w) (g := g) (row := none) (by repeat (first | (with_reducible first | exact HK.out | apply KeepBut.set_ | apply keep_drewN | apply keep_drew | apply keep_alloc | refine keep_far ?_ GW335.out _ | refine keep_far ?_ GW336.out _) | exact HK.out))) : w.heap.size ≤ gb337)); have GE337 := Aside0.mk ((Nat.le_trans HW0.out GW337.out : w0.heap.size ≤ gb337)); have NB335_337 := Aside0.mk (bn gb335 hg); have NB337_335 := Aside0.mk NB335_337.out.symm; have NB336_337 := Aside0.mk (bn gb336 hg); have NB337_336 := Aside0.mk NB336_337.out.symm; have NB0_337 := Aside0.mk ((by rw [hg]; exact Nat.ne_of_lt (IsS78.lt (show IsS78 w0 _ g s0_0 from by repeat (first | (with_reducible first | exact HI0.out | apply IsS78.alloc | apply IsS78.drewN | apply IsS78.drew | apply IsS78.set_0 | refine IsS78.far ?_ NB0_335.out _ | refine IsS78.far ?_ NB0_336.out _) | exact HI0.out))) : g ≠ gb337)); have NB337_0 := Aside0.mk NB0_337.out.symm; replace BK335 := Aside0.mk (bb gb335 hb); replace BK336 := Aside0.mk (bb gb336 hb); replace HK := Aside0.mk (KeepBut.trans (by repeat (first | (with_reducible first | exact HK.out | apply KeepBut.set_ | apply keep_drewN | apply keep_drew | apply keep_alloc | refine keep_far ?_ GW335.out _ | refine keep_far ?_ GW336.out _) | exact HK.out)) (KeepBut.of_below hb g none) (.inl rfl)); replace HB := Aside0.mk (below_step (by repeat (first | (with_reducible first | exact HB.out | apply below_alloc | apply pw_below_drewN | apply below_drew1 | refine below_set ?_ (IsS78.ge HI0.out) | refine below_set ?_ GE335.out | refine below_set ?_ GE336.out) | exact HB.out)) hb); replace HI0 := Aside0.mk (IsS78.below (by repeat (first | (with_reducible first | exact HI0.out | apply IsS78.alloc | apply IsS78.drewN | apply IsS78.drew | apply IsS78.set_0 | refine IsS78.far ?_ NB0_335.out _ | refine IsS78.far ?_ NB0_336.out _) | exact HI0.out)) hb); clear hb hbox hg))
 replace BK335 := Aside0.mk (blk_drew BK335.out)
 replace BK336 := Aside0.mk (blk_drew BK336.out)
 replace BK337 := Aside0.mk (blk_drew BK337.out)
 replace HI0 := Aside0.mk (IsS78.drew HI0.out)
 replace HK := Aside0.mk (keep_drew HK.out)
 replace HB := Aside0.mk (below_drew1 HB.out)
 refine start_ (n := 15) (S := fun w' => w'.cell? ⟨gb336, 0, none⟩ = some (.int .i64 a2_0) ∧ w'.cell? ⟨gb336, 1, none⟩ = some (.int .i64 a2_1) ∧ w'.cell? ⟨gb336, 2, none⟩ = some (.int .i64 a2_2) ∧ w'.cell? ⟨gb336, 3, none⟩ = some (.int .i64 a2_3) ∧ w'.cell? ⟨gb335, 0, none⟩ = some (.int .i64 a1_0) ∧ w'.cell? ⟨gb335, 1, none⟩ = some (.int .i64 a1_1) ∧ w'.cell? ⟨gb335, 2, none⟩ = some (.int .i64 a1_2) ∧ w'.cell? ⟨gb335, 3, none⟩ = some (.int .i64 a1_3)) (ds := []) (tb 0 15) (by kernel_rfl) rfl rfl ⟨(blk_cell BK336.out 0).trans rfl, (blk_cell BK336.out 1).trans rfl, (blk_cell BK336.out 2).trans rfl, (blk_cell BK336.out 3).trans rfl, (blk_cell BK335.out 0).trans rfl, (blk_cell BK335.out 1).trans rfl, (blk_cell BK335.out 2).trans rfl, (blk_cell BK335.out 3).trans rfl⟩ (fun hHeld => ?_); refine with_tabW impl_calc_slope.tab1 impl_calc_slope.bits1 (fun HT_ HW_ => ?_)
 generalize w9.drew = w10 at BK335 BK336 BK337 HI0 HK HB hHeld ⊢
 refine pu 0 7 (tb 1 14) ?_
 refine pu 1 8 (tb 2 13) ?_
 refine pu 2 9 (tb 3 12) ?_
 refine pu 4 11 #[true, true, true, false, true, false, false, false, false, false, false, false, false, false, false] ?_
 refine pu 7 14 #[true, true, true, false, true, false, false, true, false, false, false, false, false, false, false] ?_
 refine pu 8 15 #[true, true, true, false, true, false, false, true, true, false, false, false, false, false, false] ?_
 refine pu 10 17 #[true, true, true, false, true, false, false, true, true, false, true, false, false, false, false] ?_
 refine tk 3 10 #[true, true, true, true, true, false, false, true, true, false, true, false, false, false, false] (hy := by rintro w' ⟨s0, s1, s2, s3, s4, s5, s6, s7⟩; go_simp; with_reducible rfl) (h := ?_)
 refine tk 5 12 #[true, true, true, true, true, true, false, true, true, false, true, false, false, false, false] (hy := by rintro w' ⟨s0, s1, s2, s3, s4, s5, s6, s7⟩; go_simp; with_reducible rfl) (h := ?_)
 refine tk 9 16 #[true, true, true, true, true, true, false, true, true, true, true, false, false, false, false] (hy := by rintro w' ⟨s0, s1, s2, s3, s4, s5, s6, s7⟩; go_simp; with_reducible rfl) (h := ?_)
 refine tk 11 18 #[true, true, true, true, true, true, false, true, true, true, true, true, false, false, false] (hy := by rintro w' ⟨s0, s1, s2, s3, s4, s5, s6, s7⟩; go_simp; with_reducible rfl) (h := ?_)
 refine on 6 13 (tb 12 3) (fun K hK => ?_)
 refine gs Try.func107 #[.pointer (some ⟨g, 0, none⟩), .agg #[.int .i64 a2_2, .int .i64 a2_3], .agg #[.int .i64 a1_2, .int .i64 a1_3]] ?_
 with_reducible refine (impl_calc_sub.calls k g s0_0 a2_2 a2_3 a1_2 a1_3 t338 t339 t340 w0 _ ?side1 ?side2 A4.out).mono ?_
 (case side1 => repeat (first | (with_reducible first | exact HI0.out | apply IsS78.alloc | apply IsS78.drewN | apply IsS78.drew | apply IsS78.set_0 | refine IsS78.far ?_ NB0_335.out _ | refine IsS78.far ?_ NB0_336.out _ | refine IsS78.far ?_ NB0_337.out _) | exact HI0.out))
 (case side2 => repeat (first | (with_reducible first | exact HB.out | apply below_alloc | apply pw_below_drewN | apply below_drew1 | refine below_set ?_ (IsS78.ge HI0.out) | refine below_set ?_ GE335.out | refine below_set ?_ GE336.out | refine below_set ?_ GE337.out) | exact HB.out))
 rintro e w11 ⟨rfl, hi, hb, hk⟩
 refine ⟨_, rfl, ?_⟩
 replace BK335 := Aside0.mk (KeepBut.blk hk (g' := gb335) (o := .cells #[.int .i64 a1_0, .int .i64 a1_1, .int .i64 a1_2, .int .i64 a1_3] 68 (0, 0)) (bo gb335) NB335_0.out (by simp))
 replace BK336 := Aside0.mk (KeepBut.blk hk (g' := gb336) (o := .cells #[.int .i64 a2_0, .int .i64 a2_1, .int .i64 a2_2, .int .i64 a2_3] 68 (0, 0)) (bo gb336) NB336_0.out (by simp))
 replace BK337 := Aside0.mk (KeepBut.blk hk (g' := gb337) (o := .cells #[.int .i64 0, .int .i64 0] 28 (0, 0)) (bo gb337) NB337_0.out (by simp))
 replace HK := Aside0.mk (KeepBut.trans (by repeat (first | (with_reducible first | exact HK.out | apply KeepBut.set_ | apply keep_drewN | apply keep_drew | apply keep_alloc | refine keep_far ?_ GW335.out _ | refine keep_far ?_ GW336.out _ | refine keep_far ?_ GW337.out _) | exact HK.out)) hk (.inl rfl))
 replace HB := Aside0.mk (hb)
 replace HI0 := Aside0.mk (hi)
 (try clear hb)
 (try clear hb2)
 (try clear hk)
 (try clear hi)
 refine hK.out _ _ ⟨(blk_cell BK336.out 0).trans rfl, (blk_cell BK336.out 1).trans rfl, (blk_cell BK336.out 2).trans rfl, (blk_cell BK336.out 3).trans rfl, (blk_cell BK335.out 0).trans rfl, (blk_cell BK335.out 1).trans rfl, (blk_cell BK335.out 2).trans rfl, (blk_cell BK335.out 3).trans rfl⟩ (fun hHeld => ?_)
 clear hK K
 refine nm 13 ?_
 refine on 12 19 (tb 13 2) (fun K hK => ?_)
 refine gs Try.func107 #[.pointer (some ⟨g, 0, none⟩), .agg #[.int .i64 a2_0, .int .i64 a2_1], .agg #[.int .i64 a1_0, .int .i64 a1_1]] ?_
 with_reducible refine (impl_calc_sub.calls k g t340 a2_0 a2_1 a1_0 a1_1 t341 t342 t343 w0 _ ?side1 ?side2 A5.out).mono ?_
 (case side1 => repeat (first | (with_reducible first | exact HI0.out | apply IsS78.alloc | apply IsS78.drewN | apply IsS78.drew | apply IsS78.set_0 | refine IsS78.far ?_ NB0_335.out _ | refine IsS78.far ?_ NB0_336.out _ | refine IsS78.far ?_ NB0_337.out _) | exact HI0.out))
 (case side2 => repeat (first | (with_reducible first | exact HB.out | apply below_alloc | apply pw_below_drewN | apply below_drew1 | refine below_set ?_ (IsS78.ge HI0.out) | refine below_set ?_ GE335.out | refine below_set ?_ GE336.out | refine below_set ?_ GE337.out) | exact HB.out))
 rintro e w12 ⟨rfl, hi, hb, hk⟩
 refine ⟨_, rfl, ?_⟩
 replace BK335 := Aside0.mk (KeepBut.blk hk (g' := gb335) (o := .cells #[.int .i64 a1_0, .int .i64 a1_1, .int .i64 a1_2, .int .i64 a1_3] 68 (0, 0)) (bo gb335) NB335_0.out (by simp))
 replace BK336 := Aside0.mk (KeepBut.blk hk (g' := gb336) (o := .cells #[.int .i64 a2_0, .int .i64 a2_1, .int .i64 a2_2, .int .i64 a2_3] 68 (0, 0)) (bo gb336) NB336_0.out (by simp))
 replace BK337 := Aside0.mk (KeepBut.blk hk (g' := gb337) (o := .cells #[.int .i64 0, .int .i64 0] 28 (0, 0)) (bo gb337) NB337_0.out (by simp))
 replace HK := Aside0.mk (KeepBut.trans (by repeat (first | (with_reducible first | exact HK.out | apply KeepBut.set_ | apply keep_drewN | apply keep_drew | apply keep_alloc | refine keep_far ?_ GW335.out _ | refine keep_far ?_ GW336.out _ | refine keep_far ?_ GW337.out _) | exact HK.out)) hk (.inl rfl))
 replace HB := Aside0.mk (hb)
 replace HI0 := Aside0.mk (hi)
 (try clear hb)
 (try clear hb2)
 (try clear hk)
 (try clear hi)
 refine hK.out _ _ ⟨(blk_cell BK336.out 0).trans rfl, (blk_cell BK336.out 1).trans rfl, (blk_cell BK336.out 2).trans rfl, (blk_cell BK336.out 3).trans rfl, (blk_cell BK335.out 0).trans rfl, (blk_cell BK335.out 1).trans rfl, (blk_cell BK335.out 2).trans rfl, (blk_cell BK335.out 3).trans rfl⟩ (fun hHeld => ?_)
 clear hK K
 refine nm 19 ?_
 refine on 13 20 (tb 14 1) (fun K hK => ?_)
 refine gs Try.func124 #[.pointer (some ⟨g, 0, none⟩), .agg #[.int .i64 t338, .int .i64 t339], .agg #[.int .i64 t341, .int .i64 t342]] ?_
 with_reducible refine (impl_calc_div.calls k g t343 t338 t339 t341 t342 t344 t345 t346 w0 _ ?side1 ?side2 A6.out).mono ?_
 (case side1 => repeat (first | (with_reducible first | exact HI0.out | apply IsS78.alloc | apply IsS78.drewN | apply IsS78.drew | apply IsS78.set_0 | refine IsS78.far ?_ NB0_335.out _ | refine IsS78.far ?_ NB0_336.out _ | refine IsS78.far ?_ NB0_337.out _) | exact HI0.out))
 (case side2 => repeat (first | (with_reducible first | exact HB.out | apply below_alloc | apply pw_below_drewN | apply below_drew1 | refine below_set ?_ (IsS78.ge HI0.out) | refine below_set ?_ GE335.out | refine below_set ?_ GE336.out | refine below_set ?_ GE337.out) | exact HB.out))
 rintro e w13 ⟨rfl, hi, hb, hk⟩
 refine ⟨_, rfl, ?_⟩
 replace BK335 := Aside0.mk (KeepBut.blk hk (g' := gb335) (o := .cells #[.int .i64 a1_0, .int .i64 a1_1, .int .i64 a1_2, .int .i64 a1_3] 68 (0, 0)) (bo gb335) NB335_0.out (by simp))
 replace BK336 := Aside0.mk (KeepBut.blk hk (g' := gb336) (o := .cells #[.int .i64 a2_0, .int .i64 a2_1, .int .i64 a2_2, .int .i64 a2_3] 68 (0, 0)) (bo gb336) NB336_0.out (by simp))
 replace BK337 := Aside0.mk (KeepBut.blk hk (g' := gb337) (o := .cells #[.int .i64 0, .int .i64 0] 28 (0, 0)) (bo gb337) NB337_0.out (by simp))
 replace HK := Aside0.mk (KeepBut.trans (by repeat (first | (with_reducible first | exact HK.out | apply KeepBut.set_ | apply keep_drewN | apply keep_drew | apply keep_alloc | refine keep_far ?_ GW335.out _ | refine keep_far ?_ GW336.out _ | refine keep_far ?_ GW337.out _) | exact HK.out)) hk (.inl rfl))
 replace HB := Aside0.mk (hb)
 replace HI0 := Aside0.mk (hi)
 (try clear hb)
 (try clear hb2)
 (try clear hk)
 (try clear hi)
 refine hK.out _ _ ⟨(blk_cell BK336.out 0).trans rfl, (blk_cell BK336.out 1).trans rfl, (blk_cell BK336.out 2).trans rfl, (blk_cell BK336.out 3).trans rfl, (blk_cell BK335.out 0).trans rfl, (blk_cell BK335.out 1).trans rfl, (blk_cell BK335.out 2).trans rfl, (blk_cell BK335.out 3).trans rfl⟩ (fun hHeld => ?_)
 clear hK K
 refine nm 20 ?_
 refine one_ (i := 14) (N := none) (tb 15 0) rfl rfl (one_of HT_.out (by kernel_rfl)) (by decide) (fun K hK => ?_)
 have hs14 : w13.cell? ⟨gb337, 0, none⟩ = some (.int .i64 0) := (blk_cell BK337.out 0).trans rfl
 have hfs14 := blk_frozen BK337.out 0
 have hns14_0 := NB335_337.out
 have hns14_1 := NB336_337.out
 have hms14_0 := NB337_335.out
 have hms14_1 := NB337_336.out
 have hs15 : w13.cell? ⟨gb337, 1, none⟩ = some (.int .i64 0) := (blk_cell BK337.out 1).trans rfl
 have hfs15 := blk_frozen BK337.out 1
 have hns15_0 := NB335_337.out
 have hns15_1 := NB336_337.out
 have hms15_0 := NB337_335.out
 have hms15_1 := NB337_336.out
 refine skip_ (w1 := ?_) (by rfl) rfl ?_ ?_
 rotate_left
 ·go_simp
  rfl
 refine hK.out _ _ ⟨(by (iterate 2 refine (cell_far (p := ⟨gb337, _, none⟩) NB336_337.out _).trans ?_); exact hHeld.1), (by (iterate 2 refine (cell_far (p := ⟨gb337, _, none⟩) NB336_337.out _).trans ?_); exact hHeld.2.1), (by (iterate 2 refine (cell_far (p := ⟨gb337, _, none⟩) NB336_337.out _).trans ?_); exact hHeld.2.2.1), (by (iterate 2 refine (cell_far (p := ⟨gb337, _, none⟩) NB336_337.out _).trans ?_); exact hHeld.2.2.2.1), (by (iterate 2 refine (cell_far (p := ⟨gb337, _, none⟩) NB335_337.out _).trans ?_); exact hHeld.2.2.2.2.1), (by (iterate 2 refine (cell_far (p := ⟨gb337, _, none⟩) NB335_337.out _).trans ?_); exact hHeld.2.2.2.2.2.1), (by (iterate 2 refine (cell_far (p := ⟨gb337, _, none⟩) NB335_337.out _).trans ?_); exact hHeld.2.2.2.2.2.2.1), (by (iterate 2 refine (cell_far (p := ⟨gb337, _, none⟩) NB335_337.out _).trans ?_); exact hHeld.2.2.2.2.2.2.2)⟩ (fun hHeld => ?_)
 clear hK K
 refine done_ (done_of HT_.out (by kernel_rfl)) ?_
 try go_wp2
 refine bodyPost_ret (results_cell_row rfl _ _ gb337 28 #[.int .i64 t344, .int .i64 t345] (0, 0) _ rfl (by (with_reducible repeat (first | refine blk_drewN ?_ _ | refine blk_drew ?_ | refine blk_alloc ?_ _)); refine blk_put (cs := #[.int .i64 t344, .int .i64 0]) ?_ 1 _ rfl; (with_reducible repeat (first | refine blk_drewN ?_ _ | refine blk_drew ?_ | refine blk_alloc ?_ _)); refine blk_put (cs := #[.int .i64 0, .int .i64 0]) ?_ 0 _ rfl; (with_reducible repeat (first | refine blk_drewN ?_ _ | refine blk_drew ?_ | refine blk_alloc ?_ _)); exact BK337.out) Try.underlying28 rfl (by kernel_rfl)) rfl ?_
 exact ⟨by first | rfl | (simp [errW_none, errW_some] <;> rfl) | (simp [*, errW_none, errW_some] <;> rfl), by repeat (first | (with_reducible first | exact HI0.out | apply IsS78.alloc | apply IsS78.drewN | apply IsS78.drew | apply IsS78.set_0 | refine IsS78.far ?_ NB0_335.out _ | refine IsS78.far ?_ NB0_336.out _ | refine IsS78.far ?_ NB0_337.out _) | exact HI0.out), by repeat (first | (with_reducible first | exact HB.out | apply below_alloc | apply pw_below_drewN | apply below_drew1 | refine below_set ?_ (IsS78.ge HI0.out) | refine below_set ?_ GE335.out | refine below_set ?_ GE336.out | refine below_set ?_ GE337.out) | exact HB.out), by repeat (first | (with_reducible first | exact HK.out | apply KeepBut.set_ | apply keep_drewN | apply keep_drew | apply keep_alloc | refine keep_far ?_ GW335.out _ | refine keep_far ?_ GW336.out _ | refine keep_far ?_ GW337.out _) | exact HK.out)⟩

/-! ### impl_slopes: function 50 -/
def impl_slopes.l0 : Nat → List (S68) → List (S28) → Int → Bool → Option ((List (S28)))
 | 0, _, _, _, _ => none
 | k + 1, x0, x4, x5, x348000 => if x5 < (x0.length : Int) then (if 0 ≤ (wrap64 (x5 - 1)) then (if (wrap64 (x5 - 1)) < (x0.length : Int) then (if 0 ≤ x5 then ((impl_calc_slope.f k x348000 ((rd_T68 x0 (wrap64 (x5 - 1))).f0.f0) ((rd_T68 x0 (wrap64 (x5 - 1))).f0.f1) ((rd_T68 x0 (wrap64 (x5 - 1))).f1.f0) ((rd_T68 x0 (wrap64 (x5 - 1))).f1.f1) ((rd_T68 x0 x5).f0.f0) ((rd_T68 x0 x5).f0.f1) ((rd_T68 x0 x5).f1.f0) ((rd_T68 x0 x5).f1.f1)).bind fun bt350 => (if x4.length < 8796093022208 then (impl_slopes.l0 k x0 (x4 ++ [(⟨bt350.1, bt350.2.1⟩ : S28)]) (wrap64 (x5 + 1)) bt350.2.2) else (none))) else (none)) else (none)) else (none)) else (some x4)
def impl_slopes.f (k : Nat) (l0 : List (S68)) : Option ((List (S28))) := impl_slopes.l0 k l0 ([] : List (S28)) 1 false
def impl_slopes.T6 : Bool × List (List Nat × List Nat) := (true, [([], []), ([], []), ([], []), ([2], [2]), ([1, 3], [1, 3]), ([4], [4]), ([], []), ([], []), ([6, 7], [6, 7]), ([8], [8]), ([5, 9], [5, 9]), ([10], [10]), ([0, 11, 10], [0, 11]), ([12, 12, 0, 1, 2, 3, 4, 5, 6, 7, 8, 9, 10, 11, 12], [0, 12])])
def impl_slopes.B6 : List Nat := [0, 0, 0, 4, 14, 30, 0, 0, 192, 448, 1022, 2046, 4095, 8191]
theorem impl_slopes.tab6 : rtab .any (opsOf Try.f50 6) = impl_slopes.T6 := by kernel_rfl
theorem impl_slopes.bits6 : waitsOk impl_slopes.T6.2 impl_slopes.B6 = true := by kernel_rfl
set_option maxHeartbeats 8000000 in
set_option maxRecDepth 100000 in
theorem impl_slopes.calls (k : Nat) (A0 : Option Addr) (c0 : Nat) (l0 : List (S68)) (r : List (S28)) (w : World) (hr0 : Kd.C k68 w A0 l0.length l0) (hc0 : l0.length ≤ c0) (h : impl_slopes.f k l0 = some r) :
  Calls Try.prog 50 #[.slice A0 l0.length c0] w fun e w' => ∃ v0_ : Value, e = .returned (v0_) ∧ Kd.R k28 28 w' w.heap.size (fun _ => True) v0_ r ∧ Below w.heap.size w w' := by
 have hu78 := Try.underlying78
 have hu68 := Try.underlying68
 have HR0 := Aside0.mk hr0
 have HC0 := Aside0.mk hc0
 clear hr0 hc0
 have HB := Aside0.mk (Below.refl w.heap.size w)
 have H : (impl_slopes.l0 k l0 ([] : List (S28)) 1 false) = some r := h
 clear h
 have H' := Aside0.mk H
 clear H
 go_enter Try.func50, Try.ntmps50
 go_wp2_with (first | ((with_reducible refine gate_dst (N := 3) rfl ?_); refine bx 3 #[.bool false] 78 ?_; intro gb347 hg w2 hbox hb; have HI347 := Aside0.mk ((⟨hbox, (by rw [hg]; exact (below_size bl) : w.heap.size ≤ gb347)⟩ : IsS78 w w2 gb347 false)); replace HB := Aside0.mk (bs hb); clear hb hbox hg))
 go_loopg [4, 5] k (fun kq v4 v5 w' => ∃ (x4_1 : List (S28)) (x5_1 : Int) (x348000_1 : Bool), v5 = .int .i64 x5_1 ∧ Aside0 (impl_slopes.l0 kq l0 x4_1 x5_1 x348000_1 = some r) ∧ Aside0 (kq ≤ k) ∧ Aside0 (Kd.R k28 28 w' w.heap.size (fun _ => True) v4 x4_1) ∧ Aside0 (IsS78 w w' gb347 x348000_1) ∧ Aside0 (Below w.heap.size w w'))
 case atStart => exact ⟨(([] : List (S28))), (1), (false), (by first | rfl | (simp; done) | (simp [*]; done)), H', ⟨Nat.le_refl _⟩, ⟨by first | exact Kd.R_nil _ _ _ _ _ | exact Kd.N_nil _ _ _ _ _ | exact Kd.V_nil _ _ _ _ _ | exact Kd.Q_nil _ _ _ _ _ | exact Kd.S_nil _ _ _ _ _⟩, ⟨by repeat (first | (with_reducible first | exact HI347.out | apply IsS78.alloc | apply IsS78.drewN | apply IsS78.drew | apply IsS78.set_0) | exact HI347.out)⟩, ⟨by repeat (first | (with_reducible first | exact HB.out | apply below_alloc | apply pw_below_drewN | apply below_drew1 | refine below_set ?_ (IsS78.ge HI347.out)) | exact HB.out)⟩⟩
 case round =>
  clear H'
  try clear p2
  obtain ⟨x4_1, x5_1, x348000_1, rfl, HA, HK1, HO_4, HI347, HB⟩ := hrel
  cases gk with
  | zero => exact absurd HA.out (by simp [impl_slopes.l0])
  | succ k1 =>
   have H := HA.out
   clear HA
   simp only [impl_slopes.l0] at H
   by_cases c3 : x5_1 < (l0.length : Int)
   ·rw [if_pos c3] at H
    have c3b0 : decide (x5_1 < (l0.length : Int)) = true := decide_eq_true c3
    clear c3
    obtain ⟨ji4, hji4⟩ : ∃ j_ : Int, (wrap64 (x5_1 - 1)) = j_ := ⟨_, rfl⟩
    replace H : (if 0 ≤ (ji4) then (if (ji4) < (l0.length : Int) then (if 0 ≤ x5_1 then ((impl_calc_slope.f k1 x348000_1 ((rd_T68 l0 (ji4)).f0.f0) ((rd_T68 l0 (ji4)).f0.f1) ((rd_T68 l0 (ji4)).f1.f0) ((rd_T68 l0 (ji4)).f1.f1) ((rd_T68 l0 x5_1).f0.f0) ((rd_T68 l0 x5_1).f0.f1) ((rd_T68 l0 x5_1).f1.f0) ((rd_T68 l0 x5_1).f1.f1)).bind fun bt350 => (if x4_1.length < 8796093022208 then (impl_slopes.l0 k1 l0 (x4_1 ++ [(⟨bt350.1, bt350.2.1⟩ : S28)]) (wrap64 (x5_1 + 1)) bt350.2.2) else (none))) else (none)) else (none)) else (none)) = some r := by first | (rw [hji4] at H; exact H) | (simp only [hji4] at H ⊢; exact H)
    have hji4w : (IntKind.i64.wrap (x5_1 - 1)) = ji4 := (i64_w _).trans hji4
    by_cases c5 : 0 ≤ (ji4)
    ·rw [if_pos c5] at H
     have c5b0 : decide (0 ≤ (ji4)) = true := decide_eq_true c5
     clear c5
     by_cases c6 : (ji4) < (l0.length : Int)
     ·rw [if_pos c6] at H
      have c6b0 : decide ((ji4) < (l0.length : Int)) = true := decide_eq_true c6
      clear c6
      by_cases c7 : 0 ≤ x5_1
      ·rw [if_pos c7] at H
       have c7b0 : decide (0 ≤ x5_1) = true := decide_eq_true c7
       clear c7
       replace H := Option.bind_eq_some_iff.mp H
       obtain ⟨⟨t350, t351, t352⟩, A80, H⟩ := H
       replace H : (if x4_1.length < 8796093022208 then (impl_slopes.l0 k1 l0 (x4_1 ++ [(⟨t350, t351⟩ : S28)]) (wrap64 (x5_1 + 1)) t352) else (none)) = some r := H
       have A8 := Aside0.mk A80
       clear A80
       by_cases c9 : x4_1.length < 8796093022208
       ·rw [if_pos c9] at H
        have LMc9 := Aside0.mk c9
        clear c9
        obtain ⟨y353, hy353⟩ : ∃ y_ : List (S28), y_ = (x4_1 ++ [(⟨t350, t351⟩ : S28)]) := ⟨_, rfl⟩
        replace H : (impl_slopes.l0 k1 l0 y353 (wrap64 (x5_1 + 1)) t352) = some r := by first | (rw [hy353]; with_reducible exact H) | (have H2_ := (Option.bind_some _ _).symm.trans H; rw [hy353]; with_reducible exact H2_) | (have H2_ := (Option.bind_some _ _).symm.trans H; with_reducible exact H2_) | with_reducible exact H | (rw [hy353]; exact H) | exact H
        have Ny353 := Aside0.mk hy353
        clear hy353
        have H' := Aside0.mk H
        clear H
        try go_wp2
        replace HO_4 := Aside0.mk (Kd.R_drew HO_4.out)
        replace HI347 := Aside0.mk (IsS78.drew HI347.out)
        replace HB := Aside0.mk (below_drew1 HB.out)
        have p348 : 0 ≤ ((ji4) : Int) := da
        have q348 : (ji4) < (l0.length : Int) := da
        obtain ⟨ad348, e348, hx348_0, hx348_1, hx348_2, hx348_3⟩ := at_T68 HR0.out (ji4) p348 q348
        have hw348_3 := hx348_3
        have hw348_2 := hx348_2
        have hw348_1 := hx348_1
        have hw348_0 := hx348_0
        cases e348
        replace hx348_0 := (hc HB hx348_0 :)
        replace hx348_1 := (hc HB hx348_1 :)
        replace hx348_2 := (hc HB hx348_2 :)
        replace hx348_3 := (hc HB hx348_3 :)
        replace p348 := eq_true p348
        replace q348 := eq_true q348
        have p349 : 0 ≤ (x5_1 : Int) := da
        have q349 : x5_1 < (l0.length : Int) := da
        obtain ⟨ad349, e349, hx349_0, hx349_1, hx349_2, hx349_3⟩ := at_T68 HR0.out x5_1 p349 q349
        have hw349_3 := hx349_3
        have hw349_2 := hx349_2
        have hw349_1 := hx349_1
        have hw349_0 := hx349_0
        obtain rfl : ad348 = ad349 := (by injection e349)
        replace hx349_0 := (hc HB hx349_0 :)
        replace hx349_1 := (hc HB hx349_1 :)
        replace hx349_2 := (hc HB hx349_2 :)
        replace hx349_3 := (hc HB hx349_3 :)
        replace p349 := eq_true p349
        replace q349 := eq_true q349
        refine start_ (n := 14) (S := fun w' => w'.cell? (ad348.add (((ji4)).toNat * 4)) = some (.int .i64 ((rd_T68 l0 (ji4)).f0.f0)) ∧ w'.cell? ⟨(ad348.add (((ji4)).toNat * 4)).block, (ad348.add (((ji4)).toNat * 4)).off + 1, none⟩ = some (.int .i64 ((rd_T68 l0 (ji4)).f0.f1)) ∧ w'.cell? ⟨(ad348.add (((ji4)).toNat * 4)).block, (ad348.add (((ji4)).toNat * 4)).off + 2, none⟩ = some (.int .i64 ((rd_T68 l0 (ji4)).f1.f0)) ∧ w'.cell? ⟨(ad348.add (((ji4)).toNat * 4)).block, (ad348.add (((ji4)).toNat * 4)).off + 3, none⟩ = some (.int .i64 ((rd_T68 l0 (ji4)).f1.f1)) ∧ w'.cell? (ad348.add ((x5_1).toNat * 4)) = some (.int .i64 ((rd_T68 l0 x5_1).f0.f0)) ∧ w'.cell? ⟨(ad348.add ((x5_1).toNat * 4)).block, (ad348.add ((x5_1).toNat * 4)).off + 1, none⟩ = some (.int .i64 ((rd_T68 l0 x5_1).f0.f1)) ∧ w'.cell? ⟨(ad348.add ((x5_1).toNat * 4)).block, (ad348.add ((x5_1).toNat * 4)).off + 2, none⟩ = some (.int .i64 ((rd_T68 l0 x5_1).f1.f0)) ∧ w'.cell? ⟨(ad348.add ((x5_1).toNat * 4)).block, (ad348.add ((x5_1).toNat * 4)).off + 3, none⟩ = some (.int .i64 ((rd_T68 l0 x5_1).f1.f1))) (ds := []) (tb 0 14) (by kernel_rfl) rfl rfl ⟨(hc HB hw348_0 :), (hc HB hw348_1 :), (hc HB hw348_2 :), (hc HB hw348_3 :), (hc HB hw349_0 :), (hc HB hw349_1 :), (hc HB hw349_2 :), (hc HB hw349_3 :)⟩ (fun hHeld => ?_); refine with_tabW impl_slopes.tab6 impl_slopes.bits6 (fun HT_ HW_ => ?_)
        generalize wr.drew = w10 at HO_4 HI347 HB hx348_0 hx348_1 hx348_2 hx348_3 hx349_0 hx349_1 hx349_2 hx349_3 hHeld ⊢
        refine pu 0 12 (tb 1 13) ?_
        refine pu 1 13 (tb 2 12) ?_
        refine pu 2 14 (tb 3 11) ?_
        refine pu 3 15 (tb 4 10) ?_
        refine pu 4 16 (tb 5 9) ?_
        refine pu 6 18 #[true, true, true, true, true, false, true, false, false, false, false, false, false, false] ?_
        refine pu 7 19 #[true, true, true, true, true, false, true, true, false, false, false, false, false, false] ?_
        refine pu 8 20 #[true, true, true, true, true, false, true, true, true, false, false, false, false, false] ?_
        refine tk 5 17 (tb 9 5) (hy := by rintro w' ⟨s0, s1, s2, s3, s4, s5, s6, s7⟩; go_simp; with_reducible rfl) (h := ?_)
        refine tk 9 21 (tb 10 4) (hy := by rintro w' ⟨s0, s1, s2, s3, s4, s5, s6, s7⟩; go_simp; with_reducible rfl) (h := ?_)
        refine on 10 22 (tb 11 3) (fun K hK => ?_)
        refine goes_ Try.func96 (by kernel_rfl) rfl #[.pointer (some ⟨gb347, 0, none⟩), .agg #[.int .i64 ((rd_T68 l0 (ji4)).f0.f0), .int .i64 ((rd_T68 l0 (ji4)).f0.f1), .int .i64 ((rd_T68 l0 (ji4)).f1.f0), .int .i64 ((rd_T68 l0 (ji4)).f1.f1)], .agg #[.int .i64 ((rd_T68 l0 x5_1).f0.f0), .int .i64 ((rd_T68 l0 x5_1).f0.f1), .int .i64 ((rd_T68 l0 x5_1).f1.f0), .int .i64 ((rd_T68 l0 x5_1).f1.f1)]] (by rfl) rfl rfl (by (try simp only [List.map_toArray, List.map_cons, List.map_nil]); first | done | (simp only [hji4]; rfl) | rfl | (simp only [List.length_drop, List.length_take]; rfl)) ?_
        with_reducible refine (impl_calc_slope.calls k1 gb347 x348000_1 ((rd_T68 l0 (ji4)).f0.f0) ((rd_T68 l0 (ji4)).f0.f1) ((rd_T68 l0 (ji4)).f1.f0) ((rd_T68 l0 (ji4)).f1.f1) ((rd_T68 l0 x5_1).f0.f0) ((rd_T68 l0 x5_1).f0.f1) ((rd_T68 l0 x5_1).f1.f0) ((rd_T68 l0 x5_1).f1.f1) t350 t351 t352 w _ ?side1 ?side2 A8.out).mono ?_
        (case side1 => repeat (first | (with_reducible first | exact HI347.out | apply IsS78.alloc | apply IsS78.drewN | apply IsS78.drew | apply IsS78.set_0) | exact HI347.out))
        (case side2 => repeat (first | (with_reducible first | exact HB.out | apply below_alloc | apply pw_below_drewN | apply below_drew1 | refine below_set ?_ (IsS78.ge HI347.out)) | exact HB.out))
        rintro e w11 ⟨rfl, hi, hb, hk⟩
        refine ⟨_, rfl, ?_⟩
        replace HO_4 := Aside0.mk (Kd.R_mono (Kd.R_keep (IsS78.apart (show IsS78 w _ gb347 x348000_1 from by repeat (first | (with_reducible first | exact HI347.out | apply IsS78.alloc | apply IsS78.drewN | apply IsS78.drew | apply IsS78.set_0) | exact HI347.out)) (by (with_reducible repeat (first | apply Kd.R_alloc | apply Kd.R_drewN | apply Kd.R_drew)); exact HO_4.out) (by decide)) hk (fun _ h => h.2)) (fun _ h => h.1))
        replace HB := Aside0.mk (hb)
        replace HI347 := Aside0.mk (hi)
        (try clear hb)
        (try clear hb2)
        (try clear hk)
        (try clear hi)
        refine hK.out _ _ ⟨(hc HB hw348_0 :), (hc HB hw348_1 :), (hc HB hw348_2 :), (hc HB hw348_3 :), (hc HB hw349_0 :), (hc HB hw349_1 :), (hc HB hw349_2 :), (hc HB hw349_3 :)⟩ (fun hHeld => ?_)
        clear hK K
        refine nm 22 ?_
        refine on 11 23 (tb 12 2) (fun K hK => ?_)
        refine value_ (w1 := ?_) (v := ?_) (by rfl) rfl ?_ ?_
        rotate_left 2
        ·go_simp
         constructor
         ·rfl
         ·rfl
        refine hK.out _ _ ⟨(World.cell?_alloc_lt _ _ _ (World.block_lt_of_cell? _ _ ((hc HB hw348_0 :)))).trans ((hc HB hw348_0 :)), (World.cell?_alloc_lt _ _ _ (World.block_lt_of_cell? _ _ ((hc HB hw348_1 :)))).trans ((hc HB hw348_1 :)), (World.cell?_alloc_lt _ _ _ (World.block_lt_of_cell? _ _ ((hc HB hw348_2 :)))).trans ((hc HB hw348_2 :)), (World.cell?_alloc_lt _ _ _ (World.block_lt_of_cell? _ _ ((hc HB hw348_3 :)))).trans ((hc HB hw348_3 :)), (World.cell?_alloc_lt _ _ _ (World.block_lt_of_cell? _ _ ((hc HB hw349_0 :)))).trans ((hc HB hw349_0 :)), (World.cell?_alloc_lt _ _ _ (World.block_lt_of_cell? _ _ ((hc HB hw349_1 :)))).trans ((hc HB hw349_1 :)), (World.cell?_alloc_lt _ _ _ (World.block_lt_of_cell? _ _ ((hc HB hw349_2 :)))).trans ((hc HB hw349_2 :)), (World.cell?_alloc_lt _ _ _ (World.block_lt_of_cell? _ _ ((hc HB hw349_3 :)))).trans ((hc HB hw349_3 :))⟩ (fun hHeld => ?_)
        clear hK K
        refine nm 23 ?_
        refine on 12 24 (tb 13 1) (fun K hK => ?_)
        refine Kd.R_append_step k28 (w0 := w) w.heap.size (by rfl) (.tmp 12) (.tmp 23) 64 28 (.agg #[(.int .i64 0), (.int .i64 0)]) 16 rfl Try.underlying64 info28 rfl (by decide) (by omega) u4 x4_1 (⟨t350, t351⟩ : S28) [.int .i64 t350, .int .i64 t351] (fun _ => True) (fun _ => False) rfl rfl ?aP (fun _ hk => hk.elim) ?aF ?aO ?aB ?aS ?aL ?_
        (case aP => exact k28_mkM _ _ _ (⟨t350, t351⟩ : S28))
        (case aB => exact (by repeat (first | (with_reducible first | exact HB.out | apply below_alloc | apply pw_below_drewN | apply below_drew1 | refine below_set ?_ (IsS78.ge HI347.out)) | exact HB.out)))
        (case aF => exact (fun _ _ => trivial))
        (case aO => exact (by (with_reducible repeat (first | apply Kd.R_alloc | apply Kd.R_drewN | apply Kd.R_drew)); exact HO_4.out))
        (case aS => exact (below_size (by repeat (first | (with_reducible first | exact HB.out | apply below_alloc | apply pw_below_drewN | apply below_drew1 | refine below_set ?_ (IsS78.ge HI347.out)) | exact HB.out))))
        (case aL => have := LMc9.out; omega)
        intro v354 w12 ho hb hg hat
        rw [← Ny353.out] at ho
        have HO355 := Aside0.mk (ho)
        replace HI347 := Aside0.mk (IsS78.grown (show IsS78 w _ gb347 t352 from by repeat (first | (with_reducible first | exact HI347.out | apply IsS78.alloc | apply IsS78.drewN | apply IsS78.drew | apply IsS78.set_0) | exact HI347.out)) hg (IsS78.own_ne HI347.out HO_4.out (by decide)))
        replace HB := Aside0.mk (hb)
        clear HO_4
        clear ho hb hg hat
        refine hK.out _ _ ⟨(hc HB hw348_0 :), (hc HB hw348_1 :), (hc HB hw348_2 :), (hc HB hw348_3 :), (hc HB hw349_0 :), (hc HB hw349_1 :), (hc HB hw349_2 :), (hc HB hw349_3 :)⟩ (fun hHeld => ?_)
        clear hK K
        refine nm 24 ?_
        refine pu 13 4 (tb 14 0) ?_
        refine done_ (done_of HT_.out (by kernel_rfl)) ?_
        try go_wp2
        go_roundg k1
        case measure => have := HK1.out; omega
        case rel => exact ⟨(y353), (wrap64 (x5_1 + 1)), (t352), (by first | rfl | (simp; done) | (simp [*]; done)), H', ⟨by have := HK1.out; omega⟩, ⟨by (with_reducible repeat (first | apply Kd.R_alloc | apply Kd.R_drewN | apply Kd.R_drew)); exact HO355.out⟩, ⟨by repeat (first | (with_reducible first | exact HI347.out | apply IsS78.alloc | apply IsS78.drewN | apply IsS78.drew | apply IsS78.set_0) | exact HI347.out)⟩, ⟨by repeat (first | (with_reducible first | exact HB.out | apply below_alloc | apply pw_below_drewN | apply below_drew1 | refine below_set ?_ (IsS78.ge HI347.out)) | exact HB.out)⟩⟩
       ·rw [if_neg c9] at H
        exact absurd H (by simp)
      ·rw [if_neg c7] at H
       exact absurd H (by simp)
     ·rw [if_neg c6] at H
      exact absurd H (by simp)
    ·rw [if_neg c5] at H
     exact absurd H (by simp)
   ·rw [if_neg c3] at H
    have c3b0 : decide (x5_1 < (l0.length : Int)) = false := decide_eq_false c3
    clear c3
    obtain rfl := Option.some.inj H
    go_wp2
    go_ret
    exact ⟨_, by first | rfl | (simp [errW_none, errW_some] <;> rfl) | (simp [*, errW_none, errW_some] <;> rfl), by (with_reducible repeat (first | apply Kd.R_alloc | apply Kd.R_drewN | apply Kd.R_drew)); exact HO_4.out, by repeat (first | (with_reducible first | exact HB.out | apply below_alloc | apply pw_below_drewN | apply below_drew1 | refine below_set ?_ (IsS78.ge HI347.out)) | exact HB.out)⟩

/-! ### impl_greater: function 97 -/
def impl_greater.f (a0_0 : Int) (a0_1 : Int) (a1_0 : Int) (a1_1 : Int) : Option (Int × Int) := (impl_less.f a0_0 a0_1 a1_0 a1_1).bind fun t359 => (if t359 = true then (some (a1_0, a1_1)) else (some (a0_0, a0_1)))
set_option maxHeartbeats 8000000 in
set_option maxRecDepth 100000 in
theorem impl_greater.calls (a0_0 : Int) (a0_1 : Int) (a1_0 : Int) (a1_1 : Int) (r1 : Int) (r2 : Int) (w : World) (h : impl_greater.f a0_0 a0_1 a1_0 a1_1 = some (r1, r2)) :
  Calls Try.prog 97 #[.agg #[.int .i64 a0_0, .int .i64 a0_1], .agg #[.int .i64 a1_0, .int .i64 a1_1]] w fun e w' => e = .returned (.agg #[.int .i64 r1, .int .i64 r2]) ∧ Below w.heap.size w w' := by
 have hu28 := Try.underlying28
 have HB := Aside0.mk (Below.refl w.heap.size w)
 have H : ((impl_less.f a0_0 a0_1 a1_0 a1_1).bind fun t359 => (if t359 = true then (some (a1_0, a1_1)) else (some (a0_0, a0_1)))) = some (r1, r2) := h
 clear h
 replace H := Option.bind_eq_some_iff.mp H
 obtain ⟨t359, A30, H⟩ := H
 replace H : (if t359 = true then (some (a1_0, a1_1)) else (some (a0_0, a0_1))) = some (r1, r2) := H
 have A3 := Aside0.mk A30
 clear A30
 by_cases c4 : t359 = true
 ·subst c4
  have H1 : (some (a1_0, a1_1)) = some (r1, r2) := by rw [if_pos rfl] at H; exact H
  clear H
  have H := H1
  clear H1
  simp only [Option.some.injEq, Prod.mk.injEq] at H
  obtain ⟨rfl, rfl⟩ := H
  go_enter Try.func97, Try.ntmps97
  go_wp2_with (first | ((with_reducible refine gate_dst (N := 2) rfl ?_); refine bx 2 #[.int .i64 a0_0, .int .i64 a0_1] 28 ?_; intro gb356 hg w5 hbox hb; have BK356 := Aside0.mk (hbox); have GW356 := Aside0.mk (bz hg); have GE356 := GW356; replace HB := Aside0.mk (bs hb); clear hb hbox hg) | ((with_reducible refine gate_dst (N := 3) rfl ?_); refine bx 3 #[.int .i64 a1_0, .int .i64 a1_1] 28 ?_; intro gb357 hg w6 hbox hb; have BK357 := Aside0.mk (hbox); have GW357 := Aside0.mk (bz hg); have GE357 := GW357; have NB356_357 := Aside0.mk (bn gb356 hg); have NB357_356 := Aside0.mk NB356_357.out.symm; replace BK356 := Aside0.mk (bb gb356 hb); replace HB := Aside0.mk (bs hb); clear hb hbox hg) | ((with_reducible refine gate_dst (N := 4) rfl ?_); refine bx 4 #[.int .i64 0, .int .i64 0] 28 ?_; intro gb358 hg w7 hbox hb; have BK358 := Aside0.mk (hbox); have GW358 := Aside0.mk (bz hg); have GE358 := GW358; have NB356_358 := Aside0.mk (bn gb356 hg); have NB358_356 := Aside0.mk NB356_358.out.symm; have NB357_358 := Aside0.mk (bn gb357 hg); have NB358_357 := Aside0.mk NB357_358.out.symm; replace BK356 := Aside0.mk (bb gb356 hb); replace BK357 := Aside0.mk (bb gb357 hb); replace HB := Aside0.mk (bs hb); clear hb hbox hg; have hnb8 := NB356_357.out; have hnc8 := NB357_356.out; have hnb9 := NB356_358.out; have hnc9 := NB358_356.out; have hcz10_0 : w7.cell? ⟨gb356, 0, none⟩ = some (.int .i64 a0_0) := (blk_cell BK356.out 0).trans rfl; have hcz10_1 : w7.cell? ⟨gb356, 1, none⟩ = some (.int .i64 a0_1) := (blk_cell BK356.out 1).trans rfl; have hfz10_0 := blk_frozen BK356.out 0; have hfz10_1 := blk_frozen BK356.out 1; have hnb11 := NB357_358.out; have hnc11 := NB358_357.out; have hcz12_0 : w7.cell? ⟨gb357, 0, none⟩ = some (.int .i64 a1_0) := (blk_cell BK357.out 0).trans rfl; have hcz12_1 : w7.cell? ⟨gb357, 1, none⟩ = some (.int .i64 a1_1) := (blk_cell BK357.out 1).trans rfl; have hfz12_0 := blk_frozen BK357.out 0; have hfz12_1 := blk_frozen BK357.out 1) | ((with_reducible refine gate_callee (f := 95) rfl ?_); refine gl 7 Try.func95 #[.agg #[.int .i64 a0_0, .int .i64 a0_1], .agg #[.int .i64 a1_0, .int .i64 a1_1]] ?_; (with_reducible refine (impl_less.calls a0_0 a0_1 a1_0 a1_1 true _ A3.out).mono ?_); rintro e w13 ⟨rfl, hb⟩; refine ⟨_, rfl, ?_⟩; replace BK356 := Aside0.mk (bb gb356 hb); replace BK357 := Aside0.mk (bb gb357 hb); replace BK358 := Aside0.mk (bb gb358 hb); replace HB := Aside0.mk (bs hb); (try clear hb); (try clear hb2); (try clear hk); (try clear hi); have hcz14_0 : w13.cell? ⟨gb357, 0, none⟩ = some (.int .i64 a1_0) := (blk_cell BK357.out 0).trans rfl; have hcz14_1 : w13.cell? ⟨gb357, 1, none⟩ = some (.int .i64 a1_1) := (blk_cell BK357.out 1).trans rfl; have hfz14_0 := blk_frozen BK357.out 0; have hfz14_1 := blk_frozen BK357.out 1; have hcz15_0 : w13.cell? ⟨gb358, 0, none⟩ = some (.int .i64 0) := (blk_cell BK358.out 0).trans rfl; have hcz15_1 : w13.cell? ⟨gb358, 1, none⟩ = some (.int .i64 0) := (blk_cell BK358.out 1).trans rfl; have hfz15_0 := blk_frozen BK358.out 0; have hfz15_1 := blk_frozen BK358.out 1))
  refine bodyPost_ret (results_cell_row rfl _ _ gb358 28 #[.int .i64 a1_0, .int .i64 a1_1] (0, 0) _ rfl (by (with_reducible repeat (first | refine blk_drewN ?_ _ | refine blk_drew ?_ | refine blk_alloc ?_ _)); refine blk_put (cs := #[.int .i64 a1_0, .int .i64 0]) ?_ 1 _ rfl; (with_reducible repeat (first | refine blk_drewN ?_ _ | refine blk_drew ?_ | refine blk_alloc ?_ _)); refine blk_put (cs := #[.int .i64 0, .int .i64 0]) ?_ 0 _ rfl; (with_reducible repeat (first | refine blk_drewN ?_ _ | refine blk_drew ?_ | refine blk_alloc ?_ _)); exact BK358.out) Try.underlying28 rfl (by kernel_rfl)) rfl ?_
  exact ⟨by first | rfl | (simp [errW_none, errW_some] <;> rfl) | (simp [*, errW_none, errW_some] <;> rfl), bl⟩
 ·replace c4 := Bool.eq_false_iff.mpr c4
  subst c4
  have H1 : (some (a0_0, a0_1)) = some (r1, r2) := by rw [if_neg (show ¬ (false = true) by decide)] at H; exact H
  clear H
  have H := H1
  clear H1
  simp only [Option.some.injEq, Prod.mk.injEq] at H
  obtain ⟨rfl, rfl⟩ := H
  go_enter Try.func97, Try.ntmps97
  go_wp2_with (first | ((with_reducible refine gate_dst (N := 2) rfl ?_); refine bx 2 #[.int .i64 a0_0, .int .i64 a0_1] 28 ?_; intro gb356 hg w16 hbox hb; have BK356 := Aside0.mk (hbox); have GW356 := Aside0.mk (bz hg); have GE356 := GW356; replace HB := Aside0.mk (bs hb); clear hb hbox hg) | ((with_reducible refine gate_dst (N := 3) rfl ?_); refine bx 3 #[.int .i64 a1_0, .int .i64 a1_1] 28 ?_; intro gb357 hg w17 hbox hb; have BK357 := Aside0.mk (hbox); have GW357 := Aside0.mk (bz hg); have GE357 := GW357; have NB356_357 := Aside0.mk (bn gb356 hg); have NB357_356 := Aside0.mk NB356_357.out.symm; replace BK356 := Aside0.mk (bb gb356 hb); replace HB := Aside0.mk (bs hb); clear hb hbox hg) | ((with_reducible refine gate_dst (N := 4) rfl ?_); refine bx 4 #[.int .i64 0, .int .i64 0] 28 ?_; intro gb358 hg w18 hbox hb; have BK358 := Aside0.mk (hbox); have GW358 := Aside0.mk (bz hg); have GE358 := GW358; have NB356_358 := Aside0.mk (bn gb356 hg); have NB358_356 := Aside0.mk NB356_358.out.symm; have NB357_358 := Aside0.mk (bn gb357 hg); have NB358_357 := Aside0.mk NB357_358.out.symm; replace BK356 := Aside0.mk (bb gb356 hb); replace BK357 := Aside0.mk (bb gb357 hb); replace HB := Aside0.mk (bs hb); clear hb hbox hg; have hnb19 := NB356_357.out; have hnc19 := NB357_356.out; have hnb20 := NB356_358.out; have hnc20 := NB358_356.out; have hcz21_0 : w18.cell? ⟨gb356, 0, none⟩ = some (.int .i64 a0_0) := (blk_cell BK356.out 0).trans rfl; have hcz21_1 : w18.cell? ⟨gb356, 1, none⟩ = some (.int .i64 a0_1) := (blk_cell BK356.out 1).trans rfl; have hfz21_0 := blk_frozen BK356.out 0; have hfz21_1 := blk_frozen BK356.out 1; have hnb22 := NB357_358.out; have hnc22 := NB358_357.out; have hcz23_0 : w18.cell? ⟨gb357, 0, none⟩ = some (.int .i64 a1_0) := (blk_cell BK357.out 0).trans rfl; have hcz23_1 : w18.cell? ⟨gb357, 1, none⟩ = some (.int .i64 a1_1) := (blk_cell BK357.out 1).trans rfl; have hfz23_0 := blk_frozen BK357.out 0; have hfz23_1 := blk_frozen BK357.out 1) | ((with_reducible refine gate_callee (f := 95) rfl ?_); refine gl 7 Try.func95 #[.agg #[.int .i64 a0_0, .int .i64 a0_1], .agg #[.int .i64 a1_0, .int .i64 a1_1]] ?_; (with_reducible refine (impl_less.calls a0_0 a0_1 a1_0 a1_1 false _ A3.out).mono ?_); rintro e w24 ⟨rfl, hb⟩; refine ⟨_, rfl, ?_⟩; replace BK356 := Aside0.mk (bb gb356 hb); replace BK357 := Aside0.mk (bb gb357 hb); replace BK358 := Aside0.mk (bb gb358 hb); replace HB := Aside0.mk (bs hb); (try clear hb); (try clear hb2); (try clear hk); (try clear hi); have hcz25_0 : w24.cell? ⟨gb356, 0, none⟩ = some (.int .i64 a0_0) := (blk_cell BK356.out 0).trans rfl; have hcz25_1 : w24.cell? ⟨gb356, 1, none⟩ = some (.int .i64 a0_1) := (blk_cell BK356.out 1).trans rfl; have hfz25_0 := blk_frozen BK356.out 0; have hfz25_1 := blk_frozen BK356.out 1; have hcz26_0 : w24.cell? ⟨gb358, 0, none⟩ = some (.int .i64 0) := (blk_cell BK358.out 0).trans rfl; have hcz26_1 : w24.cell? ⟨gb358, 1, none⟩ = some (.int .i64 0) := (blk_cell BK358.out 1).trans rfl; have hfz26_0 := blk_frozen BK358.out 0; have hfz26_1 := blk_frozen BK358.out 1))
  refine bodyPost_ret (results_cell_row rfl _ _ gb358 28 #[.int .i64 a0_0, .int .i64 a0_1] (0, 0) _ rfl (by (with_reducible repeat (first | refine blk_drewN ?_ _ | refine blk_drew ?_ | refine blk_alloc ?_ _)); refine blk_put (cs := #[.int .i64 a0_0, .int .i64 0]) ?_ 1 _ rfl; (with_reducible repeat (first | refine blk_drewN ?_ _ | refine blk_drew ?_ | refine blk_alloc ?_ _)); refine blk_put (cs := #[.int .i64 0, .int .i64 0]) ?_ 0 _ rfl; (with_reducible repeat (first | refine blk_drewN ?_ _ | refine blk_drew ?_ | refine blk_alloc ?_ _)); exact BK358.out) Try.underlying28 rfl (by kernel_rfl)) rfl ?_
  exact ⟨by first | rfl | (simp [errW_none, errW_some] <;> rfl) | (simp [*, errW_none, errW_some] <;> rfl), bl⟩

/-! ### impl_lesser: function 98 -/
def impl_lesser.f (a0_0 : Int) (a0_1 : Int) (a1_0 : Int) (a1_1 : Int) : Option (Int × Int) := (impl_less.f a1_0 a1_1 a0_0 a0_1).bind fun t363 => (if t363 = true then (some (a1_0, a1_1)) else (some (a0_0, a0_1)))
set_option maxHeartbeats 8000000 in
set_option maxRecDepth 100000 in
theorem impl_lesser.calls (a0_0 : Int) (a0_1 : Int) (a1_0 : Int) (a1_1 : Int) (r1 : Int) (r2 : Int) (w : World) (h : impl_lesser.f a0_0 a0_1 a1_0 a1_1 = some (r1, r2)) :
  Calls Try.prog 98 #[.agg #[.int .i64 a0_0, .int .i64 a0_1], .agg #[.int .i64 a1_0, .int .i64 a1_1]] w fun e w' => e = .returned (.agg #[.int .i64 r1, .int .i64 r2]) ∧ Below w.heap.size w w' := by
 have hu28 := Try.underlying28
 have HB := Aside0.mk (Below.refl w.heap.size w)
 have H : ((impl_less.f a1_0 a1_1 a0_0 a0_1).bind fun t363 => (if t363 = true then (some (a1_0, a1_1)) else (some (a0_0, a0_1)))) = some (r1, r2) := h
 clear h
 replace H := Option.bind_eq_some_iff.mp H
 obtain ⟨t363, A30, H⟩ := H
 replace H : (if t363 = true then (some (a1_0, a1_1)) else (some (a0_0, a0_1))) = some (r1, r2) := H
 have A3 := Aside0.mk A30
 clear A30
 by_cases c4 : t363 = true
 ·subst c4
  have H1 : (some (a1_0, a1_1)) = some (r1, r2) := by rw [if_pos rfl] at H; exact H
  clear H
  have H := H1
  clear H1
  simp only [Option.some.injEq, Prod.mk.injEq] at H
  obtain ⟨rfl, rfl⟩ := H
  go_enter Try.func98, Try.ntmps98
  go_wp2_with (first | ((with_reducible refine gate_dst (N := 2) rfl ?_); refine bx 2 #[.int .i64 a0_0, .int .i64 a0_1] 28 ?_; intro gb360 hg w5 hbox hb; have BK360 := Aside0.mk (hbox); have GW360 := Aside0.mk (bz hg); have GE360 := GW360; replace HB := Aside0.mk (bs hb); clear hb hbox hg) | ((with_reducible refine gate_dst (N := 3) rfl ?_); refine bx 3 #[.int .i64 a1_0, .int .i64 a1_1] 28 ?_; intro gb361 hg w6 hbox hb; have BK361 := Aside0.mk (hbox); have GW361 := Aside0.mk (bz hg); have GE361 := GW361; have NB360_361 := Aside0.mk (bn gb360 hg); have NB361_360 := Aside0.mk NB360_361.out.symm; replace BK360 := Aside0.mk (bb gb360 hb); replace HB := Aside0.mk (bs hb); clear hb hbox hg) | ((with_reducible refine gate_dst (N := 4) rfl ?_); refine bx 4 #[.int .i64 0, .int .i64 0] 28 ?_; intro gb362 hg w7 hbox hb; have BK362 := Aside0.mk (hbox); have GW362 := Aside0.mk (bz hg); have GE362 := GW362; have NB360_362 := Aside0.mk (bn gb360 hg); have NB362_360 := Aside0.mk NB360_362.out.symm; have NB361_362 := Aside0.mk (bn gb361 hg); have NB362_361 := Aside0.mk NB361_362.out.symm; replace BK360 := Aside0.mk (bb gb360 hb); replace BK361 := Aside0.mk (bb gb361 hb); replace HB := Aside0.mk (bs hb); clear hb hbox hg; have hnb8 := NB361_360.out; have hnc8 := NB360_361.out; have hnb9 := NB361_362.out; have hnc9 := NB362_361.out; have hcz10_0 : w7.cell? ⟨gb361, 0, none⟩ = some (.int .i64 a1_0) := (blk_cell BK361.out 0).trans rfl; have hcz10_1 : w7.cell? ⟨gb361, 1, none⟩ = some (.int .i64 a1_1) := (blk_cell BK361.out 1).trans rfl; have hfz10_0 := blk_frozen BK361.out 0; have hfz10_1 := blk_frozen BK361.out 1; have hnb11 := NB360_362.out; have hnc11 := NB362_360.out; have hcz12_0 : w7.cell? ⟨gb360, 0, none⟩ = some (.int .i64 a0_0) := (blk_cell BK360.out 0).trans rfl; have hcz12_1 : w7.cell? ⟨gb360, 1, none⟩ = some (.int .i64 a0_1) := (blk_cell BK360.out 1).trans rfl; have hfz12_0 := blk_frozen BK360.out 0; have hfz12_1 := blk_frozen BK360.out 1) | ((with_reducible refine gate_callee (f := 95) rfl ?_); refine gl 7 Try.func95 #[.agg #[.int .i64 a1_0, .int .i64 a1_1], .agg #[.int .i64 a0_0, .int .i64 a0_1]] ?_; (with_reducible refine (impl_less.calls a1_0 a1_1 a0_0 a0_1 true _ A3.out).mono ?_); rintro e w13 ⟨rfl, hb⟩; refine ⟨_, rfl, ?_⟩; replace BK360 := Aside0.mk (bb gb360 hb); replace BK361 := Aside0.mk (bb gb361 hb); replace BK362 := Aside0.mk (bb gb362 hb); replace HB := Aside0.mk (bs hb); (try clear hb); (try clear hb2); (try clear hk); (try clear hi); have hcz14_0 : w13.cell? ⟨gb361, 0, none⟩ = some (.int .i64 a1_0) := (blk_cell BK361.out 0).trans rfl; have hcz14_1 : w13.cell? ⟨gb361, 1, none⟩ = some (.int .i64 a1_1) := (blk_cell BK361.out 1).trans rfl; have hfz14_0 := blk_frozen BK361.out 0; have hfz14_1 := blk_frozen BK361.out 1; have hcz15_0 : w13.cell? ⟨gb362, 0, none⟩ = some (.int .i64 0) := (blk_cell BK362.out 0).trans rfl; have hcz15_1 : w13.cell? ⟨gb362, 1, none⟩ = some (.int .i64 0) := (blk_cell BK362.out 1).trans rfl; have hfz15_0 := blk_frozen BK362.out 0; have hfz15_1 := blk_frozen BK362.out 1))
  refine bodyPost_ret (results_cell_row rfl _ _ gb362 28 #[.int .i64 a1_0, .int .i64 a1_1] (0, 0) _ rfl (by (with_reducible repeat (first | refine blk_drewN ?_ _ | refine blk_drew ?_ | refine blk_alloc ?_ _)); refine blk_put (cs := #[.int .i64 a1_0, .int .i64 0]) ?_ 1 _ rfl; (with_reducible repeat (first | refine blk_drewN ?_ _ | refine blk_drew ?_ | refine blk_alloc ?_ _)); refine blk_put (cs := #[.int .i64 0, .int .i64 0]) ?_ 0 _ rfl; (with_reducible repeat (first | refine blk_drewN ?_ _ | refine blk_drew ?_ | refine blk_alloc ?_ _)); exact BK362.out) Try.underlying28 rfl (by kernel_rfl)) rfl ?_
  exact ⟨by first | rfl | (simp [errW_none, errW_some] <;> rfl) | (simp [*, errW_none, errW_some] <;> rfl), bl⟩
 ·replace c4 := Bool.eq_false_iff.mpr c4
  subst c4
  have H1 : (some (a0_0, a0_1)) = some (r1, r2) := by rw [if_neg (show ¬ (false = true) by decide)] at H; exact H
  clear H
  have H := H1
  clear H1
  simp only [Option.some.injEq, Prod.mk.injEq] at H
  obtain ⟨rfl, rfl⟩ := H
  go_enter Try.func98, Try.ntmps98
  go_wp2_with (first | ((with_reducible refine gate_dst (N := 2) rfl ?_); refine bx 2 #[.int .i64 a0_0, .int .i64 a0_1] 28 ?_; intro gb360 hg w16 hbox hb; have BK360 := Aside0.mk (hbox); have GW360 := Aside0.mk (bz hg); have GE360 := GW360; replace HB := Aside0.mk (bs hb); clear hb hbox hg) | ((with_reducible refine gate_dst (N := 3) rfl ?_); refine bx 3 #[.int .i64 a1_0, .int .i64 a1_1] 28 ?_; intro gb361 hg w17 hbox hb; have BK361 := Aside0.mk (hbox); have GW361 := Aside0.mk (bz hg); have GE361 := GW361; have NB360_361 := Aside0.mk (bn gb360 hg); have NB361_360 := Aside0.mk NB360_361.out.symm; replace BK360 := Aside0.mk (bb gb360 hb); replace HB := Aside0.mk (bs hb); clear hb hbox hg) | ((with_reducible refine gate_dst (N := 4) rfl ?_); refine bx 4 #[.int .i64 0, .int .i64 0] 28 ?_; intro gb362 hg w18 hbox hb; have BK362 := Aside0.mk (hbox); have GW362 := Aside0.mk (bz hg); have GE362 := GW362; have NB360_362 := Aside0.mk (bn gb360 hg); have NB362_360 := Aside0.mk NB360_362.out.symm; have NB361_362 := Aside0.mk (bn gb361 hg); have NB362_361 := Aside0.mk NB361_362.out.symm; replace BK360 := Aside0.mk (bb gb360 hb); replace BK361 := Aside0.mk (bb gb361 hb); replace HB := Aside0.mk (bs hb); clear hb hbox hg; have hnb19 := NB361_360.out; have hnc19 := NB360_361.out; have hnb20 := NB361_362.out; have hnc20 := NB362_361.out; have hcz21_0 : w18.cell? ⟨gb361, 0, none⟩ = some (.int .i64 a1_0) := (blk_cell BK361.out 0).trans rfl; have hcz21_1 : w18.cell? ⟨gb361, 1, none⟩ = some (.int .i64 a1_1) := (blk_cell BK361.out 1).trans rfl; have hfz21_0 := blk_frozen BK361.out 0; have hfz21_1 := blk_frozen BK361.out 1; have hnb22 := NB360_362.out; have hnc22 := NB362_360.out; have hcz23_0 : w18.cell? ⟨gb360, 0, none⟩ = some (.int .i64 a0_0) := (blk_cell BK360.out 0).trans rfl; have hcz23_1 : w18.cell? ⟨gb360, 1, none⟩ = some (.int .i64 a0_1) := (blk_cell BK360.out 1).trans rfl; have hfz23_0 := blk_frozen BK360.out 0; have hfz23_1 := blk_frozen BK360.out 1) | ((with_reducible refine gate_callee (f := 95) rfl ?_); refine gl 7 Try.func95 #[.agg #[.int .i64 a1_0, .int .i64 a1_1], .agg #[.int .i64 a0_0, .int .i64 a0_1]] ?_; (with_reducible refine (impl_less.calls a1_0 a1_1 a0_0 a0_1 false _ A3.out).mono ?_); rintro e w24 ⟨rfl, hb⟩; refine ⟨_, rfl, ?_⟩; replace BK360 := Aside0.mk (bb gb360 hb); replace BK361 := Aside0.mk (bb gb361 hb); replace BK362 := Aside0.mk (bb gb362 hb); replace HB := Aside0.mk (bs hb); (try clear hb); (try clear hb2); (try clear hk); (try clear hi); have hcz25_0 : w24.cell? ⟨gb360, 0, none⟩ = some (.int .i64 a0_0) := (blk_cell BK360.out 0).trans rfl; have hcz25_1 : w24.cell? ⟨gb360, 1, none⟩ = some (.int .i64 a0_1) := (blk_cell BK360.out 1).trans rfl; have hfz25_0 := blk_frozen BK360.out 0; have hfz25_1 := blk_frozen BK360.out 1; have hcz26_0 : w24.cell? ⟨gb362, 0, none⟩ = some (.int .i64 0) := (blk_cell BK362.out 0).trans rfl; have hcz26_1 : w24.cell? ⟨gb362, 1, none⟩ = some (.int .i64 0) := (blk_cell BK362.out 1).trans rfl; have hfz26_0 := blk_frozen BK362.out 0; have hfz26_1 := blk_frozen BK362.out 1))
  refine bodyPost_ret (results_cell_row rfl _ _ gb362 28 #[.int .i64 a0_0, .int .i64 a0_1] (0, 0) _ rfl (by (with_reducible repeat (first | refine blk_drewN ?_ _ | refine blk_drew ?_ | refine blk_alloc ?_ _)); refine blk_put (cs := #[.int .i64 a0_0, .int .i64 0]) ?_ 1 _ rfl; (with_reducible repeat (first | refine blk_drewN ?_ _ | refine blk_drew ?_ | refine blk_alloc ?_ _)); refine blk_put (cs := #[.int .i64 0, .int .i64 0]) ?_ 0 _ rfl; (with_reducible repeat (first | refine blk_drewN ?_ _ | refine blk_drew ?_ | refine blk_alloc ?_ _)); exact BK362.out) Try.underlying28 rfl (by kernel_rfl)) rfl ?_
  exact ⟨by first | rfl | (simp [errW_none, errW_some] <;> rfl) | (simp [*, errW_none, errW_some] <;> rfl), bl⟩

end Go.Proofs.Ytmecnnnagallnaa.PFnExactLeastSlope
