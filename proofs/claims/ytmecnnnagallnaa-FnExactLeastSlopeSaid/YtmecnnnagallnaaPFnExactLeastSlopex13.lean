-- Written by this session's program wip/pp (the kit's print tool with additions) 35421559b90ae4d0a3588c463048766b98c2df88dd9212a6774a882060cdf62d
import Derived.Test.YtmecnnnagallnaaPFnExactLeastSlopex0
import Derived.Test.YtmecnnnagallnaaPFnExactLeastSlopex7
import Derived.Test.YtmecnnnagallnaaPFnExactLeastSlopex12
namespace Go.Proofs.Ytmecnnnagallnaa.PFnExactLeastSlope
open Go.RowKit Go.Proofs.YtmecnnnagallnaaW.PrintWords Go.Proofs.YtmecnnnagallnaaW.PrintLast Go.Proofs.YtmecnnnagallnaaW.PrintMore
attribute [local go_sem] max2_int min2_int max_two min_two max_three min_three max_four min_four   -- for this text's walks alone
set_option linter.unusedVariables false
set_option linter.unusedSimpArgs false

/-! ### impl_common: function 51 -/
def impl_common.f (a0_0 : Int) (a0_1 : Int) (a0_2 : Int) (a0_3 : Int) (a1_0 : Int) (a1_1 : Int) (a1_2 : Int) (a1_3 : Int) : Option (Int × Int × Int × Int × Bool) := (impl_greater.f a0_0 a0_1 a1_0 a1_1).bind fun bt367 => ((impl_lesser.f a0_2 a0_3 a1_2 a1_3).bind fun bt369 => ((impl_less.f bt367.1 bt367.2 bt369.1 bt369.2).bind fun t372 => (if t372 = true then (some (bt367.1, bt367.2, bt369.1, bt369.2, true)) else (some (0, 0, 0, 0, false)))))
def impl_common.T1 : Bool × List (List Nat × List Nat) := (true, [([], []), ([0], [0]), ([], []), ([2], [2]), ([1, 3], [1, 3]), ([], []), ([5], [5]), ([], []), ([7], [7]), ([6, 8, 4], [6, 8]), ([4, 9], [4, 9]), ([], []), ([11, 10, 9, 0, 1, 2, 3, 4, 5, 6, 7, 8, 9, 10, 11], [10, 11])])
def impl_common.B1 : List Nat := [0, 1, 0, 4, 15, 0, 32, 0, 128, 511, 1023, 0, 4095]
theorem impl_common.tab1 : rtab .any (opsOf Try.f51 1) = impl_common.T1 := by kernel_rfl
theorem impl_common.bits1 : waitsOk impl_common.T1.2 impl_common.B1 = true := by kernel_rfl
set_option maxHeartbeats 8000000 in
set_option maxRecDepth 100000 in
theorem impl_common.calls (a0_0 : Int) (a0_1 : Int) (a0_2 : Int) (a0_3 : Int) (a1_0 : Int) (a1_1 : Int) (a1_2 : Int) (a1_3 : Int) (r1 : Int) (r2 : Int) (r3 : Int) (r4 : Int) (r5 : Bool) (w : World) (h : impl_common.f a0_0 a0_1 a0_2 a0_3 a1_0 a1_1 a1_2 a1_3 = some (r1, r2, r3, r4, r5)) :
  Calls Try.prog 51 #[.agg #[.int .i64 a0_0, .int .i64 a0_1, .int .i64 a0_2, .int .i64 a0_3], .agg #[.int .i64 a1_0, .int .i64 a1_1, .int .i64 a1_2, .int .i64 a1_3]] w fun e w' => e = .returned (.tuple #[.agg #[.int .i64 r1, .int .i64 r2, .int .i64 r3, .int .i64 r4], .bool r5]) ∧ Below w.heap.size w w' := by
 have hu34 := Try.underlying34
 have hu28 := Try.underlying28
 have HB := Aside0.mk (Below.refl w.heap.size w)
 have H : ((impl_greater.f a0_0 a0_1 a1_0 a1_1).bind fun bt367 => ((impl_lesser.f a0_2 a0_3 a1_2 a1_3).bind fun bt369 => ((impl_less.f bt367.1 bt367.2 bt369.1 bt369.2).bind fun t372 => (if t372 = true then (some (bt367.1, bt367.2, bt369.1, bt369.2, true)) else (some (0, 0, 0, 0, false)))))) = some (r1, r2, r3, r4, r5) := h
 clear h
 replace H := Option.bind_eq_some_iff.mp H
 obtain ⟨⟨t367, t368⟩, A30, H⟩ := H
 replace H : ((impl_lesser.f a0_2 a0_3 a1_2 a1_3).bind fun bt369 => ((impl_less.f t367 t368 bt369.1 bt369.2).bind fun t372 => (if t372 = true then (some (t367, t368, bt369.1, bt369.2, true)) else (some (0, 0, 0, 0, false))))) = some (r1, r2, r3, r4, r5) := H
 have A3 := Aside0.mk A30
 clear A30
 replace H := Option.bind_eq_some_iff.mp H
 obtain ⟨⟨t369, t370⟩, A40, H⟩ := H
 replace H : ((impl_less.f t367 t368 t369 t370).bind fun t372 => (if t372 = true then (some (t367, t368, t369, t370, true)) else (some (0, 0, 0, 0, false)))) = some (r1, r2, r3, r4, r5) := H
 have A4 := Aside0.mk A40
 clear A40
 replace H := Option.bind_eq_some_iff.mp H
 obtain ⟨t372, A50, H⟩ := H
 replace H : (if t372 = true then (some (t367, t368, t369, t370, true)) else (some (0, 0, 0, 0, false))) = some (r1, r2, r3, r4, r5) := H
 have A5 := Aside0.mk A50
 clear A50
 by_cases c6 : t372 = true
 ·subst c6
  have H1 : (some (t367, t368, t369, t370, true)) = some (r1, r2, r3, r4, r5) := by rw [if_pos rfl] at H; exact H
  clear H
  have H := H1
  clear H1
  simp only [Option.some.injEq, Prod.mk.injEq] at H
  obtain ⟨rfl, rfl, rfl, rfl, rfl⟩ := H
  go_enter Try.func51, Try.ntmps51
  try go_wp2_with (first | ((with_reducible refine gate_dst (N := 2) rfl ?_); refine bx 2 #[.int .i64 a0_0, .int .i64 a0_1, .int .i64 a0_2, .int .i64 a0_3] 34 ?_; intro gb364 hg w7 hbox hb; have BK364 := Aside0.mk (hbox); have GW364 := Aside0.mk (bz hg); have GE364 := GW364; replace HB := Aside0.mk (bs hb); clear hb hbox hg) | ((with_reducible refine gate_dst (N := 3) rfl ?_); refine bx 3 #[.int .i64 a1_0, .int .i64 a1_1, .int .i64 a1_2, .int .i64 a1_3] 34 ?_; intro gb365 hg w8 hbox hb; have BK365 := Aside0.mk (hbox); have GW365 := Aside0.mk (bz hg); have GE365 := GW365; have NB364_365 := Aside0.mk (bn gb364 hg); have NB365_364 := Aside0.mk NB364_365.out.symm; replace BK364 := Aside0.mk (bb gb364 hb); replace HB := Aside0.mk (bs hb); clear hb hbox hg) | ((with_reducible refine gate_dst (N := 4) rfl ?_); refine bx 4 #[.int .i64 0, .int .i64 0, .int .i64 0, .int .i64 0] 34 ?_; intro gb366 hg w9 hbox hb; have BK366 := Aside0.mk (hbox); have GW366 := Aside0.mk (bz hg); have GE366 := GW366; have NB364_366 := Aside0.mk (bn gb364 hg); have NB366_364 := Aside0.mk NB364_366.out.symm; have NB365_366 := Aside0.mk (bn gb365 hg); have NB366_365 := Aside0.mk NB365_366.out.symm; replace BK364 := Aside0.mk (bb gb364 hb); replace BK365 := Aside0.mk (bb gb365 hb); replace HB := Aside0.mk (bs hb); clear hb hbox hg))
  replace BK364 := Aside0.mk (blk_drew BK364.out)
  replace BK365 := Aside0.mk (blk_drew BK365.out)
  replace BK366 := Aside0.mk (blk_drew BK366.out)
  replace HB := Aside0.mk (below_drew1 HB.out)
  refine start_ (n := 13) (S := fun w' => w'.cell? ⟨gb364, 0, none⟩ = some (.int .i64 a0_0) ∧ w'.cell? ⟨gb364, 1, none⟩ = some (.int .i64 a0_1) ∧ w'.cell? ⟨gb364, 2, none⟩ = some (.int .i64 a0_2) ∧ w'.cell? ⟨gb364, 3, none⟩ = some (.int .i64 a0_3) ∧ w'.cell? ⟨gb365, 0, none⟩ = some (.int .i64 a1_0) ∧ w'.cell? ⟨gb365, 1, none⟩ = some (.int .i64 a1_1) ∧ w'.cell? ⟨gb365, 2, none⟩ = some (.int .i64 a1_2) ∧ w'.cell? ⟨gb365, 3, none⟩ = some (.int .i64 a1_3)) (ds := []) (tb 0 13) (by kernel_rfl) rfl rfl ⟨(blk_cell BK364.out 0).trans rfl, (blk_cell BK364.out 1).trans rfl, (blk_cell BK364.out 2).trans rfl, (blk_cell BK364.out 3).trans rfl, (blk_cell BK365.out 0).trans rfl, (blk_cell BK365.out 1).trans rfl, (blk_cell BK365.out 2).trans rfl, (blk_cell BK365.out 3).trans rfl⟩ (fun hHeld => ?_); refine with_tabW impl_common.tab1 impl_common.bits1 (fun HT_ HW_ => ?_)
  generalize w9.drew = w10 at BK364 BK365 BK366 HB hHeld ⊢
  refine pu 0 7 (tb 1 12) ?_
  refine pu 2 9 #[true, false, true, false, false, false, false, false, false, false, false, false, false] ?_
  refine pu 5 12 #[true, false, true, false, false, true, false, false, false, false, false, false, false] ?_
  refine pu 7 14 #[true, false, true, false, false, true, false, true, false, false, false, false, false] ?_
  refine tk 1 8 #[true, true, true, false, false, true, false, true, false, false, false, false, false] (hy := by rintro w' ⟨s0, s1, s2, s3, s4, s5, s6, s7⟩; go_simp; with_reducible rfl) (h := ?_)
  refine tk 3 10 #[true, true, true, true, false, true, false, true, false, false, false, false, false] (hy := by rintro w' ⟨s0, s1, s2, s3, s4, s5, s6, s7⟩; go_simp; with_reducible rfl) (h := ?_)
  refine tk 6 13 #[true, true, true, true, false, true, true, true, false, false, false, false, false] (hy := by rintro w' ⟨s0, s1, s2, s3, s4, s5, s6, s7⟩; go_simp; with_reducible rfl) (h := ?_)
  refine tk 8 15 #[true, true, true, true, false, true, true, true, true, false, false, false, false] (hy := by rintro w' ⟨s0, s1, s2, s3, s4, s5, s6, s7⟩; go_simp; with_reducible rfl) (h := ?_)
  refine join_ (σ := Nat) 1 (tb 12 1) (fun s_ => [(11, .agg #[.int .i64 t367, .int .i64 t368]), (16, .agg #[.int .i64 t369, .int .i64 t370]), (6, .pointer (some ⟨s_, 0, none⟩)), (17, .agg #[.int .i64 t367, .int .i64 t368, .int .i64 t369, .int .i64 t370])]) (fun s_ w' => (w'.cell? ⟨gb364, 0, none⟩ = some (.int .i64 a0_0) ∧ w'.cell? ⟨gb364, 1, none⟩ = some (.int .i64 a0_1) ∧ w'.cell? ⟨gb364, 2, none⟩ = some (.int .i64 a0_2) ∧ w'.cell? ⟨gb364, 3, none⟩ = some (.int .i64 a0_3) ∧ w'.cell? ⟨gb365, 0, none⟩ = some (.int .i64 a1_0) ∧ w'.cell? ⟨gb365, 1, none⟩ = some (.int .i64 a1_1) ∧ w'.cell? ⟨gb365, 2, none⟩ = some (.int .i64 a1_2) ∧ w'.cell? ⟨gb365, 3, none⟩ = some (.int .i64 a1_3)) ∧ (w'.heap[gb364]? = some (.cells #[.int .i64 a0_0, .int .i64 a0_1, .int .i64 a0_2, .int .i64 a0_3] 34 (0, 0))) ∧ (w'.heap[gb365]? = some (.cells #[.int .i64 a1_0, .int .i64 a1_1, .int .i64 a1_2, .int .i64 a1_3] 34 (0, 0))) ∧ (w'.heap[gb366]? = some (.cells #[.int .i64 0, .int .i64 0, .int .i64 0, .int .i64 0] 34 (0, 0))) ∧ (w'.heap[s_]? = some (.cells #[.int .i64 0, .int .i64 0, .int .i64 0, .int .i64 0] 34 (0, 0))) ∧ (w.heap.size ≤ s_) ∧ (w.heap.size ≤ s_) ∧ (gb364 ≠ s_) ∧ (s_ ≠ gb364) ∧ (gb365 ≠ s_) ∧ (s_ ≠ gb365) ∧ (gb366 ≠ s_) ∧ (s_ ≠ gb366) ∧ (Below w.heap.size w w')) ?_ ?_
  rotate_left
  ·intro hCont
   refine two_ (i := 4) (j := 11) (Ni := some 11) (Nj := some 6) (tb 9 4) #[true, true, true, true, false, true, true, true, true, false, false, true, false] rfl rfl rfl rfl (two_of HT_.out (by kernel_rfl)) (by decide) (by decide) (fun K hK => ?_) (fun K hK => ?_)
   ·skip
    refine gs Try.func97 #[.agg #[.int .i64 a0_0, .int .i64 a0_1], .agg #[.int .i64 a1_0, .int .i64 a1_1]] ?_
    with_reducible refine (impl_greater.calls a0_0 a0_1 a1_0 a1_1 t367 t368 _ A3.out).mono ?_
    rintro e w11 ⟨rfl, hb⟩
    refine ⟨_, rfl, ?_⟩
    replace BK364 := Aside0.mk (bb gb364 hb)
    replace BK365 := Aside0.mk (bb gb365 hb)
    replace BK366 := Aside0.mk (bb gb366 hb)
    replace HB := Aside0.mk (bs hb)
    (try clear hb)
    (try clear hb2)
    (try clear hk)
    (try clear hi)
    refine hK.out _ _ ⟨(blk_cell BK364.out 0).trans rfl, (blk_cell BK364.out 1).trans rfl, (blk_cell BK364.out 2).trans rfl, (blk_cell BK364.out 3).trans rfl, (blk_cell BK365.out 0).trans rfl, (blk_cell BK365.out 1).trans rfl, (blk_cell BK365.out 2).trans rfl, (blk_cell BK365.out 3).trans rfl⟩ (fun hHeld => ?_)
    clear hK K
    refine nm 11 ?_
    refine two_ (i := 9) (j := 11) (Ni := some 16) (Nj := some 6) (tb 10 3) #[true, true, true, true, true, true, true, true, true, false, false, true, false] rfl rfl rfl rfl (two_of HT_.out (by kernel_rfl)) (by decide) (by decide) (fun K hK => ?_) (fun K hK => ?_)
    ·skip
     refine gs Try.func98 #[.agg #[.int .i64 a0_2, .int .i64 a0_3], .agg #[.int .i64 a1_2, .int .i64 a1_3]] ?_
     with_reducible refine (impl_lesser.calls a0_2 a0_3 a1_2 a1_3 t369 t370 _ A4.out).mono ?_
     rintro e w12 ⟨rfl, hb⟩
     refine ⟨_, rfl, ?_⟩
     replace BK364 := Aside0.mk (bb gb364 hb)
     replace BK365 := Aside0.mk (bb gb365 hb)
     replace BK366 := Aside0.mk (bb gb366 hb)
     replace HB := Aside0.mk (bs hb)
     (try clear hb)
     (try clear hb2)
     (try clear hk)
     (try clear hi)
     refine hK.out _ _ ⟨(blk_cell BK364.out 0).trans rfl, (blk_cell BK364.out 1).trans rfl, (blk_cell BK364.out 2).trans rfl, (blk_cell BK364.out 3).trans rfl, (blk_cell BK365.out 0).trans rfl, (blk_cell BK365.out 1).trans rfl, (blk_cell BK365.out 2).trans rfl, (blk_cell BK365.out 3).trans rfl⟩ (fun hHeld => ?_)
     clear hK K
     refine nm 16 ?_
     refine pu 10 17 (tb 11 2) ?_
     refine on 11 6 (tb 12 1) (fun K hK => ?_)
     refine box_step ?hg (N := 6) ?hd (cs := #[.int .i64 0, .int .i64 0, .int .i64 0, .int .i64 0]) (t := 34) ?hr ?_; (case hd => rfl); (case hg => rfl); (case hr => first | (go_simp; done) | (go_simp; rfl))
     intro gb371 hg w13 hbox hb
     have BK371 := Aside0.mk (hbox)
     have GW371 := Aside0.mk (bz hg)
     have GE371 := GW371
     have NB364_371 := Aside0.mk (bn gb364 hg)
     have NB371_364 := Aside0.mk NB364_371.out.symm
     have NB365_371 := Aside0.mk (bn gb365 hg)
     have NB371_365 := Aside0.mk NB365_371.out.symm
     have NB366_371 := Aside0.mk (bn gb366 hg)
     have NB371_366 := Aside0.mk NB366_371.out.symm
     replace BK364 := Aside0.mk (bb gb364 hb)
     replace BK365 := Aside0.mk (bb gb365 hb)
     replace BK366 := Aside0.mk (bb gb366 hb)
     replace HB := Aside0.mk (bs hb)
     clear hb hbox hg
     refine hK.out _ _ ⟨(blk_cell BK364.out 0).trans rfl, (blk_cell BK364.out 1).trans rfl, (blk_cell BK364.out 2).trans rfl, (blk_cell BK364.out 3).trans rfl, (blk_cell BK365.out 0).trans rfl, (blk_cell BK365.out 1).trans rfl, (blk_cell BK365.out 2).trans rfl, (blk_cell BK365.out 3).trans rfl⟩ (fun hHeld => ?_)
     clear hK K
     refine nm 6 ?_
     exact norm_ (by simp only [putAll, Act.put, List.setIfInBounds_toArray, List.set_cons_zero, List.set_cons_succ]) (hCont (gb371) _ ⟨hHeld, (bo gb364), (bo gb365), (bo gb366), (bo gb371), GW371.out, GE371.out, NB364_371.out, NB371_364.out, NB365_371.out, NB371_365.out, NB366_371.out, NB371_366.out, bl⟩)
    ·skip
     refine box_step ?hg (N := 6) ?hd (cs := #[.int .i64 0, .int .i64 0, .int .i64 0, .int .i64 0]) (t := 34) ?hr ?_; (case hd => rfl); (case hg => rfl); (case hr => first | (go_simp; done) | (go_simp; rfl))
     intro gb371 hg w12 hbox hb
     have BK371 := Aside0.mk (hbox)
     have GW371 := Aside0.mk (bz hg)
     have GE371 := GW371
     have NB364_371 := Aside0.mk (bn gb364 hg)
     have NB371_364 := Aside0.mk NB364_371.out.symm
     have NB365_371 := Aside0.mk (bn gb365 hg)
     have NB371_365 := Aside0.mk NB365_371.out.symm
     have NB366_371 := Aside0.mk (bn gb366 hg)
     have NB371_366 := Aside0.mk NB366_371.out.symm
     replace BK364 := Aside0.mk (bb gb364 hb)
     replace BK365 := Aside0.mk (bb gb365 hb)
     replace BK366 := Aside0.mk (bb gb366 hb)
     replace HB := Aside0.mk (bs hb)
     clear hb hbox hg
     refine hK.out _ _ ⟨(blk_cell BK364.out 0).trans rfl, (blk_cell BK364.out 1).trans rfl, (blk_cell BK364.out 2).trans rfl, (blk_cell BK364.out 3).trans rfl, (blk_cell BK365.out 0).trans rfl, (blk_cell BK365.out 1).trans rfl, (blk_cell BK365.out 2).trans rfl, (blk_cell BK365.out 3).trans rfl⟩ (fun hHeld => ?_)
     clear hK K
     refine nm 6 ?_
     refine on 9 16 #[true, true, true, true, true, true, true, true, true, true, false, true, false] (fun K hK => ?_)
     refine gs Try.func98 #[.agg #[.int .i64 a0_2, .int .i64 a0_3], .agg #[.int .i64 a1_2, .int .i64 a1_3]] ?_
     with_reducible refine (impl_lesser.calls a0_2 a0_3 a1_2 a1_3 t369 t370 _ A4.out).mono ?_
     rintro e w13 ⟨rfl, hb⟩
     refine ⟨_, rfl, ?_⟩
     replace BK364 := Aside0.mk (bb gb364 hb)
     replace BK365 := Aside0.mk (bb gb365 hb)
     replace BK366 := Aside0.mk (bb gb366 hb)
     replace BK371 := Aside0.mk (bb gb371 hb)
     replace HB := Aside0.mk (bs hb)
     (try clear hb)
     (try clear hb2)
     (try clear hk)
     (try clear hi)
     refine hK.out _ _ ⟨(blk_cell BK364.out 0).trans rfl, (blk_cell BK364.out 1).trans rfl, (blk_cell BK364.out 2).trans rfl, (blk_cell BK364.out 3).trans rfl, (blk_cell BK365.out 0).trans rfl, (blk_cell BK365.out 1).trans rfl, (blk_cell BK365.out 2).trans rfl, (blk_cell BK365.out 3).trans rfl⟩ (fun hHeld => ?_)
     clear hK K
     refine nm 16 ?_
     refine pu 10 17 (tb 12 1) ?_
     exact norm_ (by simp only [putAll, Act.put, List.setIfInBounds_toArray, List.set_cons_zero, List.set_cons_succ]) (hCont (gb371) _ ⟨hHeld, (bo gb364), (bo gb365), (bo gb366), (bo gb371), GW371.out, GE371.out, NB364_371.out, NB371_364.out, NB365_371.out, NB371_365.out, NB366_371.out, NB371_366.out, bl⟩)
   ·skip
    refine box_step ?hg (N := 6) ?hd (cs := #[.int .i64 0, .int .i64 0, .int .i64 0, .int .i64 0]) (t := 34) ?hr ?_; (case hd => rfl); (case hg => rfl); (case hr => first | (go_simp; done) | (go_simp; rfl))
    intro gb371 hg w11 hbox hb
    have BK371 := Aside0.mk (hbox)
    have GW371 := Aside0.mk (bz hg)
    have GE371 := GW371
    have NB364_371 := Aside0.mk (bn gb364 hg)
    have NB371_364 := Aside0.mk NB364_371.out.symm
    have NB365_371 := Aside0.mk (bn gb365 hg)
    have NB371_365 := Aside0.mk NB365_371.out.symm
    have NB366_371 := Aside0.mk (bn gb366 hg)
    have NB371_366 := Aside0.mk NB366_371.out.symm
    replace BK364 := Aside0.mk (bb gb364 hb)
    replace BK365 := Aside0.mk (bb gb365 hb)
    replace BK366 := Aside0.mk (bb gb366 hb)
    replace HB := Aside0.mk (bs hb)
    clear hb hbox hg
    refine hK.out _ _ ⟨(blk_cell BK364.out 0).trans rfl, (blk_cell BK364.out 1).trans rfl, (blk_cell BK364.out 2).trans rfl, (blk_cell BK364.out 3).trans rfl, (blk_cell BK365.out 0).trans rfl, (blk_cell BK365.out 1).trans rfl, (blk_cell BK365.out 2).trans rfl, (blk_cell BK365.out 3).trans rfl⟩ (fun hHeld => ?_)
    clear hK K
    refine nm 6 ?_
    refine on 4 11 #[true, true, true, true, true, true, true, true, true, false, false, true, false] (fun K hK => ?_)
    refine gs Try.func97 #[.agg #[.int .i64 a0_0, .int .i64 a0_1], .agg #[.int .i64 a1_0, .int .i64 a1_1]] ?_
    with_reducible refine (impl_greater.calls a0_0 a0_1 a1_0 a1_1 t367 t368 _ A3.out).mono ?_
    rintro e w12 ⟨rfl, hb⟩
    refine ⟨_, rfl, ?_⟩
    replace BK364 := Aside0.mk (bb gb364 hb)
    replace BK365 := Aside0.mk (bb gb365 hb)
    replace BK366 := Aside0.mk (bb gb366 hb)
    replace BK371 := Aside0.mk (bb gb371 hb)
    replace HB := Aside0.mk (bs hb)
    (try clear hb)
    (try clear hb2)
    (try clear hk)
    (try clear hi)
    refine hK.out _ _ ⟨(blk_cell BK364.out 0).trans rfl, (blk_cell BK364.out 1).trans rfl, (blk_cell BK364.out 2).trans rfl, (blk_cell BK364.out 3).trans rfl, (blk_cell BK365.out 0).trans rfl, (blk_cell BK365.out 1).trans rfl, (blk_cell BK365.out 2).trans rfl, (blk_cell BK365.out 3).trans rfl⟩ (fun hHeld => ?_)
    clear hK K
    refine nm 11 ?_
    refine on 9 16 #[true, true, true, true, true, true, true, true, true, true, false, true, false] (fun K hK => ?_)
    refine gs Try.func98 #[.agg #[.int .i64 a0_2, .int .i64 a0_3], .agg #[.int .i64 a1_2, .int .i64 a1_3]] ?_
    with_reducible refine (impl_lesser.calls a0_2 a0_3 a1_2 a1_3 t369 t370 _ A4.out).mono ?_
    rintro e w13 ⟨rfl, hb⟩
    refine ⟨_, rfl, ?_⟩
    replace BK364 := Aside0.mk (bb gb364 hb)
    replace BK365 := Aside0.mk (bb gb365 hb)
    replace BK366 := Aside0.mk (bb gb366 hb)
    replace BK371 := Aside0.mk (bb gb371 hb)
    replace HB := Aside0.mk (bs hb)
    (try clear hb)
    (try clear hb2)
    (try clear hk)
    (try clear hi)
    refine hK.out _ _ ⟨(blk_cell BK364.out 0).trans rfl, (blk_cell BK364.out 1).trans rfl, (blk_cell BK364.out 2).trans rfl, (blk_cell BK364.out 3).trans rfl, (blk_cell BK365.out 0).trans rfl, (blk_cell BK365.out 1).trans rfl, (blk_cell BK365.out 2).trans rfl, (blk_cell BK365.out 3).trans rfl⟩ (fun hHeld => ?_)
    clear hK K
    refine nm 16 ?_
    refine pu 10 17 (tb 12 1) ?_
    exact norm_ (by simp only [putAll, Act.put, List.setIfInBounds_toArray, List.set_cons_zero, List.set_cons_succ]) (hCont (gb371) _ ⟨hHeld, (bo gb364), (bo gb365), (bo gb366), (bo gb371), GW371.out, GE371.out, NB364_371.out, NB371_364.out, NB365_371.out, NB371_365.out, NB366_371.out, NB371_366.out, bl⟩)
  rintro gb371 w14 ⟨hS_, h0_, h1_, h2_, h3_, h4_, h5_, h6_, h7_, h8_, h9_, h10_, h11_, h12_⟩
  have n0_ : Aside0 (w14.heap[gb364]? = some (.cells #[.int .i64 a0_0, .int .i64 a0_1, .int .i64 a0_2, .int .i64 a0_3] 34 (0, 0))) := ⟨h0_⟩
  have n1_ : Aside0 (w14.heap[gb365]? = some (.cells #[.int .i64 a1_0, .int .i64 a1_1, .int .i64 a1_2, .int .i64 a1_3] 34 (0, 0))) := ⟨h1_⟩
  have n2_ : Aside0 (w14.heap[gb366]? = some (.cells #[.int .i64 0, .int .i64 0, .int .i64 0, .int .i64 0] 34 (0, 0))) := ⟨h2_⟩
  have n3_ : Aside0 (w14.heap[gb371]? = some (.cells #[.int .i64 0, .int .i64 0, .int .i64 0, .int .i64 0] 34 (0, 0))) := ⟨h3_⟩
  have n4_ : Aside0 (w.heap.size ≤ gb371) := ⟨h4_⟩
  have n5_ : Aside0 (w.heap.size ≤ gb371) := ⟨h5_⟩
  have n6_ : Aside0 (gb364 ≠ gb371) := ⟨h6_⟩
  have n7_ : Aside0 (gb371 ≠ gb364) := ⟨h7_⟩
  have n8_ : Aside0 (gb365 ≠ gb371) := ⟨h8_⟩
  have n9_ : Aside0 (gb371 ≠ gb365) := ⟨h9_⟩
  have n10_ : Aside0 (gb366 ≠ gb371) := ⟨h10_⟩
  have n11_ : Aside0 (gb371 ≠ gb366) := ⟨h11_⟩
  have n12_ : Aside0 (Below w.heap.size w w14) := ⟨h12_⟩
  clear BK364
  clear BK365
  clear BK366
  clear HB
  clear h0_ h1_ h2_ h3_ h4_ h5_ h6_ h7_ h8_ h9_ h10_ h11_ h12_
  have BK364 := n0_
  have BK365 := n1_
  have BK366 := n2_
  have BK371 := n3_
  have GW371 := n4_
  have GE371 := n5_
  have NB364_371 := n6_
  have NB371_364 := n7_
  have NB365_371 := n8_
  have NB371_365 := n9_
  have NB366_371 := n10_
  have NB371_366 := n11_
  have HB := n12_
  clear n0_ n1_ n2_ n3_ n4_ n5_ n6_ n7_ n8_ n9_ n10_ n11_ n12_
  have hHeld : w14.cell? ⟨gb364, 0, none⟩ = some (.int .i64 a0_0) ∧ w14.cell? ⟨gb364, 1, none⟩ = some (.int .i64 a0_1) ∧ w14.cell? ⟨gb364, 2, none⟩ = some (.int .i64 a0_2) ∧ w14.cell? ⟨gb364, 3, none⟩ = some (.int .i64 a0_3) ∧ w14.cell? ⟨gb365, 0, none⟩ = some (.int .i64 a1_0) ∧ w14.cell? ⟨gb365, 1, none⟩ = some (.int .i64 a1_1) ∧ w14.cell? ⟨gb365, 2, none⟩ = some (.int .i64 a1_2) ∧ w14.cell? ⟨gb365, 3, none⟩ = some (.int .i64 a1_3) := hS_
  refine norm_ (a' := ?_) ?_ ?_
  rotate_left
  ·simp only [putAll, Act.put, List.setIfInBounds_toArray, List.set_cons_zero, List.set_cons_succ]
   rfl
  refine one_ (i := 12) (N := none) (tb 13 0) rfl rfl (one_of HT_.out (by kernel_rfl)) (by decide) (fun K hK => ?_)
  have hs15 : w14.cell? ⟨gb371, 0, none⟩ = some (.int .i64 0) := (blk_cell BK371.out 0).trans rfl
  have hfs15 := blk_frozen BK371.out 0
  have hns15_0 := NB364_371.out
  have hns15_1 := NB365_371.out
  have hns15_2 := NB366_371.out
  have hms15_0 := NB371_364.out
  have hms15_1 := NB371_365.out
  have hms15_2 := NB371_366.out
  have hs16 : w14.cell? ⟨gb371, 1, none⟩ = some (.int .i64 0) := (blk_cell BK371.out 1).trans rfl
  have hfs16 := blk_frozen BK371.out 1
  have hns16_0 := NB364_371.out
  have hns16_1 := NB365_371.out
  have hns16_2 := NB366_371.out
  have hms16_0 := NB371_364.out
  have hms16_1 := NB371_365.out
  have hms16_2 := NB371_366.out
  have hs17 : w14.cell? ⟨gb371, 2, none⟩ = some (.int .i64 0) := (blk_cell BK371.out 2).trans rfl
  have hfs17 := blk_frozen BK371.out 2
  have hns17_0 := NB364_371.out
  have hns17_1 := NB365_371.out
  have hns17_2 := NB366_371.out
  have hms17_0 := NB371_364.out
  have hms17_1 := NB371_365.out
  have hms17_2 := NB371_366.out
  have hs18 : w14.cell? ⟨gb371, 3, none⟩ = some (.int .i64 0) := (blk_cell BK371.out 3).trans rfl
  have hfs18 := blk_frozen BK371.out 3
  have hns18_0 := NB364_371.out
  have hns18_1 := NB365_371.out
  have hns18_2 := NB366_371.out
  have hms18_0 := NB371_364.out
  have hms18_1 := NB371_365.out
  have hms18_2 := NB371_366.out
  refine skip_ (w1 := ?_) (by rfl) rfl ?_ ?_
  rotate_left
  ·go_simp
   rfl
  refine hK.out _ _ ⟨(by (iterate 4 refine (cell_far (p := ⟨gb371, _, none⟩) NB364_371.out _).trans ?_); exact hHeld.1), (by (iterate 4 refine (cell_far (p := ⟨gb371, _, none⟩) NB364_371.out _).trans ?_); exact hHeld.2.1), (by (iterate 4 refine (cell_far (p := ⟨gb371, _, none⟩) NB364_371.out _).trans ?_); exact hHeld.2.2.1), (by (iterate 4 refine (cell_far (p := ⟨gb371, _, none⟩) NB364_371.out _).trans ?_); exact hHeld.2.2.2.1), (by (iterate 4 refine (cell_far (p := ⟨gb371, _, none⟩) NB365_371.out _).trans ?_); exact hHeld.2.2.2.2.1), (by (iterate 4 refine (cell_far (p := ⟨gb371, _, none⟩) NB365_371.out _).trans ?_); exact hHeld.2.2.2.2.2.1), (by (iterate 4 refine (cell_far (p := ⟨gb371, _, none⟩) NB365_371.out _).trans ?_); exact hHeld.2.2.2.2.2.2.1), (by (iterate 4 refine (cell_far (p := ⟨gb371, _, none⟩) NB365_371.out _).trans ?_); exact hHeld.2.2.2.2.2.2.2)⟩ (fun hHeld => ?_)
  clear hK K
  refine done_ (done_of HT_.out (by kernel_rfl)) ?_
  have hnb19 := NB371_364.out
  have hnc19 := NB364_371.out
  have hnb20 := NB371_365.out
  have hnc20 := NB365_371.out
  have hnb21 := NB371_366.out
  have hnc21 := NB366_371.out
  have hcz22_0 : w14.cell? ⟨gb371, 0, none⟩ = some (.int .i64 0) := (blk_cell BK371.out 0).trans rfl
  have hcz22_1 : w14.cell? ⟨gb371, 1, none⟩ = some (.int .i64 0) := (blk_cell BK371.out 1).trans rfl
  have hcz22_2 : w14.cell? ⟨gb371, 2, none⟩ = some (.int .i64 0) := (blk_cell BK371.out 2).trans rfl
  have hcz22_3 : w14.cell? ⟨gb371, 3, none⟩ = some (.int .i64 0) := (blk_cell BK371.out 3).trans rfl
  have hfz22_0 := blk_frozen BK371.out 0
  have hfz22_1 := blk_frozen BK371.out 1
  have hfz22_2 := blk_frozen BK371.out 2
  have hfz22_3 := blk_frozen BK371.out 3
  try go_wp2_with (first | ((with_reducible refine gate_callee (f := 95) rfl ?_); refine gl 22 Try.func95 #[.agg #[.int .i64 t367, .int .i64 t368], .agg #[.int .i64 t369, .int .i64 t370]] ?_; (with_reducible refine (impl_less.calls t367 t368 t369 t370 true _ A5.out).mono ?_); rintro e w23 ⟨rfl, hb⟩; refine ⟨_, rfl, ?_⟩; replace BK364 := Aside0.mk (blk_below (g := gb364) (o := .cells #[.int .i64 a0_0, .int .i64 a0_1, .int .i64 a0_2, .int .i64 a0_3] 34 (0, 0)) (by (with_reducible repeat (first | refine blk_drewN ?_ _ | refine blk_drew ?_ | refine blk_alloc ?_ _)); refine blk_far ?_ NB364_371.out _; (with_reducible repeat (first | refine blk_drewN ?_ _ | refine blk_drew ?_ | refine blk_alloc ?_ _)); refine blk_far ?_ NB364_371.out _; (with_reducible repeat (first | refine blk_drewN ?_ _ | refine blk_drew ?_ | refine blk_alloc ?_ _)); refine blk_far ?_ NB364_371.out _; (with_reducible repeat (first | refine blk_drewN ?_ _ | refine blk_drew ?_ | refine blk_alloc ?_ _)); refine blk_far ?_ NB364_371.out _; (with_reducible repeat (first | refine blk_drewN ?_ _ | refine blk_drew ?_ | refine blk_alloc ?_ _)); exact BK364.out) hb); replace BK365 := Aside0.mk (blk_below (g := gb365) (o := .cells #[.int .i64 a1_0, .int .i64 a1_1, .int .i64 a1_2, .int .i64 a1_3] 34 (0, 0)) (by (with_reducible repeat (first | refine blk_drewN ?_ _ | refine blk_drew ?_ | refine blk_alloc ?_ _)); refine blk_far ?_ NB365_371.out _; (with_reducible repeat (first | refine blk_drewN ?_ _ | refine blk_drew ?_ | refine blk_alloc ?_ _)); refine blk_far ?_ NB365_371.out _; (with_reducible repeat (first | refine blk_drewN ?_ _ | refine blk_drew ?_ | refine blk_alloc ?_ _)); refine blk_far ?_ NB365_371.out _; (with_reducible repeat (first | refine blk_drewN ?_ _ | refine blk_drew ?_ | refine blk_alloc ?_ _)); refine blk_far ?_ NB365_371.out _; (with_reducible repeat (first | refine blk_drewN ?_ _ | refine blk_drew ?_ | refine blk_alloc ?_ _)); exact BK365.out) hb); replace BK366 := Aside0.mk (blk_below (g := gb366) (o := .cells #[.int .i64 0, .int .i64 0, .int .i64 0, .int .i64 0] 34 (0, 0)) (by (with_reducible repeat (first | refine blk_drewN ?_ _ | refine blk_drew ?_ | refine blk_alloc ?_ _)); refine blk_far ?_ NB366_371.out _; (with_reducible repeat (first | refine blk_drewN ?_ _ | refine blk_drew ?_ | refine blk_alloc ?_ _)); refine blk_far ?_ NB366_371.out _; (with_reducible repeat (first | refine blk_drewN ?_ _ | refine blk_drew ?_ | refine blk_alloc ?_ _)); refine blk_far ?_ NB366_371.out _; (with_reducible repeat (first | refine blk_drewN ?_ _ | refine blk_drew ?_ | refine blk_alloc ?_ _)); refine blk_far ?_ NB366_371.out _; (with_reducible repeat (first | refine blk_drewN ?_ _ | refine blk_drew ?_ | refine blk_alloc ?_ _)); exact BK366.out) hb); replace BK371 := Aside0.mk (blk_below (g := gb371) (o := .cells #[.int .i64 t367, .int .i64 t368, .int .i64 t369, .int .i64 t370] 34 (0, 0)) (by (with_reducible repeat (first | refine blk_drewN ?_ _ | refine blk_drew ?_ | refine blk_alloc ?_ _)); refine blk_put (cs := #[.int .i64 t367, .int .i64 t368, .int .i64 t369, .int .i64 0]) ?_ 3 _ rfl; (with_reducible repeat (first | refine blk_drewN ?_ _ | refine blk_drew ?_ | refine blk_alloc ?_ _)); refine blk_put (cs := #[.int .i64 t367, .int .i64 t368, .int .i64 0, .int .i64 0]) ?_ 2 _ rfl; (with_reducible repeat (first | refine blk_drewN ?_ _ | refine blk_drew ?_ | refine blk_alloc ?_ _)); refine blk_put (cs := #[.int .i64 t367, .int .i64 0, .int .i64 0, .int .i64 0]) ?_ 1 _ rfl; (with_reducible repeat (first | refine blk_drewN ?_ _ | refine blk_drew ?_ | refine blk_alloc ?_ _)); refine blk_put (cs := #[.int .i64 0, .int .i64 0, .int .i64 0, .int .i64 0]) ?_ 0 _ rfl; (with_reducible repeat (first | refine blk_drewN ?_ _ | refine blk_drew ?_ | refine blk_alloc ?_ _)); exact BK371.out) hb); replace HB := Aside0.mk (bs hb); (try clear hb); (try clear hb2); (try clear hk); (try clear hi); have hcz24_0 : w23.cell? ⟨gb371, 0, none⟩ = some (.int .i64 t367) := (blk_cell BK371.out 0).trans rfl; have hcz24_1 : w23.cell? ⟨gb371, 1, none⟩ = some (.int .i64 t368) := (blk_cell BK371.out 1).trans rfl; have hcz24_2 : w23.cell? ⟨gb371, 2, none⟩ = some (.int .i64 t369) := (blk_cell BK371.out 2).trans rfl; have hcz24_3 : w23.cell? ⟨gb371, 3, none⟩ = some (.int .i64 t370) := (blk_cell BK371.out 3).trans rfl; have hfz24_0 := blk_frozen BK371.out 0; have hfz24_1 := blk_frozen BK371.out 1; have hfz24_2 := blk_frozen BK371.out 2; have hfz24_3 := blk_frozen BK371.out 3; have hnb25 := NB366_364.out; have hnc25 := NB364_366.out; have hnb26 := NB366_365.out; have hnc26 := NB365_366.out; have hcz27_0 : w23.cell? ⟨gb366, 0, none⟩ = some (.int .i64 0) := (blk_cell BK366.out 0).trans rfl; have hcz27_1 : w23.cell? ⟨gb366, 1, none⟩ = some (.int .i64 0) := (blk_cell BK366.out 1).trans rfl; have hcz27_2 : w23.cell? ⟨gb366, 2, none⟩ = some (.int .i64 0) := (blk_cell BK366.out 2).trans rfl; have hcz27_3 : w23.cell? ⟨gb366, 3, none⟩ = some (.int .i64 0) := (blk_cell BK366.out 3).trans rfl; have hfz27_0 := blk_frozen BK366.out 0; have hfz27_1 := blk_frozen BK366.out 1; have hfz27_2 := blk_frozen BK366.out 2; have hfz27_3 := blk_frozen BK366.out 3))
  refine bodyPost_ret (results_ct rfl _ _ gb366 34 #[.int .i64 t367, .int .i64 t368, .int .i64 t369, .int .i64 t370] (0, 0) _ rfl (by (with_reducible repeat (first | refine blk_drewN ?_ _ | refine blk_drew ?_ | refine blk_alloc ?_ _)); refine blk_put (cs := #[.int .i64 t367, .int .i64 t368, .int .i64 t369, .int .i64 0]) ?_ 3 _ rfl; (with_reducible repeat (first | refine blk_drewN ?_ _ | refine blk_drew ?_ | refine blk_alloc ?_ _)); refine blk_put (cs := #[.int .i64 t367, .int .i64 t368, .int .i64 0, .int .i64 0]) ?_ 2 _ rfl; (with_reducible repeat (first | refine blk_drewN ?_ _ | refine blk_drew ?_ | refine blk_alloc ?_ _)); refine blk_put (cs := #[.int .i64 t367, .int .i64 0, .int .i64 0, .int .i64 0]) ?_ 1 _ rfl; (with_reducible repeat (first | refine blk_drewN ?_ _ | refine blk_drew ?_ | refine blk_alloc ?_ _)); refine blk_put (cs := #[.int .i64 0, .int .i64 0, .int .i64 0, .int .i64 0]) ?_ 0 _ rfl; (with_reducible repeat (first | refine blk_drewN ?_ _ | refine blk_drew ?_ | refine blk_alloc ?_ _)); exact BK366.out) Try.underlying34 rfl (by kernel_rfl)) rfl ?_
  exact ⟨by first | rfl | (simp [errW_none, errW_some] <;> rfl) | (simp [*, errW_none, errW_some] <;> rfl), bl⟩
 ·replace c6 := Bool.eq_false_iff.mpr c6
  subst c6
  have H1 : (some (0, 0, 0, 0, false)) = some (r1, r2, r3, r4, r5) := by rw [if_neg (show ¬ (false = true) by decide)] at H; exact H
  clear H
  have H := H1
  clear H1
  simp only [Option.some.injEq, Prod.mk.injEq] at H
  obtain ⟨rfl, rfl, rfl, rfl, rfl⟩ := H
  go_enter Try.func51, Try.ntmps51
  try go_wp2_with (first | ((with_reducible refine gate_dst (N := 2) rfl ?_); refine bx 2 #[.int .i64 a0_0, .int .i64 a0_1, .int .i64 a0_2, .int .i64 a0_3] 34 ?_; intro gb364 hg w28 hbox hb; have BK364 := Aside0.mk (hbox); have GW364 := Aside0.mk (bz hg); have GE364 := GW364; replace HB := Aside0.mk (bs hb); clear hb hbox hg) | ((with_reducible refine gate_dst (N := 3) rfl ?_); refine bx 3 #[.int .i64 a1_0, .int .i64 a1_1, .int .i64 a1_2, .int .i64 a1_3] 34 ?_; intro gb365 hg w29 hbox hb; have BK365 := Aside0.mk (hbox); have GW365 := Aside0.mk (bz hg); have GE365 := GW365; have NB364_365 := Aside0.mk (bn gb364 hg); have NB365_364 := Aside0.mk NB364_365.out.symm; replace BK364 := Aside0.mk (bb gb364 hb); replace HB := Aside0.mk (bs hb); clear hb hbox hg) | ((with_reducible refine gate_dst (N := 4) rfl ?_); refine bx 4 #[.int .i64 0, .int .i64 0, .int .i64 0, .int .i64 0] 34 ?_; intro gb366 hg w30 hbox hb; have BK366 := Aside0.mk (hbox); have GW366 := Aside0.mk (bz hg); have GE366 := GW366; have NB364_366 := Aside0.mk (bn gb364 hg); have NB366_364 := Aside0.mk NB364_366.out.symm; have NB365_366 := Aside0.mk (bn gb365 hg); have NB366_365 := Aside0.mk NB365_366.out.symm; replace BK364 := Aside0.mk (bb gb364 hb); replace BK365 := Aside0.mk (bb gb365 hb); replace HB := Aside0.mk (bs hb); clear hb hbox hg))
  replace BK364 := Aside0.mk (blk_drew BK364.out)
  replace BK365 := Aside0.mk (blk_drew BK365.out)
  replace BK366 := Aside0.mk (blk_drew BK366.out)
  replace HB := Aside0.mk (below_drew1 HB.out)
  refine start_ (n := 13) (S := fun w' => w'.cell? ⟨gb364, 0, none⟩ = some (.int .i64 a0_0) ∧ w'.cell? ⟨gb364, 1, none⟩ = some (.int .i64 a0_1) ∧ w'.cell? ⟨gb364, 2, none⟩ = some (.int .i64 a0_2) ∧ w'.cell? ⟨gb364, 3, none⟩ = some (.int .i64 a0_3) ∧ w'.cell? ⟨gb365, 0, none⟩ = some (.int .i64 a1_0) ∧ w'.cell? ⟨gb365, 1, none⟩ = some (.int .i64 a1_1) ∧ w'.cell? ⟨gb365, 2, none⟩ = some (.int .i64 a1_2) ∧ w'.cell? ⟨gb365, 3, none⟩ = some (.int .i64 a1_3)) (ds := []) (tb 0 13) (by kernel_rfl) rfl rfl ⟨(blk_cell BK364.out 0).trans rfl, (blk_cell BK364.out 1).trans rfl, (blk_cell BK364.out 2).trans rfl, (blk_cell BK364.out 3).trans rfl, (blk_cell BK365.out 0).trans rfl, (blk_cell BK365.out 1).trans rfl, (blk_cell BK365.out 2).trans rfl, (blk_cell BK365.out 3).trans rfl⟩ (fun hHeld => ?_); refine with_tabW impl_common.tab1 impl_common.bits1 (fun HT_ HW_ => ?_)
  generalize w30.drew = w31 at BK364 BK365 BK366 HB hHeld ⊢
  refine pu 0 7 (tb 1 12) ?_
  refine pu 2 9 #[true, false, true, false, false, false, false, false, false, false, false, false, false] ?_
  refine pu 5 12 #[true, false, true, false, false, true, false, false, false, false, false, false, false] ?_
  refine pu 7 14 #[true, false, true, false, false, true, false, true, false, false, false, false, false] ?_
  refine tk 1 8 #[true, true, true, false, false, true, false, true, false, false, false, false, false] (hy := by rintro w' ⟨s0, s1, s2, s3, s4, s5, s6, s7⟩; go_simp; with_reducible rfl) (h := ?_)
  refine tk 3 10 #[true, true, true, true, false, true, false, true, false, false, false, false, false] (hy := by rintro w' ⟨s0, s1, s2, s3, s4, s5, s6, s7⟩; go_simp; with_reducible rfl) (h := ?_)
  refine tk 6 13 #[true, true, true, true, false, true, true, true, false, false, false, false, false] (hy := by rintro w' ⟨s0, s1, s2, s3, s4, s5, s6, s7⟩; go_simp; with_reducible rfl) (h := ?_)
  refine tk 8 15 #[true, true, true, true, false, true, true, true, true, false, false, false, false] (hy := by rintro w' ⟨s0, s1, s2, s3, s4, s5, s6, s7⟩; go_simp; with_reducible rfl) (h := ?_)
  refine join_ (σ := Nat) 1 (tb 12 1) (fun s_ => [(11, .agg #[.int .i64 t367, .int .i64 t368]), (16, .agg #[.int .i64 t369, .int .i64 t370]), (6, .pointer (some ⟨s_, 0, none⟩)), (17, .agg #[.int .i64 t367, .int .i64 t368, .int .i64 t369, .int .i64 t370])]) (fun s_ w' => (w'.cell? ⟨gb364, 0, none⟩ = some (.int .i64 a0_0) ∧ w'.cell? ⟨gb364, 1, none⟩ = some (.int .i64 a0_1) ∧ w'.cell? ⟨gb364, 2, none⟩ = some (.int .i64 a0_2) ∧ w'.cell? ⟨gb364, 3, none⟩ = some (.int .i64 a0_3) ∧ w'.cell? ⟨gb365, 0, none⟩ = some (.int .i64 a1_0) ∧ w'.cell? ⟨gb365, 1, none⟩ = some (.int .i64 a1_1) ∧ w'.cell? ⟨gb365, 2, none⟩ = some (.int .i64 a1_2) ∧ w'.cell? ⟨gb365, 3, none⟩ = some (.int .i64 a1_3)) ∧ (w'.heap[gb364]? = some (.cells #[.int .i64 a0_0, .int .i64 a0_1, .int .i64 a0_2, .int .i64 a0_3] 34 (0, 0))) ∧ (w'.heap[gb365]? = some (.cells #[.int .i64 a1_0, .int .i64 a1_1, .int .i64 a1_2, .int .i64 a1_3] 34 (0, 0))) ∧ (w'.heap[gb366]? = some (.cells #[.int .i64 0, .int .i64 0, .int .i64 0, .int .i64 0] 34 (0, 0))) ∧ (w'.heap[s_]? = some (.cells #[.int .i64 0, .int .i64 0, .int .i64 0, .int .i64 0] 34 (0, 0))) ∧ (w.heap.size ≤ s_) ∧ (w.heap.size ≤ s_) ∧ (gb364 ≠ s_) ∧ (s_ ≠ gb364) ∧ (gb365 ≠ s_) ∧ (s_ ≠ gb365) ∧ (gb366 ≠ s_) ∧ (s_ ≠ gb366) ∧ (Below w.heap.size w w')) ?_ ?_
  rotate_left
  ·intro hCont
   refine two_ (i := 4) (j := 11) (Ni := some 11) (Nj := some 6) (tb 9 4) #[true, true, true, true, false, true, true, true, true, false, false, true, false] rfl rfl rfl rfl (two_of HT_.out (by kernel_rfl)) (by decide) (by decide) (fun K hK => ?_) (fun K hK => ?_)
   ·skip
    refine gs Try.func97 #[.agg #[.int .i64 a0_0, .int .i64 a0_1], .agg #[.int .i64 a1_0, .int .i64 a1_1]] ?_
    with_reducible refine (impl_greater.calls a0_0 a0_1 a1_0 a1_1 t367 t368 _ A3.out).mono ?_
    rintro e w32 ⟨rfl, hb⟩
    refine ⟨_, rfl, ?_⟩
    replace BK364 := Aside0.mk (bb gb364 hb)
    replace BK365 := Aside0.mk (bb gb365 hb)
    replace BK366 := Aside0.mk (bb gb366 hb)
    replace HB := Aside0.mk (bs hb)
    (try clear hb)
    (try clear hb2)
    (try clear hk)
    (try clear hi)
    refine hK.out _ _ ⟨(blk_cell BK364.out 0).trans rfl, (blk_cell BK364.out 1).trans rfl, (blk_cell BK364.out 2).trans rfl, (blk_cell BK364.out 3).trans rfl, (blk_cell BK365.out 0).trans rfl, (blk_cell BK365.out 1).trans rfl, (blk_cell BK365.out 2).trans rfl, (blk_cell BK365.out 3).trans rfl⟩ (fun hHeld => ?_)
    clear hK K
    refine nm 11 ?_
    refine two_ (i := 9) (j := 11) (Ni := some 16) (Nj := some 6) (tb 10 3) #[true, true, true, true, true, true, true, true, true, false, false, true, false] rfl rfl rfl rfl (two_of HT_.out (by kernel_rfl)) (by decide) (by decide) (fun K hK => ?_) (fun K hK => ?_)
    ·skip
     refine gs Try.func98 #[.agg #[.int .i64 a0_2, .int .i64 a0_3], .agg #[.int .i64 a1_2, .int .i64 a1_3]] ?_
     with_reducible refine (impl_lesser.calls a0_2 a0_3 a1_2 a1_3 t369 t370 _ A4.out).mono ?_
     rintro e w33 ⟨rfl, hb⟩
     refine ⟨_, rfl, ?_⟩
     replace BK364 := Aside0.mk (bb gb364 hb)
     replace BK365 := Aside0.mk (bb gb365 hb)
     replace BK366 := Aside0.mk (bb gb366 hb)
     replace HB := Aside0.mk (bs hb)
     (try clear hb)
     (try clear hb2)
     (try clear hk)
     (try clear hi)
     refine hK.out _ _ ⟨(blk_cell BK364.out 0).trans rfl, (blk_cell BK364.out 1).trans rfl, (blk_cell BK364.out 2).trans rfl, (blk_cell BK364.out 3).trans rfl, (blk_cell BK365.out 0).trans rfl, (blk_cell BK365.out 1).trans rfl, (blk_cell BK365.out 2).trans rfl, (blk_cell BK365.out 3).trans rfl⟩ (fun hHeld => ?_)
     clear hK K
     refine nm 16 ?_
     refine pu 10 17 (tb 11 2) ?_
     refine on 11 6 (tb 12 1) (fun K hK => ?_)
     refine box_step ?hg (N := 6) ?hd (cs := #[.int .i64 0, .int .i64 0, .int .i64 0, .int .i64 0]) (t := 34) ?hr ?_; (case hd => rfl); (case hg => rfl); (case hr => first | (go_simp; done) | (go_simp; rfl))
     intro gb371 hg w34 hbox hb
     have BK371 := Aside0.mk (hbox)
     have GW371 := Aside0.mk (bz hg)
     have GE371 := GW371
     have NB364_371 := Aside0.mk (bn gb364 hg)
     have NB371_364 := Aside0.mk NB364_371.out.symm
     have NB365_371 := Aside0.mk (bn gb365 hg)
     have NB371_365 := Aside0.mk NB365_371.out.symm
     have NB366_371 := Aside0.mk (bn gb366 hg)
     have NB371_366 := Aside0.mk NB366_371.out.symm
     replace BK364 := Aside0.mk (bb gb364 hb)
     replace BK365 := Aside0.mk (bb gb365 hb)
     replace BK366 := Aside0.mk (bb gb366 hb)
     replace HB := Aside0.mk (bs hb)
     clear hb hbox hg
     refine hK.out _ _ ⟨(blk_cell BK364.out 0).trans rfl, (blk_cell BK364.out 1).trans rfl, (blk_cell BK364.out 2).trans rfl, (blk_cell BK364.out 3).trans rfl, (blk_cell BK365.out 0).trans rfl, (blk_cell BK365.out 1).trans rfl, (blk_cell BK365.out 2).trans rfl, (blk_cell BK365.out 3).trans rfl⟩ (fun hHeld => ?_)
     clear hK K
     refine nm 6 ?_
     exact norm_ (by simp only [putAll, Act.put, List.setIfInBounds_toArray, List.set_cons_zero, List.set_cons_succ]) (hCont (gb371) _ ⟨hHeld, (bo gb364), (bo gb365), (bo gb366), (bo gb371), GW371.out, GE371.out, NB364_371.out, NB371_364.out, NB365_371.out, NB371_365.out, NB366_371.out, NB371_366.out, bl⟩)
    ·skip
     refine box_step ?hg (N := 6) ?hd (cs := #[.int .i64 0, .int .i64 0, .int .i64 0, .int .i64 0]) (t := 34) ?hr ?_; (case hd => rfl); (case hg => rfl); (case hr => first | (go_simp; done) | (go_simp; rfl))
     intro gb371 hg w33 hbox hb
     have BK371 := Aside0.mk (hbox)
     have GW371 := Aside0.mk (bz hg)
     have GE371 := GW371
     have NB364_371 := Aside0.mk (bn gb364 hg)
     have NB371_364 := Aside0.mk NB364_371.out.symm
     have NB365_371 := Aside0.mk (bn gb365 hg)
     have NB371_365 := Aside0.mk NB365_371.out.symm
     have NB366_371 := Aside0.mk (bn gb366 hg)
     have NB371_366 := Aside0.mk NB366_371.out.symm
     replace BK364 := Aside0.mk (bb gb364 hb)
     replace BK365 := Aside0.mk (bb gb365 hb)
     replace BK366 := Aside0.mk (bb gb366 hb)
     replace HB := Aside0.mk (bs hb)
     clear hb hbox hg
     refine hK.out _ _ ⟨(blk_cell BK364.out 0).trans rfl, (blk_cell BK364.out 1).trans rfl, (blk_cell BK364.out 2).trans rfl, (blk_cell BK364.out 3).trans rfl, (blk_cell BK365.out 0).trans rfl, (blk_cell BK365.out 1).trans rfl, (blk_cell BK365.out 2).trans rfl, (blk_cell BK365.out 3).trans rfl⟩ (fun hHeld => ?_)
     clear hK K
     refine nm 6 ?_
     refine on 9 16 #[true, true, true, true, true, true, true, true, true, true, false, true, false] (fun K hK => ?_)
     refine gs Try.func98 #[.agg #[.int .i64 a0_2, .int .i64 a0_3], .agg #[.int .i64 a1_2, .int .i64 a1_3]] ?_
     with_reducible refine (impl_lesser.calls a0_2 a0_3 a1_2 a1_3 t369 t370 _ A4.out).mono ?_
     rintro e w34 ⟨rfl, hb⟩
     refine ⟨_, rfl, ?_⟩
     replace BK364 := Aside0.mk (bb gb364 hb)
     replace BK365 := Aside0.mk (bb gb365 hb)
     replace BK366 := Aside0.mk (bb gb366 hb)
     replace BK371 := Aside0.mk (bb gb371 hb)
     replace HB := Aside0.mk (bs hb)
     (try clear hb)
     (try clear hb2)
     (try clear hk)
     (try clear hi)
     refine hK.out _ _ ⟨(blk_cell BK364.out 0).trans rfl, (blk_cell BK364.out 1).trans rfl, (blk_cell BK364.out 2).trans rfl, (blk_cell BK364.out 3).trans rfl, (blk_cell BK365.out 0).trans rfl, (blk_cell BK365.out 1).trans rfl, (blk_cell BK365.out 2).trans rfl, (blk_cell BK365.out 3).trans rfl⟩ (fun hHeld => ?_)
     clear hK K
     refine nm 16 ?_
     refine pu 10 17 (tb 12 1) ?_
     exact norm_ (by simp only [putAll, Act.put, List.setIfInBounds_toArray, List.set_cons_zero, List.set_cons_succ]) (hCont (gb371) _ ⟨hHeld, (bo gb364), (bo gb365), (bo gb366), (bo gb371), GW371.out, GE371.out, NB364_371.out, NB371_364.out, NB365_371.out, NB371_365.out, NB366_371.out, NB371_366.out, bl⟩)
   ·skip
    refine box_step ?hg (N := 6) ?hd (cs := #[.int .i64 0, .int .i64 0, .int .i64 0, .int .i64 0]) (t := 34) ?hr ?_; (case hd => rfl); (case hg => rfl); (case hr => first | (go_simp; done) | (go_simp; rfl))
    intro gb371 hg w32 hbox hb
    have BK371 := Aside0.mk (hbox)
    have GW371 := Aside0.mk (bz hg)
    have GE371 := GW371
    have NB364_371 := Aside0.mk (bn gb364 hg)
    have NB371_364 := Aside0.mk NB364_371.out.symm
    have NB365_371 := Aside0.mk (bn gb365 hg)
    have NB371_365 := Aside0.mk NB365_371.out.symm
    have NB366_371 := Aside0.mk (bn gb366 hg)
    have NB371_366 := Aside0.mk NB366_371.out.symm
    replace BK364 := Aside0.mk (bb gb364 hb)
    replace BK365 := Aside0.mk (bb gb365 hb)
    replace BK366 := Aside0.mk (bb gb366 hb)
    replace HB := Aside0.mk (bs hb)
    clear hb hbox hg
    refine hK.out _ _ ⟨(blk_cell BK364.out 0).trans rfl, (blk_cell BK364.out 1).trans rfl, (blk_cell BK364.out 2).trans rfl, (blk_cell BK364.out 3).trans rfl, (blk_cell BK365.out 0).trans rfl, (blk_cell BK365.out 1).trans rfl, (blk_cell BK365.out 2).trans rfl, (blk_cell BK365.out 3).trans rfl⟩ (fun hHeld => ?_)
    clear hK K
    refine nm 6 ?_
    refine on 4 11 #[true, true, true, true, true, true, true, true, true, false, false, true, false] (fun K hK => ?_)
    refine gs Try.func97 #[.agg #[.int .i64 a0_0, .int .i64 a0_1], .agg #[.int .i64 a1_0, .int .i64 a1_1]] ?_
    with_reducible refine (impl_greater.calls a0_0 a0_1 a1_0 a1_1 t367 t368 _ A3.out).mono ?_
    rintro e w33 ⟨rfl, hb⟩
    refine ⟨_, rfl, ?_⟩
    replace BK364 := Aside0.mk (bb gb364 hb)
    replace BK365 := Aside0.mk (bb gb365 hb)
    replace BK366 := Aside0.mk (bb gb366 hb)
    replace BK371 := Aside0.mk (bb gb371 hb)
    replace HB := Aside0.mk (bs hb)
    (try clear hb)
    (try clear hb2)
    (try clear hk)
    (try clear hi)
    refine hK.out _ _ ⟨(blk_cell BK364.out 0).trans rfl, (blk_cell BK364.out 1).trans rfl, (blk_cell BK364.out 2).trans rfl, (blk_cell BK364.out 3).trans rfl, (blk_cell BK365.out 0).trans rfl, (blk_cell BK365.out 1).trans rfl, (blk_cell BK365.out 2).trans rfl, (blk_cell BK365.out 3).trans rfl⟩ (fun hHeld => ?_)
    clear hK K
    refine nm 11 ?_
    refine on 9 16 #[true, true, true, true, true, true, true, true, true, true, false, true, false] (fun K hK => ?_)
    refine gs Try.func98 #[.agg #[.int .i64 a0_2, .int .i64 a0_3], .agg #[.int .i64 a1_2, .int .i64 a1_3]] ?_
    with_reducible refine (impl_lesser.calls a0_2 a0_3 a1_2 a1_3 t369 t370 _ A4.out).mono ?_
    rintro e w34 ⟨rfl, hb⟩
    refine ⟨_, rfl, ?_⟩
    replace BK364 := Aside0.mk (bb gb364 hb)
    replace BK365 := Aside0.mk (bb gb365 hb)
    replace BK366 := Aside0.mk (bb gb366 hb)
    replace BK371 := Aside0.mk (bb gb371 hb)
    replace HB := Aside0.mk (bs hb)
    (try clear hb)
    (try clear hb2)
    (try clear hk)
    (try clear hi)
    refine hK.out _ _ ⟨(blk_cell BK364.out 0).trans rfl, (blk_cell BK364.out 1).trans rfl, (blk_cell BK364.out 2).trans rfl, (blk_cell BK364.out 3).trans rfl, (blk_cell BK365.out 0).trans rfl, (blk_cell BK365.out 1).trans rfl, (blk_cell BK365.out 2).trans rfl, (blk_cell BK365.out 3).trans rfl⟩ (fun hHeld => ?_)
    clear hK K
    refine nm 16 ?_
    refine pu 10 17 (tb 12 1) ?_
    exact norm_ (by simp only [putAll, Act.put, List.setIfInBounds_toArray, List.set_cons_zero, List.set_cons_succ]) (hCont (gb371) _ ⟨hHeld, (bo gb364), (bo gb365), (bo gb366), (bo gb371), GW371.out, GE371.out, NB364_371.out, NB371_364.out, NB365_371.out, NB371_365.out, NB366_371.out, NB371_366.out, bl⟩)
  rintro gb371 w35 ⟨hS_, h0_, h1_, h2_, h3_, h4_, h5_, h6_, h7_, h8_, h9_, h10_, h11_, h12_⟩
  have n0_ : Aside0 (w35.heap[gb364]? = some (.cells #[.int .i64 a0_0, .int .i64 a0_1, .int .i64 a0_2, .int .i64 a0_3] 34 (0, 0))) := ⟨h0_⟩
  have n1_ : Aside0 (w35.heap[gb365]? = some (.cells #[.int .i64 a1_0, .int .i64 a1_1, .int .i64 a1_2, .int .i64 a1_3] 34 (0, 0))) := ⟨h1_⟩
  have n2_ : Aside0 (w35.heap[gb366]? = some (.cells #[.int .i64 0, .int .i64 0, .int .i64 0, .int .i64 0] 34 (0, 0))) := ⟨h2_⟩
  have n3_ : Aside0 (w35.heap[gb371]? = some (.cells #[.int .i64 0, .int .i64 0, .int .i64 0, .int .i64 0] 34 (0, 0))) := ⟨h3_⟩
  have n4_ : Aside0 (w.heap.size ≤ gb371) := ⟨h4_⟩
  have n5_ : Aside0 (w.heap.size ≤ gb371) := ⟨h5_⟩
  have n6_ : Aside0 (gb364 ≠ gb371) := ⟨h6_⟩
  have n7_ : Aside0 (gb371 ≠ gb364) := ⟨h7_⟩
  have n8_ : Aside0 (gb365 ≠ gb371) := ⟨h8_⟩
  have n9_ : Aside0 (gb371 ≠ gb365) := ⟨h9_⟩
  have n10_ : Aside0 (gb366 ≠ gb371) := ⟨h10_⟩
  have n11_ : Aside0 (gb371 ≠ gb366) := ⟨h11_⟩
  have n12_ : Aside0 (Below w.heap.size w w35) := ⟨h12_⟩
  clear BK364
  clear BK365
  clear BK366
  clear HB
  clear h0_ h1_ h2_ h3_ h4_ h5_ h6_ h7_ h8_ h9_ h10_ h11_ h12_
  have BK364 := n0_
  have BK365 := n1_
  have BK366 := n2_
  have BK371 := n3_
  have GW371 := n4_
  have GE371 := n5_
  have NB364_371 := n6_
  have NB371_364 := n7_
  have NB365_371 := n8_
  have NB371_365 := n9_
  have NB366_371 := n10_
  have NB371_366 := n11_
  have HB := n12_
  clear n0_ n1_ n2_ n3_ n4_ n5_ n6_ n7_ n8_ n9_ n10_ n11_ n12_
  have hHeld : w35.cell? ⟨gb364, 0, none⟩ = some (.int .i64 a0_0) ∧ w35.cell? ⟨gb364, 1, none⟩ = some (.int .i64 a0_1) ∧ w35.cell? ⟨gb364, 2, none⟩ = some (.int .i64 a0_2) ∧ w35.cell? ⟨gb364, 3, none⟩ = some (.int .i64 a0_3) ∧ w35.cell? ⟨gb365, 0, none⟩ = some (.int .i64 a1_0) ∧ w35.cell? ⟨gb365, 1, none⟩ = some (.int .i64 a1_1) ∧ w35.cell? ⟨gb365, 2, none⟩ = some (.int .i64 a1_2) ∧ w35.cell? ⟨gb365, 3, none⟩ = some (.int .i64 a1_3) := hS_
  refine norm_ (a' := ?_) ?_ ?_
  rotate_left
  ·simp only [putAll, Act.put, List.setIfInBounds_toArray, List.set_cons_zero, List.set_cons_succ]
   rfl
  refine one_ (i := 12) (N := none) (tb 13 0) rfl rfl (one_of HT_.out (by kernel_rfl)) (by decide) (fun K hK => ?_)
  have hs36 : w35.cell? ⟨gb371, 0, none⟩ = some (.int .i64 0) := (blk_cell BK371.out 0).trans rfl
  have hfs36 := blk_frozen BK371.out 0
  have hns36_0 := NB364_371.out
  have hns36_1 := NB365_371.out
  have hns36_2 := NB366_371.out
  have hms36_0 := NB371_364.out
  have hms36_1 := NB371_365.out
  have hms36_2 := NB371_366.out
  have hs37 : w35.cell? ⟨gb371, 1, none⟩ = some (.int .i64 0) := (blk_cell BK371.out 1).trans rfl
  have hfs37 := blk_frozen BK371.out 1
  have hns37_0 := NB364_371.out
  have hns37_1 := NB365_371.out
  have hns37_2 := NB366_371.out
  have hms37_0 := NB371_364.out
  have hms37_1 := NB371_365.out
  have hms37_2 := NB371_366.out
  have hs38 : w35.cell? ⟨gb371, 2, none⟩ = some (.int .i64 0) := (blk_cell BK371.out 2).trans rfl
  have hfs38 := blk_frozen BK371.out 2
  have hns38_0 := NB364_371.out
  have hns38_1 := NB365_371.out
  have hns38_2 := NB366_371.out
  have hms38_0 := NB371_364.out
  have hms38_1 := NB371_365.out
  have hms38_2 := NB371_366.out
  have hs39 : w35.cell? ⟨gb371, 3, none⟩ = some (.int .i64 0) := (blk_cell BK371.out 3).trans rfl
  have hfs39 := blk_frozen BK371.out 3
  have hns39_0 := NB364_371.out
  have hns39_1 := NB365_371.out
  have hns39_2 := NB366_371.out
  have hms39_0 := NB371_364.out
  have hms39_1 := NB371_365.out
  have hms39_2 := NB371_366.out
  refine skip_ (w1 := ?_) (by rfl) rfl ?_ ?_
  rotate_left
  ·go_simp
   rfl
  refine hK.out _ _ ⟨(by (iterate 4 refine (cell_far (p := ⟨gb371, _, none⟩) NB364_371.out _).trans ?_); exact hHeld.1), (by (iterate 4 refine (cell_far (p := ⟨gb371, _, none⟩) NB364_371.out _).trans ?_); exact hHeld.2.1), (by (iterate 4 refine (cell_far (p := ⟨gb371, _, none⟩) NB364_371.out _).trans ?_); exact hHeld.2.2.1), (by (iterate 4 refine (cell_far (p := ⟨gb371, _, none⟩) NB364_371.out _).trans ?_); exact hHeld.2.2.2.1), (by (iterate 4 refine (cell_far (p := ⟨gb371, _, none⟩) NB365_371.out _).trans ?_); exact hHeld.2.2.2.2.1), (by (iterate 4 refine (cell_far (p := ⟨gb371, _, none⟩) NB365_371.out _).trans ?_); exact hHeld.2.2.2.2.2.1), (by (iterate 4 refine (cell_far (p := ⟨gb371, _, none⟩) NB365_371.out _).trans ?_); exact hHeld.2.2.2.2.2.2.1), (by (iterate 4 refine (cell_far (p := ⟨gb371, _, none⟩) NB365_371.out _).trans ?_); exact hHeld.2.2.2.2.2.2.2)⟩ (fun hHeld => ?_)
  clear hK K
  refine done_ (done_of HT_.out (by kernel_rfl)) ?_
  have hnb40 := NB371_364.out
  have hnc40 := NB364_371.out
  have hnb41 := NB371_365.out
  have hnc41 := NB365_371.out
  have hnb42 := NB371_366.out
  have hnc42 := NB366_371.out
  have hcz43_0 : w35.cell? ⟨gb371, 0, none⟩ = some (.int .i64 0) := (blk_cell BK371.out 0).trans rfl
  have hcz43_1 : w35.cell? ⟨gb371, 1, none⟩ = some (.int .i64 0) := (blk_cell BK371.out 1).trans rfl
  have hcz43_2 : w35.cell? ⟨gb371, 2, none⟩ = some (.int .i64 0) := (blk_cell BK371.out 2).trans rfl
  have hcz43_3 : w35.cell? ⟨gb371, 3, none⟩ = some (.int .i64 0) := (blk_cell BK371.out 3).trans rfl
  have hfz43_0 := blk_frozen BK371.out 0
  have hfz43_1 := blk_frozen BK371.out 1
  have hfz43_2 := blk_frozen BK371.out 2
  have hfz43_3 := blk_frozen BK371.out 3
  try go_wp2_with (first | ((with_reducible refine gate_callee (f := 95) rfl ?_); refine gl 22 Try.func95 #[.agg #[.int .i64 t367, .int .i64 t368], .agg #[.int .i64 t369, .int .i64 t370]] ?_; (with_reducible refine (impl_less.calls t367 t368 t369 t370 false _ A5.out).mono ?_); rintro e w44 ⟨rfl, hb⟩; refine ⟨_, rfl, ?_⟩; replace BK364 := Aside0.mk (blk_below (g := gb364) (o := .cells #[.int .i64 a0_0, .int .i64 a0_1, .int .i64 a0_2, .int .i64 a0_3] 34 (0, 0)) (by (with_reducible repeat (first | refine blk_drewN ?_ _ | refine blk_drew ?_ | refine blk_alloc ?_ _)); refine blk_far ?_ NB364_371.out _; (with_reducible repeat (first | refine blk_drewN ?_ _ | refine blk_drew ?_ | refine blk_alloc ?_ _)); refine blk_far ?_ NB364_371.out _; (with_reducible repeat (first | refine blk_drewN ?_ _ | refine blk_drew ?_ | refine blk_alloc ?_ _)); refine blk_far ?_ NB364_371.out _; (with_reducible repeat (first | refine blk_drewN ?_ _ | refine blk_drew ?_ | refine blk_alloc ?_ _)); refine blk_far ?_ NB364_371.out _; (with_reducible repeat (first | refine blk_drewN ?_ _ | refine blk_drew ?_ | refine blk_alloc ?_ _)); exact BK364.out) hb); replace BK365 := Aside0.mk (blk_below (g := gb365) (o := .cells #[.int .i64 a1_0, .int .i64 a1_1, .int .i64 a1_2, .int .i64 a1_3] 34 (0, 0)) (by (with_reducible repeat (first | refine blk_drewN ?_ _ | refine blk_drew ?_ | refine blk_alloc ?_ _)); refine blk_far ?_ NB365_371.out _; (with_reducible repeat (first | refine blk_drewN ?_ _ | refine blk_drew ?_ | refine blk_alloc ?_ _)); refine blk_far ?_ NB365_371.out _; (with_reducible repeat (first | refine blk_drewN ?_ _ | refine blk_drew ?_ | refine blk_alloc ?_ _)); refine blk_far ?_ NB365_371.out _; (with_reducible repeat (first | refine blk_drewN ?_ _ | refine blk_drew ?_ | refine blk_alloc ?_ _)); refine blk_far ?_ NB365_371.out _; (with_reducible repeat (first | refine blk_drewN ?_ _ | refine blk_drew ?_ | refine blk_alloc ?_ _)); exact BK365.out) hb); replace BK366 := Aside0.mk (blk_below (g := gb366) (o := .cells #[.int .i64 0, .int .i64 0, .int .i64 0, .int .i64 0] 34 (0, 0)) (by (with_reducible repeat (first | refine blk_drewN ?_ _ | refine blk_drew ?_ | refine blk_alloc ?_ _)); refine blk_far ?_ NB366_371.out _; (with_reducible repeat (first | refine blk_drewN ?_ _ | refine blk_drew ?_ | refine blk_alloc ?_ _)); refine blk_far ?_ NB366_371.out _; (with_reducible repeat (first | refine blk_drewN ?_ _ | refine blk_drew ?_ | refine blk_alloc ?_ _)); refine blk_far ?_ NB366_371.out _; (with_reducible repeat (first | refine blk_drewN ?_ _ | refine blk_drew ?_ | refine blk_alloc ?_ _)); refine blk_far ?_ NB366_371.out _; (with_reducible repeat (first | refine blk_drewN ?_ _ | refine blk_drew ?_ | refine blk_alloc ?_ _)); exact BK366.out) hb); replace BK371 := Aside0.mk (blk_below (g := gb371) (o := .cells #[.int .i64 t367, .int .i64 t368, .int .i64 t369, .int .i64 t370] 34 (0, 0)) (by (with_reducible repeat (first | refine blk_drewN ?_ _ | refine blk_drew ?_ | refine blk_alloc ?_ _)); refine blk_put (cs := #[.int .i64 t367, .int .i64 t368, .int .i64 t369, .int .i64 0]) ?_ 3 _ rfl; (with_reducible repeat (first | refine blk_drewN ?_ _ | refine blk_drew ?_ | refine blk_alloc ?_ _)); refine blk_put (cs := #[.int .i64 t367, .int .i64 t368, .int .i64 0, .int .i64 0]) ?_ 2 _ rfl; (with_reducible repeat (first | refine blk_drewN ?_ _ | refine blk_drew ?_ | refine blk_alloc ?_ _)); refine blk_put (cs := #[.int .i64 t367, .int .i64 0, .int .i64 0, .int .i64 0]) ?_ 1 _ rfl; (with_reducible repeat (first | refine blk_drewN ?_ _ | refine blk_drew ?_ | refine blk_alloc ?_ _)); refine blk_put (cs := #[.int .i64 0, .int .i64 0, .int .i64 0, .int .i64 0]) ?_ 0 _ rfl; (with_reducible repeat (first | refine blk_drewN ?_ _ | refine blk_drew ?_ | refine blk_alloc ?_ _)); exact BK371.out) hb); replace HB := Aside0.mk (bs hb); (try clear hb); (try clear hb2); (try clear hk); (try clear hi); have hnb45 := NB366_364.out; have hnc45 := NB364_366.out; have hnb46 := NB366_365.out; have hnc46 := NB365_366.out; have hcz47_0 : w44.cell? ⟨gb366, 0, none⟩ = some (.int .i64 0) := (blk_cell BK366.out 0).trans rfl; have hcz47_1 : w44.cell? ⟨gb366, 1, none⟩ = some (.int .i64 0) := (blk_cell BK366.out 1).trans rfl; have hcz47_2 : w44.cell? ⟨gb366, 2, none⟩ = some (.int .i64 0) := (blk_cell BK366.out 2).trans rfl; have hcz47_3 : w44.cell? ⟨gb366, 3, none⟩ = some (.int .i64 0) := (blk_cell BK366.out 3).trans rfl; have hfz47_0 := blk_frozen BK366.out 0; have hfz47_1 := blk_frozen BK366.out 1; have hfz47_2 := blk_frozen BK366.out 2; have hfz47_3 := blk_frozen BK366.out 3))
  refine bodyPost_ret (results_ct rfl _ _ gb366 34 #[.int .i64 0, .int .i64 0, .int .i64 0, .int .i64 0] (0, 0) _ rfl (by (with_reducible repeat (first | refine blk_drewN ?_ _ | refine blk_drew ?_ | refine blk_alloc ?_ _)); refine blk_put (cs := #[.int .i64 0, .int .i64 0, .int .i64 0, .int .i64 0]) ?_ 3 _ rfl; (with_reducible repeat (first | refine blk_drewN ?_ _ | refine blk_drew ?_ | refine blk_alloc ?_ _)); refine blk_put (cs := #[.int .i64 0, .int .i64 0, .int .i64 0, .int .i64 0]) ?_ 2 _ rfl; (with_reducible repeat (first | refine blk_drewN ?_ _ | refine blk_drew ?_ | refine blk_alloc ?_ _)); refine blk_put (cs := #[.int .i64 0, .int .i64 0, .int .i64 0, .int .i64 0]) ?_ 1 _ rfl; (with_reducible repeat (first | refine blk_drewN ?_ _ | refine blk_drew ?_ | refine blk_alloc ?_ _)); refine blk_put (cs := #[.int .i64 0, .int .i64 0, .int .i64 0, .int .i64 0]) ?_ 0 _ rfl; (with_reducible repeat (first | refine blk_drewN ?_ _ | refine blk_drew ?_ | refine blk_alloc ?_ _)); exact BK366.out) Try.underlying34 rfl (by kernel_rfl)) rfl ?_
  exact ⟨by first | rfl | (simp [errW_none, errW_some] <;> rfl) | (simp [*, errW_none, errW_some] <;> rfl), bl⟩

end Go.Proofs.Ytmecnnnagallnaa.PFnExactLeastSlope
