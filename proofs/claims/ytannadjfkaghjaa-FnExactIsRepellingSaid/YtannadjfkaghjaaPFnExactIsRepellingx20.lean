-- Written by this session's program wip/pp (the kit's print tool with additions) 35421559b90ae4d0a3588c463048766b98c2df88dd9212a6774a882060cdf62d
import Derived.Test.YtannadjfkaghjaaPFnExactIsRepellingx0
import Derived.Test.YtannadjfkaghjaaPFnExactIsRepellingx10
import Derived.Test.YtannadjfkaghjaaPFnExactIsRepellingx13
import Derived.Test.YtannadjfkaghjaaPFnExactIsRepellingx15
import Derived.Test.YtannadjfkaghjaaPFnExactIsRepellingx17
import Derived.Test.YtannadjfkaghjaaPFnExactIsRepellingx19
namespace Go.Proofs.Ytannadjfkaghjaa.PFnExactIsRepelling
open Go.RowKit Go.Proofs.YtannadjfkaghjaaW.PrintWords Go.Proofs.YtannadjfkaghjaaW.PrintLast Go.Proofs.YtannadjfkaghjaaW.PrintMore
attribute [local go_sem] max2_int min2_int max_two min_two max_three min_three max_four min_four   -- for this text's walks alone
set_option linter.unusedVariables false
set_option linter.unusedSimpArgs false

/-! ### impl_multiplier: function 85 -/
def impl_multiplier.l0 : Nat → List (S73) → List (S53) → Int → Int → Bool → Int → Int → Option (Int × Int × Bool)
 | 0, _, _, _, _, _, _, _ => none
 | k + 1, x0, x13, x14, x15, x547000, x550000, x550001 => if x15 < x14 then (if 0 ≤ x15 then (if x15 < (x13.length : Int) then ((impl_slopeAt.f k x0 ((rd_T53 x13 x15).f0) ((rd_T53 x13 x15).f1)).bind fun bt552 => (if bt552.2.2 = true then ((impl_calc_mul.f k x547000 x550000 x550001 bt552.1 bt552.2.1).bind fun bt556 => (impl_multiplier.l0 k x0 x13 x14 (wrap64 (x15 + 1)) bt556.2.2 bt556.1 bt556.2.1)) else (some (0, 0, false)))) else (none)) else (none)) else (if x547000 = true then (some (0, 0, false)) else (some (x550000, x550001, true)))
def impl_multiplier.f (k : Nat) (l0 : List (S73)) (l1 : List (S53)) : Option (Int × Int × Bool) := (impl_oneRat.f).bind fun bt547 => (impl_multiplier.l0 k l0 l1 (l1.length : Int) 0 false bt547.1 bt547.2)
set_option maxHeartbeats 8000000 in
set_option maxRecDepth 100000 in
theorem impl_multiplier.calls (k : Nat) (A0 : Option Addr) (c0 : Nat) (l0 : List (S73)) (A1 : Option Addr) (c1 : Nat) (l1 : List (S53)) (r1 : Int) (r2 : Int) (r3 : Bool) (w : World) (hr0 : Kd.C k73 w A0 l0.length l0) (hc0 : l0.length ≤ c0) (hr1 : Kd.C k53 w A1 l1.length l1) (hc1 : l1.length ≤ c1) (h : impl_multiplier.f k l0 l1 = some (r1, r2, r3)) :
  Calls Try.prog 85 #[.slice A0 l0.length c0, .slice A1 l1.length c1] w fun e w' => e = .returned (.tuple #[.agg #[.int .i64 r1, .int .i64 r2], .bool r3]) ∧ Below w.heap.size w w' := by
 have hu53 := Try.underlying53
 have hu103 := Try.underlying103
 have HR0 := Aside0.mk hr0
 have HC0 := Aside0.mk hc0
 clear hr0 hc0
 have HR1 := Aside0.mk hr1
 have HC1 := Aside0.mk hc1
 clear hr1 hc1
 have HB := Aside0.mk (Below.refl w.heap.size w)
 have H : ((impl_oneRat.f).bind fun bt547 => (impl_multiplier.l0 k l0 l1 (l1.length : Int) 0 false bt547.1 bt547.2)) = some (r1, r2, r3) := h
 clear h
 replace H := Option.bind_eq_some_iff.mp H
 obtain ⟨⟨t547, t548⟩, A30, H⟩ := H
 replace H : (impl_multiplier.l0 k l0 l1 (l1.length : Int) 0 false t547 t548) = some (r1, r2, r3) := H
 have A3 := Aside0.mk A30
 clear A30
 have H' := Aside0.mk H
 clear H
 go_enter Try.func85, Try.ntmps85
 go_wp2_with (first | ((with_reducible refine gate_dst (N := 4) rfl ?_); refine bx 4 #[.int .i64 0, .int .i64 0] 53 ?_; intro gb545 hg w4 hbox hb; have BK545 := Aside0.mk (hbox); have GW545 := Aside0.mk (bz hg); have GE545 := GW545; replace HB := kh hb; clear hb hbox hg) | ((with_reducible refine gate_dst (N := 6) rfl ?_); refine bx 6 #[.bool false] 103 ?_; intro gb546 hg w5 hbox hb; have HI546 := Aside0.mk ((⟨hbox, (by rw [hg]; exact (below_size bl) : w.heap.size ≤ gb546)⟩ : IsS103 w w5 gb546 false)); have NB545_546 := Aside0.mk (bn gb545 hg); have NB546_545 := sy NB545_546; replace BK545 := kb BK545 hb; replace HB := kh hb; clear hb hbox hg) | ((with_reducible refine gate_callee (f := 101) rfl ?_); refine gl 12 Try.func101 #[] ?_; (with_reducible refine (impl_oneRat.calls  t547 t548 _ A3.out).mono ?_); rintro e w6 ⟨rfl, hb⟩; refine ⟨_, rfl, ?_⟩; replace BK545 := kb BK545 hb; replace HB := Aside0.mk (below_step (by repeat (first | (with_reducible first | exact HB.out | apply below_alloc | apply pw_below_drewN | apply below_drew1 | refine below_set ?_ (IsS103.ge HI546.out) | refine below_set ?_ GE545.out) | exact HB.out)) hb); replace HI546 := Aside0.mk (IsS103.below (by repeat (first | (with_reducible first | exact HI546.out | apply IsS103.alloc | apply IsS103.drewN | apply IsS103.drew | apply IsS103.set_0 | refine IsS103.far ?_ NB546_545.out _) | exact HI546.out)) hb); (try clear hb); (try clear hb2); (try clear hk); (try clear hi)) | ((with_reducible refine gate_dst (N := 7) rfl ?_); refine bx 7 #[.int .i64 0, .int .i64 0] 53 ?_; intro gb549 hg w7 hbox hb; have BK549 := Aside0.mk (hbox); have GW549 := Aside0.mk ((by rw [hg]; exact (below_size (by repeat (first | (with_reducible first | exact HB.out | apply below_alloc | apply pw_below_drewN | apply below_drew1 | refine below_set ?_ (IsS103.ge HI546.out) | refine below_set ?_ GE545.out) | exact HB.out))) : w.heap.size ≤ gb549)); have GE549 := GW549; have NB545_549 := Aside0.mk (bn gb545 hg); have NB549_545 := sy NB545_549; have NB546_549 := Aside0.mk ((by rw [hg]; exact Nat.ne_of_lt (IsS103.lt (show IsS103 w _ gb546 false from by repeat (first | (with_reducible first | exact HI546.out | apply IsS103.alloc | apply IsS103.drewN | apply IsS103.drew | apply IsS103.set_0 | refine IsS103.far ?_ NB546_545.out _) | exact HI546.out))) : gb546 ≠ gb549)); have NB549_546 := sy NB546_549; replace BK545 := kb BK545 hb; replace HB := Aside0.mk (below_step (by repeat (first | (with_reducible first | exact HB.out | apply below_alloc | apply pw_below_drewN | apply below_drew1 | refine below_set ?_ (IsS103.ge HI546.out) | refine below_set ?_ GE545.out) | exact HB.out)) hb); replace HI546 := Aside0.mk (IsS103.below (by repeat (first | (with_reducible first | exact HI546.out | apply IsS103.alloc | apply IsS103.drewN | apply IsS103.drew | apply IsS103.set_0 | refine IsS103.far ?_ NB546_545.out _) | exact HI546.out)) hb); clear hb hbox hg; have hnb8 := NB549_545.out; have hnc8 := NB545_549.out; have hnb9 := NB549_546.out; have hnc9 := NB546_549.out; obtain ⟨hcz10_0, hcz10_1, hfz10_0, hfz10_1⟩ := b2 BK549))
 go_loopg [15] k (fun kq v15 w' => ∃ (x15_1 : Int) (x546000_1 : Int) (x546001_1 : Int) (x547000_1 : Bool) (x550000_1 : Int) (x550001_1 : Int), v15 = .int .i64 x15_1 ∧ Aside0 (impl_multiplier.l0 kq l0 l1 (l1.length : Int) x15_1 x547000_1 x550000_1 x550001_1 = some (r1, r2, r3)) ∧ Aside0 (kq ≤ k) ∧ Aside0 (w'.heap[gb545]? = some (.cells #[.int .i64 x546000_1, .int .i64 x546001_1] 53 (0, 0))) ∧ Aside0 (w'.heap[gb549]? = some (.cells #[.int .i64 x550000_1, .int .i64 x550001_1] 53 (0, 0))) ∧ Aside0 (IsS103 w w' gb546 x547000_1) ∧ Aside0 (Below w.heap.size w w'))
 case atStart => exact ⟨(0), (0), (0), (false), (t547), (t548), rs, H', ⟨Nat.le_refl _⟩, ⟨by (with_reducible repeat (first | refine blk_drewN ?_ _ | refine blk_drew ?_ | refine blk_alloc ?_ _)); refine blk_far ?_ NB545_549.out _; (with_reducible repeat (first | refine blk_drewN ?_ _ | refine blk_drew ?_ | refine blk_alloc ?_ _)); refine blk_far ?_ NB545_549.out _; (with_reducible repeat (first | refine blk_drewN ?_ _ | refine blk_drew ?_ | refine blk_alloc ?_ _)); exact BK545.out⟩, ⟨by (with_reducible repeat (first | refine blk_drewN ?_ _ | refine blk_drew ?_ | refine blk_alloc ?_ _)); refine blk_put (cs := #[.int .i64 t547, .int .i64 0]) ?_ 1 _ rfl; (with_reducible repeat (first | refine blk_drewN ?_ _ | refine blk_drew ?_ | refine blk_alloc ?_ _)); refine blk_put (cs := #[.int .i64 0, .int .i64 0]) ?_ 0 _ rfl; (with_reducible repeat (first | refine blk_drewN ?_ _ | refine blk_drew ?_ | refine blk_alloc ?_ _)); exact BK549.out⟩, ⟨by repeat (first | (with_reducible first | exact HI546.out | apply IsS103.alloc | apply IsS103.drewN | apply IsS103.drew | apply IsS103.set_0 | refine IsS103.far ?_ NB546_545.out _ | refine IsS103.far ?_ NB546_549.out _) | exact HI546.out)⟩, ⟨by repeat (first | (with_reducible first | exact HB.out | apply below_alloc | apply pw_below_drewN | apply below_drew1 | refine below_set ?_ (IsS103.ge HI546.out) | refine below_set ?_ GE545.out | refine below_set ?_ GE549.out) | exact HB.out)⟩⟩
 case round =>
  clear H'
  try clear c1
  try clear p2
  try clear c8
  try clear c9
  try clear c10
  try clear hcz10_0
  try clear hcz10_1
  try clear hfz10_0
  try clear hfz10_1
  obtain ⟨x15_1, x546000_1, x546001_1, x547000_1, x550000_1, x550001_1, rfl, HA, HK1, BK545, BK549, HI546, HB⟩ := hrel
  cases gk with
  | zero => exact absurd HA.out (by simp [impl_multiplier.l0])
  | succ k1 =>
   have H := HA.out
   clear HA
   simp only [impl_multiplier.l0] at H
   by_cases c11 : x15_1 < (l1.length : Int)
   ·rw [if_pos c11] at H
    have c11b0 : decide (x15_1 < (l1.length : Int)) = true := decide_eq_true c11
    clear c11
    by_cases c12 : 0 ≤ x15_1
    ·rw [if_pos c12] at H
     have c12b0 : decide (0 ≤ x15_1) = true := decide_eq_true c12
     clear c12
     by_cases c13 : x15_1 < (l1.length : Int)
     ·rw [if_pos c13] at H
      have c13b0 : decide (x15_1 < (l1.length : Int)) = true := decide_eq_true c13
      clear c13
      replace H := Option.bind_eq_some_iff.mp H
      obtain ⟨⟨t552, t553, t554⟩, A140, H⟩ := H
      replace H : (if t554 = true then ((impl_calc_mul.f k1 x547000_1 x550000_1 x550001_1 t552 t553).bind fun bt556 => (impl_multiplier.l0 k1 l0 l1 (l1.length : Int) (wrap64 (x15_1 + 1)) bt556.2.2 bt556.1 bt556.2.1)) else (some (0, 0, false))) = some (r1, r2, r3) := H
      have A14 := Aside0.mk A140
      clear A140
      by_cases c15 : t554 = true
      ·subst c15
       have H1 : ((impl_calc_mul.f k1 x547000_1 x550000_1 x550001_1 t552 t553).bind fun bt556 => (impl_multiplier.l0 k1 l0 l1 (l1.length : Int) (wrap64 (x15_1 + 1)) bt556.2.2 bt556.1 bt556.2.1)) = some (r1, r2, r3) := by rw [if_pos rfl] at H; exact H
       clear H
       have H := H1
       clear H1
       replace H := Option.bind_eq_some_iff.mp H
       obtain ⟨⟨t556, t557, t558⟩, A160, H⟩ := H
       replace H : (impl_multiplier.l0 k1 l0 l1 (l1.length : Int) (wrap64 (x15_1 + 1)) t558 t556 t557) = some (r1, r2, r3) := H
       have A16 := Aside0.mk A160
       clear A160
       have H' := Aside0.mk H
       clear H
       have p550 : 0 ≤ (x15_1 : Int) := da
       have q550 : x15_1 < (l1.length : Int) := da
       obtain ⟨ad550, e550, hx550_0, hx550_1⟩ := at_T53 HR1.out x15_1 p550 q550
       cases e550
       replace hx550_0 := (hc HB hx550_0 :)
       replace hx550_1 := (hc HB hx550_1 :)
       replace p550 := eq_true p550
       replace q550 := eq_true q550
       go_wp2_with (first | ((with_reducible refine gate_dst (N := 9) rfl ?_); refine bx 9 #[.int .i64 0, .int .i64 0] 53 ?_; intro gb551 hg w17 hbox hb; have BK551 := Aside0.mk (hbox); have GW551 := Aside0.mk ((by rw [hg]; exact (below_size (by repeat (first | (with_reducible first | exact HB.out | apply below_alloc | apply pw_below_drewN | apply below_drew1 | refine below_set ?_ (IsS103.ge HI546.out) | refine below_set ?_ GE545.out | refine below_set ?_ GE549.out) | exact HB.out))) : w.heap.size ≤ gb551)); have GE551 := GW551; have NB545_551 := Aside0.mk (bn gb545 hg); have NB551_545 := sy NB545_551; have NB549_551 := Aside0.mk (bn gb549 hg); have NB551_549 := sy NB549_551; have NB546_551 := Aside0.mk ((by rw [hg]; exact Nat.ne_of_lt (IsS103.lt (show IsS103 w _ gb546 x547000_1 from by repeat (first | (with_reducible first | exact HI546.out | apply IsS103.alloc | apply IsS103.drewN | apply IsS103.drew | apply IsS103.set_0 | refine IsS103.far ?_ NB546_545.out _ | refine IsS103.far ?_ NB546_549.out _) | exact HI546.out))) : gb546 ≠ gb551)); have NB551_546 := sy NB546_551; replace BK545 := kb BK545 hb; replace BK549 := kb BK549 hb; replace HB := Aside0.mk (below_step (by repeat (first | (with_reducible first | exact HB.out | apply below_alloc | apply pw_below_drewN | apply below_drew1 | refine below_set ?_ (IsS103.ge HI546.out) | refine below_set ?_ GE545.out | refine below_set ?_ GE549.out) | exact HB.out)) hb); replace HI546 := Aside0.mk (IsS103.below (by repeat (first | (with_reducible first | exact HI546.out | apply IsS103.alloc | apply IsS103.drewN | apply IsS103.drew | apply IsS103.set_0 | refine IsS103.far ?_ NB546_545.out _ | refine IsS103.far ?_ NB546_549.out _) | exact HI546.out)) hb); clear hb hbox hg; have hnb18 := NB551_545.out; have hnc18 := NB545_551.out; have hnb19 := NB551_549.out; have hnc19 := NB549_551.out; have hnb20 := NB551_546.out; have hnc20 := NB546_551.out; obtain ⟨hcz21_0, hcz21_1, hfz21_0, hfz21_1⟩ := b2 BK551) | ((with_reducible refine gate_callee (f := 102) rfl ?_); refine gl 22 Try.func102 #[.slice A0 l0.length c0, .agg #[.int .i64 ((rd_T53 l1 x15_1).f0), .int .i64 ((rd_T53 l1 x15_1).f1)]] ?_; (with_reducible refine (impl_slopeAt.calls k1 _ _ l0 ((rd_T53 l1 x15_1).f0) ((rd_T53 l1 x15_1).f1) t552 t553 true _ ?side1 ?side2 A14.out).mono ?_); (case side1 => exact Kd.C_below HR0.out (by repeat (first | (with_reducible first | exact HB.out | apply below_alloc | apply pw_below_drewN | apply below_drew1 | refine below_set ?_ (IsS103.ge HI546.out) | refine below_set ?_ GE545.out | refine below_set ?_ GE549.out | refine below_set ?_ GE551.out) | exact HB.out))); (case side2 => exact HC0.out); rintro e w22 ⟨rfl, hb⟩; refine ⟨_, rfl, ?_⟩; replace BK545 := Aside0.mk (blk_below (g := gb545) (o := .cells #[.int .i64 x546000_1, .int .i64 x546001_1] 53 (0, 0)) (by (with_reducible repeat (first | refine blk_drewN ?_ _ | refine blk_drew ?_ | refine blk_alloc ?_ _)); refine blk_far ?_ NB545_551.out _; (with_reducible repeat (first | refine blk_drewN ?_ _ | refine blk_drew ?_ | refine blk_alloc ?_ _)); refine blk_far ?_ NB545_551.out _; (with_reducible repeat (first | refine blk_drewN ?_ _ | refine blk_drew ?_ | refine blk_alloc ?_ _)); exact BK545.out) hb); replace BK549 := Aside0.mk (blk_below (g := gb549) (o := .cells #[.int .i64 x550000_1, .int .i64 x550001_1] 53 (0, 0)) (by (with_reducible repeat (first | refine blk_drewN ?_ _ | refine blk_drew ?_ | refine blk_alloc ?_ _)); refine blk_far ?_ NB549_551.out _; (with_reducible repeat (first | refine blk_drewN ?_ _ | refine blk_drew ?_ | refine blk_alloc ?_ _)); refine blk_far ?_ NB549_551.out _; (with_reducible repeat (first | refine blk_drewN ?_ _ | refine blk_drew ?_ | refine blk_alloc ?_ _)); exact BK549.out) hb); replace BK551 := Aside0.mk (blk_below (g := gb551) (o := .cells #[.int .i64 ((rd_T53 l1 x15_1).f0), .int .i64 ((rd_T53 l1 x15_1).f1)] 53 (0, 0)) (by (with_reducible repeat (first | refine blk_drewN ?_ _ | refine blk_drew ?_ | refine blk_alloc ?_ _)); refine blk_put (cs := #[.int .i64 ((rd_T53 l1 x15_1).f0), .int .i64 0]) ?_ 1 _ rfl; (with_reducible repeat (first | refine blk_drewN ?_ _ | refine blk_drew ?_ | refine blk_alloc ?_ _)); refine blk_put (cs := #[.int .i64 0, .int .i64 0]) ?_ 0 _ rfl; (with_reducible repeat (first | refine blk_drewN ?_ _ | refine blk_drew ?_ | refine blk_alloc ?_ _)); exact BK551.out) hb); replace HB := Aside0.mk (below_step (by repeat (first | (with_reducible first | exact HB.out | apply below_alloc | apply pw_below_drewN | apply below_drew1 | refine below_set ?_ (IsS103.ge HI546.out) | refine below_set ?_ GE545.out | refine below_set ?_ GE549.out | refine below_set ?_ GE551.out) | exact HB.out)) hb); replace HI546 := Aside0.mk (IsS103.below (show IsS103 w ((w17.setCell ⟨gb551, 0, none⟩ (.int .i64 ((rd_T53 l1 x15_1).f0))).setCell ⟨gb551, 1, none⟩ (.int .i64 ((rd_T53 l1 x15_1).f1))) gb546 x547000_1 from by repeat (first | (with_reducible first | exact HI546.out | apply IsS103.alloc | apply IsS103.drewN | apply IsS103.drew | apply IsS103.set_0 | refine IsS103.far ?_ NB546_545.out _ | refine IsS103.far ?_ NB546_549.out _ | refine IsS103.far ?_ NB546_551.out _) | exact HI546.out)) hb); (try clear hb); (try clear hb2); (try clear hk); (try clear hi)) | ((with_reducible refine gate_dst (N := 10) rfl ?_); refine bx 10 #[.int .i64 0, .int .i64 0] 53 ?_; intro gb555 hg w23 hbox hb; have BK555 := Aside0.mk (hbox); have GW555 := Aside0.mk ((by rw [hg]; exact (below_size (by repeat (first | (with_reducible first | exact HB.out | apply below_alloc | apply pw_below_drewN | apply below_drew1 | refine below_set ?_ (IsS103.ge HI546.out) | refine below_set ?_ GE545.out | refine below_set ?_ GE549.out | refine below_set ?_ GE551.out) | exact HB.out))) : w.heap.size ≤ gb555)); have GE555 := GW555; have NB545_555 := Aside0.mk (bn gb545 hg); have NB555_545 := sy NB545_555; have NB549_555 := Aside0.mk (bn gb549 hg); have NB555_549 := sy NB549_555; have NB551_555 := Aside0.mk (bn gb551 hg); have NB555_551 := sy NB551_555; have NB546_555 := Aside0.mk ((by rw [hg]; exact Nat.ne_of_lt (IsS103.lt (show IsS103 w _ gb546 x547000_1 from by repeat (first | (with_reducible first | exact HI546.out | apply IsS103.alloc | apply IsS103.drewN | apply IsS103.drew | apply IsS103.set_0 | refine IsS103.far ?_ NB546_545.out _ | refine IsS103.far ?_ NB546_549.out _ | refine IsS103.far ?_ NB546_551.out _) | exact HI546.out))) : gb546 ≠ gb555)); have NB555_546 := sy NB546_555; replace BK545 := kb BK545 hb; replace BK549 := kb BK549 hb; replace BK551 := kb BK551 hb; replace HB := Aside0.mk (below_step (by repeat (first | (with_reducible first | exact HB.out | apply below_alloc | apply pw_below_drewN | apply below_drew1 | refine below_set ?_ (IsS103.ge HI546.out) | refine below_set ?_ GE545.out | refine below_set ?_ GE549.out | refine below_set ?_ GE551.out) | exact HB.out)) hb); replace HI546 := Aside0.mk (IsS103.below (by repeat (first | (with_reducible first | exact HI546.out | apply IsS103.alloc | apply IsS103.drewN | apply IsS103.drew | apply IsS103.set_0 | refine IsS103.far ?_ NB546_545.out _ | refine IsS103.far ?_ NB546_549.out _ | refine IsS103.far ?_ NB546_551.out _) | exact HI546.out)) hb); clear hb hbox hg; have hnb24 := NB555_545.out; have hnc24 := NB545_555.out; have hnb25 := NB555_549.out; have hnc25 := NB549_555.out; have hnb26 := NB555_551.out; have hnc26 := NB551_555.out; have hnb27 := NB555_546.out; have hnc27 := NB546_555.out; obtain ⟨hcz28_0, hcz28_1, hfz28_0, hfz28_1⟩ := b2 BK555; have hnb29 := NB549_545.out; have hnc29 := NB545_549.out; have hnb30 := NB549_546.out; have hnc30 := NB546_549.out; obtain ⟨hcz31_0, hcz31_1, hfz31_0, hfz31_1⟩ := b2 BK549) | ((with_reducible refine gate_callee (f := 103) rfl ?_); refine gl 30 Try.func103 #[.pointer (some ⟨gb546, 0, none⟩), .agg #[.int .i64 x550000_1, .int .i64 x550001_1], .agg #[.int .i64 t552, .int .i64 t553]] ?_; (with_reducible refine (impl_calc_mul.calls k1 gb546 x547000_1 x550000_1 x550001_1 t552 t553 t556 t557 t558 w _ ?side1 ?side2 A16.out).mono ?_); (case side1 => repeat (first | (with_reducible first | exact HI546.out | apply IsS103.alloc | apply IsS103.drewN | apply IsS103.drew | apply IsS103.set_0 | refine IsS103.far ?_ NB546_545.out _ | refine IsS103.far ?_ NB546_549.out _ | refine IsS103.far ?_ NB546_551.out _ | refine IsS103.far ?_ NB546_555.out _) | exact HI546.out)); (case side2 => repeat (first | (with_reducible first | exact HB.out | apply below_alloc | apply pw_below_drewN | apply below_drew1 | refine below_set ?_ (IsS103.ge HI546.out) | refine below_set ?_ GE545.out | refine below_set ?_ GE549.out | refine below_set ?_ GE551.out | refine below_set ?_ GE555.out) | exact HB.out)); rintro e w32 ⟨rfl, hi, hb, hk⟩; refine ⟨_, rfl, ?_⟩; replace BK545 := Aside0.mk (KeepBut.blk hk (g' := gb545) (o := .cells #[.int .i64 x546000_1, .int .i64 x546001_1] 53 (0, 0)) (by (with_reducible repeat (first | refine blk_drewN ?_ _ | refine blk_drew ?_ | refine blk_alloc ?_ _)); refine blk_far ?_ NB545_555.out _; (with_reducible repeat (first | refine blk_drewN ?_ _ | refine blk_drew ?_ | refine blk_alloc ?_ _)); refine blk_far ?_ NB545_555.out _; (with_reducible repeat (first | refine blk_drewN ?_ _ | refine blk_drew ?_ | refine blk_alloc ?_ _)); exact BK545.out) NB545_546.out (by simp)); replace BK549 := Aside0.mk (KeepBut.blk hk (g' := gb549) (o := .cells #[.int .i64 x550000_1, .int .i64 x550001_1] 53 (0, 0)) (by (with_reducible repeat (first | refine blk_drewN ?_ _ | refine blk_drew ?_ | refine blk_alloc ?_ _)); refine blk_far ?_ NB549_555.out _; (with_reducible repeat (first | refine blk_drewN ?_ _ | refine blk_drew ?_ | refine blk_alloc ?_ _)); refine blk_far ?_ NB549_555.out _; (with_reducible repeat (first | refine blk_drewN ?_ _ | refine blk_drew ?_ | refine blk_alloc ?_ _)); exact BK549.out) NB549_546.out (by simp)); replace BK551 := Aside0.mk (KeepBut.blk hk (g' := gb551) (o := .cells #[.int .i64 ((rd_T53 l1 x15_1).f0), .int .i64 ((rd_T53 l1 x15_1).f1)] 53 (0, 0)) (by (with_reducible repeat (first | refine blk_drewN ?_ _ | refine blk_drew ?_ | refine blk_alloc ?_ _)); refine blk_far ?_ NB551_555.out _; (with_reducible repeat (first | refine blk_drewN ?_ _ | refine blk_drew ?_ | refine blk_alloc ?_ _)); refine blk_far ?_ NB551_555.out _; (with_reducible repeat (first | refine blk_drewN ?_ _ | refine blk_drew ?_ | refine blk_alloc ?_ _)); exact BK551.out) NB551_546.out (by simp)); replace BK555 := Aside0.mk (KeepBut.blk hk (g' := gb555) (o := .cells #[.int .i64 t552, .int .i64 t553] 53 (0, 0)) (by (with_reducible repeat (first | refine blk_drewN ?_ _ | refine blk_drew ?_ | refine blk_alloc ?_ _)); refine blk_put (cs := #[.int .i64 t552, .int .i64 0]) ?_ 1 _ rfl; (with_reducible repeat (first | refine blk_drewN ?_ _ | refine blk_drew ?_ | refine blk_alloc ?_ _)); refine blk_put (cs := #[.int .i64 0, .int .i64 0]) ?_ 0 _ rfl; (with_reducible repeat (first | refine blk_drewN ?_ _ | refine blk_drew ?_ | refine blk_alloc ?_ _)); exact BK555.out) NB555_546.out (by simp)); replace HB := Aside0.mk (hb); replace HI546 := Aside0.mk (hi); (try clear hb); (try clear hb2); (try clear hk); (try clear hi); obtain ⟨hcz33_0, hcz33_1, hfz33_0, hfz33_1⟩ := b2 BK549))
       go_roundg k1
       case measure => have := HK1.out; omega
       case rel => exact ⟨(wrap64 (x15_1 + 1)), (x546000_1), (x546001_1), (t558), (t556), (t557), rs, H', ⟨by have := HK1.out; omega⟩, ⟨by (with_reducible repeat (first | refine blk_drewN ?_ _ | refine blk_drew ?_ | refine blk_alloc ?_ _)); refine blk_far ?_ NB545_549.out _; (with_reducible repeat (first | refine blk_drewN ?_ _ | refine blk_drew ?_ | refine blk_alloc ?_ _)); refine blk_far ?_ NB545_549.out _; (with_reducible repeat (first | refine blk_drewN ?_ _ | refine blk_drew ?_ | refine blk_alloc ?_ _)); exact BK545.out⟩, ⟨by (with_reducible repeat (first | refine blk_drewN ?_ _ | refine blk_drew ?_ | refine blk_alloc ?_ _)); refine blk_put (cs := #[.int .i64 t556, .int .i64 x550001_1]) ?_ 1 _ rfl; (with_reducible repeat (first | refine blk_drewN ?_ _ | refine blk_drew ?_ | refine blk_alloc ?_ _)); refine blk_put (cs := #[.int .i64 x550000_1, .int .i64 x550001_1]) ?_ 0 _ rfl; (with_reducible repeat (first | refine blk_drewN ?_ _ | refine blk_drew ?_ | refine blk_alloc ?_ _)); exact BK549.out⟩, ⟨by repeat (first | (with_reducible first | exact HI546.out | apply IsS103.alloc | apply IsS103.drewN | apply IsS103.drew | apply IsS103.set_0 | refine IsS103.far ?_ NB546_545.out _ | refine IsS103.far ?_ NB546_549.out _ | refine IsS103.far ?_ NB546_551.out _ | refine IsS103.far ?_ NB546_555.out _) | exact HI546.out)⟩, ⟨by repeat (first | (with_reducible first | exact HB.out | apply below_alloc | apply pw_below_drewN | apply below_drew1 | refine below_set ?_ (IsS103.ge HI546.out) | refine below_set ?_ GE545.out | refine below_set ?_ GE549.out | refine below_set ?_ GE551.out | refine below_set ?_ GE555.out) | exact HB.out)⟩⟩
      ·replace c15 := Bool.eq_false_iff.mpr c15
       subst c15
       have H1 : (some (0, 0, false)) = some (r1, r2, r3) := by rw [if_neg (show ¬ (false = true) by decide)] at H; exact H
       clear H
       have H := H1
       clear H1
       simp only [Option.some.injEq, Prod.mk.injEq] at H
       obtain ⟨rfl, rfl, rfl⟩ := H
       have p550 : 0 ≤ (x15_1 : Int) := da
       have q550 : x15_1 < (l1.length : Int) := da
       obtain ⟨ad550, e550, hx550_0, hx550_1⟩ := at_T53 HR1.out x15_1 p550 q550
       cases e550
       replace hx550_0 := (hc HB hx550_0 :)
       replace hx550_1 := (hc HB hx550_1 :)
       replace p550 := eq_true p550
       replace q550 := eq_true q550
       go_wp2_with (first | ((with_reducible refine gate_dst (N := 9) rfl ?_); refine bx 9 #[.int .i64 0, .int .i64 0] 53 ?_; intro gb551 hg w34 hbox hb; have BK551 := Aside0.mk (hbox); have GW551 := Aside0.mk ((by rw [hg]; exact (below_size (by repeat (first | (with_reducible first | exact HB.out | apply below_alloc | apply pw_below_drewN | apply below_drew1 | refine below_set ?_ (IsS103.ge HI546.out) | refine below_set ?_ GE545.out | refine below_set ?_ GE549.out) | exact HB.out))) : w.heap.size ≤ gb551)); have GE551 := GW551; have NB545_551 := Aside0.mk (bn gb545 hg); have NB551_545 := sy NB545_551; have NB549_551 := Aside0.mk (bn gb549 hg); have NB551_549 := sy NB549_551; have NB546_551 := Aside0.mk ((by rw [hg]; exact Nat.ne_of_lt (IsS103.lt (show IsS103 w _ gb546 x547000_1 from by repeat (first | (with_reducible first | exact HI546.out | apply IsS103.alloc | apply IsS103.drewN | apply IsS103.drew | apply IsS103.set_0 | refine IsS103.far ?_ NB546_545.out _ | refine IsS103.far ?_ NB546_549.out _) | exact HI546.out))) : gb546 ≠ gb551)); have NB551_546 := sy NB546_551; replace BK545 := kb BK545 hb; replace BK549 := kb BK549 hb; replace HB := Aside0.mk (below_step (by repeat (first | (with_reducible first | exact HB.out | apply below_alloc | apply pw_below_drewN | apply below_drew1 | refine below_set ?_ (IsS103.ge HI546.out) | refine below_set ?_ GE545.out | refine below_set ?_ GE549.out) | exact HB.out)) hb); replace HI546 := Aside0.mk (IsS103.below (by repeat (first | (with_reducible first | exact HI546.out | apply IsS103.alloc | apply IsS103.drewN | apply IsS103.drew | apply IsS103.set_0 | refine IsS103.far ?_ NB546_545.out _ | refine IsS103.far ?_ NB546_549.out _) | exact HI546.out)) hb); clear hb hbox hg; have hnb35 := NB551_545.out; have hnc35 := NB545_551.out; have hnb36 := NB551_549.out; have hnc36 := NB549_551.out; have hnb37 := NB551_546.out; have hnc37 := NB546_551.out; obtain ⟨hcz38_0, hcz38_1, hfz38_0, hfz38_1⟩ := b2 BK551) | ((with_reducible refine gate_callee (f := 102) rfl ?_); refine gl 22 Try.func102 #[.slice A0 l0.length c0, .agg #[.int .i64 ((rd_T53 l1 x15_1).f0), .int .i64 ((rd_T53 l1 x15_1).f1)]] ?_; (with_reducible refine (impl_slopeAt.calls k1 _ _ l0 ((rd_T53 l1 x15_1).f0) ((rd_T53 l1 x15_1).f1) t552 t553 false _ ?side1 ?side2 A14.out).mono ?_); (case side1 => exact Kd.C_below HR0.out (by repeat (first | (with_reducible first | exact HB.out | apply below_alloc | apply pw_below_drewN | apply below_drew1 | refine below_set ?_ (IsS103.ge HI546.out) | refine below_set ?_ GE545.out | refine below_set ?_ GE549.out | refine below_set ?_ GE551.out) | exact HB.out))); (case side2 => exact HC0.out); rintro e w39 ⟨rfl, hb⟩; refine ⟨_, rfl, ?_⟩; replace BK545 := Aside0.mk (blk_below (g := gb545) (o := .cells #[.int .i64 x546000_1, .int .i64 x546001_1] 53 (0, 0)) (by (with_reducible repeat (first | refine blk_drewN ?_ _ | refine blk_drew ?_ | refine blk_alloc ?_ _)); refine blk_far ?_ NB545_551.out _; (with_reducible repeat (first | refine blk_drewN ?_ _ | refine blk_drew ?_ | refine blk_alloc ?_ _)); refine blk_far ?_ NB545_551.out _; (with_reducible repeat (first | refine blk_drewN ?_ _ | refine blk_drew ?_ | refine blk_alloc ?_ _)); exact BK545.out) hb); replace BK549 := Aside0.mk (blk_below (g := gb549) (o := .cells #[.int .i64 x550000_1, .int .i64 x550001_1] 53 (0, 0)) (by (with_reducible repeat (first | refine blk_drewN ?_ _ | refine blk_drew ?_ | refine blk_alloc ?_ _)); refine blk_far ?_ NB549_551.out _; (with_reducible repeat (first | refine blk_drewN ?_ _ | refine blk_drew ?_ | refine blk_alloc ?_ _)); refine blk_far ?_ NB549_551.out _; (with_reducible repeat (first | refine blk_drewN ?_ _ | refine blk_drew ?_ | refine blk_alloc ?_ _)); exact BK549.out) hb); replace BK551 := Aside0.mk (blk_below (g := gb551) (o := .cells #[.int .i64 ((rd_T53 l1 x15_1).f0), .int .i64 ((rd_T53 l1 x15_1).f1)] 53 (0, 0)) (by (with_reducible repeat (first | refine blk_drewN ?_ _ | refine blk_drew ?_ | refine blk_alloc ?_ _)); refine blk_put (cs := #[.int .i64 ((rd_T53 l1 x15_1).f0), .int .i64 0]) ?_ 1 _ rfl; (with_reducible repeat (first | refine blk_drewN ?_ _ | refine blk_drew ?_ | refine blk_alloc ?_ _)); refine blk_put (cs := #[.int .i64 0, .int .i64 0]) ?_ 0 _ rfl; (with_reducible repeat (first | refine blk_drewN ?_ _ | refine blk_drew ?_ | refine blk_alloc ?_ _)); exact BK551.out) hb); replace HB := Aside0.mk (below_step (by repeat (first | (with_reducible first | exact HB.out | apply below_alloc | apply pw_below_drewN | apply below_drew1 | refine below_set ?_ (IsS103.ge HI546.out) | refine below_set ?_ GE545.out | refine below_set ?_ GE549.out | refine below_set ?_ GE551.out) | exact HB.out)) hb); replace HI546 := Aside0.mk (IsS103.below (show IsS103 w ((w34.setCell ⟨gb551, 0, none⟩ (.int .i64 ((rd_T53 l1 x15_1).f0))).setCell ⟨gb551, 1, none⟩ (.int .i64 ((rd_T53 l1 x15_1).f1))) gb546 x547000_1 from by repeat (first | (with_reducible first | exact HI546.out | apply IsS103.alloc | apply IsS103.drewN | apply IsS103.drew | apply IsS103.set_0 | refine IsS103.far ?_ NB546_545.out _ | refine IsS103.far ?_ NB546_549.out _ | refine IsS103.far ?_ NB546_551.out _) | exact HI546.out)) hb); (try clear hb); (try clear hb2); (try clear hk); (try clear hi)) | ((with_reducible refine gate_dst (N := 10) rfl ?_); refine bx 10 #[.int .i64 0, .int .i64 0] 53 ?_; intro gb555 hg w40 hbox hb; have BK555 := Aside0.mk (hbox); have GW555 := Aside0.mk ((by rw [hg]; exact (below_size (by repeat (first | (with_reducible first | exact HB.out | apply below_alloc | apply pw_below_drewN | apply below_drew1 | refine below_set ?_ (IsS103.ge HI546.out) | refine below_set ?_ GE545.out | refine below_set ?_ GE549.out | refine below_set ?_ GE551.out) | exact HB.out))) : w.heap.size ≤ gb555)); have GE555 := GW555; have NB545_555 := Aside0.mk (bn gb545 hg); have NB555_545 := sy NB545_555; have NB549_555 := Aside0.mk (bn gb549 hg); have NB555_549 := sy NB549_555; have NB551_555 := Aside0.mk (bn gb551 hg); have NB555_551 := sy NB551_555; have NB546_555 := Aside0.mk ((by rw [hg]; exact Nat.ne_of_lt (IsS103.lt (show IsS103 w _ gb546 x547000_1 from by repeat (first | (with_reducible first | exact HI546.out | apply IsS103.alloc | apply IsS103.drewN | apply IsS103.drew | apply IsS103.set_0 | refine IsS103.far ?_ NB546_545.out _ | refine IsS103.far ?_ NB546_549.out _ | refine IsS103.far ?_ NB546_551.out _) | exact HI546.out))) : gb546 ≠ gb555)); have NB555_546 := sy NB546_555; replace BK545 := kb BK545 hb; replace BK549 := kb BK549 hb; replace BK551 := kb BK551 hb; replace HB := Aside0.mk (below_step (by repeat (first | (with_reducible first | exact HB.out | apply below_alloc | apply pw_below_drewN | apply below_drew1 | refine below_set ?_ (IsS103.ge HI546.out) | refine below_set ?_ GE545.out | refine below_set ?_ GE549.out | refine below_set ?_ GE551.out) | exact HB.out)) hb); replace HI546 := Aside0.mk (IsS103.below (by repeat (first | (with_reducible first | exact HI546.out | apply IsS103.alloc | apply IsS103.drewN | apply IsS103.drew | apply IsS103.set_0 | refine IsS103.far ?_ NB546_545.out _ | refine IsS103.far ?_ NB546_549.out _ | refine IsS103.far ?_ NB546_551.out _) | exact HI546.out)) hb); clear hb hbox hg; have hnb41 := NB555_545.out; have hnc41 := NB545_555.out; have hnb42 := NB555_549.out; have hnc42 := NB549_555.out; have hnb43 := NB555_551.out; have hnc43 := NB551_555.out; have hnb44 := NB555_546.out; have hnc44 := NB546_555.out; obtain ⟨hcz45_0, hcz45_1, hfz45_0, hfz45_1⟩ := b2 BK555; have hnb46 := NB545_549.out; have hnc46 := NB549_545.out; have hnb47 := NB545_546.out; have hnc47 := NB546_545.out; obtain ⟨hcz48_0, hcz48_1, hfz48_0, hfz48_1⟩ := b2 BK545))
       refine bodyPost_ret (results_ct rfl _ _ gb545 53 #[.int .i64 0, .int .i64 0] (0, 0) _ rfl (by (with_reducible repeat (first | refine blk_drewN ?_ _ | refine blk_drew ?_ | refine blk_alloc ?_ _)); refine blk_put (cs := #[.int .i64 0, .int .i64 x546001_1]) ?_ 1 _ rfl; (with_reducible repeat (first | refine blk_drewN ?_ _ | refine blk_drew ?_ | refine blk_alloc ?_ _)); refine blk_put (cs := #[.int .i64 x546000_1, .int .i64 x546001_1]) ?_ 0 _ rfl; (with_reducible repeat (first | refine blk_drewN ?_ _ | refine blk_drew ?_ | refine blk_alloc ?_ _)); refine blk_far ?_ NB545_555.out _; (with_reducible repeat (first | refine blk_drewN ?_ _ | refine blk_drew ?_ | refine blk_alloc ?_ _)); refine blk_far ?_ NB545_555.out _; (with_reducible repeat (first | refine blk_drewN ?_ _ | refine blk_drew ?_ | refine blk_alloc ?_ _)); exact BK545.out) Try.underlying53 rfl (by kernel_rfl)) rfl ?_
       exact ⟨rt, by repeat (first | (with_reducible first | exact HB.out | apply below_alloc | apply pw_below_drewN | apply below_drew1 | refine below_set ?_ (IsS103.ge HI546.out) | refine below_set ?_ GE545.out | refine below_set ?_ GE549.out | refine below_set ?_ GE551.out | refine below_set ?_ GE555.out) | exact HB.out)⟩
     ·rw [if_neg c13] at H
      exact absurd H (by simp)
    ·rw [if_neg c12] at H
     exact absurd H (by simp)
   ·rw [if_neg c11] at H
    have c11b0 : decide (x15_1 < (l1.length : Int)) = false := decide_eq_false c11
    clear c11
    by_cases c49 : x547000_1 = true
    ·subst c49
     have H1 : (some (0, 0, false)) = some (r1, r2, r3) := by rw [if_pos rfl] at H; exact H
     clear H
     have H := H1
     clear H1
     simp only [Option.some.injEq, Prod.mk.injEq] at H
     obtain ⟨rfl, rfl, rfl⟩ := H
     obtain ⟨HGz50, hgz50⟩ := HI546.out
     have hcz50_0 := cellS103_0 HGz50
     have hfz50_0 := blk_frozen HGz50 0
     clear HGz50 hgz50
     have hnb51 := NB545_549.out
     have hnc51 := NB549_545.out
     have hnb52 := NB545_546.out
     have hnc52 := NB546_545.out
     obtain ⟨hcz53_0, hcz53_1, hfz53_0, hfz53_1⟩ := b2 BK545
     go_wp2
     refine bodyPost_ret (results_ct rfl _ _ gb545 53 #[.int .i64 0, .int .i64 0] (0, 0) _ rfl (by (with_reducible repeat (first | refine blk_drewN ?_ _ | refine blk_drew ?_ | refine blk_alloc ?_ _)); refine blk_put (cs := #[.int .i64 0, .int .i64 x546001_1]) ?_ 1 _ rfl; (with_reducible repeat (first | refine blk_drewN ?_ _ | refine blk_drew ?_ | refine blk_alloc ?_ _)); refine blk_put (cs := #[.int .i64 x546000_1, .int .i64 x546001_1]) ?_ 0 _ rfl; (with_reducible repeat (first | refine blk_drewN ?_ _ | refine blk_drew ?_ | refine blk_alloc ?_ _)); exact BK545.out) Try.underlying53 rfl (by kernel_rfl)) rfl ?_
     exact ⟨rt, by repeat (first | (with_reducible first | exact HB.out | apply below_alloc | apply pw_below_drewN | apply below_drew1 | refine below_set ?_ (IsS103.ge HI546.out) | refine below_set ?_ GE545.out | refine below_set ?_ GE549.out) | exact HB.out)⟩
    ·replace c49 := Bool.eq_false_iff.mpr c49
     subst c49
     have H1 : (some (x550000_1, x550001_1, true)) = some (r1, r2, r3) := by rw [if_neg (show ¬ (false = true) by decide)] at H; exact H
     clear H
     have H := H1
     clear H1
     simp only [Option.some.injEq, Prod.mk.injEq] at H
     obtain ⟨rfl, rfl, rfl⟩ := H
     obtain ⟨HGz54, hgz54⟩ := HI546.out
     have hcz54_0 := cellS103_0 HGz54
     have hfz54_0 := blk_frozen HGz54 0
     clear HGz54 hgz54
     have hnb55 := NB549_545.out
     have hnc55 := NB545_549.out
     have hnb56 := NB549_546.out
     have hnc56 := NB546_549.out
     obtain ⟨hcz57_0, hcz57_1, hfz57_0, hfz57_1⟩ := b2 BK549
     have hnb58 := NB545_546.out
     have hnc58 := NB546_545.out
     obtain ⟨hcz59_0, hcz59_1, hfz59_0, hfz59_1⟩ := b2 BK545
     go_wp2
     refine bodyPost_ret (results_ct rfl _ _ gb545 53 #[.int .i64 x550000_1, .int .i64 x550001_1] (0, 0) _ rfl (by (with_reducible repeat (first | refine blk_drewN ?_ _ | refine blk_drew ?_ | refine blk_alloc ?_ _)); refine blk_put (cs := #[.int .i64 x550000_1, .int .i64 x546001_1]) ?_ 1 _ rfl; (with_reducible repeat (first | refine blk_drewN ?_ _ | refine blk_drew ?_ | refine blk_alloc ?_ _)); refine blk_put (cs := #[.int .i64 x546000_1, .int .i64 x546001_1]) ?_ 0 _ rfl; (with_reducible repeat (first | refine blk_drewN ?_ _ | refine blk_drew ?_ | refine blk_alloc ?_ _)); exact BK545.out) Try.underlying53 rfl (by kernel_rfl)) rfl ?_
     exact ⟨rt, by repeat (first | (with_reducible first | exact HB.out | apply below_alloc | apply pw_below_drewN | apply below_drew1 | refine below_set ?_ (IsS103.ge HI546.out) | refine below_set ?_ GE545.out | refine below_set ?_ GE549.out) | exact HB.out)⟩

/-! ### impl_MultiplierAt: function 65 -/
def impl_MultiplierAt.f (k : Nat) (l0 : List (S73)) (a1_0 : Int) (a1_1 : Int) (a2 : Int) : Option (Int × Int × Bool) := (impl_cycleFrom.f k l0 a1_0 a1_1 a2).bind fun bt561 => (if bt561.2 = true then ((impl_multiplier.f k l0 bt561.1).bind fun bt565 => (some (bt565.1, bt565.2.1, bt565.2.2))) else (some (0, 0, false)))
set_option maxHeartbeats 8000000 in
set_option maxRecDepth 100000 in
theorem impl_MultiplierAt.calls (k : Nat) (A0 : Option Addr) (c0 : Nat) (l0 : List (S73)) (a1_0 : Int) (a1_1 : Int) (a2 : Int) (r1 : Int) (r2 : Int) (r3 : Bool) (w : World) (hr0 : Kd.C k73 w A0 l0.length l0) (hc0 : l0.length ≤ c0) (h : impl_MultiplierAt.f k l0 a1_0 a1_1 a2 = some (r1, r2, r3)) :
  Calls Try.prog 65 #[.slice A0 l0.length c0, .agg #[.int .i64 a1_0, .int .i64 a1_1], .int .i64 a2] w fun e w' => e = .returned (.tuple #[.agg #[.int .i64 r1, .int .i64 r2], .bool r3]) ∧ Below w.heap.size w w' := by
 have hu53 := Try.underlying53
 have HR0 := Aside0.mk hr0
 have HC0 := Aside0.mk hc0
 clear hr0 hc0
 have HB := Aside0.mk (Below.refl w.heap.size w)
 have H : ((impl_cycleFrom.f k l0 a1_0 a1_1 a2).bind fun bt561 => (if bt561.2 = true then ((impl_multiplier.f k l0 bt561.1).bind fun bt565 => (some (bt565.1, bt565.2.1, bt565.2.2))) else (some (0, 0, false)))) = some (r1, r2, r3) := h
 clear h
 replace H := Option.bind_eq_some_iff.mp H
 obtain ⟨⟨t561, t564⟩, A40, H⟩ := H
 replace H : (if t564 = true then ((impl_multiplier.f k l0 t561).bind fun bt565 => (some (bt565.1, bt565.2.1, bt565.2.2))) else (some (0, 0, false))) = some (r1, r2, r3) := H
 have A4 := Aside0.mk A40
 clear A40
 by_cases c5 : t564 = true
 ·subst c5
  have H1 : ((impl_multiplier.f k l0 t561).bind fun bt565 => (some (bt565.1, bt565.2.1, bt565.2.2))) = some (r1, r2, r3) := by rw [if_pos rfl] at H; exact H
  clear H
  have H := H1
  clear H1
  replace H := Option.bind_eq_some_iff.mp H
  obtain ⟨⟨t565, t566, t567⟩, A60, H⟩ := H
  replace H : (some (t565, t566, t567)) = some (r1, r2, r3) := H
  have A6 := Aside0.mk A60
  clear A60
  simp only [Option.some.injEq, Prod.mk.injEq] at H
  obtain ⟨rfl, rfl, rfl⟩ := H
  go_enter Try.func65, Try.ntmps65
  go_wp2_with (first | ((with_reducible refine gate_dst (N := 4) rfl ?_); refine bx 4 #[.int .i64 a1_0, .int .i64 a1_1] 53 ?_; intro gb559 hg w7 hbox hb; have BK559 := Aside0.mk (hbox); have GW559 := Aside0.mk (bz hg); have GE559 := GW559; replace HB := kh hb; clear hb hbox hg) | ((with_reducible refine gate_dst (N := 6) rfl ?_); refine bx 6 #[.int .i64 0, .int .i64 0] 53 ?_; intro gb560 hg w8 hbox hb; have BK560 := Aside0.mk (hbox); have GW560 := Aside0.mk (bz hg); have GE560 := GW560; have NB559_560 := Aside0.mk (bn gb559 hg); have NB560_559 := sy NB559_560; replace BK559 := kb BK559 hb; replace HB := kh hb; clear hb hbox hg; have hnb9 := NB559_560.out; have hnc9 := NB560_559.out; obtain ⟨hcz10_0, hcz10_1, hfz10_0, hfz10_1⟩ := b2 BK559) | ((with_reducible refine gate_callee (f := 84) rfl ?_); refine gl 14 Try.func84 #[.slice A0 l0.length c0, .agg #[.int .i64 a1_0, .int .i64 a1_1], .int .i64 a2] ?_; (with_reducible refine (impl_cycleFrom.calls k _ _ l0 a1_0 a1_1 a2 t561 true _ ?side1 ?side2 A4.out).mono ?_); (case side1 => repeat (first | exact (Kd.C_below HR0.out HB.out) | (with_reducible refine Kd.C_alloc ?_ _) | (with_reducible refine Kd.C_drewN ?_ _) | (with_reducible refine Kd.C_drew ?_))); (case side2 => exact HC0.out); rintro e w11 ⟨v562, rfl, ho0, hb⟩; refine ⟨_, rfl, ?_⟩; have HO563 := Aside0.mk (Kd.R_lower (Kd.R_newB (Kd.R_newB ho0 (g := gb559) (o := .cells #[.int .i64 a1_0, .int .i64 a1_1] 53 (0, 0)) (bo gb559)) (g := gb560) (o := .cells #[.int .i64 0, .int .i64 0] 53 (0, 0)) (bo gb560)) (below_size bl)); replace BK559 := kb BK559 hb; replace BK560 := kb BK560 hb; replace HB := kh hb; (try clear hb); (try clear hb2); (try clear hk); (try clear hi); (try clear ho0); obtain ⟨Ao12, co12, eo12⟩ := Kd.R_slice HO563.out; subst eo12) | ((with_reducible refine gate_callee (f := 85) rfl ?_); refine gl 22 Try.func85 #[.slice A0 l0.length c0, .slice Ao12 t561.length co12] ?_; (with_reducible refine (impl_multiplier.calls k _ _ l0 _ _ t561 t565 t566 t567 _ ?side1 ?side2 ?side3 ?side4 A6.out).mono ?_); (case side1 => repeat (first | exact (Kd.C_below HR0.out HB.out) | (with_reducible refine Kd.C_alloc ?_ _) | (with_reducible refine Kd.C_drewN ?_ _) | (with_reducible refine Kd.C_drew ?_))); (case side2 => exact HC0.out); (case side3 => repeat (first | exact (Kd.R_reads' HO563.out).2.2 | (with_reducible refine Kd.C_alloc ?_ _) | (with_reducible refine Kd.C_drewN ?_ _) | (with_reducible refine Kd.C_drew ?_))); (case side4 => exact (Kd.R_reads' HO563.out).2.1); rintro e w13 ⟨rfl, hb⟩; refine ⟨_, rfl, ?_⟩; replace HO563 := Aside0.mk (Kd.R_below (by (with_reducible repeat (first | apply Kd.R_alloc | apply Kd.R_drewN | apply Kd.R_drew)); exact HO563.out) hb); replace BK559 := kb BK559 hb; replace BK560 := kb BK560 hb; replace HB := kh hb; (try clear hb); (try clear hb2); (try clear hk); (try clear hi); obtain ⟨hcz14_0, hcz14_1, hfz14_0, hfz14_1⟩ := b2 BK560))
  refine bodyPost_ret (results_ct rfl _ _ gb560 53 #[.int .i64 t565, .int .i64 t566] (0, 0) _ rfl (by (with_reducible repeat (first | refine blk_drewN ?_ _ | refine blk_drew ?_ | refine blk_alloc ?_ _)); refine blk_put (cs := #[.int .i64 t565, .int .i64 0]) ?_ 1 _ rfl; (with_reducible repeat (first | refine blk_drewN ?_ _ | refine blk_drew ?_ | refine blk_alloc ?_ _)); refine blk_put (cs := #[.int .i64 0, .int .i64 0]) ?_ 0 _ rfl; (with_reducible repeat (first | refine blk_drewN ?_ _ | refine blk_drew ?_ | refine blk_alloc ?_ _)); exact BK560.out) Try.underlying53 rfl (by kernel_rfl)) rfl ?_
  exact ⟨rt, bl⟩
 ·replace c5 := Bool.eq_false_iff.mpr c5
  subst c5
  have H1 : (some (0, 0, false)) = some (r1, r2, r3) := by rw [if_neg (show ¬ (false = true) by decide)] at H; exact H
  clear H
  have H := H1
  clear H1
  simp only [Option.some.injEq, Prod.mk.injEq] at H
  obtain ⟨rfl, rfl, rfl⟩ := H
  go_enter Try.func65, Try.ntmps65
  go_wp2_with (first | ((with_reducible refine gate_dst (N := 4) rfl ?_); refine bx 4 #[.int .i64 a1_0, .int .i64 a1_1] 53 ?_; intro gb559 hg w15 hbox hb; have BK559 := Aside0.mk (hbox); have GW559 := Aside0.mk (bz hg); have GE559 := GW559; replace HB := kh hb; clear hb hbox hg) | ((with_reducible refine gate_dst (N := 6) rfl ?_); refine bx 6 #[.int .i64 0, .int .i64 0] 53 ?_; intro gb560 hg w16 hbox hb; have BK560 := Aside0.mk (hbox); have GW560 := Aside0.mk (bz hg); have GE560 := GW560; have NB559_560 := Aside0.mk (bn gb559 hg); have NB560_559 := sy NB559_560; replace BK559 := kb BK559 hb; replace HB := kh hb; clear hb hbox hg; have hnb17 := NB559_560.out; have hnc17 := NB560_559.out; obtain ⟨hcz18_0, hcz18_1, hfz18_0, hfz18_1⟩ := b2 BK559) | ((with_reducible refine gate_callee (f := 84) rfl ?_); refine gl 14 Try.func84 #[.slice A0 l0.length c0, .agg #[.int .i64 a1_0, .int .i64 a1_1], .int .i64 a2] ?_; (with_reducible refine (impl_cycleFrom.calls k _ _ l0 a1_0 a1_1 a2 t561 false _ ?side1 ?side2 A4.out).mono ?_); (case side1 => repeat (first | exact (Kd.C_below HR0.out HB.out) | (with_reducible refine Kd.C_alloc ?_ _) | (with_reducible refine Kd.C_drewN ?_ _) | (with_reducible refine Kd.C_drew ?_))); (case side2 => exact HC0.out); rintro e w19 ⟨v562, rfl, ho0, hb⟩; refine ⟨_, rfl, ?_⟩; have HO563 := Aside0.mk (Kd.R_lower (Kd.R_newB (Kd.R_newB ho0 (g := gb559) (o := .cells #[.int .i64 a1_0, .int .i64 a1_1] 53 (0, 0)) (bo gb559)) (g := gb560) (o := .cells #[.int .i64 0, .int .i64 0] 53 (0, 0)) (bo gb560)) (below_size bl)); replace BK559 := kb BK559 hb; replace BK560 := kb BK560 hb; replace HB := kh hb; (try clear hb); (try clear hb2); (try clear hk); (try clear hi); (try clear ho0); obtain ⟨hcz20_0, hcz20_1, hfz20_0, hfz20_1⟩ := b2 BK560))
  refine bodyPost_ret (results_ct rfl _ _ gb560 53 #[.int .i64 0, .int .i64 0] (0, 0) _ rfl (by (with_reducible repeat (first | refine blk_drewN ?_ _ | refine blk_drew ?_ | refine blk_alloc ?_ _)); refine blk_put (cs := #[.int .i64 0, .int .i64 0]) ?_ 1 _ rfl; (with_reducible repeat (first | refine blk_drewN ?_ _ | refine blk_drew ?_ | refine blk_alloc ?_ _)); refine blk_put (cs := #[.int .i64 0, .int .i64 0]) ?_ 0 _ rfl; (with_reducible repeat (first | refine blk_drewN ?_ _ | refine blk_drew ?_ | refine blk_alloc ?_ _)); exact BK560.out) Try.underlying53 rfl (by kernel_rfl)) rfl ?_
  exact ⟨rt, bl⟩

/-! ### impl_IsRepelling: function 37 -/
def impl_IsRepelling.f (k : Nat) (l0 : List (S73)) (a1_0 : Int) (a1_1 : Int) (a2 : Int) : Option (Bool × Bool) := (impl_MultiplierAt.f k l0 a1_0 a1_1 a2).bind fun bt569 => (if bt569.2.2 = true then ((impl_abs.f bt569.1).bind fun t573 => (some (decide (t573 > bt569.2.1), bt569.2.2))) else (some (false, bt569.2.2)))
set_option maxHeartbeats 8000000 in
set_option maxRecDepth 100000 in
theorem impl_IsRepelling.calls (k : Nat) (A0 : Option Addr) (c0 : Nat) (l0 : List (S73)) (a1_0 : Int) (a1_1 : Int) (a2 : Int) (r1 : Bool) (r2 : Bool) (w : World) (hr0 : Kd.C k73 w A0 l0.length l0) (hc0 : l0.length ≤ c0) (h : impl_IsRepelling.f k l0 a1_0 a1_1 a2 = some (r1, r2)) :
  Calls Try.prog 37 #[.slice A0 l0.length c0, .agg #[.int .i64 a1_0, .int .i64 a1_1], .int .i64 a2] w fun e w' => e = .returned (.tuple #[.bool r1, .bool r2]) ∧ Below w.heap.size w w' := by
 have hu53 := Try.underlying53
 have HR0 := Aside0.mk hr0
 have HC0 := Aside0.mk hc0
 clear hr0 hc0
 have HB := Aside0.mk (Below.refl w.heap.size w)
 have H : ((impl_MultiplierAt.f k l0 a1_0 a1_1 a2).bind fun bt569 => (if bt569.2.2 = true then ((impl_abs.f bt569.1).bind fun t573 => (some (decide (t573 > bt569.2.1), bt569.2.2))) else (some (false, bt569.2.2)))) = some (r1, r2) := h
 clear h
 replace H := Option.bind_eq_some_iff.mp H
 obtain ⟨⟨t569, t570, t571⟩, A40, H⟩ := H
 replace H : (if t571 = true then ((impl_abs.f t569).bind fun t573 => (some (decide (t573 > t570), t571))) else (some (false, t571))) = some (r1, r2) := H
 have A4 := Aside0.mk A40
 clear A40
 by_cases c5 : t571 = true
 ·subst c5
  have H1 : ((impl_abs.f t569).bind fun t573 => (some (decide (t573 > t570), true))) = some (r1, r2) := by rw [if_pos rfl] at H; exact H
  clear H
  have H := H1
  clear H1
  replace H := Option.bind_eq_some_iff.mp H
  obtain ⟨t573, A60, H⟩ := H
  replace H : (some (decide (t573 > t570), true)) = some (r1, r2) := H
  have A6 := Aside0.mk A60
  clear A60
  simp only [Option.some.injEq, Prod.mk.injEq] at H
  obtain ⟨rfl, rfl⟩ := H
  go_enter Try.func37, Try.ntmps37
  go_wp2_with (first | ((with_reducible refine gate_dst (N := 4) rfl ?_); refine bx 4 #[.int .i64 a1_0, .int .i64 a1_1] 53 ?_; intro gb568 hg w7 hbox hb; have BK568 := Aside0.mk (hbox); have GW568 := Aside0.mk (bz hg); have GE568 := GW568; replace HB := kh hb; clear hb hbox hg; obtain ⟨hcz8_0, hcz8_1, hfz8_0, hfz8_1⟩ := b2 BK568) | (go_at_call 65; (with_reducible refine (impl_MultiplierAt.calls k _ _ l0 a1_0 a1_1 a2 t569 t570 true _ ?side1 ?side2 A4.out).mono ?_); (case side1 => repeat (first | exact (Kd.C_below HR0.out HB.out) | (with_reducible refine Kd.C_alloc ?_ _) | (with_reducible refine Kd.C_drewN ?_ _) | (with_reducible refine Kd.C_drew ?_))); (case side2 => exact HC0.out); rintro e w9 ⟨rfl, hb⟩; replace BK568 := kb BK568 hb; replace HB := kh hb; (try clear hb); (try clear hb2); (try clear hk); (try clear hi)) | ((with_reducible refine gate_dst (N := 8) rfl ?_); refine bx 8 #[.int .i64 0, .int .i64 0] 53 ?_; intro gb572 hg w10 hbox hb; have BK572 := Aside0.mk (hbox); have GW572 := Aside0.mk (bz hg); have GE572 := GW572; have NB568_572 := Aside0.mk (bn gb568 hg); have NB572_568 := sy NB568_572; replace BK568 := kb BK568 hb; replace HB := kh hb; clear hb hbox hg; have hnb11 := NB572_568.out; have hnc11 := NB568_572.out; obtain ⟨hcz12_0, hcz12_1, hfz12_0, hfz12_1⟩ := b2 BK572) | (go_at_call 66; (with_reducible refine (impl_abs.calls t569 t573 _ A6.out).mono ?_); rintro e w' ⟨rfl, ⟨nd, rfl⟩⟩; (try first | exact ⟨rfl, _, World.drewN_drewN _ _ _⟩ | exact ⟨rfl, _, Eq.trans (World.drewN_drewN _ _ _) (congrArg (World.drewN _) (Nat.add_assoc _ _ _))⟩)))
  repeat (go_quiet (first | ((with_reducible refine gate_dst (N := 4) rfl ?_); refine bx 4 #[.int .i64 a1_0, .int .i64 a1_1] 53 ?_; intro gb568 hg w7 hbox hb; have BK568 := Aside0.mk (hbox); have GW568 := Aside0.mk (bz hg); have GE568 := GW568; replace HB := kh hb; clear hb hbox hg; obtain ⟨hcz8_0, hcz8_1, hfz8_0, hfz8_1⟩ := b2 BK568) | (go_at_call 65; (with_reducible refine (impl_MultiplierAt.calls k _ _ l0 a1_0 a1_1 a2 t569 t570 true _ ?side1 ?side2 A4.out).mono ?_); (case side1 => repeat (first | exact (Kd.C_below HR0.out HB.out) | (with_reducible refine Kd.C_alloc ?_ _) | (with_reducible refine Kd.C_drewN ?_ _) | (with_reducible refine Kd.C_drew ?_))); (case side2 => exact HC0.out); rintro e w9 ⟨rfl, hb⟩; replace BK568 := kb BK568 hb; replace HB := kh hb; (try clear hb); (try clear hb2); (try clear hk); (try clear hi)) | ((with_reducible refine gate_dst (N := 8) rfl ?_); refine bx 8 #[.int .i64 0, .int .i64 0] 53 ?_; intro gb572 hg w10 hbox hb; have BK572 := Aside0.mk (hbox); have GW572 := Aside0.mk (bz hg); have GE572 := GW572; have NB568_572 := Aside0.mk (bn gb568 hg); have NB572_568 := sy NB568_572; replace BK568 := kb BK568 hb; replace HB := kh hb; clear hb hbox hg; have hnb11 := NB572_568.out; have hnc11 := NB568_572.out; obtain ⟨hcz12_0, hcz12_1, hfz12_0, hfz12_1⟩ := b2 BK572) | (go_at_call 66; (with_reducible refine (impl_abs.calls t569 t573 _ A6.out).mono ?_); rintro e w' ⟨rfl, ⟨nd, rfl⟩⟩; (try first | exact ⟨rfl, _, World.drewN_drewN _ _ _⟩ | exact ⟨rfl, _, Eq.trans (World.drewN_drewN _ _ _) (congrArg (World.drewN _) (Nat.add_assoc _ _ _))⟩))); try go_wp2_with (first | ((with_reducible refine gate_dst (N := 4) rfl ?_); refine bx 4 #[.int .i64 a1_0, .int .i64 a1_1] 53 ?_; intro gb568 hg w7 hbox hb; have BK568 := Aside0.mk (hbox); have GW568 := Aside0.mk (bz hg); have GE568 := GW568; replace HB := kh hb; clear hb hbox hg; obtain ⟨hcz8_0, hcz8_1, hfz8_0, hfz8_1⟩ := b2 BK568) | (go_at_call 65; (with_reducible refine (impl_MultiplierAt.calls k _ _ l0 a1_0 a1_1 a2 t569 t570 true _ ?side1 ?side2 A4.out).mono ?_); (case side1 => repeat (first | exact (Kd.C_below HR0.out HB.out) | (with_reducible refine Kd.C_alloc ?_ _) | (with_reducible refine Kd.C_drewN ?_ _) | (with_reducible refine Kd.C_drew ?_))); (case side2 => exact HC0.out); rintro e w9 ⟨rfl, hb⟩; replace BK568 := kb BK568 hb; replace HB := kh hb; (try clear hb); (try clear hb2); (try clear hk); (try clear hi)) | ((with_reducible refine gate_dst (N := 8) rfl ?_); refine bx 8 #[.int .i64 0, .int .i64 0] 53 ?_; intro gb572 hg w10 hbox hb; have BK572 := Aside0.mk (hbox); have GW572 := Aside0.mk (bz hg); have GE572 := GW572; have NB568_572 := Aside0.mk (bn gb568 hg); have NB572_568 := sy NB568_572; replace BK568 := kb BK568 hb; replace HB := kh hb; clear hb hbox hg; have hnb11 := NB572_568.out; have hnc11 := NB568_572.out; obtain ⟨hcz12_0, hcz12_1, hfz12_0, hfz12_1⟩ := b2 BK572) | (go_at_call 66; (with_reducible refine (impl_abs.calls t569 t573 _ A6.out).mono ?_); rintro e w' ⟨rfl, ⟨nd, rfl⟩⟩; (try first | exact ⟨rfl, _, World.drewN_drewN _ _ _⟩ | exact ⟨rfl, _, Eq.trans (World.drewN_drewN _ _ _) (congrArg (World.drewN _) (Nat.add_assoc _ _ _))⟩))))
  go_ret2
  exact ⟨rt, bl⟩
 ·replace c5 := Bool.eq_false_iff.mpr c5
  subst c5
  have H1 : (some (false, false)) = some (r1, r2) := by rw [if_neg (show ¬ (false = true) by decide)] at H; exact H
  clear H
  have H := H1
  clear H1
  simp only [Option.some.injEq, Prod.mk.injEq] at H
  obtain ⟨rfl, rfl⟩ := H
  go_enter Try.func37, Try.ntmps37
  go_wp2_with (first | ((with_reducible refine gate_dst (N := 4) rfl ?_); refine bx 4 #[.int .i64 a1_0, .int .i64 a1_1] 53 ?_; intro gb568 hg w13 hbox hb; have BK568 := Aside0.mk (hbox); have GW568 := Aside0.mk (bz hg); have GE568 := GW568; replace HB := kh hb; clear hb hbox hg; obtain ⟨hcz14_0, hcz14_1, hfz14_0, hfz14_1⟩ := b2 BK568) | (go_at_call 65; (with_reducible refine (impl_MultiplierAt.calls k _ _ l0 a1_0 a1_1 a2 t569 t570 false _ ?side1 ?side2 A4.out).mono ?_); (case side1 => repeat (first | exact (Kd.C_below HR0.out HB.out) | (with_reducible refine Kd.C_alloc ?_ _) | (with_reducible refine Kd.C_drewN ?_ _) | (with_reducible refine Kd.C_drew ?_))); (case side2 => exact HC0.out); rintro e w15 ⟨rfl, hb⟩; replace BK568 := kb BK568 hb; replace HB := kh hb; (try clear hb); (try clear hb2); (try clear hk); (try clear hi)) | ((with_reducible refine gate_dst (N := 8) rfl ?_); refine bx 8 #[.int .i64 0, .int .i64 0] 53 ?_; intro gb572 hg w16 hbox hb; have BK572 := Aside0.mk (hbox); have GW572 := Aside0.mk (bz hg); have GE572 := GW572; have NB568_572 := Aside0.mk (bn gb568 hg); have NB572_568 := sy NB568_572; replace BK568 := kb BK568 hb; replace HB := kh hb; clear hb hbox hg; have hnb17 := NB572_568.out; have hnc17 := NB568_572.out; obtain ⟨hcz18_0, hcz18_1, hfz18_0, hfz18_1⟩ := b2 BK572))
  repeat (go_quiet (first | ((with_reducible refine gate_dst (N := 4) rfl ?_); refine bx 4 #[.int .i64 a1_0, .int .i64 a1_1] 53 ?_; intro gb568 hg w13 hbox hb; have BK568 := Aside0.mk (hbox); have GW568 := Aside0.mk (bz hg); have GE568 := GW568; replace HB := kh hb; clear hb hbox hg; obtain ⟨hcz14_0, hcz14_1, hfz14_0, hfz14_1⟩ := b2 BK568) | (go_at_call 65; (with_reducible refine (impl_MultiplierAt.calls k _ _ l0 a1_0 a1_1 a2 t569 t570 false _ ?side1 ?side2 A4.out).mono ?_); (case side1 => repeat (first | exact (Kd.C_below HR0.out HB.out) | (with_reducible refine Kd.C_alloc ?_ _) | (with_reducible refine Kd.C_drewN ?_ _) | (with_reducible refine Kd.C_drew ?_))); (case side2 => exact HC0.out); rintro e w15 ⟨rfl, hb⟩; replace BK568 := kb BK568 hb; replace HB := kh hb; (try clear hb); (try clear hb2); (try clear hk); (try clear hi)) | ((with_reducible refine gate_dst (N := 8) rfl ?_); refine bx 8 #[.int .i64 0, .int .i64 0] 53 ?_; intro gb572 hg w16 hbox hb; have BK572 := Aside0.mk (hbox); have GW572 := Aside0.mk (bz hg); have GE572 := GW572; have NB568_572 := Aside0.mk (bn gb568 hg); have NB572_568 := sy NB568_572; replace BK568 := kb BK568 hb; replace HB := kh hb; clear hb hbox hg; have hnb17 := NB572_568.out; have hnc17 := NB568_572.out; obtain ⟨hcz18_0, hcz18_1, hfz18_0, hfz18_1⟩ := b2 BK572)); try go_wp2_with (first | ((with_reducible refine gate_dst (N := 4) rfl ?_); refine bx 4 #[.int .i64 a1_0, .int .i64 a1_1] 53 ?_; intro gb568 hg w13 hbox hb; have BK568 := Aside0.mk (hbox); have GW568 := Aside0.mk (bz hg); have GE568 := GW568; replace HB := kh hb; clear hb hbox hg; obtain ⟨hcz14_0, hcz14_1, hfz14_0, hfz14_1⟩ := b2 BK568) | (go_at_call 65; (with_reducible refine (impl_MultiplierAt.calls k _ _ l0 a1_0 a1_1 a2 t569 t570 false _ ?side1 ?side2 A4.out).mono ?_); (case side1 => repeat (first | exact (Kd.C_below HR0.out HB.out) | (with_reducible refine Kd.C_alloc ?_ _) | (with_reducible refine Kd.C_drewN ?_ _) | (with_reducible refine Kd.C_drew ?_))); (case side2 => exact HC0.out); rintro e w15 ⟨rfl, hb⟩; replace BK568 := kb BK568 hb; replace HB := kh hb; (try clear hb); (try clear hb2); (try clear hk); (try clear hi)) | ((with_reducible refine gate_dst (N := 8) rfl ?_); refine bx 8 #[.int .i64 0, .int .i64 0] 53 ?_; intro gb572 hg w16 hbox hb; have BK572 := Aside0.mk (hbox); have GW572 := Aside0.mk (bz hg); have GE572 := GW572; have NB568_572 := Aside0.mk (bn gb568 hg); have NB572_568 := sy NB568_572; replace BK568 := kb BK568 hb; replace HB := kh hb; clear hb hbox hg; have hnb17 := NB572_568.out; have hnc17 := NB568_572.out; obtain ⟨hcz18_0, hcz18_1, hfz18_0, hfz18_1⟩ := b2 BK572)))
  go_ret2
  exact ⟨rt, bl⟩

/-! ### laws_eqRat: function 86 -/
def laws_eqRat.f (a0_0 : Int) (a0_1 : Int) (a1_0 : Int) (a1_1 : Int) : Option (Bool) := if a0_0 = a1_0 then (if a0_1 = a1_1 then (some true) else (some false)) else (some false)
set_option maxHeartbeats 8000000 in
set_option maxRecDepth 100000 in
theorem laws_eqRat.calls (a0_0 : Int) (a0_1 : Int) (a1_0 : Int) (a1_1 : Int) (r : Bool) (w : World) (h : laws_eqRat.f a0_0 a0_1 a1_0 a1_1 = some r) :
  Calls Try.prog 86 #[.agg #[.int .i64 a0_0, .int .i64 a0_1], .agg #[.int .i64 a1_0, .int .i64 a1_1]] w fun e w' => e = .returned (.bool r) ∧ Below w.heap.size w w' := by
 have hu53 := Try.underlying53
 have HB := Aside0.mk (Below.refl w.heap.size w)
 have H : (if a0_0 = a1_0 then (if a0_1 = a1_1 then (some true) else (some false)) else (some false)) = some r := h
 clear h
 by_cases c3 : a0_0 = a1_0
 ·rw [if_pos c3] at H
  have c3b0 : (a0_0 == a1_0) = true := beq_iff_eq.mpr c3
  have c3b1 : (a0_0 != a1_0) = false := bne_eq_false_iff_eq.mpr c3
  clear c3
  by_cases c4 : a0_1 = a1_1
  ·rw [if_pos c4] at H
   have c4b0 : (a0_1 == a1_1) = true := beq_iff_eq.mpr c4
   have c4b1 : (a0_1 != a1_1) = false := bne_eq_false_iff_eq.mpr c4
   clear c4
   obtain rfl := Option.some.inj H
   go_enter Try.func86, Try.ntmps86
   go_wp2_with (first | ((with_reducible refine gate_dst (N := 2) rfl ?_); refine bx 2 #[.int .i64 a0_0, .int .i64 a0_1] 53 ?_; intro gb574 hg w5 hbox hb; have BK574 := Aside0.mk (hbox); have GW574 := Aside0.mk (bz hg); have GE574 := GW574; replace HB := kh hb; clear hb hbox hg) | ((with_reducible refine gate_dst (N := 3) rfl ?_); refine bx 3 #[.int .i64 a1_0, .int .i64 a1_1] 53 ?_; intro gb575 hg w6 hbox hb; have BK575 := Aside0.mk (hbox); have GW575 := Aside0.mk (bz hg); have GE575 := GW575; have NB574_575 := Aside0.mk (bn gb574 hg); have NB575_574 := sy NB574_575; replace BK574 := kb BK574 hb; replace HB := kh hb; clear hb hbox hg; have hnb7 := NB574_575.out; have hnc7 := NB575_574.out; obtain ⟨hcz8_0, hcz8_1, hfz8_0, hfz8_1⟩ := b2 BK574; obtain ⟨hcz9_0, hcz9_1, hfz9_0, hfz9_1⟩ := b2 BK575))
   go_ret
   exact ⟨rt, bl⟩
  ·rw [if_neg c4] at H
   have c4b0 : (a0_1 == a1_1) = false := beq_eq_false_iff_ne.mpr c4
   have c4b1 : (a0_1 != a1_1) = true := bne_iff_ne.mpr c4
   obtain rfl := Option.some.inj H
   go_enter Try.func86, Try.ntmps86
   go_wp2_with (first | ((with_reducible refine gate_dst (N := 2) rfl ?_); refine bx 2 #[.int .i64 a0_0, .int .i64 a0_1] 53 ?_; intro gb574 hg w10 hbox hb; have BK574 := Aside0.mk (hbox); have GW574 := Aside0.mk (bz hg); have GE574 := GW574; replace HB := kh hb; clear hb hbox hg) | ((with_reducible refine gate_dst (N := 3) rfl ?_); refine bx 3 #[.int .i64 a1_0, .int .i64 a1_1] 53 ?_; intro gb575 hg w11 hbox hb; have BK575 := Aside0.mk (hbox); have GW575 := Aside0.mk (bz hg); have GE575 := GW575; have NB574_575 := Aside0.mk (bn gb574 hg); have NB575_574 := sy NB574_575; replace BK574 := kb BK574 hb; replace HB := kh hb; clear hb hbox hg; have hnb12 := NB574_575.out; have hnc12 := NB575_574.out; obtain ⟨hcz13_0, hcz13_1, hfz13_0, hfz13_1⟩ := b2 BK574; obtain ⟨hcz14_0, hcz14_1, hfz14_0, hfz14_1⟩ := b2 BK575))
   go_ret
   exact ⟨rt, bl⟩
 ·rw [if_neg c3] at H
  have c3b0 : (a0_0 == a1_0) = false := beq_eq_false_iff_ne.mpr c3
  have c3b1 : (a0_0 != a1_0) = true := bne_iff_ne.mpr c3
  obtain rfl := Option.some.inj H
  go_enter Try.func86, Try.ntmps86
  go_wp2_with (first | ((with_reducible refine gate_dst (N := 2) rfl ?_); refine bx 2 #[.int .i64 a0_0, .int .i64 a0_1] 53 ?_; intro gb574 hg w15 hbox hb; have BK574 := Aside0.mk (hbox); have GW574 := Aside0.mk (bz hg); have GE574 := GW574; replace HB := kh hb; clear hb hbox hg) | ((with_reducible refine gate_dst (N := 3) rfl ?_); refine bx 3 #[.int .i64 a1_0, .int .i64 a1_1] 53 ?_; intro gb575 hg w16 hbox hb; have BK575 := Aside0.mk (hbox); have GW575 := Aside0.mk (bz hg); have GE575 := GW575; have NB574_575 := Aside0.mk (bn gb574 hg); have NB575_574 := sy NB574_575; replace BK574 := kb BK574 hb; replace HB := kh hb; clear hb hbox hg; have hnb17 := NB574_575.out; have hnc17 := NB575_574.out; obtain ⟨hcz18_0, hcz18_1, hfz18_0, hfz18_1⟩ := b2 BK574; obtain ⟨hcz19_0, hcz19_1, hfz19_0, hfz19_1⟩ := b2 BK575))
  go_ret
  exact ⟨rt, bl⟩

/-! ### laws_eqPoint: function 67 -/
def laws_eqPoint.f (a0_0 : Int) (a0_1 : Int) (a0_2 : Int) (a0_3 : Int) (a1_0 : Int) (a1_1 : Int) (a1_2 : Int) (a1_3 : Int) : Option (Bool) := (laws_eqRat.f a0_0 a0_1 a1_0 a1_1).bind fun t578 => (if t578 = true then ((laws_eqRat.f a0_2 a0_3 a1_2 a1_3).bind fun t579 => (if t579 = true then (some true) else (some false))) else (some false))
set_option maxHeartbeats 8000000 in
set_option maxRecDepth 100000 in
theorem laws_eqPoint.calls (a0_0 : Int) (a0_1 : Int) (a0_2 : Int) (a0_3 : Int) (a1_0 : Int) (a1_1 : Int) (a1_2 : Int) (a1_3 : Int) (r : Bool) (w : World) (h : laws_eqPoint.f a0_0 a0_1 a0_2 a0_3 a1_0 a1_1 a1_2 a1_3 = some r) :
  Calls Try.prog 67 #[.agg #[.int .i64 a0_0, .int .i64 a0_1, .int .i64 a0_2, .int .i64 a0_3], .agg #[.int .i64 a1_0, .int .i64 a1_1, .int .i64 a1_2, .int .i64 a1_3]] w fun e w' => e = .returned (.bool r) ∧ Below w.heap.size w w' := by
 have hu73 := Try.underlying73
 have hu53 := Try.underlying53
 have HB := Aside0.mk (Below.refl w.heap.size w)
 have H : ((laws_eqRat.f a0_0 a0_1 a1_0 a1_1).bind fun t578 => (if t578 = true then ((laws_eqRat.f a0_2 a0_3 a1_2 a1_3).bind fun t579 => (if t579 = true then (some true) else (some false))) else (some false))) = some r := h
 clear h
 replace H := Option.bind_eq_some_iff.mp H
 obtain ⟨t578, A30, H⟩ := H
 replace H : (if t578 = true then ((laws_eqRat.f a0_2 a0_3 a1_2 a1_3).bind fun t579 => (if t579 = true then (some true) else (some false))) else (some false)) = some r := H
 have A3 := Aside0.mk A30
 clear A30
 by_cases c4 : t578 = true
 ·subst c4
  have H1 : ((laws_eqRat.f a0_2 a0_3 a1_2 a1_3).bind fun t579 => (if t579 = true then (some true) else (some false))) = some r := by rw [if_pos rfl] at H; exact H
  clear H
  have H := H1
  clear H1
  replace H := Option.bind_eq_some_iff.mp H
  obtain ⟨t579, A50, H⟩ := H
  replace H : (if t579 = true then (some true) else (some false)) = some r := H
  have A5 := Aside0.mk A50
  clear A50
  by_cases c6 : t579 = true
  ·subst c6
   have H1 : (some true) = some r := by rw [if_pos rfl] at H; exact H
   clear H
   have H := H1
   clear H1
   obtain rfl := Option.some.inj H
   go_enter Try.func67, Try.ntmps67
   go_wp2_with (first | ((with_reducible refine gate_dst (N := 2) rfl ?_); refine bx 2 #[.int .i64 a0_0, .int .i64 a0_1, .int .i64 a0_2, .int .i64 a0_3] 73 ?_; intro gb576 hg w7 hbox hb; have BK576 := Aside0.mk (hbox); have GW576 := Aside0.mk (bz hg); have GE576 := GW576; replace HB := kh hb; clear hb hbox hg) | ((with_reducible refine gate_dst (N := 3) rfl ?_); refine bx 3 #[.int .i64 a1_0, .int .i64 a1_1, .int .i64 a1_2, .int .i64 a1_3] 73 ?_; intro gb577 hg w8 hbox hb; have BK577 := Aside0.mk (hbox); have GW577 := Aside0.mk (bz hg); have GE577 := GW577; have NB576_577 := Aside0.mk (bn gb576 hg); have NB577_576 := sy NB576_577; replace BK576 := kb BK576 hb; replace HB := kh hb; clear hb hbox hg; have hnb9 := NB576_577.out; have hnc9 := NB577_576.out; obtain ⟨hcz10_0, hcz10_1, hcz10_2, hcz10_3, hfz10_0, hfz10_1, hfz10_2, hfz10_3⟩ := b4 BK576; obtain ⟨hcz11_0, hcz11_1, hcz11_2, hcz11_3, hfz11_0, hfz11_1, hfz11_2, hfz11_3⟩ := b4 BK577) | ((with_reducible refine gate_callee (f := 86) rfl ?_); refine gl 9 Try.func86 #[.agg #[.int .i64 a0_0, .int .i64 a0_1], .agg #[.int .i64 a1_0, .int .i64 a1_1]] ?_; (with_reducible refine (laws_eqRat.calls a0_0 a0_1 a1_0 a1_1 true _ A3.out).mono ?_); rintro e w12 ⟨rfl, hb⟩; refine ⟨_, rfl, ?_⟩; replace BK576 := kb BK576 hb; replace BK577 := kb BK577 hb; replace HB := kh hb; (try clear hb); (try clear hb2); (try clear hk); (try clear hi); obtain ⟨hcz13_0, hcz13_1, hcz13_2, hcz13_3, hfz13_0, hfz13_1, hfz13_2, hfz13_3⟩ := b4 BK576; obtain ⟨hcz14_0, hcz14_1, hcz14_2, hcz14_3, hfz14_0, hfz14_1, hfz14_2, hfz14_3⟩ := b4 BK577) | ((with_reducible refine gate_callee (f := 86) rfl ?_); refine gl 15 Try.func86 #[.agg #[.int .i64 a0_2, .int .i64 a0_3], .agg #[.int .i64 a1_2, .int .i64 a1_3]] ?_; (with_reducible refine (laws_eqRat.calls a0_2 a0_3 a1_2 a1_3 true _ A5.out).mono ?_); rintro e w15 ⟨rfl, hb⟩; refine ⟨_, rfl, ?_⟩; replace BK576 := kb BK576 hb; replace BK577 := kb BK577 hb; replace HB := kh hb; (try clear hb); (try clear hb2); (try clear hk); (try clear hi)))
   go_ret
   exact ⟨rt, bl⟩
  ·replace c6 := Bool.eq_false_iff.mpr c6
   subst c6
   have H1 : (some false) = some r := by rw [if_neg (show ¬ (false = true) by decide)] at H; exact H
   clear H
   have H := H1
   clear H1
   obtain rfl := Option.some.inj H
   go_enter Try.func67, Try.ntmps67
   go_wp2_with (first | ((with_reducible refine gate_dst (N := 2) rfl ?_); refine bx 2 #[.int .i64 a0_0, .int .i64 a0_1, .int .i64 a0_2, .int .i64 a0_3] 73 ?_; intro gb576 hg w16 hbox hb; have BK576 := Aside0.mk (hbox); have GW576 := Aside0.mk (bz hg); have GE576 := GW576; replace HB := kh hb; clear hb hbox hg) | ((with_reducible refine gate_dst (N := 3) rfl ?_); refine bx 3 #[.int .i64 a1_0, .int .i64 a1_1, .int .i64 a1_2, .int .i64 a1_3] 73 ?_; intro gb577 hg w17 hbox hb; have BK577 := Aside0.mk (hbox); have GW577 := Aside0.mk (bz hg); have GE577 := GW577; have NB576_577 := Aside0.mk (bn gb576 hg); have NB577_576 := sy NB576_577; replace BK576 := kb BK576 hb; replace HB := kh hb; clear hb hbox hg; have hnb18 := NB576_577.out; have hnc18 := NB577_576.out; obtain ⟨hcz19_0, hcz19_1, hcz19_2, hcz19_3, hfz19_0, hfz19_1, hfz19_2, hfz19_3⟩ := b4 BK576; obtain ⟨hcz20_0, hcz20_1, hcz20_2, hcz20_3, hfz20_0, hfz20_1, hfz20_2, hfz20_3⟩ := b4 BK577) | ((with_reducible refine gate_callee (f := 86) rfl ?_); refine gl 9 Try.func86 #[.agg #[.int .i64 a0_0, .int .i64 a0_1], .agg #[.int .i64 a1_0, .int .i64 a1_1]] ?_; (with_reducible refine (laws_eqRat.calls a0_0 a0_1 a1_0 a1_1 true _ A3.out).mono ?_); rintro e w21 ⟨rfl, hb⟩; refine ⟨_, rfl, ?_⟩; replace BK576 := kb BK576 hb; replace BK577 := kb BK577 hb; replace HB := kh hb; (try clear hb); (try clear hb2); (try clear hk); (try clear hi); obtain ⟨hcz22_0, hcz22_1, hcz22_2, hcz22_3, hfz22_0, hfz22_1, hfz22_2, hfz22_3⟩ := b4 BK576; obtain ⟨hcz23_0, hcz23_1, hcz23_2, hcz23_3, hfz23_0, hfz23_1, hfz23_2, hfz23_3⟩ := b4 BK577) | ((with_reducible refine gate_callee (f := 86) rfl ?_); refine gl 15 Try.func86 #[.agg #[.int .i64 a0_2, .int .i64 a0_3], .agg #[.int .i64 a1_2, .int .i64 a1_3]] ?_; (with_reducible refine (laws_eqRat.calls a0_2 a0_3 a1_2 a1_3 false _ A5.out).mono ?_); rintro e w24 ⟨rfl, hb⟩; refine ⟨_, rfl, ?_⟩; replace BK576 := kb BK576 hb; replace BK577 := kb BK577 hb; replace HB := kh hb; (try clear hb); (try clear hb2); (try clear hk); (try clear hi)))
   go_ret
   exact ⟨rt, bl⟩
 ·replace c4 := Bool.eq_false_iff.mpr c4
  subst c4
  have H1 : (some false) = some r := by rw [if_neg (show ¬ (false = true) by decide)] at H; exact H
  clear H
  have H := H1
  clear H1
  obtain rfl := Option.some.inj H
  go_enter Try.func67, Try.ntmps67
  go_wp2_with (first | ((with_reducible refine gate_dst (N := 2) rfl ?_); refine bx 2 #[.int .i64 a0_0, .int .i64 a0_1, .int .i64 a0_2, .int .i64 a0_3] 73 ?_; intro gb576 hg w25 hbox hb; have BK576 := Aside0.mk (hbox); have GW576 := Aside0.mk (bz hg); have GE576 := GW576; replace HB := kh hb; clear hb hbox hg) | ((with_reducible refine gate_dst (N := 3) rfl ?_); refine bx 3 #[.int .i64 a1_0, .int .i64 a1_1, .int .i64 a1_2, .int .i64 a1_3] 73 ?_; intro gb577 hg w26 hbox hb; have BK577 := Aside0.mk (hbox); have GW577 := Aside0.mk (bz hg); have GE577 := GW577; have NB576_577 := Aside0.mk (bn gb576 hg); have NB577_576 := sy NB576_577; replace BK576 := kb BK576 hb; replace HB := kh hb; clear hb hbox hg; have hnb27 := NB576_577.out; have hnc27 := NB577_576.out; obtain ⟨hcz28_0, hcz28_1, hcz28_2, hcz28_3, hfz28_0, hfz28_1, hfz28_2, hfz28_3⟩ := b4 BK576; obtain ⟨hcz29_0, hcz29_1, hcz29_2, hcz29_3, hfz29_0, hfz29_1, hfz29_2, hfz29_3⟩ := b4 BK577) | ((with_reducible refine gate_callee (f := 86) rfl ?_); refine gl 9 Try.func86 #[.agg #[.int .i64 a0_0, .int .i64 a0_1], .agg #[.int .i64 a1_0, .int .i64 a1_1]] ?_; (with_reducible refine (laws_eqRat.calls a0_0 a0_1 a1_0 a1_1 false _ A3.out).mono ?_); rintro e w30 ⟨rfl, hb⟩; refine ⟨_, rfl, ?_⟩; replace BK576 := kb BK576 hb; replace BK577 := kb BK577 hb; replace HB := kh hb; (try clear hb); (try clear hb2); (try clear hk); (try clear hi)))
  go_ret
  exact ⟨rt, bl⟩

/-! ### laws_eqPointS: function 38 -/
def laws_eqPointS.l0 : Nat → List (S73) → List (S73) → Int → Option (Bool)
 | 0, _, _, _ => none
 | k + 1, x0, x1, x5 => if x5 < (x0.length : Int) then (if 0 ≤ x5 then (if x5 < (x1.length : Int) then ((laws_eqPoint.f ((rd_T73 x0 x5).f0.f0) ((rd_T73 x0 x5).f0.f1) ((rd_T73 x0 x5).f1.f0) ((rd_T73 x0 x5).f1.f1) ((rd_T73 x1 x5).f0.f0) ((rd_T73 x1 x5).f0.f1) ((rd_T73 x1 x5).f1.f0) ((rd_T73 x1 x5).f1.f1)).bind fun t582 => (if t582 = true then (laws_eqPointS.l0 k x0 x1 (wrap64 (x5 + 1))) else (some false))) else (none)) else (none)) else (some true)
def laws_eqPointS.f (k : Nat) (l0 : List (S73)) (l1 : List (S73)) : Option (Bool) := if (l0.length : Int) = (l1.length : Int) then (laws_eqPointS.l0 k l0 l1 0) else (some false)
def laws_eqPointS.T6 : Bool × List (List Nat × List Nat) := (true, [([], []), ([], []), ([0, 1], [0, 1]), ([2], [2]), ([], []), ([], []), ([4, 5], [4, 5]), ([6], [6]), ([3, 7], [3, 7]), ([8], [8])])
def laws_eqPointS.B6 : List Nat := [0, 0, 3, 7, 0, 0, 48, 112, 255, 511]
theorem laws_eqPointS.tab6 : rtab .any (opsOf Try.f38 6) = laws_eqPointS.T6 := by kernel_rfl
theorem laws_eqPointS.bits6 : waitsOk laws_eqPointS.T6.2 laws_eqPointS.B6 = true := by kernel_rfl
set_option maxHeartbeats 8000000 in
set_option maxRecDepth 100000 in
theorem laws_eqPointS.calls (k : Nat) (A0 : Option Addr) (c0 : Nat) (l0 : List (S73)) (A1 : Option Addr) (c1 : Nat) (l1 : List (S73)) (r : Bool) (w : World) (hr0 : Kd.C k73 w A0 l0.length l0) (hc0 : l0.length ≤ c0) (hr1 : Kd.C k73 w A1 l1.length l1) (hc1 : l1.length ≤ c1) (h : laws_eqPointS.f k l0 l1 = some r) :
  Calls Try.prog 38 #[.slice A0 l0.length c0, .slice A1 l1.length c1] w fun e w' => e = .returned (.bool r) ∧ Below w.heap.size w w' := by
 have hu73 := Try.underlying73
 have HR0 := Aside0.mk hr0
 have HC0 := Aside0.mk hc0
 clear hr0 hc0
 have HR1 := Aside0.mk hr1
 have HC1 := Aside0.mk hc1
 clear hr1 hc1
 have HB := Aside0.mk (Below.refl w.heap.size w)
 have H : (if (l0.length : Int) = (l1.length : Int) then (laws_eqPointS.l0 k l0 l1 0) else (some false)) = some r := h
 clear h
 by_cases c3 : (l0.length : Int) = (l1.length : Int)
 ·rw [if_pos c3] at H
  have c3b0 : ((l0.length : Int) == (l1.length : Int)) = true := beq_iff_eq.mpr c3
  have c3b1 : ((l0.length : Int) != (l1.length : Int)) = false := bne_eq_false_iff_eq.mpr c3
  have c3b2 : (l0.length == l1.length) = true := by first | simpa using c3 | (simp at c3 ⊢; omega)
  clear c3
  have H' := Aside0.mk H
  clear H
  go_enter Try.func38, Try.ntmps38
  go_wp2
  go_loopg [5] k (fun kq v5 w' => ∃ (x5_1 : Int), v5 = .int .i64 x5_1 ∧ Aside0 (laws_eqPointS.l0 kq l0 l1 x5_1 = some r) ∧ Aside0 (kq ≤ k) ∧ Aside0 (Below w.heap.size w w'))
  case atStart => exact ⟨(0), rs, H', ⟨Nat.le_refl _⟩, ⟨bl⟩⟩
  case round =>
   clear H'
   try clear c1
   try clear p2
   try clear c3
   try clear c3b0
   try clear c3b1
   try clear c3b2
   obtain ⟨x5_1, rfl, HA, HK1, HB⟩ := hrel
   cases gk with
   | zero => exact absurd HA.out (by simp [laws_eqPointS.l0])
   | succ k1 =>
    have H := HA.out
    clear HA
    simp only [laws_eqPointS.l0] at H
    by_cases c4 : x5_1 < (l0.length : Int)
    ·rw [if_pos c4] at H
     have c4b0 : decide (x5_1 < (l0.length : Int)) = true := decide_eq_true c4
     clear c4
     by_cases c5 : 0 ≤ x5_1
     ·rw [if_pos c5] at H
      have c5b0 : decide (0 ≤ x5_1) = true := decide_eq_true c5
      clear c5
      by_cases c6 : x5_1 < (l1.length : Int)
      ·rw [if_pos c6] at H
       have c6b0 : decide (x5_1 < (l1.length : Int)) = true := decide_eq_true c6
       clear c6
       replace H := Option.bind_eq_some_iff.mp H
       obtain ⟨t582, A70, H⟩ := H
       replace H : (if t582 = true then (laws_eqPointS.l0 k1 l0 l1 (wrap64 (x5_1 + 1))) else (some false)) = some r := H
       have A7 := Aside0.mk A70
       clear A70
       by_cases c8 : t582 = true
       ·subst c8
        have H1 : (laws_eqPointS.l0 k1 l0 l1 (wrap64 (x5_1 + 1))) = some r := by rw [if_pos rfl] at H; exact H
        clear H
        have H := H1
        clear H1
        have H' := Aside0.mk H
        clear H
        try go_wp2
        replace HB := Aside0.mk (below_drew1 HB.out)
        have p580 : 0 ≤ (x5_1 : Int) := da
        have q580 : x5_1 < (l0.length : Int) := da
        obtain ⟨ad580, e580, hx580_0, hx580_1, hx580_2, hx580_3⟩ := at_T73 HR0.out x5_1 p580 q580
        have hw580_3 := hx580_3
        have hw580_2 := hx580_2
        have hw580_1 := hx580_1
        have hw580_0 := hx580_0
        cases e580
        replace hx580_0 := (hc HB hx580_0 :)
        replace hx580_1 := (hc HB hx580_1 :)
        replace hx580_2 := (hc HB hx580_2 :)
        replace hx580_3 := (hc HB hx580_3 :)
        replace p580 := eq_true p580
        replace q580 := eq_true q580
        have p581 : 0 ≤ (x5_1 : Int) := da
        have q581 : x5_1 < (l1.length : Int) := da
        obtain ⟨ad581, e581, hx581_0, hx581_1, hx581_2, hx581_3⟩ := at_T73 HR1.out x5_1 p581 q581
        have hw581_3 := hx581_3
        have hw581_2 := hx581_2
        have hw581_1 := hx581_1
        have hw581_0 := hx581_0
        cases e581
        replace hx581_0 := (hc HB hx581_0 :)
        replace hx581_1 := (hc HB hx581_1 :)
        replace hx581_2 := (hc HB hx581_2 :)
        replace hx581_3 := (hc HB hx581_3 :)
        replace p581 := eq_true p581
        replace q581 := eq_true q581
        refine start_ (n := 10) (S := fun w' => w'.cell? (ad580.add ((x5_1).toNat * 4)) = some (.int .i64 ((rd_T73 l0 x5_1).f0.f0)) ∧ w'.cell? ⟨(ad580.add ((x5_1).toNat * 4)).block, (ad580.add ((x5_1).toNat * 4)).off + 1, none⟩ = some (.int .i64 ((rd_T73 l0 x5_1).f0.f1)) ∧ w'.cell? ⟨(ad580.add ((x5_1).toNat * 4)).block, (ad580.add ((x5_1).toNat * 4)).off + 2, none⟩ = some (.int .i64 ((rd_T73 l0 x5_1).f1.f0)) ∧ w'.cell? ⟨(ad580.add ((x5_1).toNat * 4)).block, (ad580.add ((x5_1).toNat * 4)).off + 3, none⟩ = some (.int .i64 ((rd_T73 l0 x5_1).f1.f1)) ∧ w'.cell? (ad581.add ((x5_1).toNat * 4)) = some (.int .i64 ((rd_T73 l1 x5_1).f0.f0)) ∧ w'.cell? ⟨(ad581.add ((x5_1).toNat * 4)).block, (ad581.add ((x5_1).toNat * 4)).off + 1, none⟩ = some (.int .i64 ((rd_T73 l1 x5_1).f0.f1)) ∧ w'.cell? ⟨(ad581.add ((x5_1).toNat * 4)).block, (ad581.add ((x5_1).toNat * 4)).off + 2, none⟩ = some (.int .i64 ((rd_T73 l1 x5_1).f1.f0)) ∧ w'.cell? ⟨(ad581.add ((x5_1).toNat * 4)).block, (ad581.add ((x5_1).toNat * 4)).off + 3, none⟩ = some (.int .i64 ((rd_T73 l1 x5_1).f1.f1))) (ds := []) (tb 0 10) (by kernel_rfl) rfl rfl ⟨(hc HB hw580_0 :), (hc HB hw580_1 :), (hc HB hw580_2 :), (hc HB hw580_3 :), (hc HB hw581_0 :), (hc HB hw581_1 :), (hc HB hw581_2 :), (hc HB hw581_3 :)⟩ (fun hHeld => ?_); refine with_tabW laws_eqPointS.tab6 laws_eqPointS.bits6 (fun HT_ HW_ => ?_)
        generalize wr.drew = w9 at HB hx580_0 hx580_1 hx580_2 hx580_3 hx581_0 hx581_1 hx581_2 hx581_3 hHeld ⊢
        refine pu 0 17 (tb 1 9) ?_
        refine pu 1 18 (tb 2 8) ?_
        refine pu 2 19 (tb 3 7) ?_
        refine pu 4 21 #[true, true, true, false, true, false, false, false, false, false] ?_
        refine pu 5 22 #[true, true, true, false, true, true, false, false, false, false] ?_
        refine pu 6 23 #[true, true, true, false, true, true, true, false, false, false] ?_
        refine tk 3 20 (tb 7 3) (hy := by rintro w' ⟨s0, s1, s2, s3, s4, s5, s6, s7⟩; go_simp; with_reducible rfl) (h := ?_)
        refine tk 7 24 (tb 8 2) (hy := by rintro w' ⟨s0, s1, s2, s3, s4, s5, s6, s7⟩; go_simp; with_reducible rfl) (h := ?_)
        refine on 8 25 (tb 9 1) (fun K hK => ?_)
        refine gs Try.func67 #[.agg #[.int .i64 ((rd_T73 l0 x5_1).f0.f0), .int .i64 ((rd_T73 l0 x5_1).f0.f1), .int .i64 ((rd_T73 l0 x5_1).f1.f0), .int .i64 ((rd_T73 l0 x5_1).f1.f1)], .agg #[.int .i64 ((rd_T73 l1 x5_1).f0.f0), .int .i64 ((rd_T73 l1 x5_1).f0.f1), .int .i64 ((rd_T73 l1 x5_1).f1.f0), .int .i64 ((rd_T73 l1 x5_1).f1.f1)]] ?_
        with_reducible refine (laws_eqPoint.calls ((rd_T73 l0 x5_1).f0.f0) ((rd_T73 l0 x5_1).f0.f1) ((rd_T73 l0 x5_1).f1.f0) ((rd_T73 l0 x5_1).f1.f1) ((rd_T73 l1 x5_1).f0.f0) ((rd_T73 l1 x5_1).f0.f1) ((rd_T73 l1 x5_1).f1.f0) ((rd_T73 l1 x5_1).f1.f1) true _ A7.out).mono ?_
        rintro e w10 ⟨rfl, hb⟩
        refine ⟨_, rfl, ?_⟩
        replace HB := kh hb
        (try clear hb)
        (try clear hb2)
        (try clear hk)
        (try clear hi)
        refine hK.out _ _ ⟨(hc HB hw580_0 :), (hc HB hw580_1 :), (hc HB hw580_2 :), (hc HB hw580_3 :), (hc HB hw581_0 :), (hc HB hw581_1 :), (hc HB hw581_2 :), (hc HB hw581_3 :)⟩ (fun hHeld => ?_)
        clear hK K
        refine nm 25 ?_
        refine pu 9 26 (tb 10 0) ?_
        refine done_ (done_of HT_.out (by kernel_rfl)) ?_
        try go_wp2
        go_roundg k1
        case measure => have := HK1.out; omega
        case rel => exact ⟨(wrap64 (x5_1 + 1)), rs, H', ⟨by have := HK1.out; omega⟩, ⟨bl⟩⟩
       ·replace c8 := Bool.eq_false_iff.mpr c8
        subst c8
        have H1 : (some false) = some r := by rw [if_neg (show ¬ (false = true) by decide)] at H; exact H
        clear H
        have H := H1
        clear H1
        obtain rfl := Option.some.inj H
        try go_wp2
        replace HB := Aside0.mk (below_drew1 HB.out)
        have p580 : 0 ≤ (x5_1 : Int) := da
        have q580 : x5_1 < (l0.length : Int) := da
        obtain ⟨ad580, e580, hx580_0, hx580_1, hx580_2, hx580_3⟩ := at_T73 HR0.out x5_1 p580 q580
        have hw580_3 := hx580_3
        have hw580_2 := hx580_2
        have hw580_1 := hx580_1
        have hw580_0 := hx580_0
        cases e580
        replace hx580_0 := (hc HB hx580_0 :)
        replace hx580_1 := (hc HB hx580_1 :)
        replace hx580_2 := (hc HB hx580_2 :)
        replace hx580_3 := (hc HB hx580_3 :)
        replace p580 := eq_true p580
        replace q580 := eq_true q580
        have p581 : 0 ≤ (x5_1 : Int) := da
        have q581 : x5_1 < (l1.length : Int) := da
        obtain ⟨ad581, e581, hx581_0, hx581_1, hx581_2, hx581_3⟩ := at_T73 HR1.out x5_1 p581 q581
        have hw581_3 := hx581_3
        have hw581_2 := hx581_2
        have hw581_1 := hx581_1
        have hw581_0 := hx581_0
        cases e581
        replace hx581_0 := (hc HB hx581_0 :)
        replace hx581_1 := (hc HB hx581_1 :)
        replace hx581_2 := (hc HB hx581_2 :)
        replace hx581_3 := (hc HB hx581_3 :)
        replace p581 := eq_true p581
        replace q581 := eq_true q581
        refine start_ (n := 10) (S := fun w' => w'.cell? (ad580.add ((x5_1).toNat * 4)) = some (.int .i64 ((rd_T73 l0 x5_1).f0.f0)) ∧ w'.cell? ⟨(ad580.add ((x5_1).toNat * 4)).block, (ad580.add ((x5_1).toNat * 4)).off + 1, none⟩ = some (.int .i64 ((rd_T73 l0 x5_1).f0.f1)) ∧ w'.cell? ⟨(ad580.add ((x5_1).toNat * 4)).block, (ad580.add ((x5_1).toNat * 4)).off + 2, none⟩ = some (.int .i64 ((rd_T73 l0 x5_1).f1.f0)) ∧ w'.cell? ⟨(ad580.add ((x5_1).toNat * 4)).block, (ad580.add ((x5_1).toNat * 4)).off + 3, none⟩ = some (.int .i64 ((rd_T73 l0 x5_1).f1.f1)) ∧ w'.cell? (ad581.add ((x5_1).toNat * 4)) = some (.int .i64 ((rd_T73 l1 x5_1).f0.f0)) ∧ w'.cell? ⟨(ad581.add ((x5_1).toNat * 4)).block, (ad581.add ((x5_1).toNat * 4)).off + 1, none⟩ = some (.int .i64 ((rd_T73 l1 x5_1).f0.f1)) ∧ w'.cell? ⟨(ad581.add ((x5_1).toNat * 4)).block, (ad581.add ((x5_1).toNat * 4)).off + 2, none⟩ = some (.int .i64 ((rd_T73 l1 x5_1).f1.f0)) ∧ w'.cell? ⟨(ad581.add ((x5_1).toNat * 4)).block, (ad581.add ((x5_1).toNat * 4)).off + 3, none⟩ = some (.int .i64 ((rd_T73 l1 x5_1).f1.f1))) (ds := []) (tb 0 10) (by kernel_rfl) rfl rfl ⟨(hc HB hw580_0 :), (hc HB hw580_1 :), (hc HB hw580_2 :), (hc HB hw580_3 :), (hc HB hw581_0 :), (hc HB hw581_1 :), (hc HB hw581_2 :), (hc HB hw581_3 :)⟩ (fun hHeld => ?_); refine with_tabW laws_eqPointS.tab6 laws_eqPointS.bits6 (fun HT_ HW_ => ?_)
        generalize wr.drew = w11 at HB hx580_0 hx580_1 hx580_2 hx580_3 hx581_0 hx581_1 hx581_2 hx581_3 hHeld ⊢
        refine pu 0 17 (tb 1 9) ?_
        refine pu 1 18 (tb 2 8) ?_
        refine pu 2 19 (tb 3 7) ?_
        refine pu 4 21 #[true, true, true, false, true, false, false, false, false, false] ?_
        refine pu 5 22 #[true, true, true, false, true, true, false, false, false, false] ?_
        refine pu 6 23 #[true, true, true, false, true, true, true, false, false, false] ?_
        refine tk 3 20 (tb 7 3) (hy := by rintro w' ⟨s0, s1, s2, s3, s4, s5, s6, s7⟩; go_simp; with_reducible rfl) (h := ?_)
        refine tk 7 24 (tb 8 2) (hy := by rintro w' ⟨s0, s1, s2, s3, s4, s5, s6, s7⟩; go_simp; with_reducible rfl) (h := ?_)
        refine on 8 25 (tb 9 1) (fun K hK => ?_)
        refine gs Try.func67 #[.agg #[.int .i64 ((rd_T73 l0 x5_1).f0.f0), .int .i64 ((rd_T73 l0 x5_1).f0.f1), .int .i64 ((rd_T73 l0 x5_1).f1.f0), .int .i64 ((rd_T73 l0 x5_1).f1.f1)], .agg #[.int .i64 ((rd_T73 l1 x5_1).f0.f0), .int .i64 ((rd_T73 l1 x5_1).f0.f1), .int .i64 ((rd_T73 l1 x5_1).f1.f0), .int .i64 ((rd_T73 l1 x5_1).f1.f1)]] ?_
        with_reducible refine (laws_eqPoint.calls ((rd_T73 l0 x5_1).f0.f0) ((rd_T73 l0 x5_1).f0.f1) ((rd_T73 l0 x5_1).f1.f0) ((rd_T73 l0 x5_1).f1.f1) ((rd_T73 l1 x5_1).f0.f0) ((rd_T73 l1 x5_1).f0.f1) ((rd_T73 l1 x5_1).f1.f0) ((rd_T73 l1 x5_1).f1.f1) false _ A7.out).mono ?_
        rintro e w12 ⟨rfl, hb⟩
        refine ⟨_, rfl, ?_⟩
        replace HB := kh hb
        (try clear hb)
        (try clear hb2)
        (try clear hk)
        (try clear hi)
        refine hK.out _ _ ⟨(hc HB hw580_0 :), (hc HB hw580_1 :), (hc HB hw580_2 :), (hc HB hw580_3 :), (hc HB hw581_0 :), (hc HB hw581_1 :), (hc HB hw581_2 :), (hc HB hw581_3 :)⟩ (fun hHeld => ?_)
        clear hK K
        refine nm 25 ?_
        refine pu 9 26 (tb 10 0) ?_
        refine done_ (done_of HT_.out (by kernel_rfl)) ?_
        try go_wp2
        go_ret
        exact ⟨rt, bl⟩
      ·rw [if_neg c6] at H
       exact absurd H (by simp)
     ·rw [if_neg c5] at H
      exact absurd H (by simp)
    ·rw [if_neg c4] at H
     have c4b0 : decide (x5_1 < (l0.length : Int)) = false := decide_eq_false c4
     clear c4
     obtain rfl := Option.some.inj H
     go_wp2
     go_ret
     exact ⟨rt, bl⟩
 ·rw [if_neg c3] at H
  have c3b0 : ((l0.length : Int) == (l1.length : Int)) = false := beq_eq_false_iff_ne.mpr c3
  have c3b1 : ((l0.length : Int) != (l1.length : Int)) = true := bne_iff_ne.mpr c3
  have c3b2 : (l0.length == l1.length) = false := by first | simpa using c3 | (simp at c3 ⊢; omega)
  obtain rfl := Option.some.inj H
  go_enter Try.func38, Try.ntmps38
  go_wp2
  go_ret
  exact ⟨rt, bl⟩

end Go.Proofs.Ytannadjfkaghjaa.PFnExactIsRepelling
