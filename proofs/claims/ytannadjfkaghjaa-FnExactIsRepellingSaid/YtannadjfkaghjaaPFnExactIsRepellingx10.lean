-- Written by this session's program wip/pp (the kit's print tool with additions) 35421559b90ae4d0a3588c463048766b98c2df88dd9212a6774a882060cdf62d
import Derived.Test.YtannadjfkaghjaaPFnExactIsRepellingx0
import Derived.Test.YtannadjfkaghjaaPFnExactIsRepellingx2
import Derived.Test.YtannadjfkaghjaaPFnExactIsRepellingx4
import Derived.Test.YtannadjfkaghjaaPFnExactIsRepellingx5
import Derived.Test.YtannadjfkaghjaaPFnExactIsRepellingx8
import Derived.Test.YtannadjfkaghjaaPFnExactIsRepellingx9
namespace Go.Proofs.Ytannadjfkaghjaa.PFnExactIsRepelling
open Go.RowKit Go.Proofs.YtannadjfkaghjaaW.PrintWords Go.Proofs.YtannadjfkaghjaaW.PrintLast Go.Proofs.YtannadjfkaghjaaW.PrintMore
attribute [local go_sem] max2_int min2_int max_two min_two max_three min_three max_four min_four   -- for this text's walks alone
set_option linter.unusedVariables false
set_option linter.unusedSimpArgs false

/-! ### spec_MultiplierAt: function 62 -/
def spec_MultiplierAt.l0 : Nat → List (S73) → List (S53) → Int → Int → Int → Int → Option (Int × Int × Bool)
 | 0, _, _, _, _, _, _ => none
 | k + 1, x0, x34, x35, x36, x270000, x270001 => if x36 < x35 then (if 0 ≤ x36 then (if x36 < (x34.length : Int) then ((spec_orSlope.f k x0 ((rd_T53 x34 x36).f0) ((rd_T53 x34 x36).f1)).bind fun bt272 => (if bt272.2.2 = true then ((spec_raMul.f k x270000 x270001 bt272.1 bt272.2.1).bind fun bt276 => (if bt276.2.2 = true then (spec_MultiplierAt.l0 k x0 x34 x35 (wrap64 (x36 + 1)) bt276.1 bt276.2.1) else (some (0, 0, false)))) else (some (0, 0, false)))) else (none)) else (none)) else (some (x270000, x270001, true))
def spec_MultiplierAt.f (k : Nat) (l0 : List (S73)) (a1_0 : Int) (a1_1 : Int) (a2 : Int) : Option (Int × Int × Bool) := (spec_orAsked.f k l0 a1_0 a1_1 a2).bind fun t262 => (if t262 = true then ((spec_orCycle.f k l0 a1_0 a1_1 a2).bind fun bt263 => (if bt263.2 = true then ((spec_raInt.f 1).bind fun bt267 => (spec_MultiplierAt.l0 k l0 bt263.1 (bt263.1.length : Int) 0 bt267.1 bt267.2)) else (some (0, 0, false)))) else (some (0, 0, false)))
set_option maxHeartbeats 8000000 in
set_option maxRecDepth 100000 in
theorem spec_MultiplierAt.calls (k : Nat) (A0 : Option Addr) (c0 : Nat) (l0 : List (S73)) (a1_0 : Int) (a1_1 : Int) (a2 : Int) (r1 : Int) (r2 : Int) (r3 : Bool) (w : World) (hr0 : Kd.C k73 w A0 l0.length l0) (hc0 : l0.length ≤ c0) (h : spec_MultiplierAt.f k l0 a1_0 a1_1 a2 = some (r1, r2, r3)) :
  Calls Try.prog 62 #[.slice A0 l0.length c0, .agg #[.int .i64 a1_0, .int .i64 a1_1], .int .i64 a2] w fun e w' => e = .returned (.tuple #[.agg #[.int .i64 r1, .int .i64 r2], .bool r3]) ∧ Below w.heap.size w w' := by
 have hu53 := Try.underlying53
 have HR0 := Aside0.mk hr0
 have HC0 := Aside0.mk hc0
 clear hr0 hc0
 have HB := Aside0.mk (Below.refl w.heap.size w)
 have H : ((spec_orAsked.f k l0 a1_0 a1_1 a2).bind fun t262 => (if t262 = true then ((spec_orCycle.f k l0 a1_0 a1_1 a2).bind fun bt263 => (if bt263.2 = true then ((spec_raInt.f 1).bind fun bt267 => (spec_MultiplierAt.l0 k l0 bt263.1 (bt263.1.length : Int) 0 bt267.1 bt267.2)) else (some (0, 0, false)))) else (some (0, 0, false)))) = some (r1, r2, r3) := h
 clear h
 replace H := Option.bind_eq_some_iff.mp H
 obtain ⟨t262, A40, H⟩ := H
 replace H : (if t262 = true then ((spec_orCycle.f k l0 a1_0 a1_1 a2).bind fun bt263 => (if bt263.2 = true then ((spec_raInt.f 1).bind fun bt267 => (spec_MultiplierAt.l0 k l0 bt263.1 (bt263.1.length : Int) 0 bt267.1 bt267.2)) else (some (0, 0, false)))) else (some (0, 0, false))) = some (r1, r2, r3) := H
 have A4 := Aside0.mk A40
 clear A40
 by_cases c5 : t262 = true
 ·subst c5
  have H1 : ((spec_orCycle.f k l0 a1_0 a1_1 a2).bind fun bt263 => (if bt263.2 = true then ((spec_raInt.f 1).bind fun bt267 => (spec_MultiplierAt.l0 k l0 bt263.1 (bt263.1.length : Int) 0 bt267.1 bt267.2)) else (some (0, 0, false)))) = some (r1, r2, r3) := by rw [if_pos rfl] at H; exact H
  clear H
  have H := H1
  clear H1
  replace H := Option.bind_eq_some_iff.mp H
  obtain ⟨⟨t263, t266⟩, A60, H⟩ := H
  replace H : (if t266 = true then ((spec_raInt.f 1).bind fun bt267 => (spec_MultiplierAt.l0 k l0 t263 (t263.length : Int) 0 bt267.1 bt267.2)) else (some (0, 0, false))) = some (r1, r2, r3) := H
  have A6 := Aside0.mk A60
  clear A60
  by_cases c7 : t266 = true
  ·subst c7
   have H1 : ((spec_raInt.f 1).bind fun bt267 => (spec_MultiplierAt.l0 k l0 t263 (t263.length : Int) 0 bt267.1 bt267.2)) = some (r1, r2, r3) := by rw [if_pos rfl] at H; exact H
   clear H
   have H := H1
   clear H1
   replace H := Option.bind_eq_some_iff.mp H
   obtain ⟨⟨t267, t268⟩, A80, H⟩ := H
   replace H : (spec_MultiplierAt.l0 k l0 t263 (t263.length : Int) 0 t267 t268) = some (r1, r2, r3) := H
   have A8 := Aside0.mk A80
   clear A80
   have H' := Aside0.mk H
   clear H
   go_enter Try.func62, Try.ntmps62
   go_wp2_with (first | ((with_reducible refine gate_dst (N := 4) rfl ?_); refine bx 4 #[.int .i64 a1_0, .int .i64 a1_1] 53 ?_; intro gb260 hg w9 hbox hb; have BK260 := Aside0.mk (hbox); have GW260 := Aside0.mk (bz hg); have GE260 := GW260; replace HB := kh hb; clear hb hbox hg) | ((with_reducible refine gate_dst (N := 6) rfl ?_); refine bx 6 #[.int .i64 0, .int .i64 0] 53 ?_; intro gb261 hg w10 hbox hb; have BK261 := Aside0.mk (hbox); have GW261 := Aside0.mk (bz hg); have GE261 := GW261; have NB260_261 := Aside0.mk (bn gb260 hg); have NB261_260 := sy NB260_261; replace BK260 := kb BK260 hb; replace HB := kh hb; clear hb hbox hg; have hnb11 := NB260_261.out; have hnc11 := NB261_260.out; obtain ⟨hcz12_0, hcz12_1, hfz12_0, hfz12_1⟩ := b2 BK260) | ((with_reducible refine gate_callee (f := 78) rfl ?_); refine gl 20 Try.func78 #[.slice A0 l0.length c0, .agg #[.int .i64 a1_0, .int .i64 a1_1], .int .i64 a2] ?_; (with_reducible refine (spec_orAsked.calls k _ _ l0 a1_0 a1_1 a2 true _ ?side1 ?side2 A4.out).mono ?_); (case side1 => repeat (first | exact (Kd.C_below HR0.out HB.out) | (with_reducible refine Kd.C_alloc ?_ _) | (with_reducible refine Kd.C_drewN ?_ _) | (with_reducible refine Kd.C_drew ?_))); (case side2 => exact HC0.out); rintro e w13 ⟨rfl, hb⟩; refine ⟨_, rfl, ?_⟩; replace BK260 := kb BK260 hb; replace BK261 := kb BK261 hb; replace HB := kh hb; (try clear hb); (try clear hb2); (try clear hk); (try clear hi); obtain ⟨hcz14_0, hcz14_1, hfz14_0, hfz14_1⟩ := b2 BK260) | ((with_reducible refine gate_callee (f := 79) rfl ?_); refine gl 27 Try.func79 #[.slice A0 l0.length c0, .agg #[.int .i64 a1_0, .int .i64 a1_1], .int .i64 a2] ?_; (with_reducible refine (spec_orCycle.calls k _ _ l0 a1_0 a1_1 a2 t263 true _ ?side1 ?side2 A6.out).mono ?_); (case side1 => repeat (first | exact (Kd.C_below HR0.out HB.out) | (with_reducible refine Kd.C_alloc ?_ _) | (with_reducible refine Kd.C_drewN ?_ _) | (with_reducible refine Kd.C_drew ?_))); (case side2 => exact HC0.out); rintro e w15 ⟨v264, rfl, ho0, hb⟩; refine ⟨_, rfl, ?_⟩; have HO265 := Aside0.mk (Kd.R_lower (Kd.R_newB (Kd.R_newB ho0 (g := gb260) (o := .cells #[.int .i64 a1_0, .int .i64 a1_1] 53 (0, 0)) (bo gb260)) (g := gb261) (o := .cells #[.int .i64 0, .int .i64 0] 53 (0, 0)) (bo gb261)) (below_size bl)); replace BK260 := kb BK260 hb; replace BK261 := kb BK261 hb; replace HB := kh hb; (try clear hb); (try clear hb2); (try clear hk); (try clear hi); (try clear ho0)) | ((with_reducible refine gate_callee (f := 80) rfl ?_); refine gl 33 Try.func80 #[.int .i64 1] ?_; (with_reducible refine (spec_raInt.calls 1 t267 t268 _ A8.out).mono ?_); rintro e w16 ⟨rfl, hb⟩; refine ⟨_, rfl, ?_⟩; replace HO265 := Aside0.mk (Kd.R_below (by (with_reducible repeat (first | apply Kd.R_alloc | apply Kd.R_drewN | apply Kd.R_drew)); exact HO265.out) hb); replace BK260 := kb BK260 hb; replace BK261 := kb BK261 hb; replace HB := kh hb; (try clear hb); (try clear hb2); (try clear hk); (try clear hi)) | ((with_reducible refine gate_dst (N := 10) rfl ?_); refine bx 10 #[.int .i64 0, .int .i64 0] 53 ?_; intro gb269 hg w17 hbox hb; have BK269 := Aside0.mk (hbox); have GW269 := Aside0.mk (bz hg); have GE269 := GW269; have NB260_269 := Aside0.mk (bn gb260 hg); have NB269_260 := sy NB260_269; have NB261_269 := Aside0.mk (bn gb261 hg); have NB269_261 := sy NB261_269; replace HO265 := Aside0.mk (Kd.R_below (Kd.R_elderB (by (with_reducible repeat (first | apply Kd.R_alloc | apply Kd.R_drewN | apply Kd.R_drew)); exact HO265.out) gb269 (Nat.le_of_eq hg.symm)) hb); replace BK260 := kb BK260 hb; replace BK261 := kb BK261 hb; replace HB := kh hb; clear hb hbox hg; have hnb18 := NB269_260.out; have hnc18 := NB260_269.out; have hnb19 := NB269_261.out; have hnc19 := NB261_269.out; obtain ⟨hcz20_0, hcz20_1, hfz20_0, hfz20_1⟩ := b2 BK269; obtain ⟨Ao21, co21, eo21⟩ := Kd.R_slice HO265.out; subst eo21))
   go_loopg [36] k (fun kq v36 w' => ∃ (x36_1 : Int) (x262000_1 : Int) (x262001_1 : Int) (x270000_1 : Int) (x270001_1 : Int), v36 = .int .i64 x36_1 ∧ Aside0 (spec_MultiplierAt.l0 kq l0 t263 (t263.length : Int) x36_1 x270000_1 x270001_1 = some (r1, r2, r3)) ∧ Aside0 (kq ≤ k) ∧ Aside0 (Kd.R k53 53 w' w.heap.size (fun k_ => k_ ≠ gb260 ∧ k_ ≠ gb261 ∧ k_ ≠ gb269) (.slice Ao21 t263.length co21) t263) ∧ Aside0 (w'.heap[gb260]? = some (.cells #[.int .i64 a1_0, .int .i64 a1_1] 53 (0, 0))) ∧ Aside0 (w'.heap[gb261]? = some (.cells #[.int .i64 x262000_1, .int .i64 x262001_1] 53 (0, 0))) ∧ Aside0 (w'.heap[gb269]? = some (.cells #[.int .i64 x270000_1, .int .i64 x270001_1] 53 (0, 0))) ∧ Aside0 (Below w.heap.size w w'))
   case atStart => exact ⟨(0), (0), (0), (t267), (t268), rs, H', ⟨Nat.le_refl _⟩, ⟨by (with_reducible repeat (first | apply Kd.R_alloc | apply Kd.R_drewN | apply Kd.R_drew)); exact Kd.R_mono (Kd.R_far (p := ⟨gb269, 1, none⟩) (Kd.R_far (p := ⟨gb269, 0, none⟩) (Kd.R_mono HO265.out (fun k_ hk => (⟨hk, hk.2⟩ : _ ∧ k_ ≠ gb269))) (fun _ hk => hk.2) (.int .i64 t267)) (fun _ hk => hk.2) (.int .i64 t268)) (fun _ hk => ⟨hk.1.1.1.2, ⟨hk.1.1.2, hk.1.2⟩⟩)⟩, ⟨by (with_reducible repeat (first | refine blk_drewN ?_ _ | refine blk_drew ?_ | refine blk_alloc ?_ _)); refine blk_far ?_ NB260_269.out _; (with_reducible repeat (first | refine blk_drewN ?_ _ | refine blk_drew ?_ | refine blk_alloc ?_ _)); refine blk_far ?_ NB260_269.out _; (with_reducible repeat (first | refine blk_drewN ?_ _ | refine blk_drew ?_ | refine blk_alloc ?_ _)); exact BK260.out⟩, ⟨by (with_reducible repeat (first | refine blk_drewN ?_ _ | refine blk_drew ?_ | refine blk_alloc ?_ _)); refine blk_far ?_ NB261_269.out _; (with_reducible repeat (first | refine blk_drewN ?_ _ | refine blk_drew ?_ | refine blk_alloc ?_ _)); refine blk_far ?_ NB261_269.out _; (with_reducible repeat (first | refine blk_drewN ?_ _ | refine blk_drew ?_ | refine blk_alloc ?_ _)); exact BK261.out⟩, ⟨by (with_reducible repeat (first | refine blk_drewN ?_ _ | refine blk_drew ?_ | refine blk_alloc ?_ _)); refine blk_put (cs := #[.int .i64 t267, .int .i64 0]) ?_ 1 _ rfl; (with_reducible repeat (first | refine blk_drewN ?_ _ | refine blk_drew ?_ | refine blk_alloc ?_ _)); refine blk_put (cs := #[.int .i64 0, .int .i64 0]) ?_ 0 _ rfl; (with_reducible repeat (first | refine blk_drewN ?_ _ | refine blk_drew ?_ | refine blk_alloc ?_ _)); exact BK269.out⟩, ⟨bl⟩⟩
   case round =>
    clear H'
    try clear c1
    try clear p2
    try clear c5
    try clear c6
    try clear c7
    try clear c8
    try clear c11
    try clear c18
    try clear c19
    try clear hcz12_0
    try clear hcz12_1
    try clear hcz14_0
    try clear hcz14_1
    try clear hcz20_0
    try clear hcz20_1
    try clear hfz12_0
    try clear hfz12_1
    try clear hfz14_0
    try clear hfz14_1
    try clear hfz20_0
    try clear hfz20_1
    obtain ⟨x36_1, x262000_1, x262001_1, x270000_1, x270001_1, rfl, HA, HK1, HO_34, BK260, BK261, BK269, HB⟩ := hrel
    cases gk with
    | zero => exact absurd HA.out (by simp [spec_MultiplierAt.l0])
    | succ k1 =>
     have H := HA.out
     clear HA
     simp only [spec_MultiplierAt.l0] at H
     by_cases c22 : x36_1 < (t263.length : Int)
     ·rw [if_pos c22] at H
      have c22b0 : decide (x36_1 < (t263.length : Int)) = true := decide_eq_true c22
      clear c22
      by_cases c23 : 0 ≤ x36_1
      ·rw [if_pos c23] at H
       have c23b0 : decide (0 ≤ x36_1) = true := decide_eq_true c23
       clear c23
       by_cases c24 : x36_1 < (t263.length : Int)
       ·rw [if_pos c24] at H
        have c24b0 : decide (x36_1 < (t263.length : Int)) = true := decide_eq_true c24
        clear c24
        replace H := Option.bind_eq_some_iff.mp H
        obtain ⟨⟨t272, t273, t274⟩, A250, H⟩ := H
        replace H : (if t274 = true then ((spec_raMul.f k1 x270000_1 x270001_1 t272 t273).bind fun bt276 => (if bt276.2.2 = true then (spec_MultiplierAt.l0 k1 l0 t263 (t263.length : Int) (wrap64 (x36_1 + 1)) bt276.1 bt276.2.1) else (some (0, 0, false)))) else (some (0, 0, false))) = some (r1, r2, r3) := H
        have A25 := Aside0.mk A250
        clear A250
        by_cases c26 : t274 = true
        ·subst c26
         have H1 : ((spec_raMul.f k1 x270000_1 x270001_1 t272 t273).bind fun bt276 => (if bt276.2.2 = true then (spec_MultiplierAt.l0 k1 l0 t263 (t263.length : Int) (wrap64 (x36_1 + 1)) bt276.1 bt276.2.1) else (some (0, 0, false)))) = some (r1, r2, r3) := by rw [if_pos rfl] at H; exact H
         clear H
         have H := H1
         clear H1
         replace H := Option.bind_eq_some_iff.mp H
         obtain ⟨⟨t276, t277, t278⟩, A270, H⟩ := H
         replace H : (if t278 = true then (spec_MultiplierAt.l0 k1 l0 t263 (t263.length : Int) (wrap64 (x36_1 + 1)) t276 t277) else (some (0, 0, false))) = some (r1, r2, r3) := H
         have A27 := Aside0.mk A270
         clear A270
         by_cases c28 : t278 = true
         ·subst c28
          have H1 : (spec_MultiplierAt.l0 k1 l0 t263 (t263.length : Int) (wrap64 (x36_1 + 1)) t276 t277) = some (r1, r2, r3) := by rw [if_pos rfl] at H; exact H
          clear H
          have H := H1
          clear H1
          have H' := Aside0.mk H
          clear H
          have p270 : 0 ≤ (x36_1 : Int) := da
          have q270 : x36_1 < (t263.length : Int) := da
          obtain ⟨ad270, e270, hx270_0, hx270_1⟩ := at_T53 (Kd.R_reads' HO_34.out).2.2 x36_1 p270 q270
          cases e270
          replace p270 := eq_true p270
          replace q270 := eq_true q270
          go_wp2_with (first | ((with_reducible refine gate_dst (N := 12) rfl ?_); refine bx 12 #[.int .i64 0, .int .i64 0] 53 ?_; intro gb271 hg w29 hbox hb; have BK271 := Aside0.mk (hbox); have GW271 := Aside0.mk (bz hg); have GE271 := GW271; have NB260_271 := Aside0.mk (bn gb260 hg); have NB271_260 := sy NB260_271; have NB261_271 := Aside0.mk (bn gb261 hg); have NB271_261 := sy NB261_271; have NB269_271 := Aside0.mk (bn gb269 hg); have NB271_269 := sy NB269_271; replace HO_34 := Aside0.mk (Kd.R_below (Kd.R_elderB (by (with_reducible repeat (first | apply Kd.R_alloc | apply Kd.R_drewN | apply Kd.R_drew)); exact HO_34.out) gb271 (Nat.le_of_eq hg.symm)) hb); replace BK260 := kb BK260 hb; replace BK261 := kb BK261 hb; replace BK269 := kb BK269 hb; replace HB := kh hb; clear hb hbox hg; have hnb30 := NB271_260.out; have hnc30 := NB260_271.out; have hnb31 := NB271_261.out; have hnc31 := NB261_271.out; have hnb32 := NB271_269.out; have hnc32 := NB269_271.out; obtain ⟨hcz33_0, hcz33_1, hfz33_0, hfz33_1⟩ := b2 BK271) | ((with_reducible refine gate_callee (f := 81) rfl ?_); refine gl 43 Try.func81 #[.slice A0 l0.length c0, .agg #[.int .i64 ((rd_T53 t263 x36_1).f0), .int .i64 ((rd_T53 t263 x36_1).f1)]] ?_; (with_reducible refine (spec_orSlope.calls k1 _ _ l0 ((rd_T53 t263 x36_1).f0) ((rd_T53 t263 x36_1).f1) t272 t273 true _ ?side1 ?side2 A25.out).mono ?_); (case side1 => exact Kd.C_below HR0.out bl); (case side2 => exact HC0.out); rintro e w34 ⟨rfl, hb⟩; refine ⟨_, rfl, ?_⟩; replace HO_34 := Aside0.mk (Kd.R_below (by (with_reducible repeat (first | apply Kd.R_alloc | apply Kd.R_drewN | apply Kd.R_drew)); exact (Kd.R_mono (Kd.R_far (p := ⟨gb271, 1, none⟩) (Kd.R_far (p := ⟨gb271, 0, none⟩) (Kd.R_mono HO_34.out (fun k_ hk => (⟨hk, hk.2⟩ : _ ∧ k_ ≠ gb271))) (fun _ hk => hk.2) (.int .i64 ((rd_T53 t263 x36_1).f0))) (fun _ hk => hk.2) (.int .i64 ((rd_T53 t263 x36_1).f1))) (fun _ h_ => h_.1))) hb); replace BK260 := Aside0.mk (blk_below (g := gb260) (o := .cells #[.int .i64 a1_0, .int .i64 a1_1] 53 (0, 0)) (by (with_reducible repeat (first | refine blk_drewN ?_ _ | refine blk_drew ?_ | refine blk_alloc ?_ _)); refine blk_far ?_ NB260_271.out _; (with_reducible repeat (first | refine blk_drewN ?_ _ | refine blk_drew ?_ | refine blk_alloc ?_ _)); refine blk_far ?_ NB260_271.out _; (with_reducible repeat (first | refine blk_drewN ?_ _ | refine blk_drew ?_ | refine blk_alloc ?_ _)); exact BK260.out) hb); replace BK261 := Aside0.mk (blk_below (g := gb261) (o := .cells #[.int .i64 x262000_1, .int .i64 x262001_1] 53 (0, 0)) (by (with_reducible repeat (first | refine blk_drewN ?_ _ | refine blk_drew ?_ | refine blk_alloc ?_ _)); refine blk_far ?_ NB261_271.out _; (with_reducible repeat (first | refine blk_drewN ?_ _ | refine blk_drew ?_ | refine blk_alloc ?_ _)); refine blk_far ?_ NB261_271.out _; (with_reducible repeat (first | refine blk_drewN ?_ _ | refine blk_drew ?_ | refine blk_alloc ?_ _)); exact BK261.out) hb); replace BK269 := Aside0.mk (blk_below (g := gb269) (o := .cells #[.int .i64 x270000_1, .int .i64 x270001_1] 53 (0, 0)) (by (with_reducible repeat (first | refine blk_drewN ?_ _ | refine blk_drew ?_ | refine blk_alloc ?_ _)); refine blk_far ?_ NB269_271.out _; (with_reducible repeat (first | refine blk_drewN ?_ _ | refine blk_drew ?_ | refine blk_alloc ?_ _)); refine blk_far ?_ NB269_271.out _; (with_reducible repeat (first | refine blk_drewN ?_ _ | refine blk_drew ?_ | refine blk_alloc ?_ _)); exact BK269.out) hb); replace BK271 := Aside0.mk (blk_below (g := gb271) (o := .cells #[.int .i64 ((rd_T53 t263 x36_1).f0), .int .i64 ((rd_T53 t263 x36_1).f1)] 53 (0, 0)) (by (with_reducible repeat (first | refine blk_drewN ?_ _ | refine blk_drew ?_ | refine blk_alloc ?_ _)); refine blk_put (cs := #[.int .i64 ((rd_T53 t263 x36_1).f0), .int .i64 0]) ?_ 1 _ rfl; (with_reducible repeat (first | refine blk_drewN ?_ _ | refine blk_drew ?_ | refine blk_alloc ?_ _)); refine blk_put (cs := #[.int .i64 0, .int .i64 0]) ?_ 0 _ rfl; (with_reducible repeat (first | refine blk_drewN ?_ _ | refine blk_drew ?_ | refine blk_alloc ?_ _)); exact BK271.out) hb); replace HB := kh hb; (try clear hb); (try clear hb2); (try clear hk); (try clear hi)) | ((with_reducible refine gate_dst (N := 13) rfl ?_); refine bx 13 #[.int .i64 0, .int .i64 0] 53 ?_; intro gb275 hg w35 hbox hb; have BK275 := Aside0.mk (hbox); have GW275 := Aside0.mk (bz hg); have GE275 := GW275; have NB260_275 := Aside0.mk (bn gb260 hg); have NB275_260 := sy NB260_275; have NB261_275 := Aside0.mk (bn gb261 hg); have NB275_261 := sy NB261_275; have NB269_275 := Aside0.mk (bn gb269 hg); have NB275_269 := sy NB269_275; have NB271_275 := Aside0.mk (bn gb271 hg); have NB275_271 := sy NB271_275; replace HO_34 := Aside0.mk (Kd.R_below (Kd.R_elderB (by (with_reducible repeat (first | apply Kd.R_alloc | apply Kd.R_drewN | apply Kd.R_drew)); exact HO_34.out) gb275 (Nat.le_of_eq hg.symm)) hb); replace BK260 := kb BK260 hb; replace BK261 := kb BK261 hb; replace BK269 := kb BK269 hb; replace BK271 := kb BK271 hb; replace HB := kh hb; clear hb hbox hg; have hnb36 := NB275_260.out; have hnc36 := NB260_275.out; have hnb37 := NB275_261.out; have hnc37 := NB261_275.out; have hnb38 := NB275_269.out; have hnc38 := NB269_275.out; have hnb39 := NB275_271.out; have hnc39 := NB271_275.out; obtain ⟨hcz40_0, hcz40_1, hfz40_0, hfz40_1⟩ := b2 BK275; have hnb41 := NB269_260.out; have hnc41 := NB260_269.out; have hnb42 := NB269_261.out; have hnc42 := NB261_269.out; obtain ⟨hcz43_0, hcz43_1, hfz43_0, hfz43_1⟩ := b2 BK269) | ((with_reducible refine gate_callee (f := 82) rfl ?_); refine gl 52 Try.func82 #[.agg #[.int .i64 x270000_1, .int .i64 x270001_1], .agg #[.int .i64 t272, .int .i64 t273]] ?_; (with_reducible refine (spec_raMul.calls k1 x270000_1 x270001_1 t272 t273 t276 t277 true _ A27.out).mono ?_); rintro e w44 ⟨rfl, hb⟩; refine ⟨_, rfl, ?_⟩; replace HO_34 := Aside0.mk (Kd.R_below (by (with_reducible repeat (first | apply Kd.R_alloc | apply Kd.R_drewN | apply Kd.R_drew)); exact (Kd.R_mono (Kd.R_far (p := ⟨gb275, 1, none⟩) (Kd.R_far (p := ⟨gb275, 0, none⟩) (Kd.R_mono HO_34.out (fun k_ hk => (⟨hk, hk.2⟩ : _ ∧ k_ ≠ gb275))) (fun _ hk => hk.2) (.int .i64 t272)) (fun _ hk => hk.2) (.int .i64 t273)) (fun _ h_ => h_.1))) hb); replace BK260 := Aside0.mk (blk_below (g := gb260) (o := .cells #[.int .i64 a1_0, .int .i64 a1_1] 53 (0, 0)) (by (with_reducible repeat (first | refine blk_drewN ?_ _ | refine blk_drew ?_ | refine blk_alloc ?_ _)); refine blk_far ?_ NB260_275.out _; (with_reducible repeat (first | refine blk_drewN ?_ _ | refine blk_drew ?_ | refine blk_alloc ?_ _)); refine blk_far ?_ NB260_275.out _; (with_reducible repeat (first | refine blk_drewN ?_ _ | refine blk_drew ?_ | refine blk_alloc ?_ _)); exact BK260.out) hb); replace BK261 := Aside0.mk (blk_below (g := gb261) (o := .cells #[.int .i64 x262000_1, .int .i64 x262001_1] 53 (0, 0)) (by (with_reducible repeat (first | refine blk_drewN ?_ _ | refine blk_drew ?_ | refine blk_alloc ?_ _)); refine blk_far ?_ NB261_275.out _; (with_reducible repeat (first | refine blk_drewN ?_ _ | refine blk_drew ?_ | refine blk_alloc ?_ _)); refine blk_far ?_ NB261_275.out _; (with_reducible repeat (first | refine blk_drewN ?_ _ | refine blk_drew ?_ | refine blk_alloc ?_ _)); exact BK261.out) hb); replace BK269 := Aside0.mk (blk_below (g := gb269) (o := .cells #[.int .i64 x270000_1, .int .i64 x270001_1] 53 (0, 0)) (by (with_reducible repeat (first | refine blk_drewN ?_ _ | refine blk_drew ?_ | refine blk_alloc ?_ _)); refine blk_far ?_ NB269_275.out _; (with_reducible repeat (first | refine blk_drewN ?_ _ | refine blk_drew ?_ | refine blk_alloc ?_ _)); refine blk_far ?_ NB269_275.out _; (with_reducible repeat (first | refine blk_drewN ?_ _ | refine blk_drew ?_ | refine blk_alloc ?_ _)); exact BK269.out) hb); replace BK271 := Aside0.mk (blk_below (g := gb271) (o := .cells #[.int .i64 ((rd_T53 t263 x36_1).f0), .int .i64 ((rd_T53 t263 x36_1).f1)] 53 (0, 0)) (by (with_reducible repeat (first | refine blk_drewN ?_ _ | refine blk_drew ?_ | refine blk_alloc ?_ _)); refine blk_far ?_ NB271_275.out _; (with_reducible repeat (first | refine blk_drewN ?_ _ | refine blk_drew ?_ | refine blk_alloc ?_ _)); refine blk_far ?_ NB271_275.out _; (with_reducible repeat (first | refine blk_drewN ?_ _ | refine blk_drew ?_ | refine blk_alloc ?_ _)); exact BK271.out) hb); replace BK275 := Aside0.mk (blk_below (g := gb275) (o := .cells #[.int .i64 t272, .int .i64 t273] 53 (0, 0)) (by (with_reducible repeat (first | refine blk_drewN ?_ _ | refine blk_drew ?_ | refine blk_alloc ?_ _)); refine blk_put (cs := #[.int .i64 t272, .int .i64 0]) ?_ 1 _ rfl; (with_reducible repeat (first | refine blk_drewN ?_ _ | refine blk_drew ?_ | refine blk_alloc ?_ _)); refine blk_put (cs := #[.int .i64 0, .int .i64 0]) ?_ 0 _ rfl; (with_reducible repeat (first | refine blk_drewN ?_ _ | refine blk_drew ?_ | refine blk_alloc ?_ _)); exact BK275.out) hb); replace HB := kh hb; (try clear hb); (try clear hb2); (try clear hk); (try clear hi)) | ((with_reducible refine gate_dst (N := 15) rfl ?_); refine bx 15 #[.int .i64 0, .int .i64 0] 53 ?_; intro gb279 hg w45 hbox hb; have BK279 := Aside0.mk (hbox); have GW279 := Aside0.mk (bz hg); have GE279 := GW279; have NB260_279 := Aside0.mk (bn gb260 hg); have NB279_260 := sy NB260_279; have NB261_279 := Aside0.mk (bn gb261 hg); have NB279_261 := sy NB261_279; have NB269_279 := Aside0.mk (bn gb269 hg); have NB279_269 := sy NB269_279; have NB271_279 := Aside0.mk (bn gb271 hg); have NB279_271 := sy NB271_279; have NB275_279 := Aside0.mk (bn gb275 hg); have NB279_275 := sy NB275_279; replace HO_34 := Aside0.mk (Kd.R_below (Kd.R_elderB (by (with_reducible repeat (first | apply Kd.R_alloc | apply Kd.R_drewN | apply Kd.R_drew)); exact HO_34.out) gb279 (Nat.le_of_eq hg.symm)) hb); replace BK260 := kb BK260 hb; replace BK261 := kb BK261 hb; replace BK269 := kb BK269 hb; replace BK271 := kb BK271 hb; replace BK275 := kb BK275 hb; replace HB := kh hb; clear hb hbox hg; have hnb46 := NB279_260.out; have hnc46 := NB260_279.out; have hnb47 := NB279_261.out; have hnc47 := NB261_279.out; have hnb48 := NB279_269.out; have hnc48 := NB269_279.out; have hnb49 := NB279_271.out; have hnc49 := NB271_279.out; have hnb50 := NB279_275.out; have hnc50 := NB275_279.out; obtain ⟨hcz51_0, hcz51_1, hfz51_0, hfz51_1⟩ := b2 BK279; obtain ⟨hcz52_0, hcz52_1, hfz52_0, hfz52_1⟩ := b2 BK269))
          go_roundg k1
          case measure => have := HK1.out; omega
          case rel => exact ⟨(wrap64 (x36_1 + 1)), (x262000_1), (x262001_1), (t276), (t277), rs, H', ⟨by have := HK1.out; omega⟩, ⟨by (with_reducible repeat (first | apply Kd.R_alloc | apply Kd.R_drewN | apply Kd.R_drew)); exact Kd.R_mono (Kd.R_far (p := ⟨gb269, 1, none⟩) (Kd.R_far (p := ⟨gb269, 0, none⟩) (Kd.R_far (p := ⟨gb279, 1, none⟩) (Kd.R_far (p := ⟨gb279, 0, none⟩) (Kd.R_mono (Kd.R_mono HO_34.out (fun k_ hk => (⟨hk, hk.2⟩ : _ ∧ k_ ≠ gb279))) (fun k_ hk => (⟨hk, hk.1.1.1.1.2.2⟩ : _ ∧ k_ ≠ gb269))) (fun _ hk => hk.1.2) (.int .i64 t276)) (fun _ hk => hk.1.2) (.int .i64 t277)) (fun _ hk => hk.2) (.int .i64 t276)) (fun _ hk => hk.2) (.int .i64 t277)) (fun _ hk => ⟨hk.1.1.1.1.1.1, ⟨hk.1.1.1.1.1.2.1, hk.1.1.1.1.1.2.2⟩⟩)⟩, ⟨by (with_reducible repeat (first | refine blk_drewN ?_ _ | refine blk_drew ?_ | refine blk_alloc ?_ _)); refine blk_far ?_ NB260_269.out _; (with_reducible repeat (first | refine blk_drewN ?_ _ | refine blk_drew ?_ | refine blk_alloc ?_ _)); refine blk_far ?_ NB260_269.out _; (with_reducible repeat (first | refine blk_drewN ?_ _ | refine blk_drew ?_ | refine blk_alloc ?_ _)); refine blk_far ?_ NB260_279.out _; (with_reducible repeat (first | refine blk_drewN ?_ _ | refine blk_drew ?_ | refine blk_alloc ?_ _)); refine blk_far ?_ NB260_279.out _; (with_reducible repeat (first | refine blk_drewN ?_ _ | refine blk_drew ?_ | refine blk_alloc ?_ _)); exact BK260.out⟩, ⟨by (with_reducible repeat (first | refine blk_drewN ?_ _ | refine blk_drew ?_ | refine blk_alloc ?_ _)); refine blk_far ?_ NB261_269.out _; (with_reducible repeat (first | refine blk_drewN ?_ _ | refine blk_drew ?_ | refine blk_alloc ?_ _)); refine blk_far ?_ NB261_269.out _; (with_reducible repeat (first | refine blk_drewN ?_ _ | refine blk_drew ?_ | refine blk_alloc ?_ _)); refine blk_far ?_ NB261_279.out _; (with_reducible repeat (first | refine blk_drewN ?_ _ | refine blk_drew ?_ | refine blk_alloc ?_ _)); refine blk_far ?_ NB261_279.out _; (with_reducible repeat (first | refine blk_drewN ?_ _ | refine blk_drew ?_ | refine blk_alloc ?_ _)); exact BK261.out⟩, ⟨by (with_reducible repeat (first | refine blk_drewN ?_ _ | refine blk_drew ?_ | refine blk_alloc ?_ _)); refine blk_put (cs := #[.int .i64 t276, .int .i64 x270001_1]) ?_ 1 _ rfl; (with_reducible repeat (first | refine blk_drewN ?_ _ | refine blk_drew ?_ | refine blk_alloc ?_ _)); refine blk_put (cs := #[.int .i64 x270000_1, .int .i64 x270001_1]) ?_ 0 _ rfl; (with_reducible repeat (first | refine blk_drewN ?_ _ | refine blk_drew ?_ | refine blk_alloc ?_ _)); refine blk_far ?_ NB269_279.out _; (with_reducible repeat (first | refine blk_drewN ?_ _ | refine blk_drew ?_ | refine blk_alloc ?_ _)); refine blk_far ?_ NB269_279.out _; (with_reducible repeat (first | refine blk_drewN ?_ _ | refine blk_drew ?_ | refine blk_alloc ?_ _)); exact BK269.out⟩, ⟨bl⟩⟩
         ·replace c28 := Bool.eq_false_iff.mpr c28
          subst c28
          have H1 : (some (0, 0, false)) = some (r1, r2, r3) := by rw [if_neg (show ¬ (false = true) by decide)] at H; exact H
          clear H
          have H := H1
          clear H1
          simp only [Option.some.injEq, Prod.mk.injEq] at H
          obtain ⟨rfl, rfl, rfl⟩ := H
          have p270 : 0 ≤ (x36_1 : Int) := da
          have q270 : x36_1 < (t263.length : Int) := da
          obtain ⟨ad270, e270, hx270_0, hx270_1⟩ := at_T53 (Kd.R_reads' HO_34.out).2.2 x36_1 p270 q270
          cases e270
          replace p270 := eq_true p270
          replace q270 := eq_true q270
          go_wp2_with (first | ((with_reducible refine gate_dst (N := 12) rfl ?_); refine bx 12 #[.int .i64 0, .int .i64 0] 53 ?_; intro gb271 hg w53 hbox hb; have BK271 := Aside0.mk (hbox); have GW271 := Aside0.mk (bz hg); have GE271 := GW271; have NB260_271 := Aside0.mk (bn gb260 hg); have NB271_260 := sy NB260_271; have NB261_271 := Aside0.mk (bn gb261 hg); have NB271_261 := sy NB261_271; have NB269_271 := Aside0.mk (bn gb269 hg); have NB271_269 := sy NB269_271; replace HO_34 := Aside0.mk (Kd.R_below (Kd.R_elderB (by (with_reducible repeat (first | apply Kd.R_alloc | apply Kd.R_drewN | apply Kd.R_drew)); exact HO_34.out) gb271 (Nat.le_of_eq hg.symm)) hb); replace BK260 := kb BK260 hb; replace BK261 := kb BK261 hb; replace BK269 := kb BK269 hb; replace HB := kh hb; clear hb hbox hg; have hnb54 := NB271_260.out; have hnc54 := NB260_271.out; have hnb55 := NB271_261.out; have hnc55 := NB261_271.out; have hnb56 := NB271_269.out; have hnc56 := NB269_271.out; obtain ⟨hcz57_0, hcz57_1, hfz57_0, hfz57_1⟩ := b2 BK271) | ((with_reducible refine gate_callee (f := 81) rfl ?_); refine gl 43 Try.func81 #[.slice A0 l0.length c0, .agg #[.int .i64 ((rd_T53 t263 x36_1).f0), .int .i64 ((rd_T53 t263 x36_1).f1)]] ?_; (with_reducible refine (spec_orSlope.calls k1 _ _ l0 ((rd_T53 t263 x36_1).f0) ((rd_T53 t263 x36_1).f1) t272 t273 true _ ?side1 ?side2 A25.out).mono ?_); (case side1 => exact Kd.C_below HR0.out bl); (case side2 => exact HC0.out); rintro e w58 ⟨rfl, hb⟩; refine ⟨_, rfl, ?_⟩; replace HO_34 := Aside0.mk (Kd.R_below (by (with_reducible repeat (first | apply Kd.R_alloc | apply Kd.R_drewN | apply Kd.R_drew)); exact (Kd.R_mono (Kd.R_far (p := ⟨gb271, 1, none⟩) (Kd.R_far (p := ⟨gb271, 0, none⟩) (Kd.R_mono HO_34.out (fun k_ hk => (⟨hk, hk.2⟩ : _ ∧ k_ ≠ gb271))) (fun _ hk => hk.2) (.int .i64 ((rd_T53 t263 x36_1).f0))) (fun _ hk => hk.2) (.int .i64 ((rd_T53 t263 x36_1).f1))) (fun _ h_ => h_.1))) hb); replace BK260 := Aside0.mk (blk_below (g := gb260) (o := .cells #[.int .i64 a1_0, .int .i64 a1_1] 53 (0, 0)) (by (with_reducible repeat (first | refine blk_drewN ?_ _ | refine blk_drew ?_ | refine blk_alloc ?_ _)); refine blk_far ?_ NB260_271.out _; (with_reducible repeat (first | refine blk_drewN ?_ _ | refine blk_drew ?_ | refine blk_alloc ?_ _)); refine blk_far ?_ NB260_271.out _; (with_reducible repeat (first | refine blk_drewN ?_ _ | refine blk_drew ?_ | refine blk_alloc ?_ _)); exact BK260.out) hb); replace BK261 := Aside0.mk (blk_below (g := gb261) (o := .cells #[.int .i64 x262000_1, .int .i64 x262001_1] 53 (0, 0)) (by (with_reducible repeat (first | refine blk_drewN ?_ _ | refine blk_drew ?_ | refine blk_alloc ?_ _)); refine blk_far ?_ NB261_271.out _; (with_reducible repeat (first | refine blk_drewN ?_ _ | refine blk_drew ?_ | refine blk_alloc ?_ _)); refine blk_far ?_ NB261_271.out _; (with_reducible repeat (first | refine blk_drewN ?_ _ | refine blk_drew ?_ | refine blk_alloc ?_ _)); exact BK261.out) hb); replace BK269 := Aside0.mk (blk_below (g := gb269) (o := .cells #[.int .i64 x270000_1, .int .i64 x270001_1] 53 (0, 0)) (by (with_reducible repeat (first | refine blk_drewN ?_ _ | refine blk_drew ?_ | refine blk_alloc ?_ _)); refine blk_far ?_ NB269_271.out _; (with_reducible repeat (first | refine blk_drewN ?_ _ | refine blk_drew ?_ | refine blk_alloc ?_ _)); refine blk_far ?_ NB269_271.out _; (with_reducible repeat (first | refine blk_drewN ?_ _ | refine blk_drew ?_ | refine blk_alloc ?_ _)); exact BK269.out) hb); replace BK271 := Aside0.mk (blk_below (g := gb271) (o := .cells #[.int .i64 ((rd_T53 t263 x36_1).f0), .int .i64 ((rd_T53 t263 x36_1).f1)] 53 (0, 0)) (by (with_reducible repeat (first | refine blk_drewN ?_ _ | refine blk_drew ?_ | refine blk_alloc ?_ _)); refine blk_put (cs := #[.int .i64 ((rd_T53 t263 x36_1).f0), .int .i64 0]) ?_ 1 _ rfl; (with_reducible repeat (first | refine blk_drewN ?_ _ | refine blk_drew ?_ | refine blk_alloc ?_ _)); refine blk_put (cs := #[.int .i64 0, .int .i64 0]) ?_ 0 _ rfl; (with_reducible repeat (first | refine blk_drewN ?_ _ | refine blk_drew ?_ | refine blk_alloc ?_ _)); exact BK271.out) hb); replace HB := kh hb; (try clear hb); (try clear hb2); (try clear hk); (try clear hi)) | ((with_reducible refine gate_dst (N := 13) rfl ?_); refine bx 13 #[.int .i64 0, .int .i64 0] 53 ?_; intro gb275 hg w59 hbox hb; have BK275 := Aside0.mk (hbox); have GW275 := Aside0.mk (bz hg); have GE275 := GW275; have NB260_275 := Aside0.mk (bn gb260 hg); have NB275_260 := sy NB260_275; have NB261_275 := Aside0.mk (bn gb261 hg); have NB275_261 := sy NB261_275; have NB269_275 := Aside0.mk (bn gb269 hg); have NB275_269 := sy NB269_275; have NB271_275 := Aside0.mk (bn gb271 hg); have NB275_271 := sy NB271_275; replace HO_34 := Aside0.mk (Kd.R_below (Kd.R_elderB (by (with_reducible repeat (first | apply Kd.R_alloc | apply Kd.R_drewN | apply Kd.R_drew)); exact HO_34.out) gb275 (Nat.le_of_eq hg.symm)) hb); replace BK260 := kb BK260 hb; replace BK261 := kb BK261 hb; replace BK269 := kb BK269 hb; replace BK271 := kb BK271 hb; replace HB := kh hb; clear hb hbox hg; have hnb60 := NB275_260.out; have hnc60 := NB260_275.out; have hnb61 := NB275_261.out; have hnc61 := NB261_275.out; have hnb62 := NB275_269.out; have hnc62 := NB269_275.out; have hnb63 := NB275_271.out; have hnc63 := NB271_275.out; obtain ⟨hcz64_0, hcz64_1, hfz64_0, hfz64_1⟩ := b2 BK275; have hnb65 := NB269_260.out; have hnc65 := NB260_269.out; have hnb66 := NB269_261.out; have hnc66 := NB261_269.out; obtain ⟨hcz67_0, hcz67_1, hfz67_0, hfz67_1⟩ := b2 BK269) | ((with_reducible refine gate_callee (f := 82) rfl ?_); refine gl 52 Try.func82 #[.agg #[.int .i64 x270000_1, .int .i64 x270001_1], .agg #[.int .i64 t272, .int .i64 t273]] ?_; (with_reducible refine (spec_raMul.calls k1 x270000_1 x270001_1 t272 t273 t276 t277 false _ A27.out).mono ?_); rintro e w68 ⟨rfl, hb⟩; refine ⟨_, rfl, ?_⟩; replace HO_34 := Aside0.mk (Kd.R_below (by (with_reducible repeat (first | apply Kd.R_alloc | apply Kd.R_drewN | apply Kd.R_drew)); exact (Kd.R_mono (Kd.R_far (p := ⟨gb275, 1, none⟩) (Kd.R_far (p := ⟨gb275, 0, none⟩) (Kd.R_mono HO_34.out (fun k_ hk => (⟨hk, hk.2⟩ : _ ∧ k_ ≠ gb275))) (fun _ hk => hk.2) (.int .i64 t272)) (fun _ hk => hk.2) (.int .i64 t273)) (fun _ h_ => h_.1))) hb); replace BK260 := Aside0.mk (blk_below (g := gb260) (o := .cells #[.int .i64 a1_0, .int .i64 a1_1] 53 (0, 0)) (by (with_reducible repeat (first | refine blk_drewN ?_ _ | refine blk_drew ?_ | refine blk_alloc ?_ _)); refine blk_far ?_ NB260_275.out _; (with_reducible repeat (first | refine blk_drewN ?_ _ | refine blk_drew ?_ | refine blk_alloc ?_ _)); refine blk_far ?_ NB260_275.out _; (with_reducible repeat (first | refine blk_drewN ?_ _ | refine blk_drew ?_ | refine blk_alloc ?_ _)); exact BK260.out) hb); replace BK261 := Aside0.mk (blk_below (g := gb261) (o := .cells #[.int .i64 x262000_1, .int .i64 x262001_1] 53 (0, 0)) (by (with_reducible repeat (first | refine blk_drewN ?_ _ | refine blk_drew ?_ | refine blk_alloc ?_ _)); refine blk_far ?_ NB261_275.out _; (with_reducible repeat (first | refine blk_drewN ?_ _ | refine blk_drew ?_ | refine blk_alloc ?_ _)); refine blk_far ?_ NB261_275.out _; (with_reducible repeat (first | refine blk_drewN ?_ _ | refine blk_drew ?_ | refine blk_alloc ?_ _)); exact BK261.out) hb); replace BK269 := Aside0.mk (blk_below (g := gb269) (o := .cells #[.int .i64 x270000_1, .int .i64 x270001_1] 53 (0, 0)) (by (with_reducible repeat (first | refine blk_drewN ?_ _ | refine blk_drew ?_ | refine blk_alloc ?_ _)); refine blk_far ?_ NB269_275.out _; (with_reducible repeat (first | refine blk_drewN ?_ _ | refine blk_drew ?_ | refine blk_alloc ?_ _)); refine blk_far ?_ NB269_275.out _; (with_reducible repeat (first | refine blk_drewN ?_ _ | refine blk_drew ?_ | refine blk_alloc ?_ _)); exact BK269.out) hb); replace BK271 := Aside0.mk (blk_below (g := gb271) (o := .cells #[.int .i64 ((rd_T53 t263 x36_1).f0), .int .i64 ((rd_T53 t263 x36_1).f1)] 53 (0, 0)) (by (with_reducible repeat (first | refine blk_drewN ?_ _ | refine blk_drew ?_ | refine blk_alloc ?_ _)); refine blk_far ?_ NB271_275.out _; (with_reducible repeat (first | refine blk_drewN ?_ _ | refine blk_drew ?_ | refine blk_alloc ?_ _)); refine blk_far ?_ NB271_275.out _; (with_reducible repeat (first | refine blk_drewN ?_ _ | refine blk_drew ?_ | refine blk_alloc ?_ _)); exact BK271.out) hb); replace BK275 := Aside0.mk (blk_below (g := gb275) (o := .cells #[.int .i64 t272, .int .i64 t273] 53 (0, 0)) (by (with_reducible repeat (first | refine blk_drewN ?_ _ | refine blk_drew ?_ | refine blk_alloc ?_ _)); refine blk_put (cs := #[.int .i64 t272, .int .i64 0]) ?_ 1 _ rfl; (with_reducible repeat (first | refine blk_drewN ?_ _ | refine blk_drew ?_ | refine blk_alloc ?_ _)); refine blk_put (cs := #[.int .i64 0, .int .i64 0]) ?_ 0 _ rfl; (with_reducible repeat (first | refine blk_drewN ?_ _ | refine blk_drew ?_ | refine blk_alloc ?_ _)); exact BK275.out) hb); replace HB := kh hb; (try clear hb); (try clear hb2); (try clear hk); (try clear hi)) | ((with_reducible refine gate_dst (N := 15) rfl ?_); refine bx 15 #[.int .i64 0, .int .i64 0] 53 ?_; intro gb279 hg w69 hbox hb; have BK279 := Aside0.mk (hbox); have GW279 := Aside0.mk (bz hg); have GE279 := GW279; have NB260_279 := Aside0.mk (bn gb260 hg); have NB279_260 := sy NB260_279; have NB261_279 := Aside0.mk (bn gb261 hg); have NB279_261 := sy NB261_279; have NB269_279 := Aside0.mk (bn gb269 hg); have NB279_269 := sy NB269_279; have NB271_279 := Aside0.mk (bn gb271 hg); have NB279_271 := sy NB271_279; have NB275_279 := Aside0.mk (bn gb275 hg); have NB279_275 := sy NB275_279; replace HO_34 := Aside0.mk (Kd.R_below (Kd.R_elderB (by (with_reducible repeat (first | apply Kd.R_alloc | apply Kd.R_drewN | apply Kd.R_drew)); exact HO_34.out) gb279 (Nat.le_of_eq hg.symm)) hb); replace BK260 := kb BK260 hb; replace BK261 := kb BK261 hb; replace BK269 := kb BK269 hb; replace BK271 := kb BK271 hb; replace BK275 := kb BK275 hb; replace HB := kh hb; clear hb hbox hg; have hnb70 := NB279_260.out; have hnc70 := NB260_279.out; have hnb71 := NB279_261.out; have hnc71 := NB261_279.out; have hnb72 := NB279_269.out; have hnc72 := NB269_279.out; have hnb73 := NB279_271.out; have hnc73 := NB271_279.out; have hnb74 := NB279_275.out; have hnc74 := NB275_279.out; obtain ⟨hcz75_0, hcz75_1, hfz75_0, hfz75_1⟩ := b2 BK279; have hnb76 := NB261_260.out; have hnc76 := NB260_261.out; obtain ⟨hcz77_0, hcz77_1, hfz77_0, hfz77_1⟩ := b2 BK261))
          refine bodyPost_ret (results_ct rfl _ _ gb261 53 #[.int .i64 0, .int .i64 0] (0, 0) _ rfl (by (with_reducible repeat (first | refine blk_drewN ?_ _ | refine blk_drew ?_ | refine blk_alloc ?_ _)); refine blk_put (cs := #[.int .i64 0, .int .i64 x262001_1]) ?_ 1 _ rfl; (with_reducible repeat (first | refine blk_drewN ?_ _ | refine blk_drew ?_ | refine blk_alloc ?_ _)); refine blk_put (cs := #[.int .i64 x262000_1, .int .i64 x262001_1]) ?_ 0 _ rfl; (with_reducible repeat (first | refine blk_drewN ?_ _ | refine blk_drew ?_ | refine blk_alloc ?_ _)); refine blk_far ?_ NB261_279.out _; (with_reducible repeat (first | refine blk_drewN ?_ _ | refine blk_drew ?_ | refine blk_alloc ?_ _)); refine blk_far ?_ NB261_279.out _; (with_reducible repeat (first | refine blk_drewN ?_ _ | refine blk_drew ?_ | refine blk_alloc ?_ _)); exact BK261.out) Try.underlying53 rfl (by kernel_rfl)) rfl ?_
          exact ⟨rt, bl⟩
        ·replace c26 := Bool.eq_false_iff.mpr c26
         subst c26
         have H1 : (some (0, 0, false)) = some (r1, r2, r3) := by rw [if_neg (show ¬ (false = true) by decide)] at H; exact H
         clear H
         have H := H1
         clear H1
         simp only [Option.some.injEq, Prod.mk.injEq] at H
         obtain ⟨rfl, rfl, rfl⟩ := H
         have p270 : 0 ≤ (x36_1 : Int) := da
         have q270 : x36_1 < (t263.length : Int) := da
         obtain ⟨ad270, e270, hx270_0, hx270_1⟩ := at_T53 (Kd.R_reads' HO_34.out).2.2 x36_1 p270 q270
         cases e270
         replace p270 := eq_true p270
         replace q270 := eq_true q270
         go_wp2_with (first | ((with_reducible refine gate_dst (N := 12) rfl ?_); refine bx 12 #[.int .i64 0, .int .i64 0] 53 ?_; intro gb271 hg w78 hbox hb; have BK271 := Aside0.mk (hbox); have GW271 := Aside0.mk (bz hg); have GE271 := GW271; have NB260_271 := Aside0.mk (bn gb260 hg); have NB271_260 := sy NB260_271; have NB261_271 := Aside0.mk (bn gb261 hg); have NB271_261 := sy NB261_271; have NB269_271 := Aside0.mk (bn gb269 hg); have NB271_269 := sy NB269_271; replace HO_34 := Aside0.mk (Kd.R_below (Kd.R_elderB (by (with_reducible repeat (first | apply Kd.R_alloc | apply Kd.R_drewN | apply Kd.R_drew)); exact HO_34.out) gb271 (Nat.le_of_eq hg.symm)) hb); replace BK260 := kb BK260 hb; replace BK261 := kb BK261 hb; replace BK269 := kb BK269 hb; replace HB := kh hb; clear hb hbox hg; have hnb79 := NB271_260.out; have hnc79 := NB260_271.out; have hnb80 := NB271_261.out; have hnc80 := NB261_271.out; have hnb81 := NB271_269.out; have hnc81 := NB269_271.out; obtain ⟨hcz82_0, hcz82_1, hfz82_0, hfz82_1⟩ := b2 BK271) | ((with_reducible refine gate_callee (f := 81) rfl ?_); refine gl 43 Try.func81 #[.slice A0 l0.length c0, .agg #[.int .i64 ((rd_T53 t263 x36_1).f0), .int .i64 ((rd_T53 t263 x36_1).f1)]] ?_; (with_reducible refine (spec_orSlope.calls k1 _ _ l0 ((rd_T53 t263 x36_1).f0) ((rd_T53 t263 x36_1).f1) t272 t273 false _ ?side1 ?side2 A25.out).mono ?_); (case side1 => exact Kd.C_below HR0.out bl); (case side2 => exact HC0.out); rintro e w83 ⟨rfl, hb⟩; refine ⟨_, rfl, ?_⟩; replace HO_34 := Aside0.mk (Kd.R_below (by (with_reducible repeat (first | apply Kd.R_alloc | apply Kd.R_drewN | apply Kd.R_drew)); exact (Kd.R_mono (Kd.R_far (p := ⟨gb271, 1, none⟩) (Kd.R_far (p := ⟨gb271, 0, none⟩) (Kd.R_mono HO_34.out (fun k_ hk => (⟨hk, hk.2⟩ : _ ∧ k_ ≠ gb271))) (fun _ hk => hk.2) (.int .i64 ((rd_T53 t263 x36_1).f0))) (fun _ hk => hk.2) (.int .i64 ((rd_T53 t263 x36_1).f1))) (fun _ h_ => h_.1))) hb); replace BK260 := Aside0.mk (blk_below (g := gb260) (o := .cells #[.int .i64 a1_0, .int .i64 a1_1] 53 (0, 0)) (by (with_reducible repeat (first | refine blk_drewN ?_ _ | refine blk_drew ?_ | refine blk_alloc ?_ _)); refine blk_far ?_ NB260_271.out _; (with_reducible repeat (first | refine blk_drewN ?_ _ | refine blk_drew ?_ | refine blk_alloc ?_ _)); refine blk_far ?_ NB260_271.out _; (with_reducible repeat (first | refine blk_drewN ?_ _ | refine blk_drew ?_ | refine blk_alloc ?_ _)); exact BK260.out) hb); replace BK261 := Aside0.mk (blk_below (g := gb261) (o := .cells #[.int .i64 x262000_1, .int .i64 x262001_1] 53 (0, 0)) (by (with_reducible repeat (first | refine blk_drewN ?_ _ | refine blk_drew ?_ | refine blk_alloc ?_ _)); refine blk_far ?_ NB261_271.out _; (with_reducible repeat (first | refine blk_drewN ?_ _ | refine blk_drew ?_ | refine blk_alloc ?_ _)); refine blk_far ?_ NB261_271.out _; (with_reducible repeat (first | refine blk_drewN ?_ _ | refine blk_drew ?_ | refine blk_alloc ?_ _)); exact BK261.out) hb); replace BK269 := Aside0.mk (blk_below (g := gb269) (o := .cells #[.int .i64 x270000_1, .int .i64 x270001_1] 53 (0, 0)) (by (with_reducible repeat (first | refine blk_drewN ?_ _ | refine blk_drew ?_ | refine blk_alloc ?_ _)); refine blk_far ?_ NB269_271.out _; (with_reducible repeat (first | refine blk_drewN ?_ _ | refine blk_drew ?_ | refine blk_alloc ?_ _)); refine blk_far ?_ NB269_271.out _; (with_reducible repeat (first | refine blk_drewN ?_ _ | refine blk_drew ?_ | refine blk_alloc ?_ _)); exact BK269.out) hb); replace BK271 := Aside0.mk (blk_below (g := gb271) (o := .cells #[.int .i64 ((rd_T53 t263 x36_1).f0), .int .i64 ((rd_T53 t263 x36_1).f1)] 53 (0, 0)) (by (with_reducible repeat (first | refine blk_drewN ?_ _ | refine blk_drew ?_ | refine blk_alloc ?_ _)); refine blk_put (cs := #[.int .i64 ((rd_T53 t263 x36_1).f0), .int .i64 0]) ?_ 1 _ rfl; (with_reducible repeat (first | refine blk_drewN ?_ _ | refine blk_drew ?_ | refine blk_alloc ?_ _)); refine blk_put (cs := #[.int .i64 0, .int .i64 0]) ?_ 0 _ rfl; (with_reducible repeat (first | refine blk_drewN ?_ _ | refine blk_drew ?_ | refine blk_alloc ?_ _)); exact BK271.out) hb); replace HB := kh hb; (try clear hb); (try clear hb2); (try clear hk); (try clear hi)) | ((with_reducible refine gate_dst (N := 13) rfl ?_); refine bx 13 #[.int .i64 0, .int .i64 0] 53 ?_; intro gb275 hg w84 hbox hb; have BK275 := Aside0.mk (hbox); have GW275 := Aside0.mk (bz hg); have GE275 := GW275; have NB260_275 := Aside0.mk (bn gb260 hg); have NB275_260 := sy NB260_275; have NB261_275 := Aside0.mk (bn gb261 hg); have NB275_261 := sy NB261_275; have NB269_275 := Aside0.mk (bn gb269 hg); have NB275_269 := sy NB269_275; have NB271_275 := Aside0.mk (bn gb271 hg); have NB275_271 := sy NB271_275; replace HO_34 := Aside0.mk (Kd.R_below (Kd.R_elderB (by (with_reducible repeat (first | apply Kd.R_alloc | apply Kd.R_drewN | apply Kd.R_drew)); exact HO_34.out) gb275 (Nat.le_of_eq hg.symm)) hb); replace BK260 := kb BK260 hb; replace BK261 := kb BK261 hb; replace BK269 := kb BK269 hb; replace BK271 := kb BK271 hb; replace HB := kh hb; clear hb hbox hg; have hnb85 := NB275_260.out; have hnc85 := NB260_275.out; have hnb86 := NB275_261.out; have hnc86 := NB261_275.out; have hnb87 := NB275_269.out; have hnc87 := NB269_275.out; have hnb88 := NB275_271.out; have hnc88 := NB271_275.out; obtain ⟨hcz89_0, hcz89_1, hfz89_0, hfz89_1⟩ := b2 BK275; have hnb90 := NB261_260.out; have hnc90 := NB260_261.out; have hnb91 := NB261_269.out; have hnc91 := NB269_261.out; obtain ⟨hcz92_0, hcz92_1, hfz92_0, hfz92_1⟩ := b2 BK261))
         refine bodyPost_ret (results_ct rfl _ _ gb261 53 #[.int .i64 0, .int .i64 0] (0, 0) _ rfl (by (with_reducible repeat (first | refine blk_drewN ?_ _ | refine blk_drew ?_ | refine blk_alloc ?_ _)); refine blk_put (cs := #[.int .i64 0, .int .i64 x262001_1]) ?_ 1 _ rfl; (with_reducible repeat (first | refine blk_drewN ?_ _ | refine blk_drew ?_ | refine blk_alloc ?_ _)); refine blk_put (cs := #[.int .i64 x262000_1, .int .i64 x262001_1]) ?_ 0 _ rfl; (with_reducible repeat (first | refine blk_drewN ?_ _ | refine blk_drew ?_ | refine blk_alloc ?_ _)); refine blk_far ?_ NB261_275.out _; (with_reducible repeat (first | refine blk_drewN ?_ _ | refine blk_drew ?_ | refine blk_alloc ?_ _)); refine blk_far ?_ NB261_275.out _; (with_reducible repeat (first | refine blk_drewN ?_ _ | refine blk_drew ?_ | refine blk_alloc ?_ _)); exact BK261.out) Try.underlying53 rfl (by kernel_rfl)) rfl ?_
         exact ⟨rt, bl⟩
       ·rw [if_neg c24] at H
        exact absurd H (by simp)
      ·rw [if_neg c23] at H
       exact absurd H (by simp)
     ·rw [if_neg c22] at H
      have c22b0 : decide (x36_1 < (t263.length : Int)) = false := decide_eq_false c22
      clear c22
      simp only [Option.some.injEq, Prod.mk.injEq] at H
      obtain ⟨rfl, rfl, rfl⟩ := H
      have hnb93 := NB269_260.out
      have hnc93 := NB260_269.out
      have hnb94 := NB269_261.out
      have hnc94 := NB261_269.out
      obtain ⟨hcz95_0, hcz95_1, hfz95_0, hfz95_1⟩ := b2 BK269
      have hnb96 := NB261_260.out
      have hnc96 := NB260_261.out
      obtain ⟨hcz97_0, hcz97_1, hfz97_0, hfz97_1⟩ := b2 BK261
      go_wp2
      refine bodyPost_ret (results_ct rfl _ _ gb261 53 #[.int .i64 x270000_1, .int .i64 x270001_1] (0, 0) _ rfl (by (with_reducible repeat (first | refine blk_drewN ?_ _ | refine blk_drew ?_ | refine blk_alloc ?_ _)); refine blk_put (cs := #[.int .i64 x270000_1, .int .i64 x262001_1]) ?_ 1 _ rfl; (with_reducible repeat (first | refine blk_drewN ?_ _ | refine blk_drew ?_ | refine blk_alloc ?_ _)); refine blk_put (cs := #[.int .i64 x262000_1, .int .i64 x262001_1]) ?_ 0 _ rfl; (with_reducible repeat (first | refine blk_drewN ?_ _ | refine blk_drew ?_ | refine blk_alloc ?_ _)); exact BK261.out) Try.underlying53 rfl (by kernel_rfl)) rfl ?_
      exact ⟨rt, bl⟩
  ·replace c7 := Bool.eq_false_iff.mpr c7
   subst c7
   have H1 : (some (0, 0, false)) = some (r1, r2, r3) := by rw [if_neg (show ¬ (false = true) by decide)] at H; exact H
   clear H
   have H := H1
   clear H1
   simp only [Option.some.injEq, Prod.mk.injEq] at H
   obtain ⟨rfl, rfl, rfl⟩ := H
   go_enter Try.func62, Try.ntmps62
   go_wp2_with (first | ((with_reducible refine gate_dst (N := 4) rfl ?_); refine bx 4 #[.int .i64 a1_0, .int .i64 a1_1] 53 ?_; intro gb260 hg w98 hbox hb; have BK260 := Aside0.mk (hbox); have GW260 := Aside0.mk (bz hg); have GE260 := GW260; replace HB := kh hb; clear hb hbox hg) | ((with_reducible refine gate_dst (N := 6) rfl ?_); refine bx 6 #[.int .i64 0, .int .i64 0] 53 ?_; intro gb261 hg w99 hbox hb; have BK261 := Aside0.mk (hbox); have GW261 := Aside0.mk (bz hg); have GE261 := GW261; have NB260_261 := Aside0.mk (bn gb260 hg); have NB261_260 := sy NB260_261; replace BK260 := kb BK260 hb; replace HB := kh hb; clear hb hbox hg; have hnb100 := NB260_261.out; have hnc100 := NB261_260.out; obtain ⟨hcz101_0, hcz101_1, hfz101_0, hfz101_1⟩ := b2 BK260) | ((with_reducible refine gate_callee (f := 78) rfl ?_); refine gl 20 Try.func78 #[.slice A0 l0.length c0, .agg #[.int .i64 a1_0, .int .i64 a1_1], .int .i64 a2] ?_; (with_reducible refine (spec_orAsked.calls k _ _ l0 a1_0 a1_1 a2 true _ ?side1 ?side2 A4.out).mono ?_); (case side1 => repeat (first | exact (Kd.C_below HR0.out HB.out) | (with_reducible refine Kd.C_alloc ?_ _) | (with_reducible refine Kd.C_drewN ?_ _) | (with_reducible refine Kd.C_drew ?_))); (case side2 => exact HC0.out); rintro e w102 ⟨rfl, hb⟩; refine ⟨_, rfl, ?_⟩; replace BK260 := kb BK260 hb; replace BK261 := kb BK261 hb; replace HB := kh hb; (try clear hb); (try clear hb2); (try clear hk); (try clear hi); obtain ⟨hcz103_0, hcz103_1, hfz103_0, hfz103_1⟩ := b2 BK260) | ((with_reducible refine gate_callee (f := 79) rfl ?_); refine gl 27 Try.func79 #[.slice A0 l0.length c0, .agg #[.int .i64 a1_0, .int .i64 a1_1], .int .i64 a2] ?_; (with_reducible refine (spec_orCycle.calls k _ _ l0 a1_0 a1_1 a2 t263 false _ ?side1 ?side2 A6.out).mono ?_); (case side1 => repeat (first | exact (Kd.C_below HR0.out HB.out) | (with_reducible refine Kd.C_alloc ?_ _) | (with_reducible refine Kd.C_drewN ?_ _) | (with_reducible refine Kd.C_drew ?_))); (case side2 => exact HC0.out); rintro e w104 ⟨v264, rfl, ho0, hb⟩; refine ⟨_, rfl, ?_⟩; have HO265 := Aside0.mk (Kd.R_lower (Kd.R_newB (Kd.R_newB ho0 (g := gb260) (o := .cells #[.int .i64 a1_0, .int .i64 a1_1] 53 (0, 0)) (bo gb260)) (g := gb261) (o := .cells #[.int .i64 0, .int .i64 0] 53 (0, 0)) (bo gb261)) (below_size bl)); replace BK260 := kb BK260 hb; replace BK261 := kb BK261 hb; replace HB := kh hb; (try clear hb); (try clear hb2); (try clear hk); (try clear hi); (try clear ho0); obtain ⟨hcz105_0, hcz105_1, hfz105_0, hfz105_1⟩ := b2 BK261))
   refine bodyPost_ret (results_ct rfl _ _ gb261 53 #[.int .i64 0, .int .i64 0] (0, 0) _ rfl (by (with_reducible repeat (first | refine blk_drewN ?_ _ | refine blk_drew ?_ | refine blk_alloc ?_ _)); refine blk_put (cs := #[.int .i64 0, .int .i64 0]) ?_ 1 _ rfl; (with_reducible repeat (first | refine blk_drewN ?_ _ | refine blk_drew ?_ | refine blk_alloc ?_ _)); refine blk_put (cs := #[.int .i64 0, .int .i64 0]) ?_ 0 _ rfl; (with_reducible repeat (first | refine blk_drewN ?_ _ | refine blk_drew ?_ | refine blk_alloc ?_ _)); exact BK261.out) Try.underlying53 rfl (by kernel_rfl)) rfl ?_
   exact ⟨rt, bl⟩
 ·replace c5 := Bool.eq_false_iff.mpr c5
  subst c5
  have H1 : (some (0, 0, false)) = some (r1, r2, r3) := by rw [if_neg (show ¬ (false = true) by decide)] at H; exact H
  clear H
  have H := H1
  clear H1
  simp only [Option.some.injEq, Prod.mk.injEq] at H
  obtain ⟨rfl, rfl, rfl⟩ := H
  go_enter Try.func62, Try.ntmps62
  go_wp2_with (first | ((with_reducible refine gate_dst (N := 4) rfl ?_); refine bx 4 #[.int .i64 a1_0, .int .i64 a1_1] 53 ?_; intro gb260 hg w106 hbox hb; have BK260 := Aside0.mk (hbox); have GW260 := Aside0.mk (bz hg); have GE260 := GW260; replace HB := kh hb; clear hb hbox hg) | ((with_reducible refine gate_dst (N := 6) rfl ?_); refine bx 6 #[.int .i64 0, .int .i64 0] 53 ?_; intro gb261 hg w107 hbox hb; have BK261 := Aside0.mk (hbox); have GW261 := Aside0.mk (bz hg); have GE261 := GW261; have NB260_261 := Aside0.mk (bn gb260 hg); have NB261_260 := sy NB260_261; replace BK260 := kb BK260 hb; replace HB := kh hb; clear hb hbox hg; have hnb108 := NB260_261.out; have hnc108 := NB261_260.out; obtain ⟨hcz109_0, hcz109_1, hfz109_0, hfz109_1⟩ := b2 BK260) | ((with_reducible refine gate_callee (f := 78) rfl ?_); refine gl 20 Try.func78 #[.slice A0 l0.length c0, .agg #[.int .i64 a1_0, .int .i64 a1_1], .int .i64 a2] ?_; (with_reducible refine (spec_orAsked.calls k _ _ l0 a1_0 a1_1 a2 false _ ?side1 ?side2 A4.out).mono ?_); (case side1 => repeat (first | exact (Kd.C_below HR0.out HB.out) | (with_reducible refine Kd.C_alloc ?_ _) | (with_reducible refine Kd.C_drewN ?_ _) | (with_reducible refine Kd.C_drew ?_))); (case side2 => exact HC0.out); rintro e w110 ⟨rfl, hb⟩; refine ⟨_, rfl, ?_⟩; replace BK260 := kb BK260 hb; replace BK261 := kb BK261 hb; replace HB := kh hb; (try clear hb); (try clear hb2); (try clear hk); (try clear hi); obtain ⟨hcz111_0, hcz111_1, hfz111_0, hfz111_1⟩ := b2 BK261))
  refine bodyPost_ret (results_ct rfl _ _ gb261 53 #[.int .i64 0, .int .i64 0] (0, 0) _ rfl (by (with_reducible repeat (first | refine blk_drewN ?_ _ | refine blk_drew ?_ | refine blk_alloc ?_ _)); refine blk_put (cs := #[.int .i64 0, .int .i64 0]) ?_ 1 _ rfl; (with_reducible repeat (first | refine blk_drewN ?_ _ | refine blk_drew ?_ | refine blk_alloc ?_ _)); refine blk_put (cs := #[.int .i64 0, .int .i64 0]) ?_ 0 _ rfl; (with_reducible repeat (first | refine blk_drewN ?_ _ | refine blk_drew ?_ | refine blk_alloc ?_ _)); exact BK261.out) Try.underlying53 rfl (by kernel_rfl)) rfl ?_
  exact ⟨rt, bl⟩

/-! ### spec_IsRepelling: function 34 -/
def spec_IsRepelling.f (k : Nat) (l0 : List (S73)) (a1_0 : Int) (a1_1 : Int) (a2 : Int) : Option (Bool × Bool) := (spec_MultiplierAt.f k l0 a1_0 a1_1 a2).bind fun bt281 => (if bt281.2.2 = true then ((spec_l1Abs.f bt281.1).bind fun t285 => (some (decide (t285 > bt281.2.1), true))) else (some (false, false)))
set_option maxHeartbeats 8000000 in
set_option maxRecDepth 100000 in
theorem spec_IsRepelling.calls (k : Nat) (A0 : Option Addr) (c0 : Nat) (l0 : List (S73)) (a1_0 : Int) (a1_1 : Int) (a2 : Int) (r1 : Bool) (r2 : Bool) (w : World) (hr0 : Kd.C k73 w A0 l0.length l0) (hc0 : l0.length ≤ c0) (h : spec_IsRepelling.f k l0 a1_0 a1_1 a2 = some (r1, r2)) :
  Calls Try.prog 34 #[.slice A0 l0.length c0, .agg #[.int .i64 a1_0, .int .i64 a1_1], .int .i64 a2] w fun e w' => e = .returned (.tuple #[.bool r1, .bool r2]) ∧ Below w.heap.size w w' := by
 have hu53 := Try.underlying53
 have HR0 := Aside0.mk hr0
 have HC0 := Aside0.mk hc0
 clear hr0 hc0
 have HB := Aside0.mk (Below.refl w.heap.size w)
 have H : ((spec_MultiplierAt.f k l0 a1_0 a1_1 a2).bind fun bt281 => (if bt281.2.2 = true then ((spec_l1Abs.f bt281.1).bind fun t285 => (some (decide (t285 > bt281.2.1), true))) else (some (false, false)))) = some (r1, r2) := h
 clear h
 replace H := Option.bind_eq_some_iff.mp H
 obtain ⟨⟨t281, t282, t283⟩, A40, H⟩ := H
 replace H : (if t283 = true then ((spec_l1Abs.f t281).bind fun t285 => (some (decide (t285 > t282), true))) else (some (false, false))) = some (r1, r2) := H
 have A4 := Aside0.mk A40
 clear A40
 by_cases c5 : t283 = true
 ·subst c5
  have H1 : ((spec_l1Abs.f t281).bind fun t285 => (some (decide (t285 > t282), true))) = some (r1, r2) := by rw [if_pos rfl] at H; exact H
  clear H
  have H := H1
  clear H1
  replace H := Option.bind_eq_some_iff.mp H
  obtain ⟨t285, A60, H⟩ := H
  replace H : (some (decide (t285 > t282), true)) = some (r1, r2) := H
  have A6 := Aside0.mk A60
  clear A60
  simp only [Option.some.injEq, Prod.mk.injEq] at H
  obtain ⟨rfl, rfl⟩ := H
  go_enter Try.func34, Try.ntmps34
  go_wp2_with (first | ((with_reducible refine gate_dst (N := 4) rfl ?_); refine bx 4 #[.int .i64 a1_0, .int .i64 a1_1] 53 ?_; intro gb280 hg w7 hbox hb; have BK280 := Aside0.mk (hbox); have GW280 := Aside0.mk (bz hg); have GE280 := GW280; replace HB := kh hb; clear hb hbox hg; obtain ⟨hcz8_0, hcz8_1, hfz8_0, hfz8_1⟩ := b2 BK280) | (go_at_call 62; (with_reducible refine (spec_MultiplierAt.calls k _ _ l0 a1_0 a1_1 a2 t281 t282 true _ ?side1 ?side2 A4.out).mono ?_); (case side1 => repeat (first | exact (Kd.C_below HR0.out HB.out) | (with_reducible refine Kd.C_alloc ?_ _) | (with_reducible refine Kd.C_drewN ?_ _) | (with_reducible refine Kd.C_drew ?_))); (case side2 => exact HC0.out); rintro e w9 ⟨rfl, hb⟩; replace BK280 := kb BK280 hb; replace HB := kh hb; (try clear hb); (try clear hb2); (try clear hk); (try clear hi)) | ((with_reducible refine gate_dst (N := 8) rfl ?_); refine bx 8 #[.int .i64 0, .int .i64 0] 53 ?_; intro gb284 hg w10 hbox hb; have BK284 := Aside0.mk (hbox); have GW284 := Aside0.mk (bz hg); have GE284 := GW284; have NB280_284 := Aside0.mk (bn gb280 hg); have NB284_280 := sy NB280_284; replace BK280 := kb BK280 hb; replace HB := kh hb; clear hb hbox hg; have hnb11 := NB284_280.out; have hnc11 := NB280_284.out; obtain ⟨hcz12_0, hcz12_1, hfz12_0, hfz12_1⟩ := b2 BK284) | (go_at_call 63; (with_reducible refine (spec_l1Abs.calls t281 t285 _ A6.out).mono ?_); rintro e w' ⟨rfl, ⟨nd, rfl⟩⟩; (try first | exact ⟨rfl, _, World.drewN_drewN _ _ _⟩ | exact ⟨rfl, _, Eq.trans (World.drewN_drewN _ _ _) (congrArg (World.drewN _) (Nat.add_assoc _ _ _))⟩)))
  repeat (go_quiet (first | ((with_reducible refine gate_dst (N := 4) rfl ?_); refine bx 4 #[.int .i64 a1_0, .int .i64 a1_1] 53 ?_; intro gb280 hg w7 hbox hb; have BK280 := Aside0.mk (hbox); have GW280 := Aside0.mk (bz hg); have GE280 := GW280; replace HB := kh hb; clear hb hbox hg; obtain ⟨hcz8_0, hcz8_1, hfz8_0, hfz8_1⟩ := b2 BK280) | (go_at_call 62; (with_reducible refine (spec_MultiplierAt.calls k _ _ l0 a1_0 a1_1 a2 t281 t282 true _ ?side1 ?side2 A4.out).mono ?_); (case side1 => repeat (first | exact (Kd.C_below HR0.out HB.out) | (with_reducible refine Kd.C_alloc ?_ _) | (with_reducible refine Kd.C_drewN ?_ _) | (with_reducible refine Kd.C_drew ?_))); (case side2 => exact HC0.out); rintro e w9 ⟨rfl, hb⟩; replace BK280 := kb BK280 hb; replace HB := kh hb; (try clear hb); (try clear hb2); (try clear hk); (try clear hi)) | ((with_reducible refine gate_dst (N := 8) rfl ?_); refine bx 8 #[.int .i64 0, .int .i64 0] 53 ?_; intro gb284 hg w10 hbox hb; have BK284 := Aside0.mk (hbox); have GW284 := Aside0.mk (bz hg); have GE284 := GW284; have NB280_284 := Aside0.mk (bn gb280 hg); have NB284_280 := sy NB280_284; replace BK280 := kb BK280 hb; replace HB := kh hb; clear hb hbox hg; have hnb11 := NB284_280.out; have hnc11 := NB280_284.out; obtain ⟨hcz12_0, hcz12_1, hfz12_0, hfz12_1⟩ := b2 BK284) | (go_at_call 63; (with_reducible refine (spec_l1Abs.calls t281 t285 _ A6.out).mono ?_); rintro e w' ⟨rfl, ⟨nd, rfl⟩⟩; (try first | exact ⟨rfl, _, World.drewN_drewN _ _ _⟩ | exact ⟨rfl, _, Eq.trans (World.drewN_drewN _ _ _) (congrArg (World.drewN _) (Nat.add_assoc _ _ _))⟩))); try go_wp2_with (first | ((with_reducible refine gate_dst (N := 4) rfl ?_); refine bx 4 #[.int .i64 a1_0, .int .i64 a1_1] 53 ?_; intro gb280 hg w7 hbox hb; have BK280 := Aside0.mk (hbox); have GW280 := Aside0.mk (bz hg); have GE280 := GW280; replace HB := kh hb; clear hb hbox hg; obtain ⟨hcz8_0, hcz8_1, hfz8_0, hfz8_1⟩ := b2 BK280) | (go_at_call 62; (with_reducible refine (spec_MultiplierAt.calls k _ _ l0 a1_0 a1_1 a2 t281 t282 true _ ?side1 ?side2 A4.out).mono ?_); (case side1 => repeat (first | exact (Kd.C_below HR0.out HB.out) | (with_reducible refine Kd.C_alloc ?_ _) | (with_reducible refine Kd.C_drewN ?_ _) | (with_reducible refine Kd.C_drew ?_))); (case side2 => exact HC0.out); rintro e w9 ⟨rfl, hb⟩; replace BK280 := kb BK280 hb; replace HB := kh hb; (try clear hb); (try clear hb2); (try clear hk); (try clear hi)) | ((with_reducible refine gate_dst (N := 8) rfl ?_); refine bx 8 #[.int .i64 0, .int .i64 0] 53 ?_; intro gb284 hg w10 hbox hb; have BK284 := Aside0.mk (hbox); have GW284 := Aside0.mk (bz hg); have GE284 := GW284; have NB280_284 := Aside0.mk (bn gb280 hg); have NB284_280 := sy NB280_284; replace BK280 := kb BK280 hb; replace HB := kh hb; clear hb hbox hg; have hnb11 := NB284_280.out; have hnc11 := NB280_284.out; obtain ⟨hcz12_0, hcz12_1, hfz12_0, hfz12_1⟩ := b2 BK284) | (go_at_call 63; (with_reducible refine (spec_l1Abs.calls t281 t285 _ A6.out).mono ?_); rintro e w' ⟨rfl, ⟨nd, rfl⟩⟩; (try first | exact ⟨rfl, _, World.drewN_drewN _ _ _⟩ | exact ⟨rfl, _, Eq.trans (World.drewN_drewN _ _ _) (congrArg (World.drewN _) (Nat.add_assoc _ _ _))⟩))))
  go_ret2
  exact ⟨rt, bl⟩
 ·replace c5 := Bool.eq_false_iff.mpr c5
  subst c5
  have H1 : (some (false, false)) = some (r1, r2) := by rw [if_neg (show ¬ (false = true) by decide)] at H; exact H
  clear H
  have H := H1
  clear H1
  simp only [Option.some.injEq, Prod.mk.injEq] at H
  obtain ⟨rfl, rfl⟩ := H
  go_enter Try.func34, Try.ntmps34
  go_wp2_with (first | ((with_reducible refine gate_dst (N := 4) rfl ?_); refine bx 4 #[.int .i64 a1_0, .int .i64 a1_1] 53 ?_; intro gb280 hg w13 hbox hb; have BK280 := Aside0.mk (hbox); have GW280 := Aside0.mk (bz hg); have GE280 := GW280; replace HB := kh hb; clear hb hbox hg; obtain ⟨hcz14_0, hcz14_1, hfz14_0, hfz14_1⟩ := b2 BK280) | (go_at_call 62; (with_reducible refine (spec_MultiplierAt.calls k _ _ l0 a1_0 a1_1 a2 t281 t282 false _ ?side1 ?side2 A4.out).mono ?_); (case side1 => repeat (first | exact (Kd.C_below HR0.out HB.out) | (with_reducible refine Kd.C_alloc ?_ _) | (with_reducible refine Kd.C_drewN ?_ _) | (with_reducible refine Kd.C_drew ?_))); (case side2 => exact HC0.out); rintro e w15 ⟨rfl, hb⟩; replace BK280 := kb BK280 hb; replace HB := kh hb; (try clear hb); (try clear hb2); (try clear hk); (try clear hi)) | ((with_reducible refine gate_dst (N := 8) rfl ?_); refine bx 8 #[.int .i64 0, .int .i64 0] 53 ?_; intro gb284 hg w16 hbox hb; have BK284 := Aside0.mk (hbox); have GW284 := Aside0.mk (bz hg); have GE284 := GW284; have NB280_284 := Aside0.mk (bn gb280 hg); have NB284_280 := sy NB280_284; replace BK280 := kb BK280 hb; replace HB := kh hb; clear hb hbox hg; have hnb17 := NB284_280.out; have hnc17 := NB280_284.out; obtain ⟨hcz18_0, hcz18_1, hfz18_0, hfz18_1⟩ := b2 BK284))
  repeat (go_quiet (first | ((with_reducible refine gate_dst (N := 4) rfl ?_); refine bx 4 #[.int .i64 a1_0, .int .i64 a1_1] 53 ?_; intro gb280 hg w13 hbox hb; have BK280 := Aside0.mk (hbox); have GW280 := Aside0.mk (bz hg); have GE280 := GW280; replace HB := kh hb; clear hb hbox hg; obtain ⟨hcz14_0, hcz14_1, hfz14_0, hfz14_1⟩ := b2 BK280) | (go_at_call 62; (with_reducible refine (spec_MultiplierAt.calls k _ _ l0 a1_0 a1_1 a2 t281 t282 false _ ?side1 ?side2 A4.out).mono ?_); (case side1 => repeat (first | exact (Kd.C_below HR0.out HB.out) | (with_reducible refine Kd.C_alloc ?_ _) | (with_reducible refine Kd.C_drewN ?_ _) | (with_reducible refine Kd.C_drew ?_))); (case side2 => exact HC0.out); rintro e w15 ⟨rfl, hb⟩; replace BK280 := kb BK280 hb; replace HB := kh hb; (try clear hb); (try clear hb2); (try clear hk); (try clear hi)) | ((with_reducible refine gate_dst (N := 8) rfl ?_); refine bx 8 #[.int .i64 0, .int .i64 0] 53 ?_; intro gb284 hg w16 hbox hb; have BK284 := Aside0.mk (hbox); have GW284 := Aside0.mk (bz hg); have GE284 := GW284; have NB280_284 := Aside0.mk (bn gb280 hg); have NB284_280 := sy NB280_284; replace BK280 := kb BK280 hb; replace HB := kh hb; clear hb hbox hg; have hnb17 := NB284_280.out; have hnc17 := NB280_284.out; obtain ⟨hcz18_0, hcz18_1, hfz18_0, hfz18_1⟩ := b2 BK284)); try go_wp2_with (first | ((with_reducible refine gate_dst (N := 4) rfl ?_); refine bx 4 #[.int .i64 a1_0, .int .i64 a1_1] 53 ?_; intro gb280 hg w13 hbox hb; have BK280 := Aside0.mk (hbox); have GW280 := Aside0.mk (bz hg); have GE280 := GW280; replace HB := kh hb; clear hb hbox hg; obtain ⟨hcz14_0, hcz14_1, hfz14_0, hfz14_1⟩ := b2 BK280) | (go_at_call 62; (with_reducible refine (spec_MultiplierAt.calls k _ _ l0 a1_0 a1_1 a2 t281 t282 false _ ?side1 ?side2 A4.out).mono ?_); (case side1 => repeat (first | exact (Kd.C_below HR0.out HB.out) | (with_reducible refine Kd.C_alloc ?_ _) | (with_reducible refine Kd.C_drewN ?_ _) | (with_reducible refine Kd.C_drew ?_))); (case side2 => exact HC0.out); rintro e w15 ⟨rfl, hb⟩; replace BK280 := kb BK280 hb; replace HB := kh hb; (try clear hb); (try clear hb2); (try clear hk); (try clear hi)) | ((with_reducible refine gate_dst (N := 8) rfl ?_); refine bx 8 #[.int .i64 0, .int .i64 0] 53 ?_; intro gb284 hg w16 hbox hb; have BK284 := Aside0.mk (hbox); have GW284 := Aside0.mk (bz hg); have GE284 := GW284; have NB280_284 := Aside0.mk (bn gb280 hg); have NB284_280 := sy NB280_284; replace BK280 := kb BK280 hb; replace HB := kh hb; clear hb hbox hg; have hnb17 := NB284_280.out; have hnc17 := NB280_284.out; obtain ⟨hcz18_0, hcz18_1, hfz18_0, hfz18_1⟩ := b2 BK284)))
  go_ret2
  exact ⟨rt, bl⟩

/-! ### laws_toRat: function 36 -/
def laws_toRat.f (a0_0 : Int) (a0_1 : Int) : Option (Int × Int) := some (a0_0, a0_1)
set_option maxHeartbeats 8000000 in
set_option maxRecDepth 100000 in
theorem laws_toRat.calls (a0_0 : Int) (a0_1 : Int) (r1 : Int) (r2 : Int) (w : World) (h : laws_toRat.f a0_0 a0_1 = some (r1, r2)) :
  Calls Try.prog 36 #[.agg #[.int .i64 a0_0, .int .i64 a0_1]] w fun e w' => e = .returned (.agg #[.int .i64 r1, .int .i64 r2]) ∧ Below w.heap.size w w' := by
 have hu48 := Try.underlying48
 have hu53 := Try.underlying53
 have HB := Aside0.mk (Below.refl w.heap.size w)
 have H : (some (a0_0, a0_1)) = some (r1, r2) := h
 clear h
 simp only [Option.some.injEq, Prod.mk.injEq] at H
 obtain ⟨rfl, rfl⟩ := H
 go_enter Try.func36, Try.ntmps36
 go_wp2_with (first | ((with_reducible refine gate_dst (N := 1) rfl ?_); refine bx 1 #[.int .i64 a0_0, .int .i64 a0_1] 48 ?_; intro gb286 hg w2 hbox hb; have BK286 := Aside0.mk (hbox); have GW286 := Aside0.mk (bz hg); have GE286 := GW286; replace HB := kh hb; clear hb hbox hg) | ((with_reducible refine gate_dst (N := 2) rfl ?_); refine bx 2 #[.int .i64 0, .int .i64 0] 53 ?_; intro gb287 hg w3 hbox hb; have BK287 := Aside0.mk (hbox); have GW287 := Aside0.mk (bz hg); have GE287 := GW287; have NB286_287 := Aside0.mk (bn gb286 hg); have NB287_286 := sy NB286_287; replace BK286 := kb BK286 hb; replace HB := kh hb; clear hb hbox hg) | ((with_reducible refine gate_dst (N := 3) rfl ?_); refine bx 3 #[.int .i64 0, .int .i64 0] 53 ?_; intro gb288 hg w4 hbox hb; have BK288 := Aside0.mk (hbox); have GW288 := Aside0.mk (bz hg); have GE288 := GW288; have NB286_288 := Aside0.mk (bn gb286 hg); have NB288_286 := sy NB286_288; have NB287_288 := Aside0.mk (bn gb287 hg); have NB288_287 := sy NB287_288; replace BK286 := kb BK286 hb; replace BK287 := kb BK287 hb; replace HB := kh hb; clear hb hbox hg; have hnb5 := NB286_287.out; have hnc5 := NB287_286.out; have hnb6 := NB286_288.out; have hnc6 := NB288_286.out; obtain ⟨hcz7_0, hcz7_1, hfz7_0, hfz7_1⟩ := b2 BK286; have hnb8 := NB288_287.out; have hnc8 := NB287_288.out; obtain ⟨hcz9_0, hcz9_1, hfz9_0, hfz9_1⟩ := b2 BK288; obtain ⟨hcz10_0, hcz10_1, hfz10_0, hfz10_1⟩ := b2 BK287))
 refine bodyPost_ret (results_cell_row rfl _ _ gb287 53 #[.int .i64 a0_0, .int .i64 a0_1] (0, 0) _ rfl (by (with_reducible repeat (first | refine blk_drewN ?_ _ | refine blk_drew ?_ | refine blk_alloc ?_ _)); refine blk_put (cs := #[.int .i64 a0_0, .int .i64 0]) ?_ 1 _ rfl; (with_reducible repeat (first | refine blk_drewN ?_ _ | refine blk_drew ?_ | refine blk_alloc ?_ _)); refine blk_put (cs := #[.int .i64 0, .int .i64 0]) ?_ 0 _ rfl; (with_reducible repeat (first | refine blk_drewN ?_ _ | refine blk_drew ?_ | refine blk_alloc ?_ _)); refine blk_far ?_ NB287_288.out _; (with_reducible repeat (first | refine blk_drewN ?_ _ | refine blk_drew ?_ | refine blk_alloc ?_ _)); refine blk_far ?_ NB287_288.out _; (with_reducible repeat (first | refine blk_drewN ?_ _ | refine blk_drew ?_ | refine blk_alloc ?_ _)); exact BK287.out) Try.underlying53 rfl (by kernel_rfl)) rfl ?_
 exact ⟨rt, bl⟩

/-! ### laws_toPoint: function 64 -/
def laws_toPoint.f (a0_0 : Int) (a0_1 : Int) (a0_2 : Int) (a0_3 : Int) : Option (Int × Int × Int × Int) := (laws_toRat.f a0_0 a0_1).bind fun bt292 => ((laws_toRat.f a0_2 a0_3).bind fun bt294 => (some (bt292.1, bt292.2, bt294.1, bt294.2)))
set_option maxHeartbeats 8000000 in
set_option maxRecDepth 100000 in
theorem laws_toPoint.calls (a0_0 : Int) (a0_1 : Int) (a0_2 : Int) (a0_3 : Int) (r1 : Int) (r2 : Int) (r3 : Int) (r4 : Int) (w : World) (h : laws_toPoint.f a0_0 a0_1 a0_2 a0_3 = some (r1, r2, r3, r4)) :
  Calls Try.prog 64 #[.agg #[.int .i64 a0_0, .int .i64 a0_1, .int .i64 a0_2, .int .i64 a0_3]] w fun e w' => e = .returned (.agg #[.int .i64 r1, .int .i64 r2, .int .i64 r3, .int .i64 r4]) ∧ Below w.heap.size w w' := by
 have hu76 := Try.underlying76
 have hu73 := Try.underlying73
 have hu48 := Try.underlying48
 have hu53 := Try.underlying53
 have HB := Aside0.mk (Below.refl w.heap.size w)
 have H : ((laws_toRat.f a0_0 a0_1).bind fun bt292 => ((laws_toRat.f a0_2 a0_3).bind fun bt294 => (some (bt292.1, bt292.2, bt294.1, bt294.2)))) = some (r1, r2, r3, r4) := h
 clear h
 replace H := Option.bind_eq_some_iff.mp H
 obtain ⟨⟨t292, t293⟩, A20, H⟩ := H
 replace H : ((laws_toRat.f a0_2 a0_3).bind fun bt294 => (some (t292, t293, bt294.1, bt294.2))) = some (r1, r2, r3, r4) := H
 have A2 := Aside0.mk A20
 clear A20
 replace H := Option.bind_eq_some_iff.mp H
 obtain ⟨⟨t294, t295⟩, A30, H⟩ := H
 replace H : (some (t292, t293, t294, t295)) = some (r1, r2, r3, r4) := H
 have A3 := Aside0.mk A30
 clear A30
 simp only [Option.some.injEq, Prod.mk.injEq] at H
 obtain ⟨rfl, rfl, rfl, rfl⟩ := H
 go_enter Try.func64, Try.ntmps64
 go_wp2_with (first | ((with_reducible refine gate_dst (N := 1) rfl ?_); refine bx 1 #[.int .i64 a0_0, .int .i64 a0_1, .int .i64 a0_2, .int .i64 a0_3] 76 ?_; intro gb289 hg w4 hbox hb; have BK289 := Aside0.mk (hbox); have GW289 := Aside0.mk (bz hg); have GE289 := GW289; replace HB := kh hb; clear hb hbox hg) | ((with_reducible refine gate_dst (N := 2) rfl ?_); refine bx 2 #[.int .i64 0, .int .i64 0, .int .i64 0, .int .i64 0] 73 ?_; intro gb290 hg w5 hbox hb; have BK290 := Aside0.mk (hbox); have GW290 := Aside0.mk (bz hg); have GE290 := GW290; have NB289_290 := Aside0.mk (bn gb289 hg); have NB290_289 := sy NB289_290; replace BK289 := kb BK289 hb; replace HB := kh hb; clear hb hbox hg) | ((with_reducible refine gate_dst (N := 3) rfl ?_); refine bx 3 #[.int .i64 0, .int .i64 0, .int .i64 0, .int .i64 0] 73 ?_; intro gb291 hg w6 hbox hb; have BK291 := Aside0.mk (hbox); have GW291 := Aside0.mk (bz hg); have GE291 := GW291; have NB289_291 := Aside0.mk (bn gb289 hg); have NB291_289 := sy NB289_291; have NB290_291 := Aside0.mk (bn gb290 hg); have NB291_290 := sy NB290_291; replace BK289 := kb BK289 hb; replace BK290 := kb BK290 hb; replace HB := kh hb; clear hb hbox hg; have hnb7 := NB289_290.out; have hnc7 := NB290_289.out; have hnb8 := NB289_291.out; have hnc8 := NB291_289.out; obtain ⟨hcz9_0, hcz9_1, hcz9_2, hcz9_3, hfz9_0, hfz9_1, hfz9_2, hfz9_3⟩ := b4 BK289) | ((with_reducible refine gate_callee (f := 36) rfl ?_); refine gl 6 Try.func36 #[.agg #[.int .i64 a0_0, .int .i64 a0_1]] ?_; (with_reducible refine (laws_toRat.calls a0_0 a0_1 t292 t293 _ A2.out).mono ?_); rintro e w10 ⟨rfl, hb⟩; refine ⟨_, rfl, ?_⟩; replace BK289 := kb BK289 hb; replace BK290 := kb BK290 hb; replace BK291 := kb BK291 hb; replace HB := kh hb; (try clear hb); (try clear hb2); (try clear hk); (try clear hi); have hnb11 := NB291_290.out; have hnc11 := NB290_291.out; obtain ⟨hcz12_0, hcz12_1, hcz12_2, hcz12_3, hfz12_0, hfz12_1, hfz12_2, hfz12_3⟩ := b4 BK291; obtain ⟨hcz13_0, hcz13_1, hcz13_2, hcz13_3, hfz13_0, hfz13_1, hfz13_2, hfz13_3⟩ := b4 BK289) | ((with_reducible refine gate_callee (f := 36) rfl ?_); refine gl 10 Try.func36 #[.agg #[.int .i64 a0_2, .int .i64 a0_3]] ?_; (with_reducible refine (laws_toRat.calls a0_2 a0_3 t294 t295 _ A3.out).mono ?_); rintro e w14 ⟨rfl, hb⟩; refine ⟨_, rfl, ?_⟩; replace BK289 := Aside0.mk (blk_below (g := gb289) (o := .cells #[.int .i64 a0_0, .int .i64 a0_1, .int .i64 a0_2, .int .i64 a0_3] 76 (0, 0)) (by (with_reducible repeat (first | refine blk_drewN ?_ _ | refine blk_drew ?_ | refine blk_alloc ?_ _)); refine blk_far ?_ NB289_291.out _; (with_reducible repeat (first | refine blk_drewN ?_ _ | refine blk_drew ?_ | refine blk_alloc ?_ _)); refine blk_far ?_ NB289_291.out _; (with_reducible repeat (first | refine blk_drewN ?_ _ | refine blk_drew ?_ | refine blk_alloc ?_ _)); exact BK289.out) hb); replace BK290 := Aside0.mk (blk_below (g := gb290) (o := .cells #[.int .i64 0, .int .i64 0, .int .i64 0, .int .i64 0] 73 (0, 0)) (by (with_reducible repeat (first | refine blk_drewN ?_ _ | refine blk_drew ?_ | refine blk_alloc ?_ _)); refine blk_far ?_ NB290_291.out _; (with_reducible repeat (first | refine blk_drewN ?_ _ | refine blk_drew ?_ | refine blk_alloc ?_ _)); refine blk_far ?_ NB290_291.out _; (with_reducible repeat (first | refine blk_drewN ?_ _ | refine blk_drew ?_ | refine blk_alloc ?_ _)); exact BK290.out) hb); replace BK291 := Aside0.mk (blk_below (g := gb291) (o := .cells #[.int .i64 t292, .int .i64 t293, .int .i64 0, .int .i64 0] 73 (0, 0)) (by (with_reducible repeat (first | refine blk_drewN ?_ _ | refine blk_drew ?_ | refine blk_alloc ?_ _)); refine blk_put (cs := #[.int .i64 t292, .int .i64 0, .int .i64 0, .int .i64 0]) ?_ 1 _ rfl; (with_reducible repeat (first | refine blk_drewN ?_ _ | refine blk_drew ?_ | refine blk_alloc ?_ _)); refine blk_put (cs := #[.int .i64 0, .int .i64 0, .int .i64 0, .int .i64 0]) ?_ 0 _ rfl; (with_reducible repeat (first | refine blk_drewN ?_ _ | refine blk_drew ?_ | refine blk_alloc ?_ _)); exact BK291.out) hb); replace HB := kh hb; (try clear hb); (try clear hb2); (try clear hk); (try clear hi); obtain ⟨hcz15_0, hcz15_1, hcz15_2, hcz15_3, hfz15_0, hfz15_1, hfz15_2, hfz15_3⟩ := b4 BK291; obtain ⟨hcz16_0, hcz16_1, hcz16_2, hcz16_3, hfz16_0, hfz16_1, hfz16_2, hfz16_3⟩ := b4 BK290))
 refine bodyPost_ret (results_cell_row rfl _ _ gb290 73 #[.int .i64 t292, .int .i64 t293, .int .i64 t294, .int .i64 t295] (0, 0) _ rfl (by (with_reducible repeat (first | refine blk_drewN ?_ _ | refine blk_drew ?_ | refine blk_alloc ?_ _)); refine blk_put (cs := #[.int .i64 t292, .int .i64 t293, .int .i64 t294, .int .i64 0]) ?_ 3 _ rfl; (with_reducible repeat (first | refine blk_drewN ?_ _ | refine blk_drew ?_ | refine blk_alloc ?_ _)); refine blk_put (cs := #[.int .i64 t292, .int .i64 t293, .int .i64 0, .int .i64 0]) ?_ 2 _ rfl; (with_reducible repeat (first | refine blk_drewN ?_ _ | refine blk_drew ?_ | refine blk_alloc ?_ _)); refine blk_put (cs := #[.int .i64 t292, .int .i64 0, .int .i64 0, .int .i64 0]) ?_ 1 _ rfl; (with_reducible repeat (first | refine blk_drewN ?_ _ | refine blk_drew ?_ | refine blk_alloc ?_ _)); refine blk_put (cs := #[.int .i64 0, .int .i64 0, .int .i64 0, .int .i64 0]) ?_ 0 _ rfl; (with_reducible repeat (first | refine blk_drewN ?_ _ | refine blk_drew ?_ | refine blk_alloc ?_ _)); refine blk_far ?_ NB290_291.out _; (with_reducible repeat (first | refine blk_drewN ?_ _ | refine blk_drew ?_ | refine blk_alloc ?_ _)); refine blk_far ?_ NB290_291.out _; (with_reducible repeat (first | refine blk_drewN ?_ _ | refine blk_drew ?_ | refine blk_alloc ?_ _)); exact BK290.out) Try.underlying73 rfl (by kernel_rfl)) rfl ?_
 exact ⟨rt, bl⟩

/-! ### laws_toPointS: function 35 -/
def laws_toPointS.l0 : Nat → List (S76) → List (S73) → Int → Option ((List (S73)))
 | 0, _, _, _ => none
 | k + 1, x0, x3, x4 => if x4 < (x0.length : Int) then (if 0 ≤ x4 then ((laws_toPoint.f ((rd_T76 x0 x4).f0.f0) ((rd_T76 x0 x4).f0.f1) ((rd_T76 x0 x4).f1.f0) ((rd_T76 x0 x4).f1.f1)).bind fun bt300 => (if x4 < (x3.length : Int) then (laws_toPointS.l0 k x0 (x3.set (x4 : Int).toNat (⟨(⟨bt300.1, bt300.2.1⟩ : S53), (⟨bt300.2.2.1, bt300.2.2.2⟩ : S53)⟩ : S73)) (wrap64 (x4 + 1))) else (none))) else (none)) else (some x3)
def laws_toPointS.f (k : Nat) (l0 : List (S76)) : Option ((List (S73))) := if 0 ≤ (l0.length : Int) then (if ((l0.length : Int) : Int).toNat ≤ 8796093022208 then (laws_toPointS.l0 k l0 (List.replicate ((l0.length : Int) : Int).toNat z73) 0) else (none)) else (none)
set_option maxHeartbeats 8000000 in
set_option maxRecDepth 100000 in
theorem laws_toPointS.calls (k : Nat) (A0 : Option Addr) (c0 : Nat) (l0 : List (S76)) (r : List (S73)) (w : World) (hr0 : Kd.C k76 w A0 l0.length l0) (hc0 : l0.length ≤ c0) (h : laws_toPointS.f k l0 = some r) :
  Calls Try.prog 35 #[.slice A0 l0.length c0] w fun e w' => ∃ v0_ : Value, e = .returned (v0_) ∧ Kd.R k73 73 w' w.heap.size (fun _ => True) v0_ r ∧ Below w.heap.size w w' := by
 have hu76 := Try.underlying76
 have hu73 := Try.underlying73
 have HR0 := Aside0.mk hr0
 have HC0 := Aside0.mk hc0
 clear hr0 hc0
 have HB := Aside0.mk (Below.refl w.heap.size w)
 have H : (if 0 ≤ (l0.length : Int) then (if ((l0.length : Int) : Int).toNat ≤ 8796093022208 then (laws_toPointS.l0 k l0 (List.replicate ((l0.length : Int) : Int).toNat z73) 0) else (none)) else (none)) = some r := h
 clear h
 by_cases c2 : 0 ≤ (l0.length : Int)
 ·rw [if_pos c2] at H
  have c2b0 := eq_true c2
  have c2b1 : decide (0 ≤ (l0.length : Int)) = true := decide_eq_true c2
  clear c2
  by_cases c3 : ((l0.length : Int) : Int).toNat ≤ 8796093022208
  ·rw [if_pos c3] at H
   have c3b0 := eq_true c3
   have c3b1 : decide (((l0.length : Int) : Int).toNat ≤ 8796093022208) = true := decide_eq_true c3
   clear c3
   obtain ⟨y296, hy296⟩ : ∃ y_ : List (S73), y_ = (List.replicate ((l0.length : Int) : Int).toNat z73) := ⟨_, rfl⟩
   replace H : (laws_toPointS.l0 k l0 y296 0) = some r := by first | (rw [hy296]; with_reducible exact H) | (have H2_ := (Option.bind_some _ _).symm.trans H; rw [hy296]; with_reducible exact H2_) | (have H2_ := (Option.bind_some _ _).symm.trans H; with_reducible exact H2_) | with_reducible exact H | (rw [hy296]; exact H) | exact H
   have Ny296 := Aside0.mk hy296
   clear hy296
   have H' := Aside0.mk H
   clear H
   go_enter Try.func35, Try.ntmps35
   go_wp2_with (first | ((with_reducible refine gate_dst (N := 7) rfl ?_); refine Kd.R_make k73 _ 73 rfl (N := 7) rfl 51 _ _ rfl (l0.length : Int) rfl rfl Try.underlying51 (.agg #[(.int .i64 0), (.int .i64 0), (.int .i64 0), (.int .i64 0)]) 32 info73 rfl (by decide) (by omega) z73 (ok := fun _ => True) (okp := fun _ => True) (k73_mkM _ _ _ z73 ) (fun _ hk => hk) trivial (da) (Nat.le_trans (Nat.mul_le_mul_right _ (da : (l0.length : Int).toNat ≤ 8796093022208)) (by omega)) (Below.refl _ _) (Nat.le_refl _) ?_; intro v297 w4 ho5 hb hg_ hnew_; clear hg_ hnew_; (first | rw [← Ny296.out] at ho5 | (simp only [Int.reduceToNat] at ho5; rw [← Ny296.out] at ho5)); have HO298 := Aside0.mk (Kd.R_lower ho5 (below_size bl)); replace HB := kh hb; clear hb ho5))
   go_loopg [4] k (fun kq v4 w' => ∃ (x3_1 : List (S73)) (x4_1 : Int), v4 = .int .i64 x4_1 ∧ Aside0 (laws_toPointS.l0 kq l0 x3_1 x4_1 = some r) ∧ Aside0 (kq ≤ k) ∧ Aside0 (Kd.R k73 73 w' w.heap.size (fun _ => True) v297 x3_1) ∧ Aside0 (Below w.heap.size w w'))
   case atStart => exact ⟨(y296), (0), rs, H', ⟨Nat.le_refl _⟩, ⟨by (with_reducible repeat (first | apply Kd.R_alloc | apply Kd.R_drewN | apply Kd.R_drew)); exact HO298.out⟩, ⟨bl⟩⟩
   case round =>
    clear H'
    try clear c2
    try clear c2b0
    try clear c2b1
    try clear p2
    try clear c3
    try clear c3b0
    try clear c3b1
    obtain ⟨x3_1, x4_1, rfl, HA, HK1, HO_3, HB⟩ := hrel
    cases gk with
    | zero => exact absurd HA.out (by simp [laws_toPointS.l0])
    | succ k1 =>
     have H := HA.out
     clear HA
     simp only [laws_toPointS.l0] at H
     by_cases c6 : x4_1 < (l0.length : Int)
     ·rw [if_pos c6] at H
      have c6b0 : decide (x4_1 < (l0.length : Int)) = true := decide_eq_true c6
      clear c6
      by_cases c7 : 0 ≤ x4_1
      ·rw [if_pos c7] at H
       have c7b0 : decide (0 ≤ x4_1) = true := decide_eq_true c7
       clear c7
       replace H := Option.bind_eq_some_iff.mp H
       obtain ⟨⟨t300, t301, t302, t303⟩, A80, H⟩ := H
       replace H : (if x4_1 < (x3_1.length : Int) then (laws_toPointS.l0 k1 l0 (x3_1.set (x4_1 : Int).toNat (⟨(⟨t300, t301⟩ : S53), (⟨t302, t303⟩ : S53)⟩ : S73)) (wrap64 (x4_1 + 1))) else (none)) = some r := H
       have A8 := Aside0.mk A80
       clear A80
       by_cases c9 : x4_1 < (x3_1.length : Int)
       ·rw [if_pos c9] at H
        have c9b0 : decide (x4_1 < (x3_1.length : Int)) = true := decide_eq_true c9
        clear c9
        obtain ⟨y304, hy304⟩ : ∃ y_ : List (S73), y_ = (x3_1.set (x4_1 : Int).toNat (⟨(⟨t300, t301⟩ : S53), (⟨t302, t303⟩ : S53)⟩ : S73)) := ⟨_, rfl⟩
        replace H : (laws_toPointS.l0 k1 l0 y304 (wrap64 (x4_1 + 1))) = some r := by first | (rw [hy304]; with_reducible exact H) | (have H2_ := (Option.bind_some _ _).symm.trans H; rw [hy304]; with_reducible exact H2_) | (have H2_ := (Option.bind_some _ _).symm.trans H; with_reducible exact H2_) | with_reducible exact H | (rw [hy304]; exact H) | exact H
        have Ny304 := Aside0.mk hy304
        clear hy304
        have H' := Aside0.mk H
        clear H
        have p299 : 0 ≤ (x4_1 : Int) := da
        have q299 : x4_1 < (l0.length : Int) := da
        obtain ⟨ad299, e299, hx299_0, hx299_1, hx299_2, hx299_3⟩ := at_T76 HR0.out x4_1 p299 q299
        cases e299
        replace hx299_0 := (hc HB hx299_0 :)
        replace hx299_1 := (hc HB hx299_1 :)
        replace hx299_2 := (hc HB hx299_2 :)
        replace hx299_3 := (hc HB hx299_3 :)
        replace p299 := eq_true p299
        replace q299 := eq_true q299
        go_wp2_with (first | ((with_reducible refine gate_callee (f := 64) rfl ?_); refine gl 20 Try.func64 #[.agg #[.int .i64 ((rd_T76 l0 x4_1).f0.f0), .int .i64 ((rd_T76 l0 x4_1).f0.f1), .int .i64 ((rd_T76 l0 x4_1).f1.f0), .int .i64 ((rd_T76 l0 x4_1).f1.f1)]] ?_; (with_reducible refine (laws_toPoint.calls ((rd_T76 l0 x4_1).f0.f0) ((rd_T76 l0 x4_1).f0.f1) ((rd_T76 l0 x4_1).f1.f0) ((rd_T76 l0 x4_1).f1.f1) t300 t301 t302 t303 _ A8.out).mono ?_); rintro e w11 ⟨rfl, hb⟩; refine ⟨_, rfl, ?_⟩; replace HO_3 := Aside0.mk (Kd.R_below (by (with_reducible repeat (first | apply Kd.R_alloc | apply Kd.R_drewN | apply Kd.R_drew)); exact HO_3.out) hb); replace HB := kh hb; (try clear hb); (try clear hb2); (try clear hk); (try clear hi); have p10 : 0 ≤ (x4_1 : Int) := da; have q10 : (x4_1 : Int) < ((x3_1.length : Int) : Int) := da; obtain ⟨go10, co10, eo10, gb10, gl10, cl10, HG10⟩ := Kd.R_form HO_3.out (by omega); (first | cases eo10 | (injection eo10 with ea_ en_ ec_; (first | subst ea_ | (injection ea_ with ea_; subst ea_)); subst ec_; clear en_)); have GB10 := Aside0.mk gb10; have GG10 := Aside0.mk HG10; clear gb10 gl10 HG10; obtain ⟨ce10, hcl10, hM10, hcc10, hfr10⟩ := Kd.R_elem HO_3.out z73 (x4_1 : Int) p10 q10; obtain rfl := k73_openM hM10; have hx10_0 : w11.cell? ⟨go10, (x4_1 : Int).toNat * 4, none⟩ = some (.int .i64 ((rd_T73 x3_1 x4_1).f0.f0)) := hcc10 0 _ rfl; have hx10_1 : w11.cell? ⟨go10, (x4_1 : Int).toNat * 4 + 1, none⟩ = some (.int .i64 ((rd_T73 x3_1 x4_1).f0.f1)) := hcc10 1 _ rfl; have hx10_2 : w11.cell? ⟨go10, (x4_1 : Int).toNat * 4 + 2, none⟩ = some (.int .i64 ((rd_T73 x3_1 x4_1).f1.f0)) := hcc10 2 _ rfl; have hx10_3 : w11.cell? ⟨go10, (x4_1 : Int).toNat * 4 + 3, none⟩ = some (.int .i64 ((rd_T73 x3_1 x4_1).f1.f1)) := hcc10 3 _ rfl; have hf10_0 : w11.frozen? ⟨go10, (x4_1 : Int).toNat * 4, none⟩ = false := hfr10 0; have hf10_1 : w11.frozen? ⟨go10, (x4_1 : Int).toNat * 4 + 1, none⟩ = false := hfr10 1; have hf10_2 : w11.frozen? ⟨go10, (x4_1 : Int).toNat * 4 + 2, none⟩ = false := hfr10 2; have hf10_3 : w11.frozen? ⟨go10, (x4_1 : Int).toNat * 4 + 3, none⟩ = false := hfr10 3; clear hcl10 hcc10 hfr10 hM10; replace p10 := eq_true p10; replace q10 := eq_true q10; have HX12 := Aside0.mk (show Kd.R k73 73 w11 w.heap.size (fun _ => True) (.slice (some ⟨go10, 0, none⟩) x3_1.length co10) x3_1 from (by (with_reducible repeat (first | apply Kd.R_alloc | apply Kd.R_drewN | apply Kd.R_drew)); exact HO_3.out)); obtain ⟨ce12, hcl12, hM12, hcc12, hfr12⟩ := Kd.R_elem HX12.out z73 (x4_1 : Int) (da) (by have h_ : (x4_1 : Int) < ((x3_1.length : Int) : Int) := da; first | exact h_ | (have e_ := (Kd.R_reads' HO_3.out).1; omega) | simpa using h_); obtain rfl := k73_openM hM12; have HP12 := Kd.R_seg HX12.out (x4_1 : Int) (da) (by have h_ : (x4_1 : Int) < ((x3_1.length : Int) : Int) := da; first | exact h_ | (have e_ := (Kd.R_reads' HO_3.out).1; omega) | simpa using h_) (seg := [.int .i64 t300, .int .i64 t301, .int .i64 t302, .int .i64 t303]) (j := 0) hcl12 hcc12 (show 4 ≤ 4 from by decide) (x' := (⟨(⟨t300, t301⟩ : S53), (⟨t302, t303⟩ : S53)⟩ : S73)) (k73_mkM _ _ _ (⟨(⟨t300, t301⟩ : S53), (⟨t302, t303⟩ : S53)⟩ : S73) ) (fun _ hk => hk); have hx12_0 := hcc12 0 _ rfl; (try simp only [show (k73).sz = 4 from rfl, Nat.mul_one, Nat.add_zero] at hx12_0); have hf12_0 := hfr12 0; (try simp only [show (k73).sz = 4 from rfl, Nat.mul_one, Nat.add_zero] at hf12_0); have hx12_1 := hcc12 1 _ rfl; (try simp only [show (k73).sz = 4 from rfl, Nat.mul_one, Nat.add_zero] at hx12_1); have hf12_1 := hfr12 1; (try simp only [show (k73).sz = 4 from rfl, Nat.mul_one, Nat.add_zero] at hf12_1); have hx12_2 := hcc12 2 _ rfl; (try simp only [show (k73).sz = 4 from rfl, Nat.mul_one, Nat.add_zero] at hx12_2); have hf12_2 := hfr12 2; (try simp only [show (k73).sz = 4 from rfl, Nat.mul_one, Nat.add_zero] at hf12_2); have hx12_3 := hcc12 3 _ rfl; (try simp only [show (k73).sz = 4 from rfl, Nat.mul_one, Nat.add_zero] at hx12_3); have hf12_3 := hfr12 3; (try simp only [show (k73).sz = 4 from rfl, Nat.mul_one, Nat.add_zero] at hf12_3); clear hcl12 hcc12 hfr12 hM12) | ((with_reducible refine gate_store (t := 73) (p := 21) rfl ?_); refine store_event (t := 73) (p := 21) (v := ?vo_w13) (w1 := ((((w11.setCell ⟨go10, (x4_1 : Int).toNat * 4, none⟩ (.int .i64 t300)).setCell ⟨go10, (x4_1 : Int).toNat * 4 + 1, none⟩ (.int .i64 t301)).setCell ⟨go10, (x4_1 : Int).toNat * 4 + 2, none⟩ (.int .i64 t302)).setCell ⟨go10, (x4_1 : Int).toNat * 4 + 3, none⟩ (.int .i64 t303))) ?hg ?ho ?hn ?hr ?_; (case ho => rfl); (case hg => rfl); (case hn => rfl); (case hr => first | (go_simp; done) | (go_simp; rfl)); intro w13 hw; have hg : w11.grownBy w13 (some go10) := (by rw [hw]; exact HP12.2); have hp_ : Kd.R k73 73 w13 w.heap.size (fun _ => True) (.slice (some ⟨go10, 0, none⟩) x3_1.length co10) y304 := (by rw [hw, Ny304.out]; exact HP12.1); clear HP12; replace HO_3 := Aside0.mk (hp_); replace HB := Aside0.mk ((by rw [hw]; exact below_set (below_set (below_set (below_set (HB.out) GB10.out) GB10.out) GB10.out) GB10.out : Below w.heap.size w w13)); clear hg hw hp_))
        go_roundg k1
        case measure => have := HK1.out; omega
        case rel => exact ⟨(y304), (wrap64 (x4_1 + 1)), rs, H', ⟨by have := HK1.out; omega⟩, ⟨by (with_reducible repeat (first | apply Kd.R_alloc | apply Kd.R_drewN | apply Kd.R_drew)); exact HO_3.out⟩, ⟨bl⟩⟩
       ·rw [if_neg c9] at H
        exact absurd H (by simp)
      ·rw [if_neg c7] at H
       exact absurd H (by simp)
     ·rw [if_neg c6] at H
      have c6b0 : decide (x4_1 < (l0.length : Int)) = false := decide_eq_false c6
      clear c6
      obtain rfl := Option.some.inj H
      go_wp2
      go_ret
      exact ⟨_, rt, by (with_reducible repeat (first | apply Kd.R_alloc | apply Kd.R_drewN | apply Kd.R_drew)); exact HO_3.out, bl⟩
  ·rw [if_neg c3] at H
   exact absurd H (by simp)
 ·rw [if_neg c2] at H
  exact absurd H (by simp)

/-! ### impl_within: function 70 -/
def impl_within.f (a0 : Int) (a1 : Int) (a2 : Int) : Option (Bool) := if a1 ≤ a0 then (some (decide (a0 ≤ a2))) else (some false)
set_option maxHeartbeats 8000000 in
set_option maxRecDepth 100000 in
theorem impl_within.calls (a0 : Int) (a1 : Int) (a2 : Int) (r : Bool) (w : World) (h : impl_within.f a0 a1 a2 = some r) :
  Calls Try.prog 70 #[.int .i64 a0, .int .i64 a1, .int .i64 a2] w fun e w' => e = .returned (.bool r) ∧ Drawn0 w w' := by
 have H : (if a1 ≤ a0 then (some (decide (a0 ≤ a2))) else (some false)) = some r := h
 clear h
 by_cases c4 : a1 ≤ a0
 ·rw [if_pos c4] at H
  have c4b0 : decide (a1 ≤ a0) = true := decide_eq_true c4
  clear c4
  obtain rfl := Option.some.inj H
  go_enter Try.func70, Try.ntmps70
  go_wp2
  go_ret
  exact ⟨rs, by repeat (first | exact Drawn0.refl _ | apply Drawn0.step)⟩
 ·rw [if_neg c4] at H
  have c4b0 : decide (a1 ≤ a0) = false := decide_eq_false c4
  clear c4
  obtain rfl := Option.some.inj H
  go_enter Try.func70, Try.ntmps70
  go_wp2
  go_ret
  exact ⟨rs, by repeat (first | exact Drawn0.refl _ | apply Drawn0.step)⟩

/-! ### impl_oneRat: function 101 -/
def impl_oneRat.f  : Option (Int × Int) := some (1, 1)
set_option maxHeartbeats 8000000 in
set_option maxRecDepth 100000 in
theorem impl_oneRat.calls  (r1 : Int) (r2 : Int) (w : World) (h : impl_oneRat.f  = some (r1, r2)) :
  Calls Try.prog 101 #[] w fun e w' => e = .returned (.agg #[.int .i64 r1, .int .i64 r2]) ∧ Below w.heap.size w w' := by
 have hu53 := Try.underlying53
 have HB := Aside0.mk (Below.refl w.heap.size w)
 have H : (some (1, 1)) = some (r1, r2) := h
 clear h
 simp only [Option.some.injEq, Prod.mk.injEq] at H
 obtain ⟨rfl, rfl⟩ := H
 go_enter Try.func101, Try.ntmps101
 go_wp2_with (first | ((with_reducible refine gate_dst (N := 0) rfl ?_); refine bx 0 #[.int .i64 0, .int .i64 0] 53 ?_; intro gb305 hg w1 hbox hb; have BK305 := Aside0.mk (hbox); have GW305 := Aside0.mk (bz hg); have GE305 := GW305; replace HB := kh hb; clear hb hbox hg; obtain ⟨hcz2_0, hcz2_1, hfz2_0, hfz2_1⟩ := b2 BK305))
 refine bodyPost_ret (results_cell_row rfl _ _ gb305 53 #[.int .i64 1, .int .i64 1] (0, 0) _ rfl (by (with_reducible repeat (first | refine blk_drewN ?_ _ | refine blk_drew ?_ | refine blk_alloc ?_ _)); refine blk_put (cs := #[.int .i64 1, .int .i64 0]) ?_ 1 _ rfl; (with_reducible repeat (first | refine blk_drewN ?_ _ | refine blk_drew ?_ | refine blk_alloc ?_ _)); refine blk_put (cs := #[.int .i64 0, .int .i64 0]) ?_ 0 _ rfl; (with_reducible repeat (first | refine blk_drewN ?_ _ | refine blk_drew ?_ | refine blk_alloc ?_ _)); exact BK305.out) Try.underlying53 rfl (by kernel_rfl)) rfl ?_
 exact ⟨rt, bl⟩

/-! ### impl_zero: function 128 -/
def impl_zero.f  : Option (Int × Int) := some (0, 1)
set_option maxHeartbeats 8000000 in
set_option maxRecDepth 100000 in
theorem impl_zero.calls  (r1 : Int) (r2 : Int) (w : World) (h : impl_zero.f  = some (r1, r2)) :
  Calls Try.prog 128 #[] w fun e w' => e = .returned (.agg #[.int .i64 r1, .int .i64 r2]) ∧ Below w.heap.size w w' := by
 have hu53 := Try.underlying53
 have HB := Aside0.mk (Below.refl w.heap.size w)
 have H : (some (0, 1)) = some (r1, r2) := h
 clear h
 simp only [Option.some.injEq, Prod.mk.injEq] at H
 obtain ⟨rfl, rfl⟩ := H
 go_enter Try.func128, Try.ntmps128
 go_wp2_with (first | ((with_reducible refine gate_dst (N := 0) rfl ?_); refine bx 0 #[.int .i64 0, .int .i64 0] 53 ?_; intro gb306 hg w1 hbox hb; have BK306 := Aside0.mk (hbox); have GW306 := Aside0.mk (bz hg); have GE306 := GW306; replace HB := kh hb; clear hb hbox hg; obtain ⟨hcz2_0, hcz2_1, hfz2_0, hfz2_1⟩ := b2 BK306))
 refine bodyPost_ret (results_cell_row rfl _ _ gb306 53 #[.int .i64 0, .int .i64 1] (0, 0) _ rfl (by (with_reducible repeat (first | refine blk_drewN ?_ _ | refine blk_drew ?_ | refine blk_alloc ?_ _)); refine blk_put (cs := #[.int .i64 0, .int .i64 0]) ?_ 1 _ rfl; (with_reducible repeat (first | refine blk_drewN ?_ _ | refine blk_drew ?_ | refine blk_alloc ?_ _)); refine blk_put (cs := #[.int .i64 0, .int .i64 0]) ?_ 0 _ rfl; (with_reducible repeat (first | refine blk_drewN ?_ _ | refine blk_drew ?_ | refine blk_alloc ?_ _)); exact BK306.out) Try.underlying53 rfl (by kernel_rfl)) rfl ?_
 exact ⟨rt, bl⟩

-- NOT PRINTED: function 125 (impl_Point_125)

-- NOT PRINTED: function 132 (impl_Point_132)

/-! ### impl_abs: function 66 -/
def impl_abs.f (a0 : Int) : Option (Int) := if a0 < 0 then (some (wrap64 (-a0))) else (some a0)
set_option maxHeartbeats 8000000 in
set_option maxRecDepth 100000 in
theorem impl_abs.calls (a0 : Int) (r : Int) (w : World) (h : impl_abs.f a0 = some r) :
  Calls Try.prog 66 #[.int .i64 a0] w fun e w' => e = .returned (.int .i64 r) ∧ Drawn0 w w' := by
 have H : (if a0 < 0 then (some (wrap64 (-a0))) else (some a0)) = some r := h
 clear h
 by_cases c2 : a0 < 0
 ·rw [if_pos c2] at H
  have c2b0 : decide (a0 < 0) = true := decide_eq_true c2
  clear c2
  obtain rfl := Option.some.inj H
  go_enter Try.func66, Try.ntmps66
  go_wp2
  go_ret
  exact ⟨rs, by repeat (first | exact Drawn0.refl _ | apply Drawn0.step)⟩
 ·rw [if_neg c2] at H
  have c2b0 : decide (a0 < 0) = false := decide_eq_false c2
  clear c2
  obtain rfl := Option.some.inj H
  go_enter Try.func66, Try.ntmps66
  go_wp2
  go_ret
  exact ⟨rs, by repeat (first | exact Drawn0.refl _ | apply Drawn0.step)⟩

/-! ### impl_greatestDivisor: function 142 -/
def impl_greatestDivisor.l0 : Nat → Int → Int → Option (Int)
 | 0, _, _ => none
 | k + 1, x0, x1 => if x1 = 0 then (some x0) else (impl_greatestDivisor.l0 k x1 (Int.tmod x0 x1))
def impl_greatestDivisor.f (k : Nat) (a0 : Int) (a1 : Int) : Option (Int) := (impl_abs.f a0).bind fun t307 => ((impl_abs.f a1).bind fun t308 => (impl_greatestDivisor.l0 k t307 t308))
set_option maxHeartbeats 8000000 in
set_option maxRecDepth 100000 in
theorem impl_greatestDivisor.calls (k : Nat) (a0 : Int) (a1 : Int) (r : Int) (w : World) (h : impl_greatestDivisor.f k a0 a1 = some r) :
  Calls Try.prog 142 #[.int .i64 a0, .int .i64 a1] w fun e w' => e = .returned (.int .i64 r) ∧ Drawn0 w w' := by
 have H : ((impl_abs.f a0).bind fun t307 => ((impl_abs.f a1).bind fun t308 => (impl_greatestDivisor.l0 k t307 t308))) = some r := h
 clear h
 replace H := Option.bind_eq_some_iff.mp H
 obtain ⟨t307, A30, H⟩ := H
 replace H : ((impl_abs.f a1).bind fun t308 => (impl_greatestDivisor.l0 k t307 t308)) = some r := H
 have A3 := Aside0.mk A30
 clear A30
 replace H := Option.bind_eq_some_iff.mp H
 obtain ⟨t308, A40, H⟩ := H
 replace H : (impl_greatestDivisor.l0 k t307 t308) = some r := H
 have A4 := Aside0.mk A40
 clear A40
 have H' := Aside0.mk H
 clear H
 go_enter Try.func142, Try.ntmps142
 go_wp2_with (first | (go_at_call 66; (with_reducible refine (impl_abs.calls a0 t307 _ A3.out).mono ?_); rintro e w' ⟨rfl, ⟨nd, rfl⟩⟩; (try first | exact ⟨rfl, _, World.drewN_drewN _ _ _⟩ | exact ⟨rfl, _, Eq.trans (World.drewN_drewN _ _ _) (congrArg (World.drewN _) (Nat.add_assoc _ _ _))⟩)) | (go_at_call 66; (with_reducible refine (impl_abs.calls a1 t308 _ A4.out).mono ?_); rintro e w' ⟨rfl, ⟨nd, rfl⟩⟩; (try first | exact ⟨rfl, _, World.drewN_drewN _ _ _⟩ | exact ⟨rfl, _, Eq.trans (World.drewN_drewN _ _ _) (congrArg (World.drewN _) (Nat.add_assoc _ _ _))⟩)))
 repeat (go_quiet (first | (go_at_call 66; (with_reducible refine (impl_abs.calls a0 t307 _ A3.out).mono ?_); rintro e w' ⟨rfl, ⟨nd, rfl⟩⟩; (try first | exact ⟨rfl, _, World.drewN_drewN _ _ _⟩ | exact ⟨rfl, _, Eq.trans (World.drewN_drewN _ _ _) (congrArg (World.drewN _) (Nat.add_assoc _ _ _))⟩)) | (go_at_call 66; (with_reducible refine (impl_abs.calls a1 t308 _ A4.out).mono ?_); rintro e w' ⟨rfl, ⟨nd, rfl⟩⟩; (try first | exact ⟨rfl, _, World.drewN_drewN _ _ _⟩ | exact ⟨rfl, _, Eq.trans (World.drewN_drewN _ _ _) (congrArg (World.drewN _) (Nat.add_assoc _ _ _))⟩))); try go_wp2_with (first | (go_at_call 66; (with_reducible refine (impl_abs.calls a0 t307 _ A3.out).mono ?_); rintro e w' ⟨rfl, ⟨nd, rfl⟩⟩; (try first | exact ⟨rfl, _, World.drewN_drewN _ _ _⟩ | exact ⟨rfl, _, Eq.trans (World.drewN_drewN _ _ _) (congrArg (World.drewN _) (Nat.add_assoc _ _ _))⟩)) | (go_at_call 66; (with_reducible refine (impl_abs.calls a1 t308 _ A4.out).mono ?_); rintro e w' ⟨rfl, ⟨nd, rfl⟩⟩; (try first | exact ⟨rfl, _, World.drewN_drewN _ _ _⟩ | exact ⟨rfl, _, Eq.trans (World.drewN_drewN _ _ _) (congrArg (World.drewN _) (Nat.add_assoc _ _ _))⟩))))
 go_loopg [0, 1] k (fun kq v0 v1 w' => ∃ (x0_1 : Int) (x1_1 : Int), v0 = .int .i64 x0_1 ∧ v1 = .int .i64 x1_1 ∧ Aside0 (impl_greatestDivisor.l0 kq x0_1 x1_1 = some r) ∧ Aside0 (kq ≤ k) ∧ Drawn0 w w')
 case atStart => exact ⟨(t307), (t308), rs, rs, H', ⟨Nat.le_refl _⟩, by repeat (first | exact Drawn0.refl _ | apply Drawn0.step)⟩
 case round =>
  clear H'
  try clear c1
  try clear p2
  obtain ⟨x0_1, x1_1, rfl, rfl, HA, HK1, ⟨m1, rfl⟩⟩ := hrel
  cases gk with
  | zero => exact absurd HA.out (by simp [impl_greatestDivisor.l0])
  | succ k1 =>
   have H := HA.out
   clear HA
   simp only [impl_greatestDivisor.l0] at H
   by_cases c5 : x1_1 = 0
   ·rw [if_pos c5] at H
    have c5b0 : (x1_1 == 0) = true := beq_iff_eq.mpr c5
    have c5b1 : (x1_1 != 0) = false := bne_eq_false_iff_eq.mpr c5
    clear c5
    obtain rfl := Option.some.inj H
    go_wp2
    repeat (go_quiet (fail); try go_wp2)
    go_ret
    exact ⟨rs, by repeat (first | exact Drawn0.refl _ | apply Drawn0.step)⟩
   ·rw [if_neg c5] at H
    have c5b0 : (x1_1 == 0) = false := beq_eq_false_iff_ne.mpr c5
    have c5b1 : (x1_1 != 0) = true := bne_iff_ne.mpr c5
    have H' := Aside0.mk H
    clear H
    go_wp2
    repeat (go_quiet (fail); try go_wp2)
    go_roundg k1
    case measure => have := HK1.out; omega
    case rel => exact ⟨(x1_1), (Int.tmod x0_1 x1_1), rs, rs, H', ⟨by have := HK1.out; omega⟩, by repeat (first | exact Drawn0.refl _ | apply Drawn0.step)⟩

/-! ### impl_isRat: function 137 -/
def impl_isRat.f (k : Nat) (a0_0 : Int) (a0_1 : Int) : Option (Bool) := (impl_within.f a0_1 1 1000000000).bind fun t310 => (if t310 = true then ((impl_within.f a0_0 (-1000000000) 1000000000).bind fun t311 => (if t311 = true then ((impl_greatestDivisor.f k a0_0 a0_1).bind fun t312 => (some (t312 == 1))) else (some false))) else (some false))
set_option maxHeartbeats 8000000 in
set_option maxRecDepth 100000 in
theorem impl_isRat.calls (k : Nat) (a0_0 : Int) (a0_1 : Int) (r : Bool) (w : World) (h : impl_isRat.f k a0_0 a0_1 = some r) :
  Calls Try.prog 137 #[.agg #[.int .i64 a0_0, .int .i64 a0_1]] w fun e w' => e = .returned (.bool r) ∧ Below w.heap.size w w' := by
 have hu53 := Try.underlying53
 have HB := Aside0.mk (Below.refl w.heap.size w)
 have H : ((impl_within.f a0_1 1 1000000000).bind fun t310 => (if t310 = true then ((impl_within.f a0_0 (-1000000000) 1000000000).bind fun t311 => (if t311 = true then ((impl_greatestDivisor.f k a0_0 a0_1).bind fun t312 => (some (t312 == 1))) else (some false))) else (some false))) = some r := h
 clear h
 replace H := Option.bind_eq_some_iff.mp H
 obtain ⟨t310, A20, H⟩ := H
 replace H : (if t310 = true then ((impl_within.f a0_0 (-1000000000) 1000000000).bind fun t311 => (if t311 = true then ((impl_greatestDivisor.f k a0_0 a0_1).bind fun t312 => (some (t312 == 1))) else (some false))) else (some false)) = some r := H
 have A2 := Aside0.mk A20
 clear A20
 by_cases c3 : t310 = true
 ·subst c3
  have H1 : ((impl_within.f a0_0 (-1000000000) 1000000000).bind fun t311 => (if t311 = true then ((impl_greatestDivisor.f k a0_0 a0_1).bind fun t312 => (some (t312 == 1))) else (some false))) = some r := by rw [if_pos rfl] at H; exact H
  clear H
  have H := H1
  clear H1
  replace H := Option.bind_eq_some_iff.mp H
  obtain ⟨t311, A40, H⟩ := H
  replace H : (if t311 = true then ((impl_greatestDivisor.f k a0_0 a0_1).bind fun t312 => (some (t312 == 1))) else (some false)) = some r := H
  have A4 := Aside0.mk A40
  clear A40
  by_cases c5 : t311 = true
  ·subst c5
   have H1 : ((impl_greatestDivisor.f k a0_0 a0_1).bind fun t312 => (some (t312 == 1))) = some r := by rw [if_pos rfl] at H; exact H
   clear H
   have H := H1
   clear H1
   replace H := Option.bind_eq_some_iff.mp H
   obtain ⟨t312, A60, H⟩ := H
   replace H : (some (t312 == 1)) = some r := H
   have A6 := Aside0.mk A60
   clear A60
   obtain rfl := Option.some.inj H
   go_enter Try.func137, Try.ntmps137
   go_wp2_with (first | ((with_reducible refine gate_dst (N := 1) rfl ?_); refine bx 1 #[.int .i64 a0_0, .int .i64 a0_1] 53 ?_; intro gb309 hg w7 hbox hb; have BK309 := Aside0.mk (hbox); have GW309 := Aside0.mk (bz hg); have GE309 := GW309; replace HB := kh hb; clear hb hbox hg; obtain ⟨hcz8_0, hcz8_1, hfz8_0, hfz8_1⟩ := b2 BK309) | ((with_reducible refine gate_callee (f := 70) rfl ?_); refine gl 5 Try.func70 #[.int .i64 a0_1, .int .i64 1, .int .i64 1000000000] ?_; (with_reducible refine (impl_within.calls a0_1 1 1000000000 true _ A2.out).mono ?_); rintro e w' ⟨rfl, ⟨nd, rfl⟩⟩; refine ⟨_, rfl, ?_⟩) | (go_at_call 70; (with_reducible refine (impl_within.calls a0_0 (-1000000000) 1000000000 true _ A4.out).mono ?_); rintro e w' ⟨rfl, ⟨nd, rfl⟩⟩) | (go_at_call 142; (with_reducible refine (impl_greatestDivisor.calls k a0_0 a0_1 t312 _ A6.out).mono ?_); rintro e w' ⟨rfl, ⟨nd, rfl⟩⟩))
   go_ret
   exact ⟨rt, bl⟩
  ·replace c5 := Bool.eq_false_iff.mpr c5
   subst c5
   have H1 : (some false) = some r := by rw [if_neg (show ¬ (false = true) by decide)] at H; exact H
   clear H
   have H := H1
   clear H1
   obtain rfl := Option.some.inj H
   go_enter Try.func137, Try.ntmps137
   go_wp2_with (first | ((with_reducible refine gate_dst (N := 1) rfl ?_); refine bx 1 #[.int .i64 a0_0, .int .i64 a0_1] 53 ?_; intro gb309 hg w9 hbox hb; have BK309 := Aside0.mk (hbox); have GW309 := Aside0.mk (bz hg); have GE309 := GW309; replace HB := kh hb; clear hb hbox hg; obtain ⟨hcz10_0, hcz10_1, hfz10_0, hfz10_1⟩ := b2 BK309) | ((with_reducible refine gate_callee (f := 70) rfl ?_); refine gl 5 Try.func70 #[.int .i64 a0_1, .int .i64 1, .int .i64 1000000000] ?_; (with_reducible refine (impl_within.calls a0_1 1 1000000000 true _ A2.out).mono ?_); rintro e w' ⟨rfl, ⟨nd, rfl⟩⟩; refine ⟨_, rfl, ?_⟩) | (go_at_call 70; (with_reducible refine (impl_within.calls a0_0 (-1000000000) 1000000000 false _ A4.out).mono ?_); rintro e w' ⟨rfl, ⟨nd, rfl⟩⟩))
   go_ret
   exact ⟨rt, bl⟩
 ·replace c3 := Bool.eq_false_iff.mpr c3
  subst c3
  have H1 : (some false) = some r := by rw [if_neg (show ¬ (false = true) by decide)] at H; exact H
  clear H
  have H := H1
  clear H1
  obtain rfl := Option.some.inj H
  go_enter Try.func137, Try.ntmps137
  go_wp2_with (first | ((with_reducible refine gate_dst (N := 1) rfl ?_); refine bx 1 #[.int .i64 a0_0, .int .i64 a0_1] 53 ?_; intro gb309 hg w11 hbox hb; have BK309 := Aside0.mk (hbox); have GW309 := Aside0.mk (bz hg); have GE309 := GW309; replace HB := kh hb; clear hb hbox hg; obtain ⟨hcz12_0, hcz12_1, hfz12_0, hfz12_1⟩ := b2 BK309) | ((with_reducible refine gate_callee (f := 70) rfl ?_); refine gl 5 Try.func70 #[.int .i64 a0_1, .int .i64 1, .int .i64 1000000000] ?_; (with_reducible refine (impl_within.calls a0_1 1 1000000000 false _ A2.out).mono ?_); rintro e w' ⟨rfl, ⟨nd, rfl⟩⟩; refine ⟨_, rfl, ?_⟩))
  go_ret
  exact ⟨rt, bl⟩

/-! ### impl_isUnit: function 122 -/
def impl_isUnit.f (k : Nat) (a0_0 : Int) (a0_1 : Int) : Option (Bool) := (impl_isRat.f k a0_0 a0_1).bind fun t314 => (if t314 = true then (if a0_0 ≥ 0 then (some (decide (a0_0 ≤ a0_1))) else (some false)) else (some false))
set_option maxHeartbeats 8000000 in
set_option maxRecDepth 100000 in
theorem impl_isUnit.calls (k : Nat) (a0_0 : Int) (a0_1 : Int) (r : Bool) (w : World) (h : impl_isUnit.f k a0_0 a0_1 = some r) :
  Calls Try.prog 122 #[.agg #[.int .i64 a0_0, .int .i64 a0_1]] w fun e w' => e = .returned (.bool r) ∧ Below w.heap.size w w' := by
 have hu53 := Try.underlying53
 have HB := Aside0.mk (Below.refl w.heap.size w)
 have H : ((impl_isRat.f k a0_0 a0_1).bind fun t314 => (if t314 = true then (if a0_0 ≥ 0 then (some (decide (a0_0 ≤ a0_1))) else (some false)) else (some false))) = some r := h
 clear h
 replace H := Option.bind_eq_some_iff.mp H
 obtain ⟨t314, A20, H⟩ := H
 replace H : (if t314 = true then (if a0_0 ≥ 0 then (some (decide (a0_0 ≤ a0_1))) else (some false)) else (some false)) = some r := H
 have A2 := Aside0.mk A20
 clear A20
 by_cases c3 : t314 = true
 ·subst c3
  have H1 : (if a0_0 ≥ 0 then (some (decide (a0_0 ≤ a0_1))) else (some false)) = some r := by rw [if_pos rfl] at H; exact H
  clear H
  have H := H1
  clear H1
  by_cases c4 : a0_0 ≥ 0
  ·rw [if_pos c4] at H
   have c4b0 : decide (0 ≤ a0_0) = true := decide_eq_true c4
   clear c4
   obtain rfl := Option.some.inj H
   go_enter Try.func122, Try.ntmps122
   go_wp2_with (first | ((with_reducible refine gate_dst (N := 1) rfl ?_); refine bx 1 #[.int .i64 a0_0, .int .i64 a0_1] 53 ?_; intro gb313 hg w5 hbox hb; have BK313 := Aside0.mk (hbox); have GW313 := Aside0.mk (bz hg); have GE313 := GW313; replace HB := kh hb; clear hb hbox hg; obtain ⟨hcz6_0, hcz6_1, hfz6_0, hfz6_1⟩ := b2 BK313) | ((with_reducible refine gate_callee (f := 137) rfl ?_); refine gl 4 Try.func137 #[.agg #[.int .i64 a0_0, .int .i64 a0_1]] ?_; (with_reducible refine (impl_isRat.calls k a0_0 a0_1 true _ A2.out).mono ?_); rintro e w7 ⟨rfl, hb⟩; refine ⟨_, rfl, ?_⟩; replace BK313 := kb BK313 hb; replace HB := kh hb; (try clear hb); (try clear hb2); (try clear hk); (try clear hi); obtain ⟨hcz8_0, hcz8_1, hfz8_0, hfz8_1⟩ := b2 BK313))
   go_ret
   exact ⟨rt, bl⟩
  ·rw [if_neg c4] at H
   have c4b0 : decide (0 ≤ a0_0) = false := decide_eq_false c4
   clear c4
   obtain rfl := Option.some.inj H
   go_enter Try.func122, Try.ntmps122
   go_wp2_with (first | ((with_reducible refine gate_dst (N := 1) rfl ?_); refine bx 1 #[.int .i64 a0_0, .int .i64 a0_1] 53 ?_; intro gb313 hg w9 hbox hb; have BK313 := Aside0.mk (hbox); have GW313 := Aside0.mk (bz hg); have GE313 := GW313; replace HB := kh hb; clear hb hbox hg; obtain ⟨hcz10_0, hcz10_1, hfz10_0, hfz10_1⟩ := b2 BK313) | ((with_reducible refine gate_callee (f := 137) rfl ?_); refine gl 4 Try.func137 #[.agg #[.int .i64 a0_0, .int .i64 a0_1]] ?_; (with_reducible refine (impl_isRat.calls k a0_0 a0_1 true _ A2.out).mono ?_); rintro e w11 ⟨rfl, hb⟩; refine ⟨_, rfl, ?_⟩; replace BK313 := kb BK313 hb; replace HB := kh hb; (try clear hb); (try clear hb2); (try clear hk); (try clear hi); obtain ⟨hcz12_0, hcz12_1, hfz12_0, hfz12_1⟩ := b2 BK313))
   go_ret
   exact ⟨rt, bl⟩
 ·replace c3 := Bool.eq_false_iff.mpr c3
  subst c3
  have H1 : (some false) = some r := by rw [if_neg (show ¬ (false = true) by decide)] at H; exact H
  clear H
  have H := H1
  clear H1
  obtain rfl := Option.some.inj H
  go_enter Try.func122, Try.ntmps122
  go_wp2_with (first | ((with_reducible refine gate_dst (N := 1) rfl ?_); refine bx 1 #[.int .i64 a0_0, .int .i64 a0_1] 53 ?_; intro gb313 hg w13 hbox hb; have BK313 := Aside0.mk (hbox); have GW313 := Aside0.mk (bz hg); have GE313 := GW313; replace HB := kh hb; clear hb hbox hg; obtain ⟨hcz14_0, hcz14_1, hfz14_0, hfz14_1⟩ := b2 BK313) | ((with_reducible refine gate_callee (f := 137) rfl ?_); refine gl 4 Try.func137 #[.agg #[.int .i64 a0_0, .int .i64 a0_1]] ?_; (with_reducible refine (impl_isRat.calls k a0_0 a0_1 false _ A2.out).mono ?_); rintro e w15 ⟨rfl, hb⟩; refine ⟨_, rfl, ?_⟩; replace BK313 := kb BK313 hb; replace HB := kh hb; (try clear hb); (try clear hb2); (try clear hk); (try clear hi)))
  go_ret
  exact ⟨rt, bl⟩

/-! ### impl_isCoord: function 134 -/
def impl_isCoord.f (k : Nat) (a0_0 : Int) (a0_1 : Int) : Option (Bool) := (impl_isUnit.f k a0_0 a0_1).bind fun t316 => (if t316 = true then (some (decide (a0_1 ≤ 100))) else (some false))
set_option maxHeartbeats 8000000 in
set_option maxRecDepth 100000 in
theorem impl_isCoord.calls (k : Nat) (a0_0 : Int) (a0_1 : Int) (r : Bool) (w : World) (h : impl_isCoord.f k a0_0 a0_1 = some r) :
  Calls Try.prog 134 #[.agg #[.int .i64 a0_0, .int .i64 a0_1]] w fun e w' => e = .returned (.bool r) ∧ Below w.heap.size w w' := by
 have hu53 := Try.underlying53
 have HB := Aside0.mk (Below.refl w.heap.size w)
 have H : ((impl_isUnit.f k a0_0 a0_1).bind fun t316 => (if t316 = true then (some (decide (a0_1 ≤ 100))) else (some false))) = some r := h
 clear h
 replace H := Option.bind_eq_some_iff.mp H
 obtain ⟨t316, A20, H⟩ := H
 replace H : (if t316 = true then (some (decide (a0_1 ≤ 100))) else (some false)) = some r := H
 have A2 := Aside0.mk A20
 clear A20
 by_cases c3 : t316 = true
 ·subst c3
  have H1 : (some (decide (a0_1 ≤ 100))) = some r := by rw [if_pos rfl] at H; exact H
  clear H
  have H := H1
  clear H1
  obtain rfl := Option.some.inj H
  go_enter Try.func134, Try.ntmps134
  go_wp2_with (first | ((with_reducible refine gate_dst (N := 1) rfl ?_); refine bx 1 #[.int .i64 a0_0, .int .i64 a0_1] 53 ?_; intro gb315 hg w4 hbox hb; have BK315 := Aside0.mk (hbox); have GW315 := Aside0.mk (bz hg); have GE315 := GW315; replace HB := kh hb; clear hb hbox hg; obtain ⟨hcz5_0, hcz5_1, hfz5_0, hfz5_1⟩ := b2 BK315) | ((with_reducible refine gate_callee (f := 122) rfl ?_); refine gl 4 Try.func122 #[.agg #[.int .i64 a0_0, .int .i64 a0_1]] ?_; (with_reducible refine (impl_isUnit.calls k a0_0 a0_1 true _ A2.out).mono ?_); rintro e w6 ⟨rfl, hb⟩; refine ⟨_, rfl, ?_⟩; replace BK315 := kb BK315 hb; replace HB := kh hb; (try clear hb); (try clear hb2); (try clear hk); (try clear hi); obtain ⟨hcz7_0, hcz7_1, hfz7_0, hfz7_1⟩ := b2 BK315))
  go_ret
  exact ⟨rt, bl⟩
 ·replace c3 := Bool.eq_false_iff.mpr c3
  subst c3
  have H1 : (some false) = some r := by rw [if_neg (show ¬ (false = true) by decide)] at H; exact H
  clear H
  have H := H1
  clear H1
  obtain rfl := Option.some.inj H
  go_enter Try.func134, Try.ntmps134
  go_wp2_with (first | ((with_reducible refine gate_dst (N := 1) rfl ?_); refine bx 1 #[.int .i64 a0_0, .int .i64 a0_1] 53 ?_; intro gb315 hg w8 hbox hb; have BK315 := Aside0.mk (hbox); have GW315 := Aside0.mk (bz hg); have GE315 := GW315; replace HB := kh hb; clear hb hbox hg; obtain ⟨hcz9_0, hcz9_1, hfz9_0, hfz9_1⟩ := b2 BK315) | ((with_reducible refine gate_callee (f := 122) rfl ?_); refine gl 4 Try.func122 #[.agg #[.int .i64 a0_0, .int .i64 a0_1]] ?_; (with_reducible refine (impl_isUnit.calls k a0_0 a0_1 false _ A2.out).mono ?_); rintro e w10 ⟨rfl, hb⟩; refine ⟨_, rfl, ?_⟩; replace BK315 := kb BK315 hb; replace HB := kh hb; (try clear hb); (try clear hb2); (try clear hk); (try clear hi)))
  go_ret
  exact ⟨rt, bl⟩

end Go.Proofs.Ytannadjfkaghjaa.PFnExactIsRepelling
