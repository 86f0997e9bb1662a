-- Written by this session's program wip/pp (the kit's print tool with additions) 35421559b90ae4d0a3588c463048766b98c2df88dd9212a6774a882060cdf62d
import Derived.Test.YtannadjfkaghjaaPFnExactIsRepellingx0
import Derived.Test.YtannadjfkaghjaaPFnExactIsRepellingx7
namespace Go.Proofs.Ytannadjfkaghjaa.PFnExactIsRepelling
open Go.RowKit Go.Proofs.YtannadjfkaghjaaW.PrintWords Go.Proofs.YtannadjfkaghjaaW.PrintLast Go.Proofs.YtannadjfkaghjaaW.PrintMore
attribute [local go_sem] max2_int min2_int max_two min_two max_three min_three max_four min_four   -- for this text's walks alone
set_option linter.unusedVariables false
set_option linter.unusedSimpArgs false

/-! ### spec_orPeriod: function 93 -/
def spec_orPeriod.l0 : Nat → List (S53) → List (S53) → Int → Int → Option (Int × Int × Bool)
 | 0, _, _, _, _ => none
 | k + 1, x9, x21, x22, x23 => if x23 < x22 then (if 0 ≤ x23 then (if x23 < (x21.length : Int) then (if x23 ≤ (x9.length : Int) then ((spec_orAt.f k (x9.take (x23 : Int).toNat) ((rd_T53 x21 x23).f0) ((rd_T53 x21 x23).f1)).bind fun t236 => (if t236 ≥ 0 then (some (t236, wrap64 (x23 - t236), true)) else (spec_orPeriod.l0 k x9 x21 x22 (wrap64 (x23 + 1))))) else (none)) else (none)) else (none)) else (some (0, 0, false))
def spec_orPeriod.f (k : Nat) (l0 : List (S73)) (a1_0 : Int) (a1_1 : Int) (a2 : Int) : Option (Int × Int × Bool) := (spec_orRun.f k l0 a1_0 a1_1 a2).bind fun t227 => (if (t227.length : Int) ≤ a2 then (some (0, 0, false)) else (spec_orPeriod.l0 k t227 t227 (t227.length : Int) 0))
set_option maxHeartbeats 8000000 in
set_option maxRecDepth 100000 in
theorem spec_orPeriod.calls (k : Nat) (A0 : Option Addr) (c0 : Nat) (l0 : List (S73)) (a1_0 : Int) (a1_1 : Int) (a2 : Int) (r1 : Int) (r2 : Int) (r3 : Bool) (w : World) (hr0 : Kd.C k73 w A0 l0.length l0) (hc0 : l0.length ≤ c0) (h : spec_orPeriod.f k l0 a1_0 a1_1 a2 = some (r1, r2, r3)) :
  Calls Try.prog 93 #[.slice A0 l0.length c0, .agg #[.int .i64 a1_0, .int .i64 a1_1], .int .i64 a2] w fun e w' => e = .returned (.tuple #[.int .i64 r1, .int .i64 r2, .bool r3]) ∧ Below w.heap.size w w' := by
 have hu53 := Try.underlying53
 have HR0 := Aside0.mk hr0
 have HC0 := Aside0.mk hc0
 clear hr0 hc0
 have HB := Aside0.mk (Below.refl w.heap.size w)
 have H : ((spec_orRun.f k l0 a1_0 a1_1 a2).bind fun t227 => (if (t227.length : Int) ≤ a2 then (some (0, 0, false)) else (spec_orPeriod.l0 k t227 t227 (t227.length : Int) 0))) = some (r1, r2, r3) := h
 clear h
 replace H := Option.bind_eq_some_iff.mp H
 obtain ⟨t227, A40, H⟩ := H
 replace H : (if (t227.length : Int) ≤ a2 then (some (0, 0, false)) else (spec_orPeriod.l0 k t227 t227 (t227.length : Int) 0)) = some (r1, r2, r3) := H
 have A4 := Aside0.mk A40
 clear A40
 by_cases c5 : (t227.length : Int) ≤ a2
 ·rw [if_pos c5] at H
  have c5b0 : decide ((t227.length : Int) ≤ a2) = true := decide_eq_true c5
  clear c5
  simp only [Option.some.injEq, Prod.mk.injEq] at H
  obtain ⟨rfl, rfl, rfl⟩ := H
  go_enter Try.func93, Try.ntmps93
  go_wp2_with (first | ((with_reducible refine gate_dst (N := 4) rfl ?_); refine bx 4 #[.int .i64 a1_0, .int .i64 a1_1] 53 ?_; intro gb226 hg w6 hbox hb; have BK226 := Aside0.mk (hbox); have GW226 := Aside0.mk (bz hg); have GE226 := GW226; replace HB := kh hb; clear hb hbox hg; obtain ⟨hcz7_0, hcz7_1, hfz7_0, hfz7_1⟩ := b2 BK226) | ((with_reducible refine gate_callee (f := 94) rfl ?_); refine gl 16 Try.func94 #[.slice A0 l0.length c0, .agg #[.int .i64 a1_0, .int .i64 a1_1], .int .i64 a2] ?_; (with_reducible refine (spec_orRun.calls k _ _ l0 a1_0 a1_1 a2 t227 _ ?side1 ?side2 A4.out).mono ?_); (case side1 => repeat (first | exact (Kd.C_below HR0.out HB.out) | (with_reducible refine Kd.C_alloc ?_ _) | (with_reducible refine Kd.C_drewN ?_ _) | (with_reducible refine Kd.C_drew ?_))); (case side2 => exact HC0.out); rintro e w8 ⟨v228, rfl, ho0, hb⟩; refine ⟨_, rfl, ?_⟩; have HO229 := Aside0.mk (Kd.R_lower (Kd.R_newB ho0 (g := gb226) (o := .cells #[.int .i64 a1_0, .int .i64 a1_1] 53 (0, 0)) (bo gb226)) (below_size bl)); replace BK226 := kb BK226 hb; replace HB := kh hb; (try clear hb); (try clear hb2); (try clear hk); (try clear hi); (try clear ho0); obtain ⟨Ao9, co9, eo9⟩ := Kd.R_slice HO229.out; subst eo9))
  go_ret3
  exact ⟨rt, bl⟩
 ·rw [if_neg c5] at H
  have c5b0 : decide ((t227.length : Int) ≤ a2) = false := decide_eq_false c5
  clear c5
  have H' := Aside0.mk H
  clear H
  go_enter Try.func93, Try.ntmps93
  go_wp2_with (first | ((with_reducible refine gate_dst (N := 4) rfl ?_); refine bx 4 #[.int .i64 a1_0, .int .i64 a1_1] 53 ?_; intro gb226 hg w10 hbox hb; have BK226 := Aside0.mk (hbox); have GW226 := Aside0.mk (bz hg); have GE226 := GW226; replace HB := kh hb; clear hb hbox hg; obtain ⟨hcz11_0, hcz11_1, hfz11_0, hfz11_1⟩ := b2 BK226) | ((with_reducible refine gate_callee (f := 94) rfl ?_); refine gl 16 Try.func94 #[.slice A0 l0.length c0, .agg #[.int .i64 a1_0, .int .i64 a1_1], .int .i64 a2] ?_; (with_reducible refine (spec_orRun.calls k _ _ l0 a1_0 a1_1 a2 t227 _ ?side1 ?side2 A4.out).mono ?_); (case side1 => repeat (first | exact (Kd.C_below HR0.out HB.out) | (with_reducible refine Kd.C_alloc ?_ _) | (with_reducible refine Kd.C_drewN ?_ _) | (with_reducible refine Kd.C_drew ?_))); (case side2 => exact HC0.out); rintro e w12 ⟨v228, rfl, ho0, hb⟩; refine ⟨_, rfl, ?_⟩; have HO229 := Aside0.mk (Kd.R_lower (Kd.R_newB ho0 (g := gb226) (o := .cells #[.int .i64 a1_0, .int .i64 a1_1] 53 (0, 0)) (bo gb226)) (below_size bl)); replace BK226 := kb BK226 hb; replace HB := kh hb; (try clear hb); (try clear hb2); (try clear hk); (try clear hi); (try clear ho0); obtain ⟨Ao13, co13, eo13⟩ := Kd.R_slice HO229.out; subst eo13))
  go_loopg [23] k (fun kq v23 w' => ∃ (x23_1 : Int), v23 = .int .i64 x23_1 ∧ Aside0 (spec_orPeriod.l0 kq t227 t227 (t227.length : Int) x23_1 = some (r1, r2, r3)) ∧ Aside0 (kq ≤ k) ∧ Aside0 (Kd.R k53 53 w' w.heap.size (fun k_ => k_ ≠ gb226) (.slice Ao13 t227.length co13) t227) ∧ Aside0 (Kd.R k53 53 w' w.heap.size (fun k_ => k_ ≠ gb226) (.slice Ao13 t227.length co13) t227) ∧ Aside0 (w'.heap[gb226]? = some (.cells #[.int .i64 a1_0, .int .i64 a1_1] 53 (0, 0))) ∧ Aside0 (Below w.heap.size w w'))
  case atStart => exact ⟨(0), rs, H', ⟨Nat.le_refl _⟩, ⟨by (with_reducible repeat (first | apply Kd.R_alloc | apply Kd.R_drewN | apply Kd.R_drew)); exact Kd.R_mono HO229.out (fun _ hk => hk.2)⟩, ⟨by (with_reducible repeat (first | apply Kd.R_alloc | apply Kd.R_drewN | apply Kd.R_drew)); exact Kd.R_mono HO229.out (fun _ hk => hk.2)⟩, ⟨by (with_reducible repeat (first | refine blk_drewN ?_ _ | refine blk_drew ?_ | refine blk_alloc ?_ _)); exact BK226.out⟩, ⟨bl⟩⟩
  case round =>
   clear H'
   try clear p2
   try clear c5
   try clear c5b0
   try clear c9
   try clear hcz11_0
   try clear hcz11_1
   try clear hcz7_0
   try clear hcz7_1
   try clear hfz11_0
   try clear hfz11_1
   try clear hfz7_0
   try clear hfz7_1
   obtain ⟨x23_1, rfl, HA, HK1, HO_9, HO_21, BK226, HB⟩ := hrel
   cases gk with
   | zero => exact absurd HA.out (by simp [spec_orPeriod.l0])
   | succ k1 =>
    have H := HA.out
    clear HA
    simp only [spec_orPeriod.l0] at H
    by_cases c14 : x23_1 < (t227.length : Int)
    ·rw [if_pos c14] at H
     have c14b0 : decide (x23_1 < (t227.length : Int)) = true := decide_eq_true c14
     clear c14
     by_cases c15 : 0 ≤ x23_1
     ·rw [if_pos c15] at H
      have c15b0 : decide (0 ≤ x23_1) = true := decide_eq_true c15
      clear c15
      by_cases c16 : x23_1 < (t227.length : Int)
      ·rw [if_pos c16] at H
       have c16b0 : decide (x23_1 < (t227.length : Int)) = true := decide_eq_true c16
       clear c16
       have c17b0 := eq_true (da : 0 ≤ x23_1)
       by_cases c18 : x23_1 ≤ (t227.length : Int)
       ·rw [if_pos c18] at H
        have c18b0 := eq_true c18
        have c18b1 : decide (x23_1 ≤ (t227.length : Int)) = true := decide_eq_true c18
        clear c18
        obtain ⟨y232, hy232⟩ : ∃ y_ : List (S53), y_ = (t227.take (x23_1 : Int).toNat) := ⟨_, rfl⟩
        replace H : ((spec_orAt.f k1 y232 ((rd_T53 t227 x23_1).f0) ((rd_T53 t227 x23_1).f1)).bind fun t236 => (if t236 ≥ 0 then (some (t236, wrap64 (x23_1 - t236), true)) else (spec_orPeriod.l0 k1 t227 t227 (t227.length : Int) (wrap64 (x23_1 + 1))))) = some (r1, r2, r3) := by first | (rw [hy232]; with_reducible exact H) | (have H2_ := (Option.bind_some _ _).symm.trans H; rw [hy232]; with_reducible exact H2_) | (have H2_ := (Option.bind_some _ _).symm.trans H; with_reducible exact H2_) | with_reducible exact H | (rw [hy232]; exact H) | exact H
        have Ny232 := Aside0.mk hy232
        clear hy232
        replace H := Option.bind_eq_some_iff.mp H
        obtain ⟨t236, A190, H⟩ := H
        replace H : (if t236 ≥ 0 then (some (t236, wrap64 (x23_1 - t236), true)) else (spec_orPeriod.l0 k1 t227 t227 (t227.length : Int) (wrap64 (x23_1 + 1)))) = some (r1, r2, r3) := H
        have A19 := Aside0.mk A190
        clear A190
        by_cases c20 : t236 ≥ 0
        ·rw [if_pos c20] at H
         have c20b0 : decide (0 ≤ t236) = true := decide_eq_true c20
         clear c20
         simp only [Option.some.injEq, Prod.mk.injEq] at H
         obtain ⟨rfl, rfl, rfl⟩ := H
         have p230 : 0 ≤ (x23_1 : Int) := da
         have q230 : x23_1 < (t227.length : Int) := da
         obtain ⟨ad230, e230, hx230_0, hx230_1⟩ := at_T53 (Kd.R_reads' HO_21.out).2.2 x23_1 p230 q230
         cases e230
         replace p230 := eq_true p230
         replace q230 := eq_true q230
         try go_wp2_with (first | ((with_reducible refine gate_dst (N := 11) rfl ?_); refine bx 11 #[.int .i64 0, .int .i64 0] 53 ?_; intro gb231 hg w21 hbox hb; have BK231 := Aside0.mk (hbox); have GW231 := Aside0.mk (bz hg); have GE231 := GW231; have NB226_231 := Aside0.mk (bn gb226 hg); have NB231_226 := sy NB226_231; replace HO_9 := Aside0.mk (Kd.R_below (Kd.R_elderB (by (with_reducible repeat (first | apply Kd.R_alloc | apply Kd.R_drewN | apply Kd.R_drew)); exact HO_9.out) gb231 (Nat.le_of_eq hg.symm)) hb); replace HO_21 := Aside0.mk (Kd.R_below (Kd.R_elderB (by (with_reducible repeat (first | apply Kd.R_alloc | apply Kd.R_drewN | apply Kd.R_drew)); exact HO_21.out) gb231 (Nat.le_of_eq hg.symm)) hb); replace BK226 := kb BK226 hb; replace HB := kh hb; clear hb hbox hg; have hnb22 := NB231_226.out; have hnc22 := NB226_231.out; obtain ⟨hcz23_0, hcz23_1, hfz23_0, hfz23_1⟩ := b2 BK231))
         have n0_ : Aside0 (Kd.R k53 53 ((w21.setCell ⟨gb231, 0, none⟩ (.int .i64 ((rd_T53 t227 x23_1).f0))).setCell ⟨gb231, 1, none⟩ (.int .i64 ((rd_T53 t227 x23_1).f1))) w.heap.size (fun k_ => k_ ≠ gb226 ∧ k_ ≠ gb231) (.slice (some ad230) t227.length co13) t227) := ⟨by (with_reducible repeat (first | apply Kd.R_alloc | apply Kd.R_drewN | apply Kd.R_drew)); exact Kd.R_mono (Kd.R_far (p := ⟨gb231, 1, none⟩) (Kd.R_far (p := ⟨gb231, 0, none⟩) (Kd.R_mono HO_9.out (fun k_ hk => (⟨hk, hk.2⟩ : _ ∧ k_ ≠ gb231))) (fun _ hk => hk.2) (.int .i64 ((rd_T53 t227 x23_1).f0))) (fun _ hk => hk.2) (.int .i64 ((rd_T53 t227 x23_1).f1))) (fun _ hk => ⟨hk.1.1, hk.1.2⟩)⟩
         have n1_ : Aside0 (Kd.R k53 53 ((w21.setCell ⟨gb231, 0, none⟩ (.int .i64 ((rd_T53 t227 x23_1).f0))).setCell ⟨gb231, 1, none⟩ (.int .i64 ((rd_T53 t227 x23_1).f1))) w.heap.size (fun k_ => k_ ≠ gb226 ∧ k_ ≠ gb231) (.slice (some ad230) t227.length co13) t227) := ⟨by (with_reducible repeat (first | apply Kd.R_alloc | apply Kd.R_drewN | apply Kd.R_drew)); exact Kd.R_mono (Kd.R_far (p := ⟨gb231, 1, none⟩) (Kd.R_far (p := ⟨gb231, 0, none⟩) (Kd.R_mono HO_21.out (fun k_ hk => (⟨hk, hk.2⟩ : _ ∧ k_ ≠ gb231))) (fun _ hk => hk.2) (.int .i64 ((rd_T53 t227 x23_1).f0))) (fun _ hk => hk.2) (.int .i64 ((rd_T53 t227 x23_1).f1))) (fun _ hk => ⟨hk.1.1, hk.1.2⟩)⟩
         have n2_ : Aside0 (((w21.setCell ⟨gb231, 0, none⟩ (.int .i64 ((rd_T53 t227 x23_1).f0))).setCell ⟨gb231, 1, none⟩ (.int .i64 ((rd_T53 t227 x23_1).f1))).heap[gb226]? = some (.cells #[.int .i64 a1_0, .int .i64 a1_1] 53 (0, 0))) := ⟨by (with_reducible repeat (first | refine blk_drewN ?_ _ | refine blk_drew ?_ | refine blk_alloc ?_ _)); refine blk_far ?_ NB226_231.out _; (with_reducible repeat (first | refine blk_drewN ?_ _ | refine blk_drew ?_ | refine blk_alloc ?_ _)); refine blk_far ?_ NB226_231.out _; (with_reducible repeat (first | refine blk_drewN ?_ _ | refine blk_drew ?_ | refine blk_alloc ?_ _)); exact BK226.out⟩
         have n3_ : Aside0 (((w21.setCell ⟨gb231, 0, none⟩ (.int .i64 ((rd_T53 t227 x23_1).f0))).setCell ⟨gb231, 1, none⟩ (.int .i64 ((rd_T53 t227 x23_1).f1))).heap[gb231]? = some (.cells #[.int .i64 ((rd_T53 t227 x23_1).f0), .int .i64 ((rd_T53 t227 x23_1).f1)] 53 (0, 0))) := ⟨by (with_reducible repeat (first | refine blk_drewN ?_ _ | refine blk_drew ?_ | refine blk_alloc ?_ _)); refine blk_put (cs := #[.int .i64 ((rd_T53 t227 x23_1).f0), .int .i64 0]) ?_ 1 _ rfl; (with_reducible repeat (first | refine blk_drewN ?_ _ | refine blk_drew ?_ | refine blk_alloc ?_ _)); refine blk_put (cs := #[.int .i64 0, .int .i64 0]) ?_ 0 _ rfl; (with_reducible repeat (first | refine blk_drewN ?_ _ | refine blk_drew ?_ | refine blk_alloc ?_ _)); exact BK231.out⟩
         have n4_ : Aside0 (Below w.heap.size w ((w21.setCell ⟨gb231, 0, none⟩ (.int .i64 ((rd_T53 t227 x23_1).f0))).setCell ⟨gb231, 1, none⟩ (.int .i64 ((rd_T53 t227 x23_1).f1)))) := ⟨bl⟩
         (try clear HO_9)
         (try clear HO_21)
         (try clear BK226)
         (try clear BK231)
         (try clear HB)
         generalize ((w21.setCell ⟨gb231, 0, none⟩ (.int .i64 ((rd_T53 t227 x23_1).f0))).setCell ⟨gb231, 1, none⟩ (.int .i64 ((rd_T53 t227 x23_1).f1))) = w24 at n0_ n1_ n2_ n3_ n4_ ⊢
         have HO_9 := n0_
         have HO_21 := n1_
         have BK226 := n2_
         have BK231 := n3_
         have HB := n4_
         clear n0_ n1_ n2_ n3_ n4_
         replace HO_9 := Aside0.mk (Kd.R_drew HO_9.out)
         replace HO_21 := Aside0.mk (Kd.R_drew HO_21.out)
         replace BK226 := Aside0.mk (blk_drew BK226.out)
         replace BK231 := Aside0.mk (blk_drew BK231.out)
         replace HB := Aside0.mk (below_drew1 HB.out)
         have q26 : (x23_1 : Int) ≤ ((t227.length : Int) : Int) := da
         obtain ⟨i026, hi026, _, hsz26, _⟩ := info_parts info53
         have hroom26 : t227.length ≤ co13 := (Kd.R_reads' HO_9.out).2.1
         have hC26 : Kd.C k53 _ (some ad230) t227.length t227 := (Kd.R_reads' HO_9.out).2.2
         have hcut26 := cut_to (P := Try.prog) 84 53 .i64 Try.underlying84 hi026 (some ad230) t227.length co13 x23_1 (da) q26 hroom26
         have hr26 := Kd.C_take (m := (x23_1 : Int).toNat) hC26 (by omega)
         have hy26 : y232.length = (x23_1 : Int).toNat := (by rw [Ny232.out, List.length_take]; omega)
         rw [← Ny232.out] at hr26
         rw [← hy26] at hcut26
         have HR235 := Aside0.mk hr26
         have HC235 := Aside0.mk (show y232.length ≤ co13 from by omega)
         clear hr26 hC26 hroom26 hi026 hsz26
         have KY26 := Aside0.mk hy26
         clear hy26
         have KL26 := Aside0.mk (show (x23_1 : Int).toNat ≤ t227.length from by omega)
         replace q26 := eq_true q26
         refine start_ (n := 6) (S := fun w' => w'.cell? ⟨gb231, 0, none⟩ = some (.int .i64 ((rd_T53 t227 x23_1).f0)) ∧ w'.cell? ⟨gb231, 1, none⟩ = some (.int .i64 ((rd_T53 t227 x23_1).f1))) (ds := []) (tb 0 6) (by kernel_rfl) rfl rfl ⟨(blk_cell BK231.out 0).trans rfl, (blk_cell BK231.out 1).trans rfl⟩ (fun hHeld => ?_)
         generalize w24.drew = w25 at HO_9 HO_21 BK226 BK231 HB HR235 hHeld ⊢
         refine pure_ (i := 0) (N := some 28) (v := ?_) (a' := ?_) (tb 1 5) rfl rfl (by kernel_rfl) (fun _ _ _ h => h) (Or.inl ⟨by rfl, ?_⟩) ?_ ?_
         rotate_left
         ·intro w'
          go_simp
          with_reducible rfl
         rotate_left
         ·simp only [Act.put, List.setIfInBounds_toArray, List.set_cons_zero, List.set_cons_succ, i64_w, i32_w]
          rfl
         refine pure_ (i := 1) (N := some 29) (v := ?_) (a' := ?_) (tb 2 4) rfl rfl (by kernel_rfl) (fun _ _ _ h => h) (Or.inl ⟨by rfl, ?_⟩) ?_ ?_
         rotate_left
         ·intro w'
          go_simp
          with_reducible rfl
         rotate_left
         ·simp only [Act.put, List.setIfInBounds_toArray, List.set_cons_zero, List.set_cons_succ, i64_w, i32_w]
          rfl
         refine pure_ (i := 2) (N := some 30) (v := ?_) (a' := ?_) (tb 3 3) rfl rfl (by kernel_rfl) (fun _ _ _ h => h) (Or.inl ⟨by rfl, ?_⟩) ?_ ?_
         rotate_left
         ·intro w'
          go_simp
          with_reducible rfl
         rotate_left
         ·simp only [Act.put, List.setIfInBounds_toArray, List.set_cons_zero, List.set_cons_succ, i64_w, i32_w]
          rfl
         refine take_ (i := 3) (N := some 31) (v := ?_) (a' := ?_) (tb 4 2) rfl rfl (by kernel_rfl) (fun _ _ _ h => h) (Or.inl ⟨by rfl, ?_⟩) hHeld ?_ ?_
         rotate_left
         ·rintro w' ⟨s0, s1⟩
          go_simp
          with_reducible rfl
         rotate_left
         ·simp only [Act.put, List.setIfInBounds_toArray, List.set_cons_zero, List.set_cons_succ, i64_w, i32_w]
          rfl
         refine one_ (i := 4) (N := some 32) (tb 5 1) rfl rfl (by kernel_rfl) (by decide) (fun K hK => ?_)
         refine gs Try.func107 #[.slice (some ad230) y232.length co13, .agg #[.int .i64 ((rd_T53 t227 x23_1).f0), .int .i64 ((rd_T53 t227 x23_1).f1)]] ?_
         with_reducible refine (spec_orAt.calls k1 _ _ y232 ((rd_T53 t227 x23_1).f0) ((rd_T53 t227 x23_1).f1) t236 _ ?side1 ?side2 A19.out).mono ?_
         (case side1 => repeat (first | exact (by repeat (first | (with_reducible exact HR235.out) | (with_reducible refine Kd.C_alloc ?_ _) | (with_reducible refine Kd.C_drewN ?_ _) | (with_reducible refine Kd.C_drew ?_) | exact HR235.out)) | (with_reducible refine Kd.C_alloc ?_ _) | (with_reducible refine Kd.C_drewN ?_ _) | (with_reducible refine Kd.C_drew ?_)))
         (case side2 => exact HC235.out)
         rintro e w27 ⟨rfl, hb⟩
         refine ⟨_, rfl, ?_⟩
         replace HO_9 := Aside0.mk (Kd.R_below (by (with_reducible repeat (first | apply Kd.R_alloc | apply Kd.R_drewN | apply Kd.R_drew)); exact HO_9.out) hb)
         replace HO_21 := Aside0.mk (Kd.R_below (by (with_reducible repeat (first | apply Kd.R_alloc | apply Kd.R_drewN | apply Kd.R_drew)); exact HO_21.out) hb)
         replace BK226 := kb BK226 hb
         replace BK231 := kb BK231 hb
         replace HR235 := Aside0.mk (Kd.C_below (by repeat (first | (with_reducible exact HR235.out) | (with_reducible refine Kd.C_alloc ?_ _) | (with_reducible refine Kd.C_drewN ?_ _) | (with_reducible refine Kd.C_drew ?_) | exact HR235.out)) hb)
         replace HB := kh hb
         (try clear hb)
         (try clear hb2)
         (try clear hk)
         (try clear hi)
         refine hK.out _ _ ⟨(blk_cell BK231.out 0).trans rfl, (blk_cell BK231.out 1).trans rfl⟩ (fun hHeld => ?_)
         clear hK K
         refine nm 32 ?_
         refine pure_ (i := 5) (N := some 12) (v := ?_) (a' := ?_) (tb 6 0) rfl rfl (by kernel_rfl) (fun _ _ _ h => h) (Or.inl ⟨by rfl, ?_⟩) ?_ ?_
         rotate_left
         ·intro w'
          go_simp
          with_reducible rfl
         rotate_left
         ·simp only [Act.put, List.setIfInBounds_toArray, List.set_cons_zero, List.set_cons_succ, i64_w, i32_w]
          rfl
         refine done_ (by kernel_rfl) ?_
         try go_wp2
         go_ret3
         exact ⟨rt, bl⟩
        ·rw [if_neg c20] at H
         have c20b0 : decide (0 ≤ t236) = false := decide_eq_false c20
         clear c20
         have H' := Aside0.mk H
         clear H
         have p230 : 0 ≤ (x23_1 : Int) := da
         have q230 : x23_1 < (t227.length : Int) := da
         obtain ⟨ad230, e230, hx230_0, hx230_1⟩ := at_T53 (Kd.R_reads' HO_21.out).2.2 x23_1 p230 q230
         cases e230
         replace p230 := eq_true p230
         replace q230 := eq_true q230
         try go_wp2_with (first | ((with_reducible refine gate_dst (N := 11) rfl ?_); refine bx 11 #[.int .i64 0, .int .i64 0] 53 ?_; intro gb231 hg w28 hbox hb; have BK231 := Aside0.mk (hbox); have GW231 := Aside0.mk (bz hg); have GE231 := GW231; have NB226_231 := Aside0.mk (bn gb226 hg); have NB231_226 := sy NB226_231; replace HO_9 := Aside0.mk (Kd.R_below (Kd.R_elderB (by (with_reducible repeat (first | apply Kd.R_alloc | apply Kd.R_drewN | apply Kd.R_drew)); exact HO_9.out) gb231 (Nat.le_of_eq hg.symm)) hb); replace HO_21 := Aside0.mk (Kd.R_below (Kd.R_elderB (by (with_reducible repeat (first | apply Kd.R_alloc | apply Kd.R_drewN | apply Kd.R_drew)); exact HO_21.out) gb231 (Nat.le_of_eq hg.symm)) hb); replace BK226 := kb BK226 hb; replace HB := kh hb; clear hb hbox hg; have hnb29 := NB231_226.out; have hnc29 := NB226_231.out; obtain ⟨hcz30_0, hcz30_1, hfz30_0, hfz30_1⟩ := b2 BK231))
         have n0_ : Aside0 (Kd.R k53 53 ((w28.setCell ⟨gb231, 0, none⟩ (.int .i64 ((rd_T53 t227 x23_1).f0))).setCell ⟨gb231, 1, none⟩ (.int .i64 ((rd_T53 t227 x23_1).f1))) w.heap.size (fun k_ => k_ ≠ gb226 ∧ k_ ≠ gb231) (.slice (some ad230) t227.length co13) t227) := ⟨by (with_reducible repeat (first | apply Kd.R_alloc | apply Kd.R_drewN | apply Kd.R_drew)); exact Kd.R_mono (Kd.R_far (p := ⟨gb231, 1, none⟩) (Kd.R_far (p := ⟨gb231, 0, none⟩) (Kd.R_mono HO_9.out (fun k_ hk => (⟨hk, hk.2⟩ : _ ∧ k_ ≠ gb231))) (fun _ hk => hk.2) (.int .i64 ((rd_T53 t227 x23_1).f0))) (fun _ hk => hk.2) (.int .i64 ((rd_T53 t227 x23_1).f1))) (fun _ hk => ⟨hk.1.1, hk.1.2⟩)⟩
         have n1_ : Aside0 (Kd.R k53 53 ((w28.setCell ⟨gb231, 0, none⟩ (.int .i64 ((rd_T53 t227 x23_1).f0))).setCell ⟨gb231, 1, none⟩ (.int .i64 ((rd_T53 t227 x23_1).f1))) w.heap.size (fun k_ => k_ ≠ gb226 ∧ k_ ≠ gb231) (.slice (some ad230) t227.length co13) t227) := ⟨by (with_reducible repeat (first | apply Kd.R_alloc | apply Kd.R_drewN | apply Kd.R_drew)); exact Kd.R_mono (Kd.R_far (p := ⟨gb231, 1, none⟩) (Kd.R_far (p := ⟨gb231, 0, none⟩) (Kd.R_mono HO_21.out (fun k_ hk => (⟨hk, hk.2⟩ : _ ∧ k_ ≠ gb231))) (fun _ hk => hk.2) (.int .i64 ((rd_T53 t227 x23_1).f0))) (fun _ hk => hk.2) (.int .i64 ((rd_T53 t227 x23_1).f1))) (fun _ hk => ⟨hk.1.1, hk.1.2⟩)⟩
         have n2_ : Aside0 (((w28.setCell ⟨gb231, 0, none⟩ (.int .i64 ((rd_T53 t227 x23_1).f0))).setCell ⟨gb231, 1, none⟩ (.int .i64 ((rd_T53 t227 x23_1).f1))).heap[gb226]? = some (.cells #[.int .i64 a1_0, .int .i64 a1_1] 53 (0, 0))) := ⟨by (with_reducible repeat (first | refine blk_drewN ?_ _ | refine blk_drew ?_ | refine blk_alloc ?_ _)); refine blk_far ?_ NB226_231.out _; (with_reducible repeat (first | refine blk_drewN ?_ _ | refine blk_drew ?_ | refine blk_alloc ?_ _)); refine blk_far ?_ NB226_231.out _; (with_reducible repeat (first | refine blk_drewN ?_ _ | refine blk_drew ?_ | refine blk_alloc ?_ _)); exact BK226.out⟩
         have n3_ : Aside0 (((w28.setCell ⟨gb231, 0, none⟩ (.int .i64 ((rd_T53 t227 x23_1).f0))).setCell ⟨gb231, 1, none⟩ (.int .i64 ((rd_T53 t227 x23_1).f1))).heap[gb231]? = some (.cells #[.int .i64 ((rd_T53 t227 x23_1).f0), .int .i64 ((rd_T53 t227 x23_1).f1)] 53 (0, 0))) := ⟨by (with_reducible repeat (first | refine blk_drewN ?_ _ | refine blk_drew ?_ | refine blk_alloc ?_ _)); refine blk_put (cs := #[.int .i64 ((rd_T53 t227 x23_1).f0), .int .i64 0]) ?_ 1 _ rfl; (with_reducible repeat (first | refine blk_drewN ?_ _ | refine blk_drew ?_ | refine blk_alloc ?_ _)); refine blk_put (cs := #[.int .i64 0, .int .i64 0]) ?_ 0 _ rfl; (with_reducible repeat (first | refine blk_drewN ?_ _ | refine blk_drew ?_ | refine blk_alloc ?_ _)); exact BK231.out⟩
         have n4_ : Aside0 (Below w.heap.size w ((w28.setCell ⟨gb231, 0, none⟩ (.int .i64 ((rd_T53 t227 x23_1).f0))).setCell ⟨gb231, 1, none⟩ (.int .i64 ((rd_T53 t227 x23_1).f1)))) := ⟨bl⟩
         (try clear HO_9)
         (try clear HO_21)
         (try clear BK226)
         (try clear BK231)
         (try clear HB)
         generalize ((w28.setCell ⟨gb231, 0, none⟩ (.int .i64 ((rd_T53 t227 x23_1).f0))).setCell ⟨gb231, 1, none⟩ (.int .i64 ((rd_T53 t227 x23_1).f1))) = w31 at n0_ n1_ n2_ n3_ n4_ ⊢
         have HO_9 := n0_
         have HO_21 := n1_
         have BK226 := n2_
         have BK231 := n3_
         have HB := n4_
         clear n0_ n1_ n2_ n3_ n4_
         replace HO_9 := Aside0.mk (Kd.R_drew HO_9.out)
         replace HO_21 := Aside0.mk (Kd.R_drew HO_21.out)
         replace BK226 := Aside0.mk (blk_drew BK226.out)
         replace BK231 := Aside0.mk (blk_drew BK231.out)
         replace HB := Aside0.mk (below_drew1 HB.out)
         have q33 : (x23_1 : Int) ≤ ((t227.length : Int) : Int) := da
         obtain ⟨i033, hi033, _, hsz33, _⟩ := info_parts info53
         have hroom33 : t227.length ≤ co13 := (Kd.R_reads' HO_9.out).2.1
         have hC33 : Kd.C k53 _ (some ad230) t227.length t227 := (Kd.R_reads' HO_9.out).2.2
         have hcut33 := cut_to (P := Try.prog) 84 53 .i64 Try.underlying84 hi033 (some ad230) t227.length co13 x23_1 (da) q33 hroom33
         have hr33 := Kd.C_take (m := (x23_1 : Int).toNat) hC33 (by omega)
         have hy33 : y232.length = (x23_1 : Int).toNat := (by rw [Ny232.out, List.length_take]; omega)
         rw [← Ny232.out] at hr33
         rw [← hy33] at hcut33
         have HR235 := Aside0.mk hr33
         have HC235 := Aside0.mk (show y232.length ≤ co13 from by omega)
         clear hr33 hC33 hroom33 hi033 hsz33
         have KY33 := Aside0.mk hy33
         clear hy33
         have KL33 := Aside0.mk (show (x23_1 : Int).toNat ≤ t227.length from by omega)
         replace q33 := eq_true q33
         refine start_ (n := 6) (S := fun w' => w'.cell? ⟨gb231, 0, none⟩ = some (.int .i64 ((rd_T53 t227 x23_1).f0)) ∧ w'.cell? ⟨gb231, 1, none⟩ = some (.int .i64 ((rd_T53 t227 x23_1).f1))) (ds := []) (tb 0 6) (by kernel_rfl) rfl rfl ⟨(blk_cell BK231.out 0).trans rfl, (blk_cell BK231.out 1).trans rfl⟩ (fun hHeld => ?_)
         generalize w31.drew = w32 at HO_9 HO_21 BK226 BK231 HB HR235 hHeld ⊢
         refine pure_ (i := 0) (N := some 28) (v := ?_) (a' := ?_) (tb 1 5) rfl rfl (by kernel_rfl) (fun _ _ _ h => h) (Or.inl ⟨by rfl, ?_⟩) ?_ ?_
         rotate_left
         ·intro w'
          go_simp
          with_reducible rfl
         rotate_left
         ·simp only [Act.put, List.setIfInBounds_toArray, List.set_cons_zero, List.set_cons_succ, i64_w, i32_w]
          rfl
         refine pure_ (i := 1) (N := some 29) (v := ?_) (a' := ?_) (tb 2 4) rfl rfl (by kernel_rfl) (fun _ _ _ h => h) (Or.inl ⟨by rfl, ?_⟩) ?_ ?_
         rotate_left
         ·intro w'
          go_simp
          with_reducible rfl
         rotate_left
         ·simp only [Act.put, List.setIfInBounds_toArray, List.set_cons_zero, List.set_cons_succ, i64_w, i32_w]
          rfl
         refine pure_ (i := 2) (N := some 30) (v := ?_) (a' := ?_) (tb 3 3) rfl rfl (by kernel_rfl) (fun _ _ _ h => h) (Or.inl ⟨by rfl, ?_⟩) ?_ ?_
         rotate_left
         ·intro w'
          go_simp
          with_reducible rfl
         rotate_left
         ·simp only [Act.put, List.setIfInBounds_toArray, List.set_cons_zero, List.set_cons_succ, i64_w, i32_w]
          rfl
         refine take_ (i := 3) (N := some 31) (v := ?_) (a' := ?_) (tb 4 2) rfl rfl (by kernel_rfl) (fun _ _ _ h => h) (Or.inl ⟨by rfl, ?_⟩) hHeld ?_ ?_
         rotate_left
         ·rintro w' ⟨s0, s1⟩
          go_simp
          with_reducible rfl
         rotate_left
         ·simp only [Act.put, List.setIfInBounds_toArray, List.set_cons_zero, List.set_cons_succ, i64_w, i32_w]
          rfl
         refine one_ (i := 4) (N := some 32) (tb 5 1) rfl rfl (by kernel_rfl) (by decide) (fun K hK => ?_)
         refine gs Try.func107 #[.slice (some ad230) y232.length co13, .agg #[.int .i64 ((rd_T53 t227 x23_1).f0), .int .i64 ((rd_T53 t227 x23_1).f1)]] ?_
         with_reducible refine (spec_orAt.calls k1 _ _ y232 ((rd_T53 t227 x23_1).f0) ((rd_T53 t227 x23_1).f1) t236 _ ?side1 ?side2 A19.out).mono ?_
         (case side1 => repeat (first | exact (by repeat (first | (with_reducible exact HR235.out) | (with_reducible refine Kd.C_alloc ?_ _) | (with_reducible refine Kd.C_drewN ?_ _) | (with_reducible refine Kd.C_drew ?_) | exact HR235.out)) | (with_reducible refine Kd.C_alloc ?_ _) | (with_reducible refine Kd.C_drewN ?_ _) | (with_reducible refine Kd.C_drew ?_)))
         (case side2 => exact HC235.out)
         rintro e w34 ⟨rfl, hb⟩
         refine ⟨_, rfl, ?_⟩
         replace HO_9 := Aside0.mk (Kd.R_below (by (with_reducible repeat (first | apply Kd.R_alloc | apply Kd.R_drewN | apply Kd.R_drew)); exact HO_9.out) hb)
         replace HO_21 := Aside0.mk (Kd.R_below (by (with_reducible repeat (first | apply Kd.R_alloc | apply Kd.R_drewN | apply Kd.R_drew)); exact HO_21.out) hb)
         replace BK226 := kb BK226 hb
         replace BK231 := kb BK231 hb
         replace HR235 := Aside0.mk (Kd.C_below (by repeat (first | (with_reducible exact HR235.out) | (with_reducible refine Kd.C_alloc ?_ _) | (with_reducible refine Kd.C_drewN ?_ _) | (with_reducible refine Kd.C_drew ?_) | exact HR235.out)) hb)
         replace HB := kh hb
         (try clear hb)
         (try clear hb2)
         (try clear hk)
         (try clear hi)
         refine hK.out _ _ ⟨(blk_cell BK231.out 0).trans rfl, (blk_cell BK231.out 1).trans rfl⟩ (fun hHeld => ?_)
         clear hK K
         refine nm 32 ?_
         refine pure_ (i := 5) (N := some 12) (v := ?_) (a' := ?_) (tb 6 0) rfl rfl (by kernel_rfl) (fun _ _ _ h => h) (Or.inl ⟨by rfl, ?_⟩) ?_ ?_
         rotate_left
         ·intro w'
          go_simp
          with_reducible rfl
         rotate_left
         ·simp only [Act.put, List.setIfInBounds_toArray, List.set_cons_zero, List.set_cons_succ, i64_w, i32_w]
          rfl
         refine done_ (by kernel_rfl) ?_
         try go_wp2
         go_roundg k1
         case measure => have := HK1.out; omega
         case rel => exact ⟨(wrap64 (x23_1 + 1)), rs, H', ⟨by have := HK1.out; omega⟩, ⟨by (with_reducible repeat (first | apply Kd.R_alloc | apply Kd.R_drewN | apply Kd.R_drew)); exact Kd.R_mono HO_9.out (fun _ hk => hk.1)⟩, ⟨by (with_reducible repeat (first | apply Kd.R_alloc | apply Kd.R_drewN | apply Kd.R_drew)); exact Kd.R_mono HO_21.out (fun _ hk => hk.1)⟩, ⟨by (with_reducible repeat (first | refine blk_drewN ?_ _ | refine blk_drew ?_ | refine blk_alloc ?_ _)); exact BK226.out⟩, ⟨bl⟩⟩
       ·rw [if_neg c18] at H
        exact absurd H (by simp)
      ·rw [if_neg c16] at H
       exact absurd H (by simp)
     ·rw [if_neg c15] at H
      exact absurd H (by simp)
    ·rw [if_neg c14] at H
     have c14b0 : decide (x23_1 < (t227.length : Int)) = false := decide_eq_false c14
     clear c14
     simp only [Option.some.injEq, Prod.mk.injEq] at H
     obtain ⟨rfl, rfl, rfl⟩ := H
     go_wp2
     go_ret3
     exact ⟨rt, bl⟩

/-! ### spec_orCycle: function 79 -/
def spec_orCycle.f (k : Nat) (l0 : List (S73)) (a1_0 : Int) (a1_1 : Int) (a2 : Int) : Option ((List (S53)) × Bool) := (spec_orPeriod.f k l0 a1_0 a1_1 a2).bind fun bt238 => (if bt238.2.2 = true then (if bt238.1 > 0 then (some (([] : List (S53)), false)) else ((spec_orRun.f k l0 a1_0 a1_1 a2).bind fun t241 => (if 0 ≤ bt238.2.1 then (if bt238.2.1 ≤ (t241.length : Int) then (some ((t241.take (bt238.2.1 : Int).toNat), true)) else (none)) else (none)))) else (some (([] : List (S53)), false)))
set_option maxHeartbeats 8000000 in
set_option maxRecDepth 100000 in
theorem spec_orCycle.calls (k : Nat) (A0 : Option Addr) (c0 : Nat) (l0 : List (S73)) (a1_0 : Int) (a1_1 : Int) (a2 : Int) (r1 : List (S53)) (r2 : Bool) (w : World) (hr0 : Kd.C k73 w A0 l0.length l0) (hc0 : l0.length ≤ c0) (h : spec_orCycle.f k l0 a1_0 a1_1 a2 = some (r1, r2)) :
  Calls Try.prog 79 #[.slice A0 l0.length c0, .agg #[.int .i64 a1_0, .int .i64 a1_1], .int .i64 a2] w fun e w' => ∃ v0_ : Value, e = .returned (.tuple #[v0_, .bool r2]) ∧ Kd.R k53 53 w' w.heap.size (fun _ => True) v0_ r1 ∧ Below w.heap.size w w' := by
 have hu53 := Try.underlying53
 have HR0 := Aside0.mk hr0
 have HC0 := Aside0.mk hc0
 clear hr0 hc0
 have HB := Aside0.mk (Below.refl w.heap.size w)
 have H : ((spec_orPeriod.f k l0 a1_0 a1_1 a2).bind fun bt238 => (if bt238.2.2 = true then (if bt238.1 > 0 then (some (([] : List (S53)), false)) else ((spec_orRun.f k l0 a1_0 a1_1 a2).bind fun t241 => (if 0 ≤ bt238.2.1 then (if bt238.2.1 ≤ (t241.length : Int) then (some ((t241.take (bt238.2.1 : Int).toNat), true)) else (none)) else (none)))) else (some (([] : List (S53)), false)))) = some (r1, r2) := h
 clear h
 replace H := Option.bind_eq_some_iff.mp H
 obtain ⟨⟨t238, t239, t240⟩, A40, H⟩ := H
 replace H : (if t240 = true then (if t238 > 0 then (some (([] : List (S53)), false)) else ((spec_orRun.f k l0 a1_0 a1_1 a2).bind fun t241 => (if 0 ≤ t239 then (if t239 ≤ (t241.length : Int) then (some ((t241.take (t239 : Int).toNat), true)) else (none)) else (none)))) else (some (([] : List (S53)), false))) = some (r1, r2) := H
 have A4 := Aside0.mk A40
 clear A40
 by_cases c5 : t240 = true
 ·subst c5
  have H1 : (if t238 > 0 then (some (([] : List (S53)), false)) else ((spec_orRun.f k l0 a1_0 a1_1 a2).bind fun t241 => (if 0 ≤ t239 then (if t239 ≤ (t241.length : Int) then (some ((t241.take (t239 : Int).toNat), true)) else (none)) else (none)))) = some (r1, r2) := by rw [if_pos rfl] at H; exact H
  clear H
  have H := H1
  clear H1
  by_cases c6 : t238 > 0
  ·rw [if_pos c6] at H
   have c6b0 : decide (0 < t238) = true := decide_eq_true c6
   clear c6
   simp only [Option.some.injEq, Prod.mk.injEq] at H
   obtain ⟨rfl, rfl⟩ := H
   go_enter Try.func79, Try.ntmps79
   go_wp2_with (first | ((with_reducible refine gate_dst (N := 4) rfl ?_); refine bx 4 #[.int .i64 a1_0, .int .i64 a1_1] 53 ?_; intro gb237 hg w7 hbox hb; have BK237 := Aside0.mk (hbox); have GW237 := Aside0.mk (bz hg); have GE237 := GW237; replace HB := kh hb; clear hb hbox hg; obtain ⟨hcz8_0, hcz8_1, hfz8_0, hfz8_1⟩ := b2 BK237) | ((with_reducible refine gate_callee (f := 93) rfl ?_); refine gl 15 Try.func93 #[.slice A0 l0.length c0, .agg #[.int .i64 a1_0, .int .i64 a1_1], .int .i64 a2] ?_; (with_reducible refine (spec_orPeriod.calls k _ _ l0 a1_0 a1_1 a2 t238 t239 true _ ?side1 ?side2 A4.out).mono ?_); (case side1 => repeat (first | exact (Kd.C_below HR0.out HB.out) | (with_reducible refine Kd.C_alloc ?_ _) | (with_reducible refine Kd.C_drewN ?_ _) | (with_reducible refine Kd.C_drew ?_))); (case side2 => exact HC0.out); rintro e w9 ⟨rfl, hb⟩; refine ⟨_, rfl, ?_⟩; replace BK237 := kb BK237 hb; replace HB := kh hb; (try clear hb); (try clear hb2); (try clear hk); (try clear hi)))
   go_ret2
   exact ⟨_, rt, by first | exact Kd.R_nil _ _ _ _ _ | exact Kd.N_nil _ _ _ _ _ | exact Kd.V_nil _ _ _ _ _ | exact Kd.Q_nil _ _ _ _ _ | exact Kd.S_nil _ _ _ _ _, bl⟩
  ·rw [if_neg c6] at H
   have c6b0 : decide (0 < t238) = false := decide_eq_false c6
   clear c6
   replace H := Option.bind_eq_some_iff.mp H
   obtain ⟨t241, A100, H⟩ := H
   replace H : (if 0 ≤ t239 then (if t239 ≤ (t241.length : Int) then (some ((t241.take (t239 : Int).toNat), true)) else (none)) else (none)) = some (r1, r2) := H
   have A10 := Aside0.mk A100
   clear A100
   by_cases c11 : 0 ≤ t239
   ·rw [if_pos c11] at H
    have c11b0 := eq_true c11
    have c11b1 : decide (0 ≤ t239) = true := decide_eq_true c11
    clear c11
    by_cases c12 : t239 ≤ (t241.length : Int)
    ·rw [if_pos c12] at H
     have c12b0 := eq_true c12
     have c12b1 : decide (t239 ≤ (t241.length : Int)) = true := decide_eq_true c12
     clear c12
     obtain ⟨y244, hy244⟩ : ∃ y_ : List (S53), y_ = (t241.take (t239 : Int).toNat) := ⟨_, rfl⟩
     replace H : (some (y244, true)) = some (r1, r2) := by first | (rw [hy244]; with_reducible exact H) | (have H2_ := (Option.bind_some _ _).symm.trans H; rw [hy244]; with_reducible exact H2_) | (have H2_ := (Option.bind_some _ _).symm.trans H; with_reducible exact H2_) | with_reducible exact H | (rw [hy244]; exact H) | exact H
     have Ny244 := Aside0.mk hy244
     clear hy244
     simp only [Option.some.injEq, Prod.mk.injEq] at H
     obtain ⟨rfl, rfl⟩ := H
     go_enter Try.func79, Try.ntmps79
     go_wp2_with (first | ((with_reducible refine gate_dst (N := 4) rfl ?_); refine bx 4 #[.int .i64 a1_0, .int .i64 a1_1] 53 ?_; intro gb237 hg w13 hbox hb; have BK237 := Aside0.mk (hbox); have GW237 := Aside0.mk (bz hg); have GE237 := GW237; replace HB := kh hb; clear hb hbox hg; obtain ⟨hcz14_0, hcz14_1, hfz14_0, hfz14_1⟩ := b2 BK237) | ((with_reducible refine gate_callee (f := 93) rfl ?_); refine gl 15 Try.func93 #[.slice A0 l0.length c0, .agg #[.int .i64 a1_0, .int .i64 a1_1], .int .i64 a2] ?_; (with_reducible refine (spec_orPeriod.calls k _ _ l0 a1_0 a1_1 a2 t238 t239 true _ ?side1 ?side2 A4.out).mono ?_); (case side1 => repeat (first | exact (Kd.C_below HR0.out HB.out) | (with_reducible refine Kd.C_alloc ?_ _) | (with_reducible refine Kd.C_drewN ?_ _) | (with_reducible refine Kd.C_drew ?_))); (case side2 => exact HC0.out); rintro e w15 ⟨rfl, hb⟩; refine ⟨_, rfl, ?_⟩; replace BK237 := kb BK237 hb; replace HB := kh hb; (try clear hb); (try clear hb2); (try clear hk); (try clear hi); obtain ⟨hcz16_0, hcz16_1, hfz16_0, hfz16_1⟩ := b2 BK237) | ((with_reducible refine gate_callee (f := 94) rfl ?_); refine gl 28 Try.func94 #[.slice A0 l0.length c0, .agg #[.int .i64 a1_0, .int .i64 a1_1], .int .i64 a2] ?_; (with_reducible refine (spec_orRun.calls k _ _ l0 a1_0 a1_1 a2 t241 _ ?side1 ?side2 A10.out).mono ?_); (case side1 => repeat (first | exact (Kd.C_below HR0.out HB.out) | (with_reducible refine Kd.C_alloc ?_ _) | (with_reducible refine Kd.C_drewN ?_ _) | (with_reducible refine Kd.C_drew ?_))); (case side2 => exact HC0.out); rintro e w17 ⟨v242, rfl, ho0, hb⟩; refine ⟨_, rfl, ?_⟩; have HO243 := Aside0.mk (Kd.R_lower (Kd.R_newB ho0 (g := gb237) (o := .cells #[.int .i64 a1_0, .int .i64 a1_1] 53 (0, 0)) (bo gb237)) (below_size bl)); replace BK237 := kb BK237 hb; replace HB := kh hb; (try clear hb); (try clear hb2); (try clear hk); (try clear hi); (try clear ho0); obtain ⟨Ao18, co18, eo18⟩ := Kd.R_slice HO243.out; subst eo18; have q19 : (t239 : Int) ≤ ((t241.length : Int) : Int) := da; obtain ⟨i019, hi019, _, hsz19, _⟩ := info_parts info53; have hcut19 := cut_to (P := Try.prog) 84 53 .i64 Try.underlying84 hi019 Ao18 t241.length co18 t239 (da) q19 (Kd.R_reads' HO243.out).2.1; have hr19 := Kd.R_take (m := (t239 : Int).toNat) HO243.out (by omega); have hy19 : y244.length = (t239 : Int).toNat := (by rw [Ny244.out, List.length_take]; omega); rw [← Ny244.out] at hr19; rw [← hy19] at hr19 hcut19; clear hy19 hi019 hsz19 HO243; have HO246 := Aside0.mk hr19; clear hr19; replace q19 := eq_true q19))
     go_ret2
     exact ⟨_, rt, by (with_reducible repeat (first | apply Kd.R_alloc | apply Kd.R_drewN | apply Kd.R_drew)); exact Kd.R_mono HO246.out (fun _ hk => trivial), bl⟩
    ·rw [if_neg c12] at H
     exact absurd H (by simp)
   ·rw [if_neg c11] at H
    exact absurd H (by simp)
 ·replace c5 := Bool.eq_false_iff.mpr c5
  subst c5
  have H1 : (some (([] : List (S53)), false)) = some (r1, r2) := by rw [if_neg (show ¬ (false = true) by decide)] at H; exact H
  clear H
  have H := H1
  clear H1
  simp only [Option.some.injEq, Prod.mk.injEq] at H
  obtain ⟨rfl, rfl⟩ := H
  go_enter Try.func79, Try.ntmps79
  go_wp2_with (first | ((with_reducible refine gate_dst (N := 4) rfl ?_); refine bx 4 #[.int .i64 a1_0, .int .i64 a1_1] 53 ?_; intro gb237 hg w20 hbox hb; have BK237 := Aside0.mk (hbox); have GW237 := Aside0.mk (bz hg); have GE237 := GW237; replace HB := kh hb; clear hb hbox hg; obtain ⟨hcz21_0, hcz21_1, hfz21_0, hfz21_1⟩ := b2 BK237) | ((with_reducible refine gate_callee (f := 93) rfl ?_); refine gl 15 Try.func93 #[.slice A0 l0.length c0, .agg #[.int .i64 a1_0, .int .i64 a1_1], .int .i64 a2] ?_; (with_reducible refine (spec_orPeriod.calls k _ _ l0 a1_0 a1_1 a2 t238 t239 false _ ?side1 ?side2 A4.out).mono ?_); (case side1 => repeat (first | exact (Kd.C_below HR0.out HB.out) | (with_reducible refine Kd.C_alloc ?_ _) | (with_reducible refine Kd.C_drewN ?_ _) | (with_reducible refine Kd.C_drew ?_))); (case side2 => exact HC0.out); rintro e w22 ⟨rfl, hb⟩; refine ⟨_, rfl, ?_⟩; replace BK237 := kb BK237 hb; replace HB := kh hb; (try clear hb); (try clear hb2); (try clear hk); (try clear hi)))
  go_ret2
  exact ⟨_, rt, by first | exact Kd.R_nil _ _ _ _ _ | exact Kd.N_nil _ _ _ _ _ | exact Kd.V_nil _ _ _ _ _ | exact Kd.Q_nil _ _ _ _ _ | exact Kd.S_nil _ _ _ _ _, bl⟩

end Go.Proofs.Ytannadjfkaghjaa.PFnExactIsRepelling
