-- Written by this session's program wip/pp (the kit's print tool with additions) 35421559b90ae4d0a3588c463048766b98c2df88dd9212a6774a882060cdf62d
import Derived.Test.YtannadjfkaghjaaPFnExactIsRepellingx0
import Derived.Test.YtannadjfkaghjaaPFnExactIsRepellingx1
import Derived.Test.YtannadjfkaghjaaPFnExactIsRepellingx13
import Derived.Test.YtannadjfkaghjaaPFnExactIsRepellingx16
namespace Go.Proofs.Ytannadjfkaghjaa.PFnExactIsRepelling
open Go.RowKit Go.Proofs.YtannadjfkaghjaaW.PrintWords Go.Proofs.YtannadjfkaghjaaW.PrintLast Go.Proofs.YtannadjfkaghjaaW.PrintMore
attribute [local go_sem] max2_int min2_int max_two min_two max_three min_three max_four min_four   -- for this text's walks alone
set_option linter.unusedVariables false
set_option linter.unusedSimpArgs false

attribute [local go_sem high] eqA53
/-! ### impl_OrbitOf: function 98 -/
def impl_OrbitOf.f (k : Nat) (l0 : List (S73)) (a1_0 : Int) (a1_1 : Int) (a2 : Int) : Option ((List (S53)) × Bool) := (impl_isStart.f k l0 a1_0 a1_1 a2).bind fun t498 => (if t498 = true then ((impl_orbit.f k l0 a1_0 a1_1 a2).bind fun t499 => (if (t499.length : Int) ≤ a2 then (some (([] : List (S53)), false)) else (some (t499, true)))) else (some (([] : List (S53)), false)))
set_option maxHeartbeats 8000000 in
set_option maxRecDepth 100000 in
theorem impl_OrbitOf.calls (k : Nat) (A0 : Option Addr) (c0 : Nat) (l0 : List (S73)) (a1_0 : Int) (a1_1 : Int) (a2 : Int) (r1 : List (S53)) (r2 : Bool) (w : World) (hr0 : Kd.C k73 w A0 l0.length l0) (hc0 : l0.length ≤ c0) (h : impl_OrbitOf.f k l0 a1_0 a1_1 a2 = some (r1, r2)) :
  Calls Try.prog 98 #[.slice A0 l0.length c0, .agg #[.int .i64 a1_0, .int .i64 a1_1], .int .i64 a2] w fun e w' => ∃ v0_ : Value, e = .returned (.tuple #[v0_, .bool r2]) ∧ Kd.R k53 53 w' w.heap.size (fun _ => True) v0_ r1 ∧ Below w.heap.size w w' := by
 have hu53 := Try.underlying53
 have HR0 := Aside0.mk hr0
 have HC0 := Aside0.mk hc0
 clear hr0 hc0
 have HB := Aside0.mk (Below.refl w.heap.size w)
 have H : ((impl_isStart.f k l0 a1_0 a1_1 a2).bind fun t498 => (if t498 = true then ((impl_orbit.f k l0 a1_0 a1_1 a2).bind fun t499 => (if (t499.length : Int) ≤ a2 then (some (([] : List (S53)), false)) else (some (t499, true)))) else (some (([] : List (S53)), false)))) = some (r1, r2) := h
 clear h
 replace H := Option.bind_eq_some_iff.mp H
 obtain ⟨t498, A40, H⟩ := H
 replace H : (if t498 = true then ((impl_orbit.f k l0 a1_0 a1_1 a2).bind fun t499 => (if (t499.length : Int) ≤ a2 then (some (([] : List (S53)), false)) else (some (t499, true)))) else (some (([] : List (S53)), false))) = some (r1, r2) := H
 have A4 := Aside0.mk A40
 clear A40
 by_cases c5 : t498 = true
 ·subst c5
  have H1 : ((impl_orbit.f k l0 a1_0 a1_1 a2).bind fun t499 => (if (t499.length : Int) ≤ a2 then (some (([] : List (S53)), false)) else (some (t499, true)))) = some (r1, r2) := by rw [if_pos rfl] at H; exact H
  clear H
  have H := H1
  clear H1
  replace H := Option.bind_eq_some_iff.mp H
  obtain ⟨t499, A60, H⟩ := H
  replace H : (if (t499.length : Int) ≤ a2 then (some (([] : List (S53)), false)) else (some (t499, true))) = some (r1, r2) := H
  have A6 := Aside0.mk A60
  clear A60
  by_cases c7 : (t499.length : Int) ≤ a2
  ·rw [if_pos c7] at H
   have c7b0 : decide ((t499.length : Int) ≤ a2) = true := decide_eq_true c7
   clear c7
   simp only [Option.some.injEq, Prod.mk.injEq] at H
   obtain ⟨rfl, rfl⟩ := H
   go_enter Try.func98, Try.ntmps98
   go_wp2_with (first | ((with_reducible refine gate_dst (N := 4) rfl ?_); refine bx 4 #[.int .i64 a1_0, .int .i64 a1_1] 53 ?_; intro gb497 hg w8 hbox hb; have BK497 := Aside0.mk (hbox); have GW497 := Aside0.mk (bz hg); have GE497 := GW497; replace HB := kh hb; clear hb hbox hg; obtain ⟨hcz9_0, hcz9_1, hfz9_0, hfz9_1⟩ := b2 BK497) | ((with_reducible refine gate_callee (f := 112) rfl ?_); refine gl 12 Try.func112 #[.slice A0 l0.length c0, .agg #[.int .i64 a1_0, .int .i64 a1_1], .int .i64 a2] ?_; (with_reducible refine (impl_isStart.calls k _ _ l0 a1_0 a1_1 a2 true _ ?side1 ?side2 A4.out).mono ?_); (case side1 => repeat (first | exact (Kd.C_below HR0.out HB.out) | (with_reducible refine Kd.C_alloc ?_ _) | (with_reducible refine Kd.C_drewN ?_ _) | (with_reducible refine Kd.C_drew ?_))); (case side2 => exact HC0.out); rintro e w10 ⟨rfl, hb⟩; refine ⟨_, rfl, ?_⟩; replace BK497 := kb BK497 hb; replace HB := kh hb; (try clear hb); (try clear hb2); (try clear hk); (try clear hi); obtain ⟨hcz11_0, hcz11_1, hfz11_0, hfz11_1⟩ := b2 BK497) | ((with_reducible refine gate_callee (f := 113) rfl ?_); refine gl 17 Try.func113 #[.slice A0 l0.length c0, .agg #[.int .i64 a1_0, .int .i64 a1_1], .int .i64 a2] ?_; (with_reducible refine (impl_orbit.calls k _ _ l0 a1_0 a1_1 a2 t499 _ ?side1 ?side2 A6.out).mono ?_); (case side1 => repeat (first | exact (Kd.C_below HR0.out HB.out) | (with_reducible refine Kd.C_alloc ?_ _) | (with_reducible refine Kd.C_drewN ?_ _) | (with_reducible refine Kd.C_drew ?_))); (case side2 => exact HC0.out); rintro e w12 ⟨v500, rfl, ho0, hb⟩; refine ⟨_, rfl, ?_⟩; have HO501 := Aside0.mk (Kd.R_lower (Kd.R_newB ho0 (g := gb497) (o := .cells #[.int .i64 a1_0, .int .i64 a1_1] 53 (0, 0)) (bo gb497)) (below_size bl)); replace BK497 := kb BK497 hb; replace HB := kh hb; (try clear hb); (try clear hb2); (try clear hk); (try clear hi); (try clear ho0); obtain ⟨Ao13, co13, eo13⟩ := Kd.R_slice HO501.out; subst eo13))
   go_ret2
   exact ⟨_, rt, by first | exact Kd.R_nil _ _ _ _ _ | exact Kd.N_nil _ _ _ _ _ | exact Kd.V_nil _ _ _ _ _ | exact Kd.Q_nil _ _ _ _ _ | exact Kd.S_nil _ _ _ _ _, bl⟩
  ·rw [if_neg c7] at H
   have c7b0 : decide ((t499.length : Int) ≤ a2) = false := decide_eq_false c7
   clear c7
   simp only [Option.some.injEq, Prod.mk.injEq] at H
   obtain ⟨rfl, rfl⟩ := H
   go_enter Try.func98, Try.ntmps98
   go_wp2_with (first | ((with_reducible refine gate_dst (N := 4) rfl ?_); refine bx 4 #[.int .i64 a1_0, .int .i64 a1_1] 53 ?_; intro gb497 hg w14 hbox hb; have BK497 := Aside0.mk (hbox); have GW497 := Aside0.mk (bz hg); have GE497 := GW497; replace HB := kh hb; clear hb hbox hg; obtain ⟨hcz15_0, hcz15_1, hfz15_0, hfz15_1⟩ := b2 BK497) | ((with_reducible refine gate_callee (f := 112) rfl ?_); refine gl 12 Try.func112 #[.slice A0 l0.length c0, .agg #[.int .i64 a1_0, .int .i64 a1_1], .int .i64 a2] ?_; (with_reducible refine (impl_isStart.calls k _ _ l0 a1_0 a1_1 a2 true _ ?side1 ?side2 A4.out).mono ?_); (case side1 => repeat (first | exact (Kd.C_below HR0.out HB.out) | (with_reducible refine Kd.C_alloc ?_ _) | (with_reducible refine Kd.C_drewN ?_ _) | (with_reducible refine Kd.C_drew ?_))); (case side2 => exact HC0.out); rintro e w16 ⟨rfl, hb⟩; refine ⟨_, rfl, ?_⟩; replace BK497 := kb BK497 hb; replace HB := kh hb; (try clear hb); (try clear hb2); (try clear hk); (try clear hi); obtain ⟨hcz17_0, hcz17_1, hfz17_0, hfz17_1⟩ := b2 BK497) | ((with_reducible refine gate_callee (f := 113) rfl ?_); refine gl 17 Try.func113 #[.slice A0 l0.length c0, .agg #[.int .i64 a1_0, .int .i64 a1_1], .int .i64 a2] ?_; (with_reducible refine (impl_orbit.calls k _ _ l0 a1_0 a1_1 a2 t499 _ ?side1 ?side2 A6.out).mono ?_); (case side1 => repeat (first | exact (Kd.C_below HR0.out HB.out) | (with_reducible refine Kd.C_alloc ?_ _) | (with_reducible refine Kd.C_drewN ?_ _) | (with_reducible refine Kd.C_drew ?_))); (case side2 => exact HC0.out); rintro e w18 ⟨v500, rfl, ho0, hb⟩; refine ⟨_, rfl, ?_⟩; have HO501 := Aside0.mk (Kd.R_lower (Kd.R_newB ho0 (g := gb497) (o := .cells #[.int .i64 a1_0, .int .i64 a1_1] 53 (0, 0)) (bo gb497)) (below_size bl)); replace BK497 := kb BK497 hb; replace HB := kh hb; (try clear hb); (try clear hb2); (try clear hk); (try clear hi); (try clear ho0); obtain ⟨Ao19, co19, eo19⟩ := Kd.R_slice HO501.out; subst eo19))
   go_ret2
   exact ⟨_, rt, by (with_reducible repeat (first | apply Kd.R_alloc | apply Kd.R_drewN | apply Kd.R_drew)); exact Kd.R_mono HO501.out (fun _ hk => trivial), bl⟩
 ·replace c5 := Bool.eq_false_iff.mpr c5
  subst c5
  have H1 : (some (([] : List (S53)), false)) = some (r1, r2) := by rw [if_neg (show ¬ (false = true) by decide)] at H; exact H
  clear H
  have H := H1
  clear H1
  simp only [Option.some.injEq, Prod.mk.injEq] at H
  obtain ⟨rfl, rfl⟩ := H
  go_enter Try.func98, Try.ntmps98
  go_wp2_with (first | ((with_reducible refine gate_dst (N := 4) rfl ?_); refine bx 4 #[.int .i64 a1_0, .int .i64 a1_1] 53 ?_; intro gb497 hg w20 hbox hb; have BK497 := Aside0.mk (hbox); have GW497 := Aside0.mk (bz hg); have GE497 := GW497; replace HB := kh hb; clear hb hbox hg; obtain ⟨hcz21_0, hcz21_1, hfz21_0, hfz21_1⟩ := b2 BK497) | ((with_reducible refine gate_callee (f := 112) rfl ?_); refine gl 12 Try.func112 #[.slice A0 l0.length c0, .agg #[.int .i64 a1_0, .int .i64 a1_1], .int .i64 a2] ?_; (with_reducible refine (impl_isStart.calls k _ _ l0 a1_0 a1_1 a2 false _ ?side1 ?side2 A4.out).mono ?_); (case side1 => repeat (first | exact (Kd.C_below HR0.out HB.out) | (with_reducible refine Kd.C_alloc ?_ _) | (with_reducible refine Kd.C_drewN ?_ _) | (with_reducible refine Kd.C_drew ?_))); (case side2 => exact HC0.out); rintro e w22 ⟨rfl, hb⟩; refine ⟨_, rfl, ?_⟩; replace BK497 := kb BK497 hb; replace HB := kh hb; (try clear hb); (try clear hb2); (try clear hk); (try clear hi)))
  go_ret2
  exact ⟨_, rt, by first | exact Kd.R_nil _ _ _ _ _ | exact Kd.N_nil _ _ _ _ _ | exact Kd.V_nil _ _ _ _ _ | exact Kd.Q_nil _ _ _ _ _ | exact Kd.S_nil _ _ _ _ _, bl⟩

/-! ### impl_Rat_114: function 114 -/
def impl_Rat_114.l0 : Nat → List (S53) → Int → Int → Int → Int → Option (Int)
 | 0, _, _, _, _, _ => none
 | k + 1, x0, x7, x8, x503000, x503001 => if x8 < x7 then (if 0 ≤ x8 then (if x8 < (x0.length : Int) then (if (x503000 == ((rd_T53 x0 x8).f0) && (x503001 == ((rd_T53 x0 x8).f1))) = true then (some x8) else (impl_Rat_114.l0 k x0 x7 (wrap64 (x8 + 1)) x503000 x503001)) else (none)) else (none)) else (some (-1))
def impl_Rat_114.f (k : Nat) (l0 : List (S53)) (a1_0 : Int) (a1_1 : Int) : Option (Int) := impl_Rat_114.l0 k l0 (l0.length : Int) 0 a1_0 a1_1
set_option maxHeartbeats 8000000 in
set_option maxRecDepth 100000 in
theorem impl_Rat_114.calls (k : Nat) (A0 : Option Addr) (c0 : Nat) (l0 : List (S53)) (a1_0 : Int) (a1_1 : Int) (r : Int) (w : World) (hr0 : Kd.C k53 w A0 l0.length l0) (hc0 : l0.length ≤ c0) (h : impl_Rat_114.f k l0 a1_0 a1_1 = some r) :
  Calls Try.prog 114 #[.slice A0 l0.length c0, .agg #[.int .i64 a1_0, .int .i64 a1_1]] w fun e w' => e = .returned (.int .i64 r) ∧ Below w.heap.size w w' := by
 have hu53 := Try.underlying53
 have HR0 := Aside0.mk hr0
 have HC0 := Aside0.mk hc0
 clear hr0 hc0
 have HB := Aside0.mk (Below.refl w.heap.size w)
 have H : (impl_Rat_114.l0 k l0 (l0.length : Int) 0 a1_0 a1_1) = some r := h
 clear h
 have H' := Aside0.mk H
 clear H
 go_enter Try.func114, Try.ntmps114
 go_wp2_with (first | ((with_reducible refine gate_dst (N := 3) rfl ?_); refine bx 3 #[.int .i64 a1_0, .int .i64 a1_1] 53 ?_; intro gb502 hg w3 hbox hb; have BK502 := Aside0.mk (hbox); have GW502 := Aside0.mk (bz hg); have GE502 := GW502; replace HB := kh hb; clear hb hbox hg))
 repeat (go_quiet (first | ((with_reducible refine gate_dst (N := 3) rfl ?_); refine bx 3 #[.int .i64 a1_0, .int .i64 a1_1] 53 ?_; intro gb502 hg w3 hbox hb; have BK502 := Aside0.mk (hbox); have GW502 := Aside0.mk (bz hg); have GE502 := GW502; replace HB := kh hb; clear hb hbox hg)); try go_wp2_with (first | ((with_reducible refine gate_dst (N := 3) rfl ?_); refine bx 3 #[.int .i64 a1_0, .int .i64 a1_1] 53 ?_; intro gb502 hg w3 hbox hb; have BK502 := Aside0.mk (hbox); have GW502 := Aside0.mk (bz hg); have GE502 := GW502; replace HB := kh hb; clear hb hbox hg)))
 go_loopg [8] k (fun kq v8 w' => ∃ (x8_1 : Int), v8 = .int .i64 x8_1 ∧ Aside0 (impl_Rat_114.l0 kq l0 (l0.length : Int) x8_1 a1_0 a1_1 = some r) ∧ Aside0 (kq ≤ k) ∧ Aside0 (w'.heap[gb502]? = some (.cells #[.int .i64 a1_0, .int .i64 a1_1] 53 (0, 0))) ∧ Aside0 (Below w.heap.size w w'))
 case atStart => exact ⟨(0), rs, H', ⟨Nat.le_refl _⟩, ⟨by (with_reducible repeat (first | refine blk_drewN ?_ _ | refine blk_drew ?_ | refine blk_alloc ?_ _)); exact BK502.out⟩, ⟨bl⟩⟩
 case round =>
  clear H'
  try clear c1
  try clear p2
  obtain ⟨x8_1, rfl, HA, HK1, BK502, HB⟩ := hrel
  cases gk with
  | zero => exact absurd HA.out (by simp [impl_Rat_114.l0])
  | succ k1 =>
   have H := HA.out
   clear HA
   simp only [impl_Rat_114.l0] at H
   by_cases c4 : x8_1 < (l0.length : Int)
   ·rw [if_pos c4] at H
    have c4b0 : decide (x8_1 < (l0.length : Int)) = true := decide_eq_true c4
    clear c4
    by_cases c5 : 0 ≤ x8_1
    ·rw [if_pos c5] at H
     have c5b0 : decide (0 ≤ x8_1) = true := decide_eq_true c5
     clear c5
     by_cases c6 : x8_1 < (l0.length : Int)
     ·rw [if_pos c6] at H
      have c6b0 : decide (x8_1 < (l0.length : Int)) = true := decide_eq_true c6
      clear c6
      by_cases c7 : (a1_0 == ((rd_T53 l0 x8_1).f0) && (a1_1 == ((rd_T53 l0 x8_1).f1))) = true
      ·rw [if_pos c7] at H
       have c7b0 : (a1_0 == ((rd_T53 l0 x8_1).f0) && (a1_1 == ((rd_T53 l0 x8_1).f1))) = true := c7
       (try (have c7b1 : decide (a1_0 = ((rd_T53 l0 x8_1).f0) && (a1_1 == ((rd_T53 l0 x8_1).f1))) = true := by simpa using c7))
       (try (have c7b2 : (a1_0 == ((rd_T53 l0 x8_1).f0) && (a1_1 == ((rd_T53 l0 x8_1).f1))) = true := by simpa using c7))
       clear c7
       obtain rfl := Option.some.inj H
       obtain ⟨hcz8_0, hcz8_1, hfz8_0, hfz8_1⟩ := b2 BK502
       have p503 : 0 ≤ (x8_1 : Int) := da
       have q503 : x8_1 < (l0.length : Int) := da
       obtain ⟨ad503, e503, hx503_0, hx503_1⟩ := at_T53 HR0.out x8_1 p503 q503
       cases e503
       replace hx503_0 := (hc HB hx503_0 :)
       replace hx503_1 := (hc HB hx503_1 :)
       replace p503 := eq_true p503
       replace q503 := eq_true q503
       go_wp2
       repeat (go_quiet (fail); try go_wp2)
       go_ret
       exact ⟨rt, bl⟩
      ·rw [if_neg c7] at H
       have c7b0 : (a1_0 == ((rd_T53 l0 x8_1).f0) && (a1_1 == ((rd_T53 l0 x8_1).f1))) = false := by simpa using c7
       (try (have c7b1 : decide (a1_0 = ((rd_T53 l0 x8_1).f0) && (a1_1 == ((rd_T53 l0 x8_1).f1))) = false := by simpa using c7))
       (try (have c7b2 : (a1_0 == ((rd_T53 l0 x8_1).f0) && (a1_1 == ((rd_T53 l0 x8_1).f1))) = false := by simpa using c7))
       (try (have c7b3 : ¬ (a1_0 = ((rd_T53 l0 x8_1).f0) && (a1_1 == ((rd_T53 l0 x8_1).f1))) := by simpa using c7))
       clear c7
       have H' := Aside0.mk H
       clear H
       obtain ⟨hcz9_0, hcz9_1, hfz9_0, hfz9_1⟩ := b2 BK502
       have p503 : 0 ≤ (x8_1 : Int) := da
       have q503 : x8_1 < (l0.length : Int) := da
       obtain ⟨ad503, e503, hx503_0, hx503_1⟩ := at_T53 HR0.out x8_1 p503 q503
       cases e503
       replace hx503_0 := (hc HB hx503_0 :)
       replace hx503_1 := (hc HB hx503_1 :)
       replace p503 := eq_true p503
       replace q503 := eq_true q503
       go_wp2
       repeat (go_quiet (fail); try go_wp2)
       go_roundg k1
       case measure => have := HK1.out; omega
       case rel => exact ⟨(wrap64 (x8_1 + 1)), rs, H', ⟨by have := HK1.out; omega⟩, ⟨by (with_reducible repeat (first | refine blk_drewN ?_ _ | refine blk_drew ?_ | refine blk_alloc ?_ _)); exact BK502.out⟩, ⟨bl⟩⟩
     ·rw [if_neg c6] at H
      exact absurd H (by simp)
    ·rw [if_neg c5] at H
     exact absurd H (by simp)
   ·rw [if_neg c4] at H
    have c4b0 : decide (x8_1 < (l0.length : Int)) = false := decide_eq_false c4
    clear c4
    obtain rfl := Option.some.inj H
    go_wp2
    repeat (go_quiet (fail); try go_wp2)
    go_ret
    exact ⟨rt, bl⟩

/-! ### impl_periodIn: function 99 -/
def impl_periodIn.l0 : Nat → List (S53) → List (S53) → Int → Int → Option (Int × Int × Bool)
 | 0, _, _, _, _ => none
 | k + 1, x0, x8, x9, x10 => if x10 < x9 then (if 0 ≤ x10 then (if x10 < (x8.length : Int) then (if x10 ≤ (x0.length : Int) then ((impl_Rat_114.f k (x0.take (x10 : Int).toNat) ((rd_T53 x8 x10).f0) ((rd_T53 x8 x10).f1)).bind fun t510 => (if t510 ≥ 0 then (some (t510, wrap64 (x10 - t510), true)) else (impl_periodIn.l0 k x0 x8 x9 (wrap64 (x10 + 1))))) else (none)) else (none)) else (none)) else (some (0, 0, false))
def impl_periodIn.f (k : Nat) (l0 : List (S53)) : Option (Int × Int × Bool) := impl_periodIn.l0 k l0 l0 (l0.length : Int) 0
set_option maxHeartbeats 8000000 in
set_option maxRecDepth 100000 in
theorem impl_periodIn.calls (k : Nat) (A0 : Option Addr) (c0 : Nat) (l0 : List (S53)) (r1 : Int) (r2 : Int) (r3 : Bool) (w : World) (hr0 : Kd.C k53 w A0 l0.length l0) (hc0 : l0.length ≤ c0) (h : impl_periodIn.f k l0 = some (r1, r2, r3)) :
  Calls Try.prog 99 #[.slice A0 l0.length c0] w fun e w' => e = .returned (.tuple #[.int .i64 r1, .int .i64 r2, .bool r3]) ∧ Below w.heap.size w w' := by
 have hu53 := Try.underlying53
 have HR0 := Aside0.mk hr0
 have HC0 := Aside0.mk hc0
 clear hr0 hc0
 have HB := Aside0.mk (Below.refl w.heap.size w)
 have H : (impl_periodIn.l0 k l0 l0 (l0.length : Int) 0) = some (r1, r2, r3) := h
 clear h
 have H' := Aside0.mk H
 clear H
 go_enter Try.func99, Try.ntmps99
 go_wp2
 go_loopg [10] k (fun kq v10 w' => ∃ (x10_1 : Int), v10 = .int .i64 x10_1 ∧ Aside0 (impl_periodIn.l0 kq l0 l0 (l0.length : Int) x10_1 = some (r1, r2, r3)) ∧ Aside0 (kq ≤ k) ∧ Aside0 (Below w.heap.size w w'))
 case atStart => exact ⟨(0), rs, H', ⟨Nat.le_refl _⟩, ⟨bl⟩⟩
 case round =>
  clear H'
  obtain ⟨x10_1, rfl, HA, HK1, HB⟩ := hrel
  cases gk with
  | zero => exact absurd HA.out (by simp [impl_periodIn.l0])
  | succ k1 =>
   have H := HA.out
   clear HA
   simp only [impl_periodIn.l0] at H
   by_cases c2 : x10_1 < (l0.length : Int)
   ·rw [if_pos c2] at H
    have c2b0 : decide (x10_1 < (l0.length : Int)) = true := decide_eq_true c2
    clear c2
    by_cases c3 : 0 ≤ x10_1
    ·rw [if_pos c3] at H
     have c3b0 : decide (0 ≤ x10_1) = true := decide_eq_true c3
     clear c3
     by_cases c4 : x10_1 < (l0.length : Int)
     ·rw [if_pos c4] at H
      have c4b0 : decide (x10_1 < (l0.length : Int)) = true := decide_eq_true c4
      clear c4
      have c5b0 := eq_true (da : 0 ≤ x10_1)
      by_cases c6 : x10_1 ≤ (l0.length : Int)
      ·rw [if_pos c6] at H
       have c6b0 := eq_true c6
       have c6b1 : decide (x10_1 ≤ (l0.length : Int)) = true := decide_eq_true c6
       clear c6
       obtain ⟨y506, hy506⟩ : ∃ y_ : List (S53), y_ = (l0.take (x10_1 : Int).toNat) := ⟨_, rfl⟩
       replace H : ((impl_Rat_114.f k1 y506 ((rd_T53 l0 x10_1).f0) ((rd_T53 l0 x10_1).f1)).bind fun t510 => (if t510 ≥ 0 then (some (t510, wrap64 (x10_1 - t510), true)) else (impl_periodIn.l0 k1 l0 l0 (l0.length : Int) (wrap64 (x10_1 + 1))))) = some (r1, r2, r3) := by first | (rw [hy506]; with_reducible exact H) | (have H2_ := (Option.bind_some _ _).symm.trans H; rw [hy506]; with_reducible exact H2_) | (have H2_ := (Option.bind_some _ _).symm.trans H; with_reducible exact H2_) | with_reducible exact H | (rw [hy506]; exact H) | exact H
       have Ny506 := Aside0.mk hy506
       clear hy506
       replace H := Option.bind_eq_some_iff.mp H
       obtain ⟨t510, A70, H⟩ := H
       replace H : (if t510 ≥ 0 then (some (t510, wrap64 (x10_1 - t510), true)) else (impl_periodIn.l0 k1 l0 l0 (l0.length : Int) (wrap64 (x10_1 + 1)))) = some (r1, r2, r3) := H
       have A7 := Aside0.mk A70
       clear A70
       by_cases c8 : t510 ≥ 0
       ·rw [if_pos c8] at H
        have c8b0 : decide (0 ≤ t510) = true := decide_eq_true c8
        clear c8
        simp only [Option.some.injEq, Prod.mk.injEq] at H
        obtain ⟨rfl, rfl, rfl⟩ := H
        have p504 : 0 ≤ (x10_1 : Int) := da
        have q504 : x10_1 < (l0.length : Int) := da
        obtain ⟨ad504, e504, hx504_0, hx504_1⟩ := at_T53 HR0.out x10_1 p504 q504
        cases e504
        replace hx504_0 := (hc HB hx504_0 :)
        replace hx504_1 := (hc HB hx504_1 :)
        replace p504 := eq_true p504
        replace q504 := eq_true q504
        try go_wp2_with (first | ((with_reducible refine gate_dst (N := 6) rfl ?_); refine bx 6 #[.int .i64 0, .int .i64 0] 53 ?_; intro gb505 hg w9 hbox hb; have BK505 := Aside0.mk (hbox); have GW505 := Aside0.mk (bz hg); have GE505 := GW505; replace HB := kh hb; clear hb hbox hg; obtain ⟨hcz10_0, hcz10_1, hfz10_0, hfz10_1⟩ := b2 BK505))
        have n0_ : Aside0 (((w9.setCell ⟨gb505, 0, none⟩ (.int .i64 ((rd_T53 l0 x10_1).f0))).setCell ⟨gb505, 1, none⟩ (.int .i64 ((rd_T53 l0 x10_1).f1))).heap[gb505]? = some (.cells #[.int .i64 ((rd_T53 l0 x10_1).f0), .int .i64 ((rd_T53 l0 x10_1).f1)] 53 (0, 0))) := ⟨by (with_reducible repeat (first | refine blk_drewN ?_ _ | refine blk_drew ?_ | refine blk_alloc ?_ _)); refine blk_put (cs := #[.int .i64 ((rd_T53 l0 x10_1).f0), .int .i64 0]) ?_ 1 _ rfl; (with_reducible repeat (first | refine blk_drewN ?_ _ | refine blk_drew ?_ | refine blk_alloc ?_ _)); refine blk_put (cs := #[.int .i64 0, .int .i64 0]) ?_ 0 _ rfl; (with_reducible repeat (first | refine blk_drewN ?_ _ | refine blk_drew ?_ | refine blk_alloc ?_ _)); exact BK505.out⟩
        have n1_ : Aside0 (Below w.heap.size w ((w9.setCell ⟨gb505, 0, none⟩ (.int .i64 ((rd_T53 l0 x10_1).f0))).setCell ⟨gb505, 1, none⟩ (.int .i64 ((rd_T53 l0 x10_1).f1)))) := ⟨bl⟩
        (try clear BK505)
        (try clear HB)
        generalize ((w9.setCell ⟨gb505, 0, none⟩ (.int .i64 ((rd_T53 l0 x10_1).f0))).setCell ⟨gb505, 1, none⟩ (.int .i64 ((rd_T53 l0 x10_1).f1))) = w11 at n0_ n1_ ⊢
        have BK505 := n0_
        have HB := n1_
        clear n0_ n1_
        replace BK505 := Aside0.mk (blk_drew BK505.out)
        replace HB := Aside0.mk (below_drew1 HB.out)
        have q13 : (x10_1 : Int) ≤ ((l0.length : Int) : Int) := da
        obtain ⟨i013, hi013, _, hsz13, _⟩ := info_parts info53
        have hroom13 : l0.length ≤ c0 := HC0.out
        have hC13 : Kd.C k53 _ (some ad504) l0.length l0 := HR0.out
        have hcut13 := cut_to (P := Try.prog) 84 53 .i64 Try.underlying84 hi013 (some ad504) l0.length c0 x10_1 (da) q13 hroom13
        have hr13 := Kd.C_take (m := (x10_1 : Int).toNat) hC13 (by omega)
        have hy13 : y506.length = (x10_1 : Int).toNat := (by rw [Ny506.out, List.length_take]; omega)
        rw [← Ny506.out] at hr13
        rw [← hy13] at hcut13
        have HR509 := Aside0.mk hr13
        have HC509 := Aside0.mk (show y506.length ≤ c0 from by omega)
        clear hr13 hC13 hroom13 hi013 hsz13
        have KY13 := Aside0.mk hy13
        clear hy13
        replace q13 := eq_true q13
        refine start_ (n := 6) (S := fun w' => w'.cell? ⟨gb505, 0, none⟩ = some (.int .i64 ((rd_T53 l0 x10_1).f0)) ∧ w'.cell? ⟨gb505, 1, none⟩ = some (.int .i64 ((rd_T53 l0 x10_1).f1))) (ds := []) (tb 0 6) (by kernel_rfl) rfl rfl ⟨(blk_cell BK505.out 0).trans rfl, (blk_cell BK505.out 1).trans rfl⟩ (fun hHeld => ?_)
        generalize w11.drew = w12 at BK505 HB HR509 hHeld ⊢
        refine pure_ (i := 0) (N := some 15) (v := ?_) (a' := ?_) (tb 1 5) rfl rfl (by kernel_rfl) (fun _ _ _ h => h) (Or.inl ⟨by rfl, ?_⟩) ?_ ?_
        rotate_left
        ·intro w'
         go_simp
         with_reducible rfl
        rotate_left
        ·simp only [Act.put, List.setIfInBounds_toArray, List.set_cons_zero, List.set_cons_succ, i64_w, i32_w]
         rfl
        refine pure_ (i := 1) (N := some 16) (v := ?_) (a' := ?_) (tb 2 4) rfl rfl (by kernel_rfl) (fun _ _ _ h => h) (Or.inl ⟨by rfl, ?_⟩) ?_ ?_
        rotate_left
        ·intro w'
         go_simp
         with_reducible rfl
        rotate_left
        ·simp only [Act.put, List.setIfInBounds_toArray, List.set_cons_zero, List.set_cons_succ, i64_w, i32_w]
         rfl
        refine pure_ (i := 2) (N := some 17) (v := ?_) (a' := ?_) (tb 3 3) rfl rfl (by kernel_rfl) (fun _ _ _ h => h) (Or.inl ⟨by rfl, ?_⟩) ?_ ?_
        rotate_left
        ·intro w'
         go_simp
         with_reducible rfl
        rotate_left
        ·simp only [Act.put, List.setIfInBounds_toArray, List.set_cons_zero, List.set_cons_succ, i64_w, i32_w]
         rfl
        refine take_ (i := 3) (N := some 18) (v := ?_) (a' := ?_) (tb 4 2) rfl rfl (by kernel_rfl) (fun _ _ _ h => h) (Or.inl ⟨by rfl, ?_⟩) hHeld ?_ ?_
        rotate_left
        ·rintro w' ⟨s0, s1⟩
         go_simp
         with_reducible rfl
        rotate_left
        ·simp only [Act.put, List.setIfInBounds_toArray, List.set_cons_zero, List.set_cons_succ, i64_w, i32_w]
         rfl
        refine one_ (i := 4) (N := some 19) (tb 5 1) rfl rfl (by kernel_rfl) (by decide) (fun K hK => ?_)
        refine gs Try.func114 #[.slice (some ad504) y506.length c0, .agg #[.int .i64 ((rd_T53 l0 x10_1).f0), .int .i64 ((rd_T53 l0 x10_1).f1)]] ?_
        with_reducible refine (impl_Rat_114.calls k1 _ _ y506 ((rd_T53 l0 x10_1).f0) ((rd_T53 l0 x10_1).f1) t510 _ ?side1 ?side2 A7.out).mono ?_
        (case side1 => repeat (first | exact (Kd.C_below HR509.out HB.out) | (with_reducible refine Kd.C_alloc ?_ _) | (with_reducible refine Kd.C_drewN ?_ _) | (with_reducible refine Kd.C_drew ?_)))
        (case side2 => exact HC509.out)
        rintro e w14 ⟨rfl, hb⟩
        refine ⟨_, rfl, ?_⟩
        replace BK505 := kb BK505 hb
        replace HB := kh hb
        (try clear hb)
        (try clear hb2)
        (try clear hk)
        (try clear hi)
        refine hK.out _ _ ⟨(blk_cell BK505.out 0).trans rfl, (blk_cell BK505.out 1).trans rfl⟩ (fun hHeld => ?_)
        clear hK K
        refine nm 19 ?_
        refine pure_ (i := 5) (N := some 7) (v := ?_) (a' := ?_) (tb 6 0) rfl rfl (by kernel_rfl) (fun _ _ _ h => h) (Or.inl ⟨by rfl, ?_⟩) ?_ ?_
        rotate_left
        ·intro w'
         go_simp
         with_reducible rfl
        rotate_left
        ·simp only [Act.put, List.setIfInBounds_toArray, List.set_cons_zero, List.set_cons_succ, i64_w, i32_w]
         rfl
        refine done_ (by kernel_rfl) ?_
        try go_wp2
        go_ret3
        exact ⟨rt, bl⟩
       ·rw [if_neg c8] at H
        have c8b0 : decide (0 ≤ t510) = false := decide_eq_false c8
        clear c8
        have H' := Aside0.mk H
        clear H
        have p504 : 0 ≤ (x10_1 : Int) := da
        have q504 : x10_1 < (l0.length : Int) := da
        obtain ⟨ad504, e504, hx504_0, hx504_1⟩ := at_T53 HR0.out x10_1 p504 q504
        cases e504
        replace hx504_0 := (hc HB hx504_0 :)
        replace hx504_1 := (hc HB hx504_1 :)
        replace p504 := eq_true p504
        replace q504 := eq_true q504
        try go_wp2_with (first | ((with_reducible refine gate_dst (N := 6) rfl ?_); refine bx 6 #[.int .i64 0, .int .i64 0] 53 ?_; intro gb505 hg w15 hbox hb; have BK505 := Aside0.mk (hbox); have GW505 := Aside0.mk (bz hg); have GE505 := GW505; replace HB := kh hb; clear hb hbox hg; obtain ⟨hcz16_0, hcz16_1, hfz16_0, hfz16_1⟩ := b2 BK505))
        have n0_ : Aside0 (((w15.setCell ⟨gb505, 0, none⟩ (.int .i64 ((rd_T53 l0 x10_1).f0))).setCell ⟨gb505, 1, none⟩ (.int .i64 ((rd_T53 l0 x10_1).f1))).heap[gb505]? = some (.cells #[.int .i64 ((rd_T53 l0 x10_1).f0), .int .i64 ((rd_T53 l0 x10_1).f1)] 53 (0, 0))) := ⟨by (with_reducible repeat (first | refine blk_drewN ?_ _ | refine blk_drew ?_ | refine blk_alloc ?_ _)); refine blk_put (cs := #[.int .i64 ((rd_T53 l0 x10_1).f0), .int .i64 0]) ?_ 1 _ rfl; (with_reducible repeat (first | refine blk_drewN ?_ _ | refine blk_drew ?_ | refine blk_alloc ?_ _)); refine blk_put (cs := #[.int .i64 0, .int .i64 0]) ?_ 0 _ rfl; (with_reducible repeat (first | refine blk_drewN ?_ _ | refine blk_drew ?_ | refine blk_alloc ?_ _)); exact BK505.out⟩
        have n1_ : Aside0 (Below w.heap.size w ((w15.setCell ⟨gb505, 0, none⟩ (.int .i64 ((rd_T53 l0 x10_1).f0))).setCell ⟨gb505, 1, none⟩ (.int .i64 ((rd_T53 l0 x10_1).f1)))) := ⟨bl⟩
        (try clear BK505)
        (try clear HB)
        generalize ((w15.setCell ⟨gb505, 0, none⟩ (.int .i64 ((rd_T53 l0 x10_1).f0))).setCell ⟨gb505, 1, none⟩ (.int .i64 ((rd_T53 l0 x10_1).f1))) = w17 at n0_ n1_ ⊢
        have BK505 := n0_
        have HB := n1_
        clear n0_ n1_
        replace BK505 := Aside0.mk (blk_drew BK505.out)
        replace HB := Aside0.mk (below_drew1 HB.out)
        have q19 : (x10_1 : Int) ≤ ((l0.length : Int) : Int) := da
        obtain ⟨i019, hi019, _, hsz19, _⟩ := info_parts info53
        have hroom19 : l0.length ≤ c0 := HC0.out
        have hC19 : Kd.C k53 _ (some ad504) l0.length l0 := HR0.out
        have hcut19 := cut_to (P := Try.prog) 84 53 .i64 Try.underlying84 hi019 (some ad504) l0.length c0 x10_1 (da) q19 hroom19
        have hr19 := Kd.C_take (m := (x10_1 : Int).toNat) hC19 (by omega)
        have hy19 : y506.length = (x10_1 : Int).toNat := (by rw [Ny506.out, List.length_take]; omega)
        rw [← Ny506.out] at hr19
        rw [← hy19] at hcut19
        have HR509 := Aside0.mk hr19
        have HC509 := Aside0.mk (show y506.length ≤ c0 from by omega)
        clear hr19 hC19 hroom19 hi019 hsz19
        have KY19 := Aside0.mk hy19
        clear hy19
        replace q19 := eq_true q19
        refine start_ (n := 6) (S := fun w' => w'.cell? ⟨gb505, 0, none⟩ = some (.int .i64 ((rd_T53 l0 x10_1).f0)) ∧ w'.cell? ⟨gb505, 1, none⟩ = some (.int .i64 ((rd_T53 l0 x10_1).f1))) (ds := []) (tb 0 6) (by kernel_rfl) rfl rfl ⟨(blk_cell BK505.out 0).trans rfl, (blk_cell BK505.out 1).trans rfl⟩ (fun hHeld => ?_)
        generalize w17.drew = w18 at BK505 HB HR509 hHeld ⊢
        refine pure_ (i := 0) (N := some 15) (v := ?_) (a' := ?_) (tb 1 5) rfl rfl (by kernel_rfl) (fun _ _ _ h => h) (Or.inl ⟨by rfl, ?_⟩) ?_ ?_
        rotate_left
        ·intro w'
         go_simp
         with_reducible rfl
        rotate_left
        ·simp only [Act.put, List.setIfInBounds_toArray, List.set_cons_zero, List.set_cons_succ, i64_w, i32_w]
         rfl
        refine pure_ (i := 1) (N := some 16) (v := ?_) (a' := ?_) (tb 2 4) rfl rfl (by kernel_rfl) (fun _ _ _ h => h) (Or.inl ⟨by rfl, ?_⟩) ?_ ?_
        rotate_left
        ·intro w'
         go_simp
         with_reducible rfl
        rotate_left
        ·simp only [Act.put, List.setIfInBounds_toArray, List.set_cons_zero, List.set_cons_succ, i64_w, i32_w]
         rfl
        refine pure_ (i := 2) (N := some 17) (v := ?_) (a' := ?_) (tb 3 3) rfl rfl (by kernel_rfl) (fun _ _ _ h => h) (Or.inl ⟨by rfl, ?_⟩) ?_ ?_
        rotate_left
        ·intro w'
         go_simp
         with_reducible rfl
        rotate_left
        ·simp only [Act.put, List.setIfInBounds_toArray, List.set_cons_zero, List.set_cons_succ, i64_w, i32_w]
         rfl
        refine take_ (i := 3) (N := some 18) (v := ?_) (a' := ?_) (tb 4 2) rfl rfl (by kernel_rfl) (fun _ _ _ h => h) (Or.inl ⟨by rfl, ?_⟩) hHeld ?_ ?_
        rotate_left
        ·rintro w' ⟨s0, s1⟩
         go_simp
         with_reducible rfl
        rotate_left
        ·simp only [Act.put, List.setIfInBounds_toArray, List.set_cons_zero, List.set_cons_succ, i64_w, i32_w]
         rfl
        refine one_ (i := 4) (N := some 19) (tb 5 1) rfl rfl (by kernel_rfl) (by decide) (fun K hK => ?_)
        refine gs Try.func114 #[.slice (some ad504) y506.length c0, .agg #[.int .i64 ((rd_T53 l0 x10_1).f0), .int .i64 ((rd_T53 l0 x10_1).f1)]] ?_
        with_reducible refine (impl_Rat_114.calls k1 _ _ y506 ((rd_T53 l0 x10_1).f0) ((rd_T53 l0 x10_1).f1) t510 _ ?side1 ?side2 A7.out).mono ?_
        (case side1 => repeat (first | exact (Kd.C_below HR509.out HB.out) | (with_reducible refine Kd.C_alloc ?_ _) | (with_reducible refine Kd.C_drewN ?_ _) | (with_reducible refine Kd.C_drew ?_)))
        (case side2 => exact HC509.out)
        rintro e w20 ⟨rfl, hb⟩
        refine ⟨_, rfl, ?_⟩
        replace BK505 := kb BK505 hb
        replace HB := kh hb
        (try clear hb)
        (try clear hb2)
        (try clear hk)
        (try clear hi)
        refine hK.out _ _ ⟨(blk_cell BK505.out 0).trans rfl, (blk_cell BK505.out 1).trans rfl⟩ (fun hHeld => ?_)
        clear hK K
        refine nm 19 ?_
        refine pure_ (i := 5) (N := some 7) (v := ?_) (a' := ?_) (tb 6 0) rfl rfl (by kernel_rfl) (fun _ _ _ h => h) (Or.inl ⟨by rfl, ?_⟩) ?_ ?_
        rotate_left
        ·intro w'
         go_simp
         with_reducible rfl
        rotate_left
        ·simp only [Act.put, List.setIfInBounds_toArray, List.set_cons_zero, List.set_cons_succ, i64_w, i32_w]
         rfl
        refine done_ (by kernel_rfl) ?_
        try go_wp2
        go_roundg k1
        case measure => have := HK1.out; omega
        case rel => exact ⟨(wrap64 (x10_1 + 1)), rs, H', ⟨by have := HK1.out; omega⟩, ⟨bl⟩⟩
      ·rw [if_neg c6] at H
       exact absurd H (by simp)
     ·rw [if_neg c4] at H
      exact absurd H (by simp)
    ·rw [if_neg c3] at H
     exact absurd H (by simp)
   ·rw [if_neg c2] at H
    have c2b0 : decide (x10_1 < (l0.length : Int)) = false := decide_eq_false c2
    clear c2
    simp only [Option.some.injEq, Prod.mk.injEq] at H
    obtain ⟨rfl, rfl, rfl⟩ := H
    go_wp2
    go_ret3
    exact ⟨rt, bl⟩

/-! ### impl_Rat_100: function 100 -/
def impl_Rat_100.f (l0 : List (S53)) : Option (List (S53)) := if l0.length < 8796093022208 then (some l0) else (none)
set_option maxHeartbeats 8000000 in
set_option maxRecDepth 100000 in
theorem impl_Rat_100.calls (A0 : Option Addr) (c0 : Nat) (l0 : List (S53)) (r : List (S53)) (w : World) (hr0 : Kd.C k53 w A0 l0.length l0) (hc0 : l0.length ≤ c0) (h : impl_Rat_100.f l0 = some r) :
  Calls Try.prog 100 #[.slice A0 l0.length c0] w fun e w' => ∃ v0_ : Value, e = .returned (v0_) ∧ Kd.R k53 53 w' w.heap.size (fun _ => True) v0_ r ∧ Below w.heap.size w w' := by
 have q22 : ∀ (w : World) (a : Option Addr) (n c n' c' : Nat), (binOp .eql 84 (.slice a n c) (.slice none n' c')).run Try.prog w = .ok (.bool a.isNone) w := fun w a n c n' c' => Lib.run_eql_slice_nil w _ _ a n c n' c' Try.underlying84
 have HR0 := Aside0.mk hr0
 have HC0 := Aside0.mk hc0
 clear hr0 hc0
 have HB := Aside0.mk (Below.refl w.heap.size w)
 by_cases c2 : l0.length < 8796093022208
 ·simp only [impl_Rat_100.f, if_pos c2, Option.some.injEq] at h
  subst h
  have LMc2 := Aside0.mk c2
  clear c2
  cases A0 with
  | none =>
   obtain rfl : l0 = [] := by
    have h0 := HR0.out.2.2
    rcases Nat.eq_zero_or_pos l0.length with h1 | h1
    ·exact List.eq_nil_of_length_eq_zero h1
    ·obtain ⟨ad, e, _⟩ := h0 h1
     cases e
   go_enter Try.func100, Try.ntmps100
   go_wp2
   go_ret
   exact ⟨_, rfl, Kd.R_nil _ _ _ _ _, bl⟩
  | some a0 =>
   go_enter Try.func100, Try.ntmps100
   go_wp2_with (first | ((with_reducible refine gate_dst (N := 5) rfl ?_); refine Kd.R_lit k53 _ 53 ?hg (N := 5) ?hd (xs := ([] : List (S53))) (inner := []) (ok := fun _ => True) (okp := fun _ => True) ?hr ?hp (fun _ hk => hk) trivial (Below.refl _ _) (Nat.le_refl _) (by simp) ?_; (case hd => rfl); (case hg => rfl); (case hr => first | (go_simp; done) | (go_simp; rfl)); (case hp => exact (Reps.none _ _)); intro v111 w3 ho4 hb hg_ hnew_; clear hg_ hnew_; have HO112 := Aside0.mk (Kd.R_lower ho4 (below_size bl)); replace HB := kh hb; clear hb ho4) | ((with_reducible refine gate_builtin (b := .append) (xs := #[.tmp 5, .tmp 6]) rfl ?_); at_builtin; refine Kd.R_append_rows k53 (w0 := w) w.heap.size rfl (.tmp 5) (.tmp 6) 84 53 (.agg #[(.int .i64 0), (.int .i64 0)]) 16 rfl Try.underlying84 info53 rfl (by decide) (by omega) v111 ([] : List (S53)) l0 _ _ _ (fun _ => True) (fun _ => False) rfl rfl ?aO ?aR (fun _ _ h => h) (fun _ h => h.elim) ?aF ?aB ?aS ?aL ?_; (case aR => repeat (first | exact (Kd.C_below HR0.out HB.out) | (with_reducible refine Kd.C_alloc ?_ _) | (with_reducible refine Kd.C_drewN ?_ _) | (with_reducible refine Kd.C_drew ?_))); (case aB => exact bl); (case aF => exact (fun _ _ => trivial)); (case aO => exact (by (with_reducible repeat (first | apply Kd.R_alloc | apply Kd.R_drewN | apply Kd.R_drew)); exact HO112.out)); (case aS => exact (below_size bl)); (case aL => have := LMc2.out; simp only [List.length_nil]; omega); intro v114 w5 ho hb hg hat; have HO115 := Aside0.mk (ho); replace HB := Aside0.mk (hb); clear HO112; clear ho hb hg hat))
   go_ret
   exact ⟨_, by first | rfl | (simp; done), by (with_reducible repeat (first | apply Kd.R_alloc | apply Kd.R_drewN | apply Kd.R_drew)); exact HO115.out, bl⟩
 ·simp [impl_Rat_100.f, if_neg c2] at h

/-! ### impl_cycleFrom: function 84 -/
def impl_cycleFrom.f (k : Nat) (l0 : List (S73)) (a1_0 : Int) (a1_1 : Int) (a2 : Int) : Option ((List (S53)) × Bool) := (impl_OrbitOf.f k l0 a1_0 a1_1 a2).bind fun bt512 => (if bt512.2 = true then ((impl_periodIn.f k bt512.1).bind fun bt516 => (if bt516.2.2 = true then (if bt516.1 > 0 then (some (([] : List (S53)), false)) else (if 0 ≤ bt516.2.1 then (if bt516.2.1 ≤ (bt512.1.length : Int) then ((impl_Rat_100.f (bt512.1.take (bt516.2.1 : Int).toNat)).bind fun t523 => (some (t523, true))) else (none)) else (none))) else (some (([] : List (S53)), false)))) else (some (([] : List (S53)), false)))
set_option maxHeartbeats 8000000 in
set_option maxRecDepth 100000 in
theorem impl_cycleFrom.calls (k : Nat) (A0 : Option Addr) (c0 : Nat) (l0 : List (S73)) (a1_0 : Int) (a1_1 : Int) (a2 : Int) (r1 : List (S53)) (r2 : Bool) (w : World) (hr0 : Kd.C k73 w A0 l0.length l0) (hc0 : l0.length ≤ c0) (h : impl_cycleFrom.f k l0 a1_0 a1_1 a2 = some (r1, r2)) :
  Calls Try.prog 84 #[.slice A0 l0.length c0, .agg #[.int .i64 a1_0, .int .i64 a1_1], .int .i64 a2] w fun e w' => ∃ v0_ : Value, e = .returned (.tuple #[v0_, .bool r2]) ∧ Kd.R k53 53 w' w.heap.size (fun _ => True) v0_ r1 ∧ Below w.heap.size w w' := by
 have hu53 := Try.underlying53
 have HR0 := Aside0.mk hr0
 have HC0 := Aside0.mk hc0
 clear hr0 hc0
 have HB := Aside0.mk (Below.refl w.heap.size w)
 have H : ((impl_OrbitOf.f k l0 a1_0 a1_1 a2).bind fun bt512 => (if bt512.2 = true then ((impl_periodIn.f k bt512.1).bind fun bt516 => (if bt516.2.2 = true then (if bt516.1 > 0 then (some (([] : List (S53)), false)) else (if 0 ≤ bt516.2.1 then (if bt516.2.1 ≤ (bt512.1.length : Int) then ((impl_Rat_100.f (bt512.1.take (bt516.2.1 : Int).toNat)).bind fun t523 => (some (t523, true))) else (none)) else (none))) else (some (([] : List (S53)), false)))) else (some (([] : List (S53)), false)))) = some (r1, r2) := h
 clear h
 replace H := Option.bind_eq_some_iff.mp H
 obtain ⟨⟨t512, t515⟩, A40, H⟩ := H
 replace H : (if t515 = true then ((impl_periodIn.f k t512).bind fun bt516 => (if bt516.2.2 = true then (if bt516.1 > 0 then (some (([] : List (S53)), false)) else (if 0 ≤ bt516.2.1 then (if bt516.2.1 ≤ (t512.length : Int) then ((impl_Rat_100.f (t512.take (bt516.2.1 : Int).toNat)).bind fun t523 => (some (t523, true))) else (none)) else (none))) else (some (([] : List (S53)), false)))) else (some (([] : List (S53)), false))) = some (r1, r2) := H
 have A4 := Aside0.mk A40
 clear A40
 by_cases c5 : t515 = true
 ·subst c5
  have H1 : ((impl_periodIn.f k t512).bind fun bt516 => (if bt516.2.2 = true then (if bt516.1 > 0 then (some (([] : List (S53)), false)) else (if 0 ≤ bt516.2.1 then (if bt516.2.1 ≤ (t512.length : Int) then ((impl_Rat_100.f (t512.take (bt516.2.1 : Int).toNat)).bind fun t523 => (some (t523, true))) else (none)) else (none))) else (some (([] : List (S53)), false)))) = some (r1, r2) := by rw [if_pos rfl] at H; exact H
  clear H
  have H := H1
  clear H1
  replace H := Option.bind_eq_some_iff.mp H
  obtain ⟨⟨t516, t517, t518⟩, A60, H⟩ := H
  replace H : (if t518 = true then (if t516 > 0 then (some (([] : List (S53)), false)) else (if 0 ≤ t517 then (if t517 ≤ (t512.length : Int) then ((impl_Rat_100.f (t512.take (t517 : Int).toNat)).bind fun t523 => (some (t523, true))) else (none)) else (none))) else (some (([] : List (S53)), false))) = some (r1, r2) := H
  have A6 := Aside0.mk A60
  clear A60
  by_cases c7 : t518 = true
  ·subst c7
   have H1 : (if t516 > 0 then (some (([] : List (S53)), false)) else (if 0 ≤ t517 then (if t517 ≤ (t512.length : Int) then ((impl_Rat_100.f (t512.take (t517 : Int).toNat)).bind fun t523 => (some (t523, true))) else (none)) else (none))) = some (r1, r2) := by rw [if_pos rfl] at H; exact H
   clear H
   have H := H1
   clear H1
   by_cases c8 : t516 > 0
   ·rw [if_pos c8] at H
    have c8b0 : decide (0 < t516) = true := decide_eq_true c8
    clear c8
    simp only [Option.some.injEq, Prod.mk.injEq] at H
    obtain ⟨rfl, rfl⟩ := H
    go_enter Try.func84, Try.ntmps84
    go_wp2_with (first | ((with_reducible refine gate_dst (N := 4) rfl ?_); refine bx 4 #[.int .i64 a1_0, .int .i64 a1_1] 53 ?_; intro gb511 hg w9 hbox hb; have BK511 := Aside0.mk (hbox); have GW511 := Aside0.mk (bz hg); have GE511 := GW511; replace HB := kh hb; clear hb hbox hg; obtain ⟨hcz10_0, hcz10_1, hfz10_0, hfz10_1⟩ := b2 BK511) | ((with_reducible refine gate_callee (f := 98) rfl ?_); refine gl 16 Try.func98 #[.slice A0 l0.length c0, .agg #[.int .i64 a1_0, .int .i64 a1_1], .int .i64 a2] ?_; (with_reducible refine (impl_OrbitOf.calls k _ _ l0 a1_0 a1_1 a2 t512 true _ ?side1 ?side2 A4.out).mono ?_); (case side1 => repeat (first | exact (Kd.C_below HR0.out HB.out) | (with_reducible refine Kd.C_alloc ?_ _) | (with_reducible refine Kd.C_drewN ?_ _) | (with_reducible refine Kd.C_drew ?_))); (case side2 => exact HC0.out); rintro e w11 ⟨v513, rfl, ho0, hb⟩; refine ⟨_, rfl, ?_⟩; have HO514 := Aside0.mk (Kd.R_lower (Kd.R_newB ho0 (g := gb511) (o := .cells #[.int .i64 a1_0, .int .i64 a1_1] 53 (0, 0)) (bo gb511)) (below_size bl)); replace BK511 := kb BK511 hb; replace HB := kh hb; (try clear hb); (try clear hb2); (try clear hk); (try clear hi); (try clear ho0); obtain ⟨Ao12, co12, eo12⟩ := Kd.R_slice HO514.out; subst eo12) | ((with_reducible refine gate_callee (f := 99) rfl ?_); refine gl 23 Try.func99 #[.slice Ao12 t512.length co12] ?_; (with_reducible refine (impl_periodIn.calls k _ _ t512 t516 t517 true _ ?side1 ?side2 A6.out).mono ?_); (case side1 => repeat (first | exact (Kd.R_reads' HO514.out).2.2 | (with_reducible refine Kd.C_alloc ?_ _) | (with_reducible refine Kd.C_drewN ?_ _) | (with_reducible refine Kd.C_drew ?_))); (case side2 => exact (Kd.R_reads' HO514.out).2.1); rintro e w13 ⟨rfl, hb⟩; refine ⟨_, rfl, ?_⟩; replace HO514 := Aside0.mk (Kd.R_below (by (with_reducible repeat (first | apply Kd.R_alloc | apply Kd.R_drewN | apply Kd.R_drew)); exact HO514.out) hb); replace BK511 := kb BK511 hb; replace HB := kh hb; (try clear hb); (try clear hb2); (try clear hk); (try clear hi)))
    go_ret2
    exact ⟨_, rt, by first | exact Kd.R_nil _ _ _ _ _ | exact Kd.N_nil _ _ _ _ _ | exact Kd.V_nil _ _ _ _ _ | exact Kd.Q_nil _ _ _ _ _ | exact Kd.S_nil _ _ _ _ _, bl⟩
   ·rw [if_neg c8] at H
    have c8b0 : decide (0 < t516) = false := decide_eq_false c8
    clear c8
    by_cases c14 : 0 ≤ t517
    ·rw [if_pos c14] at H
     have c14b0 := eq_true c14
     have c14b1 : decide (0 ≤ t517) = true := decide_eq_true c14
     clear c14
     by_cases c15 : t517 ≤ (t512.length : Int)
     ·rw [if_pos c15] at H
      have c15b0 := eq_true c15
      have c15b1 : decide (t517 ≤ (t512.length : Int)) = true := decide_eq_true c15
      clear c15
      obtain ⟨y519, hy519⟩ : ∃ y_ : List (S53), y_ = (t512.take (t517 : Int).toNat) := ⟨_, rfl⟩
      replace H : ((impl_Rat_100.f y519).bind fun t523 => (some (t523, true))) = some (r1, r2) := by first | (rw [hy519]; with_reducible exact H) | (have H2_ := (Option.bind_some _ _).symm.trans H; rw [hy519]; with_reducible exact H2_) | (have H2_ := (Option.bind_some _ _).symm.trans H; with_reducible exact H2_) | with_reducible exact H | (rw [hy519]; exact H) | exact H
      have Ny519 := Aside0.mk hy519
      clear hy519
      replace H := Option.bind_eq_some_iff.mp H
      obtain ⟨t523, A160, H⟩ := H
      replace H : (some (t523, true)) = some (r1, r2) := H
      have A16 := Aside0.mk A160
      clear A160
      simp only [Option.some.injEq, Prod.mk.injEq] at H
      obtain ⟨rfl, rfl⟩ := H
      go_enter Try.func84, Try.ntmps84
      go_wp2_with (first | ((with_reducible refine gate_dst (N := 4) rfl ?_); refine bx 4 #[.int .i64 a1_0, .int .i64 a1_1] 53 ?_; intro gb511 hg w17 hbox hb; have BK511 := Aside0.mk (hbox); have GW511 := Aside0.mk (bz hg); have GE511 := GW511; replace HB := kh hb; clear hb hbox hg; obtain ⟨hcz18_0, hcz18_1, hfz18_0, hfz18_1⟩ := b2 BK511) | ((with_reducible refine gate_callee (f := 98) rfl ?_); refine gl 16 Try.func98 #[.slice A0 l0.length c0, .agg #[.int .i64 a1_0, .int .i64 a1_1], .int .i64 a2] ?_; (with_reducible refine (impl_OrbitOf.calls k _ _ l0 a1_0 a1_1 a2 t512 true _ ?side1 ?side2 A4.out).mono ?_); (case side1 => repeat (first | exact (Kd.C_below HR0.out HB.out) | (with_reducible refine Kd.C_alloc ?_ _) | (with_reducible refine Kd.C_drewN ?_ _) | (with_reducible refine Kd.C_drew ?_))); (case side2 => exact HC0.out); rintro e w19 ⟨v513, rfl, ho0, hb⟩; refine ⟨_, rfl, ?_⟩; have HO514 := Aside0.mk (Kd.R_lower (Kd.R_newB ho0 (g := gb511) (o := .cells #[.int .i64 a1_0, .int .i64 a1_1] 53 (0, 0)) (bo gb511)) (below_size bl)); replace BK511 := kb BK511 hb; replace HB := kh hb; (try clear hb); (try clear hb2); (try clear hk); (try clear hi); (try clear ho0); obtain ⟨Ao20, co20, eo20⟩ := Kd.R_slice HO514.out; subst eo20) | ((with_reducible refine gate_callee (f := 99) rfl ?_); refine gl 23 Try.func99 #[.slice Ao20 t512.length co20] ?_; (with_reducible refine (impl_periodIn.calls k _ _ t512 t516 t517 true _ ?side1 ?side2 A6.out).mono ?_); (case side1 => repeat (first | exact (Kd.R_reads' HO514.out).2.2 | (with_reducible refine Kd.C_alloc ?_ _) | (with_reducible refine Kd.C_drewN ?_ _) | (with_reducible refine Kd.C_drew ?_))); (case side2 => exact (Kd.R_reads' HO514.out).2.1); rintro e w21 ⟨rfl, hb⟩; refine ⟨_, rfl, ?_⟩; replace HO514 := Aside0.mk (Kd.R_below (by (with_reducible repeat (first | apply Kd.R_alloc | apply Kd.R_drewN | apply Kd.R_drew)); exact HO514.out) hb); replace BK511 := kb BK511 hb; replace HB := kh hb; (try clear hb); (try clear hb2); (try clear hk); (try clear hi); have q22 : (t517 : Int) ≤ ((t512.length : Int) : Int) := da; obtain ⟨i022, hi022, _, hsz22, _⟩ := info_parts info53; have hroom22 : t512.length ≤ co20 := (Kd.R_reads' HO514.out).2.1; have hC22 : Kd.C k53 _ Ao20 t512.length t512 := (Kd.R_reads' HO514.out).2.2; have hcut22 := cut_to (P := Try.prog) 84 53 .i64 Try.underlying84 hi022 Ao20 t512.length co20 t517 (da) q22 hroom22; have hr22 := Kd.C_take (m := (t517 : Int).toNat) hC22 (by omega); have hy22 : y519.length = (t517 : Int).toNat := (by rw [Ny519.out, List.length_take]; omega); rw [← Ny519.out] at hr22; rw [← hy22] at hcut22; have HR522 := Aside0.mk hr22; have HC522 := Aside0.mk (show y519.length ≤ co20 from by omega); clear hr22 hC22 hroom22 hi022 hsz22; have KY22 := Aside0.mk hy22; clear hy22; have KL22 := Aside0.mk (show (t517 : Int).toNat ≤ t512.length from by omega); replace q22 := eq_true q22) | ((with_reducible refine gate_callee (f := 100) rfl ?_); refine gl 36 Try.func100 #[.slice Ao20 y519.length co20] ?_; (with_reducible refine (impl_Rat_100.calls _ _ y519 t523 _ ?side1 ?side2 A16.out).mono ?_); (case side1 => repeat (first | exact (by repeat (first | (with_reducible exact HR522.out) | (with_reducible refine Kd.C_alloc ?_ _) | (with_reducible refine Kd.C_drewN ?_ _) | (with_reducible refine Kd.C_drew ?_) | exact HR522.out)) | (with_reducible refine Kd.C_alloc ?_ _) | (with_reducible refine Kd.C_drewN ?_ _) | (with_reducible refine Kd.C_drew ?_))); (case side2 => exact HC522.out); rintro e w23 ⟨v524, rfl, ho0, hb⟩; refine ⟨_, rfl, ?_⟩; have HO525 := Aside0.mk (Kd.R_lower (Kd.R_newB (Kd.R_new' ho0 (Kd.R_lt (by (with_reducible repeat (first | apply Kd.R_alloc | apply Kd.R_drewN | apply Kd.R_drew)); exact HO514.out))) (g := gb511) (o := .cells #[.int .i64 a1_0, .int .i64 a1_1] 53 (0, 0)) (bo gb511)) (below_size bl)); replace HO514 := Aside0.mk (Kd.R_elder' (by (with_reducible repeat (first | apply Kd.R_alloc | apply Kd.R_drewN | apply Kd.R_drew)); exact HO514.out) (Kd.R_base ho0) hb); replace BK511 := kb BK511 hb; replace HR522 := Aside0.mk (Kd.C_below (by repeat (first | (with_reducible exact HR522.out) | (with_reducible refine Kd.C_alloc ?_ _) | (with_reducible refine Kd.C_drewN ?_ _) | (with_reducible refine Kd.C_drew ?_) | exact HR522.out)) hb); replace HB := kh hb; (try clear hb); (try clear hb2); (try clear hk); (try clear hi); (try clear ho0)))
      go_ret2
      exact ⟨_, rt, by (with_reducible repeat (first | apply Kd.R_alloc | apply Kd.R_drewN | apply Kd.R_drew)); exact Kd.R_mono HO525.out (fun _ hk => trivial), bl⟩
     ·rw [if_neg c15] at H
      exact absurd H (by simp)
    ·rw [if_neg c14] at H
     exact absurd H (by simp)
  ·replace c7 := Bool.eq_false_iff.mpr c7
   subst c7
   have H1 : (some (([] : List (S53)), false)) = some (r1, r2) := by rw [if_neg (show ¬ (false = true) by decide)] at H; exact H
   clear H
   have H := H1
   clear H1
   simp only [Option.some.injEq, Prod.mk.injEq] at H
   obtain ⟨rfl, rfl⟩ := H
   go_enter Try.func84, Try.ntmps84
   go_wp2_with (first | ((with_reducible refine gate_dst (N := 4) rfl ?_); refine bx 4 #[.int .i64 a1_0, .int .i64 a1_1] 53 ?_; intro gb511 hg w24 hbox hb; have BK511 := Aside0.mk (hbox); have GW511 := Aside0.mk (bz hg); have GE511 := GW511; replace HB := kh hb; clear hb hbox hg; obtain ⟨hcz25_0, hcz25_1, hfz25_0, hfz25_1⟩ := b2 BK511) | ((with_reducible refine gate_callee (f := 98) rfl ?_); refine gl 16 Try.func98 #[.slice A0 l0.length c0, .agg #[.int .i64 a1_0, .int .i64 a1_1], .int .i64 a2] ?_; (with_reducible refine (impl_OrbitOf.calls k _ _ l0 a1_0 a1_1 a2 t512 true _ ?side1 ?side2 A4.out).mono ?_); (case side1 => repeat (first | exact (Kd.C_below HR0.out HB.out) | (with_reducible refine Kd.C_alloc ?_ _) | (with_reducible refine Kd.C_drewN ?_ _) | (with_reducible refine Kd.C_drew ?_))); (case side2 => exact HC0.out); rintro e w26 ⟨v513, rfl, ho0, hb⟩; refine ⟨_, rfl, ?_⟩; have HO514 := Aside0.mk (Kd.R_lower (Kd.R_newB ho0 (g := gb511) (o := .cells #[.int .i64 a1_0, .int .i64 a1_1] 53 (0, 0)) (bo gb511)) (below_size bl)); replace BK511 := kb BK511 hb; replace HB := kh hb; (try clear hb); (try clear hb2); (try clear hk); (try clear hi); (try clear ho0); obtain ⟨Ao27, co27, eo27⟩ := Kd.R_slice HO514.out; subst eo27) | ((with_reducible refine gate_callee (f := 99) rfl ?_); refine gl 23 Try.func99 #[.slice Ao27 t512.length co27] ?_; (with_reducible refine (impl_periodIn.calls k _ _ t512 t516 t517 false _ ?side1 ?side2 A6.out).mono ?_); (case side1 => repeat (first | exact (Kd.R_reads' HO514.out).2.2 | (with_reducible refine Kd.C_alloc ?_ _) | (with_reducible refine Kd.C_drewN ?_ _) | (with_reducible refine Kd.C_drew ?_))); (case side2 => exact (Kd.R_reads' HO514.out).2.1); rintro e w28 ⟨rfl, hb⟩; refine ⟨_, rfl, ?_⟩; replace HO514 := Aside0.mk (Kd.R_below (by (with_reducible repeat (first | apply Kd.R_alloc | apply Kd.R_drewN | apply Kd.R_drew)); exact HO514.out) hb); replace BK511 := kb BK511 hb; replace HB := kh hb; (try clear hb); (try clear hb2); (try clear hk); (try clear hi)))
   go_ret2
   exact ⟨_, rt, by first | exact Kd.R_nil _ _ _ _ _ | exact Kd.N_nil _ _ _ _ _ | exact Kd.V_nil _ _ _ _ _ | exact Kd.Q_nil _ _ _ _ _ | exact Kd.S_nil _ _ _ _ _, bl⟩
 ·replace c5 := Bool.eq_false_iff.mpr c5
  subst c5
  have H1 : (some (([] : List (S53)), false)) = some (r1, r2) := by rw [if_neg (show ¬ (false = true) by decide)] at H; exact H
  clear H
  have H := H1
  clear H1
  simp only [Option.some.injEq, Prod.mk.injEq] at H
  obtain ⟨rfl, rfl⟩ := H
  go_enter Try.func84, Try.ntmps84
  go_wp2_with (first | ((with_reducible refine gate_dst (N := 4) rfl ?_); refine bx 4 #[.int .i64 a1_0, .int .i64 a1_1] 53 ?_; intro gb511 hg w29 hbox hb; have BK511 := Aside0.mk (hbox); have GW511 := Aside0.mk (bz hg); have GE511 := GW511; replace HB := kh hb; clear hb hbox hg; obtain ⟨hcz30_0, hcz30_1, hfz30_0, hfz30_1⟩ := b2 BK511) | ((with_reducible refine gate_callee (f := 98) rfl ?_); refine gl 16 Try.func98 #[.slice A0 l0.length c0, .agg #[.int .i64 a1_0, .int .i64 a1_1], .int .i64 a2] ?_; (with_reducible refine (impl_OrbitOf.calls k _ _ l0 a1_0 a1_1 a2 t512 false _ ?side1 ?side2 A4.out).mono ?_); (case side1 => repeat (first | exact (Kd.C_below HR0.out HB.out) | (with_reducible refine Kd.C_alloc ?_ _) | (with_reducible refine Kd.C_drewN ?_ _) | (with_reducible refine Kd.C_drew ?_))); (case side2 => exact HC0.out); rintro e w31 ⟨v513, rfl, ho0, hb⟩; refine ⟨_, rfl, ?_⟩; have HO514 := Aside0.mk (Kd.R_lower (Kd.R_newB ho0 (g := gb511) (o := .cells #[.int .i64 a1_0, .int .i64 a1_1] 53 (0, 0)) (bo gb511)) (below_size bl)); replace BK511 := kb BK511 hb; replace HB := kh hb; (try clear hb); (try clear hb2); (try clear hk); (try clear hi); (try clear ho0)))
  go_ret2
  exact ⟨_, rt, by first | exact Kd.R_nil _ _ _ _ _ | exact Kd.N_nil _ _ _ _ _ | exact Kd.V_nil _ _ _ _ _ | exact Kd.Q_nil _ _ _ _ _ | exact Kd.S_nil _ _ _ _ _, bl⟩

end Go.Proofs.Ytannadjfkaghjaa.PFnExactIsRepelling
