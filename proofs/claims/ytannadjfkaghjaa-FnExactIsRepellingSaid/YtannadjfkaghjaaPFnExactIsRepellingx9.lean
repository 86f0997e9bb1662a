-- Written by this session's program wip/pp (the kit's print tool with additions) 35421559b90ae4d0a3588c463048766b98c2df88dd9212a6774a882060cdf62d
import Derived.Test.YtannadjfkaghjaaPFnExactIsRepellingx0
import Derived.Test.YtannadjfkaghjaaPFnExactIsRepellingx1
import Derived.Test.YtannadjfkaghjaaPFnExactIsRepellingx4
import Derived.Test.YtannadjfkaghjaaPFnExactIsRepellingx5
namespace Go.Proofs.Ytannadjfkaghjaa.PFnExactIsRepelling
open Go.RowKit Go.Proofs.YtannadjfkaghjaaW.PrintWords Go.Proofs.YtannadjfkaghjaaW.PrintLast Go.Proofs.YtannadjfkaghjaaW.PrintMore
attribute [local go_sem] max2_int min2_int max_two min_two max_three min_three max_four min_four   -- for this text's walks alone
set_option linter.unusedVariables false
set_option linter.unusedSimpArgs false

attribute [local go_sem high] eqA53
/-! ### spec_orSlope: function 81 -/
def spec_orSlope.f (k : Nat) (l0 : List (S73)) (a1_0 : Int) (a1_1 : Int) : Option (Int × Int × Bool) := (spec_imPiece.f k l0 a1_0 a1_1).bind fun t249 => (if 0 ≤ t249 then (if t249 < (l0.length : Int) then (if 0 ≤ (wrap64 (t249 + 1)) then (if (wrap64 (t249 + 1)) < (l0.length : Int) then ((spec_imSlope.f k ((rd_T73 l0 t249).f0.f0) ((rd_T73 l0 t249).f0.f1) ((rd_T73 l0 t249).f1.f0) ((rd_T73 l0 t249).f1.f1) ((rd_T73 l0 (wrap64 (t249 + 1))).f0.f0) ((rd_T73 l0 (wrap64 (t249 + 1))).f0.f1) ((rd_T73 l0 (wrap64 (t249 + 1))).f1.f0) ((rd_T73 l0 (wrap64 (t249 + 1))).f1.f1)).bind fun bt252 => (if (wrap64 (t249 + 2)) < (l0.length : Int) then (if (((rd_T73 l0 (wrap64 (t249 + 1))).f0.f0) == a1_0 && (((rd_T73 l0 (wrap64 (t249 + 1))).f0.f1) == a1_1)) = true then (if 0 ≤ (wrap64 (t249 + 2)) then ((spec_imSlope.f k ((rd_T73 l0 (wrap64 (t249 + 1))).f0.f0) ((rd_T73 l0 (wrap64 (t249 + 1))).f0.f1) ((rd_T73 l0 (wrap64 (t249 + 1))).f1.f0) ((rd_T73 l0 (wrap64 (t249 + 1))).f1.f1) ((rd_T73 l0 (wrap64 (t249 + 2))).f0.f0) ((rd_T73 l0 (wrap64 (t249 + 2))).f0.f1) ((rd_T73 l0 (wrap64 (t249 + 2))).f1.f0) ((rd_T73 l0 (wrap64 (t249 + 2))).f1.f1)).bind fun bt258 => (if (!(bt258.1 == bt252.1) || (!(bt258.2 == bt252.2))) = true then (some (0, 0, false)) else (some (bt252.1, bt252.2, true)))) else (none)) else (some (bt252.1, bt252.2, true))) else (some (bt252.1, bt252.2, true)))) else (none)) else (none)) else (none)) else (none))
def spec_orSlope.T2 : Bool × List (List Nat × List Nat) := (true, [([], []), ([], []), ([0, 1], [0, 1]), ([2], [2]), ([], []), ([], []), ([5], [5]), ([4, 6], [4, 6]), ([7], [7]), ([3, 8], [3, 8]), ([], []), ([10, 9, 9, 0, 1, 2, 3, 4, 5, 6, 7, 8, 9, 10], [9, 10])])
def spec_orSlope.B2 : List Nat := [0, 0, 3, 7, 0, 0, 32, 112, 240, 511, 0, 2047]
theorem spec_orSlope.tab2 : rtab .any (opsOf Try.f81 2) = spec_orSlope.T2 := by kernel_rfl
theorem spec_orSlope.bits2 : waitsOk spec_orSlope.T2.2 spec_orSlope.B2 = true := by kernel_rfl
def spec_orSlope.T3 : Bool × List (List Nat × List Nat) := (true, [([], []), ([0], [0]), ([], []), ([2], [2]), ([1, 3], [1, 3]), ([4], [4]), ([5], [5]), ([5], [5]), ([7, 5], [5, 7]), ([6, 8, 5], [5, 6, 8]), ([9, 5], [5, 9]), ([10, 5], [5, 10]), ([5], [5]), ([11, 12, 5], [5, 11, 12]), ([5, 13], [5, 13]), ([14, 5], [14]), ([15], [15]), ([15], [15]), ([17, 15], [15, 17]), ([16, 18, 15], [15, 16, 18]), ([19, 15], [15, 19]), ([15], [15]), ([15], [15]), ([22, 15], [15, 22]), ([21, 23, 15], [15, 21, 23]), ([24, 15], [15, 24]), ([20, 25, 15, 15], [15, 20, 25]), ([15], [15]), ([26, 27, 15], [15, 26, 27]), ([15, 28], [15, 28])])
def spec_orSlope.B3 : List Nat := [0, 1, 0, 4, 15, 31, 63, 63, 191, 511, 1023, 2047, 63, 8191, 16383, 32767, 65535, 65535, 196607, 524287, 1048575, 65535, 65535, 4259839, 14745599, 31522815, 67108863, 65535, 268435455, 536870911]
theorem spec_orSlope.tab3 : rtab .any (opsOf Try.f81 3) = spec_orSlope.T3 := by kernel_rfl
theorem spec_orSlope.bits3 : waitsOk spec_orSlope.T3.2 spec_orSlope.B3 = true := by kernel_rfl
set_option maxHeartbeats 8000000 in
set_option maxRecDepth 100000 in
theorem spec_orSlope.calls (k : Nat) (A0 : Option Addr) (c0 : Nat) (l0 : List (S73)) (a1_0 : Int) (a1_1 : Int) (r1 : Int) (r2 : Int) (r3 : Bool) (w : World) (hr0 : Kd.C k73 w A0 l0.length l0) (hc0 : l0.length ≤ c0) (h : spec_orSlope.f k l0 a1_0 a1_1 = some (r1, r2, r3)) :
  Calls Try.prog 81 #[.slice A0 l0.length c0, .agg #[.int .i64 a1_0, .int .i64 a1_1]] w fun e w' => e = .returned (.tuple #[.agg #[.int .i64 r1, .int .i64 r2], .bool r3]) ∧ Below w.heap.size w w' := by
 have hu53 := Try.underlying53
 have hu73 := Try.underlying73
 have HR0 := Aside0.mk hr0
 have HC0 := Aside0.mk hc0
 clear hr0 hc0
 have HB := Aside0.mk (Below.refl w.heap.size w)
 have H : ((spec_imPiece.f k l0 a1_0 a1_1).bind fun t249 => (if 0 ≤ t249 then (if t249 < (l0.length : Int) then (if 0 ≤ (wrap64 (t249 + 1)) then (if (wrap64 (t249 + 1)) < (l0.length : Int) then ((spec_imSlope.f k ((rd_T73 l0 t249).f0.f0) ((rd_T73 l0 t249).f0.f1) ((rd_T73 l0 t249).f1.f0) ((rd_T73 l0 t249).f1.f1) ((rd_T73 l0 (wrap64 (t249 + 1))).f0.f0) ((rd_T73 l0 (wrap64 (t249 + 1))).f0.f1) ((rd_T73 l0 (wrap64 (t249 + 1))).f1.f0) ((rd_T73 l0 (wrap64 (t249 + 1))).f1.f1)).bind fun bt252 => (if (wrap64 (t249 + 2)) < (l0.length : Int) then (if (((rd_T73 l0 (wrap64 (t249 + 1))).f0.f0) == a1_0 && (((rd_T73 l0 (wrap64 (t249 + 1))).f0.f1) == a1_1)) = true then (if 0 ≤ (wrap64 (t249 + 2)) then ((spec_imSlope.f k ((rd_T73 l0 (wrap64 (t249 + 1))).f0.f0) ((rd_T73 l0 (wrap64 (t249 + 1))).f0.f1) ((rd_T73 l0 (wrap64 (t249 + 1))).f1.f0) ((rd_T73 l0 (wrap64 (t249 + 1))).f1.f1) ((rd_T73 l0 (wrap64 (t249 + 2))).f0.f0) ((rd_T73 l0 (wrap64 (t249 + 2))).f0.f1) ((rd_T73 l0 (wrap64 (t249 + 2))).f1.f0) ((rd_T73 l0 (wrap64 (t249 + 2))).f1.f1)).bind fun bt258 => (if (!(bt258.1 == bt252.1) || (!(bt258.2 == bt252.2))) = true then (some (0, 0, false)) else (some (bt252.1, bt252.2, true)))) else (none)) else (some (bt252.1, bt252.2, true))) else (some (bt252.1, bt252.2, true)))) else (none)) else (none)) else (none)) else (none))) = some (r1, r2, r3) := h
 clear h
 replace H := Option.bind_eq_some_iff.mp H
 obtain ⟨t249, A30, H⟩ := H
 replace H : (if 0 ≤ t249 then (if t249 < (l0.length : Int) then (if 0 ≤ (wrap64 (t249 + 1)) then (if (wrap64 (t249 + 1)) < (l0.length : Int) then ((spec_imSlope.f k ((rd_T73 l0 t249).f0.f0) ((rd_T73 l0 t249).f0.f1) ((rd_T73 l0 t249).f1.f0) ((rd_T73 l0 t249).f1.f1) ((rd_T73 l0 (wrap64 (t249 + 1))).f0.f0) ((rd_T73 l0 (wrap64 (t249 + 1))).f0.f1) ((rd_T73 l0 (wrap64 (t249 + 1))).f1.f0) ((rd_T73 l0 (wrap64 (t249 + 1))).f1.f1)).bind fun bt252 => (if (wrap64 (t249 + 2)) < (l0.length : Int) then (if (((rd_T73 l0 (wrap64 (t249 + 1))).f0.f0) == a1_0 && (((rd_T73 l0 (wrap64 (t249 + 1))).f0.f1) == a1_1)) = true then (if 0 ≤ (wrap64 (t249 + 2)) then ((spec_imSlope.f k ((rd_T73 l0 (wrap64 (t249 + 1))).f0.f0) ((rd_T73 l0 (wrap64 (t249 + 1))).f0.f1) ((rd_T73 l0 (wrap64 (t249 + 1))).f1.f0) ((rd_T73 l0 (wrap64 (t249 + 1))).f1.f1) ((rd_T73 l0 (wrap64 (t249 + 2))).f0.f0) ((rd_T73 l0 (wrap64 (t249 + 2))).f0.f1) ((rd_T73 l0 (wrap64 (t249 + 2))).f1.f0) ((rd_T73 l0 (wrap64 (t249 + 2))).f1.f1)).bind fun bt258 => (if (!(bt258.1 == bt252.1) || (!(bt258.2 == bt252.2))) = true then (some (0, 0, false)) else (some (bt252.1, bt252.2, true)))) else (none)) else (some (bt252.1, bt252.2, true))) else (some (bt252.1, bt252.2, true)))) else (none)) else (none)) else (none)) else (none)) = some (r1, r2, r3) := H
 have A3 := Aside0.mk A30
 clear A30
 by_cases c4 : 0 ≤ t249
 ·rw [if_pos c4] at H
  have c4b0 : decide (0 ≤ t249) = true := decide_eq_true c4
  clear c4
  by_cases c5 : t249 < (l0.length : Int)
  ·rw [if_pos c5] at H
   have c5b0 : decide (t249 < (l0.length : Int)) = true := decide_eq_true c5
   clear c5
   obtain ⟨ji6, hji6⟩ : ∃ j_ : Int, (wrap64 (t249 + 1)) = j_ := ⟨_, rfl⟩
   replace H : (if 0 ≤ (ji6) then (if (ji6) < (l0.length : Int) then ((spec_imSlope.f k ((rd_T73 l0 t249).f0.f0) ((rd_T73 l0 t249).f0.f1) ((rd_T73 l0 t249).f1.f0) ((rd_T73 l0 t249).f1.f1) ((rd_T73 l0 (ji6)).f0.f0) ((rd_T73 l0 (ji6)).f0.f1) ((rd_T73 l0 (ji6)).f1.f0) ((rd_T73 l0 (ji6)).f1.f1)).bind fun bt252 => (if (wrap64 (t249 + 2)) < (l0.length : Int) then (if (((rd_T73 l0 (ji6)).f0.f0) == a1_0 && (((rd_T73 l0 (ji6)).f0.f1) == a1_1)) = true then (if 0 ≤ (wrap64 (t249 + 2)) then ((spec_imSlope.f k ((rd_T73 l0 (ji6)).f0.f0) ((rd_T73 l0 (ji6)).f0.f1) ((rd_T73 l0 (ji6)).f1.f0) ((rd_T73 l0 (ji6)).f1.f1) ((rd_T73 l0 (wrap64 (t249 + 2))).f0.f0) ((rd_T73 l0 (wrap64 (t249 + 2))).f0.f1) ((rd_T73 l0 (wrap64 (t249 + 2))).f1.f0) ((rd_T73 l0 (wrap64 (t249 + 2))).f1.f1)).bind fun bt258 => (if (!(bt258.1 == bt252.1) || (!(bt258.2 == bt252.2))) = true then (some (0, 0, false)) else (some (bt252.1, bt252.2, true)))) else (none)) else (some (bt252.1, bt252.2, true))) else (some (bt252.1, bt252.2, true)))) else (none)) else (none)) = some (r1, r2, r3) := by first | (rw [hji6] at H; exact H) | (simp only [hji6] at H ⊢; exact H)
   (try rw [hji6] at A3)
   have hji6w : (IntKind.i64.wrap (t249 + 1)) = ji6 := (i64_w _).trans hji6
   by_cases c7 : 0 ≤ (ji6)
   ·rw [if_pos c7] at H
    have c7b0 : decide (0 ≤ (ji6)) = true := decide_eq_true c7
    clear c7
    by_cases c8 : (ji6) < (l0.length : Int)
    ·rw [if_pos c8] at H
     have c8b0 : decide ((ji6) < (l0.length : Int)) = true := decide_eq_true c8
     clear c8
     replace H := Option.bind_eq_some_iff.mp H
     obtain ⟨⟨t252, t253⟩, A90, H⟩ := H
     replace H : (if (wrap64 (t249 + 2)) < (l0.length : Int) then (if (((rd_T73 l0 (ji6)).f0.f0) == a1_0 && (((rd_T73 l0 (ji6)).f0.f1) == a1_1)) = true then (if 0 ≤ (wrap64 (t249 + 2)) then ((spec_imSlope.f k ((rd_T73 l0 (ji6)).f0.f0) ((rd_T73 l0 (ji6)).f0.f1) ((rd_T73 l0 (ji6)).f1.f0) ((rd_T73 l0 (ji6)).f1.f1) ((rd_T73 l0 (wrap64 (t249 + 2))).f0.f0) ((rd_T73 l0 (wrap64 (t249 + 2))).f0.f1) ((rd_T73 l0 (wrap64 (t249 + 2))).f1.f0) ((rd_T73 l0 (wrap64 (t249 + 2))).f1.f1)).bind fun bt258 => (if (!(bt258.1 == t252) || (!(bt258.2 == t253))) = true then (some (0, 0, false)) else (some (t252, t253, true)))) else (none)) else (some (t252, t253, true))) else (some (t252, t253, true))) = some (r1, r2, r3) := H
     have A9 := Aside0.mk A90
     clear A90
     by_cases c10 : (wrap64 (t249 + 2)) < (l0.length : Int)
     ·rw [if_pos c10] at H
      have c10b0 : decide ((wrap64 (t249 + 2)) < (l0.length : Int)) = true := decide_eq_true c10
      clear c10
      by_cases c11 : (((rd_T73 l0 (ji6)).f0.f0) == a1_0 && (((rd_T73 l0 (ji6)).f0.f1) == a1_1)) = true
      ·rw [if_pos c11] at H
       have c11b0 : (((rd_T73 l0 (ji6)).f0.f0) == a1_0 && (((rd_T73 l0 (ji6)).f0.f1) == a1_1)) = true := c11
       (try (have c11b1 : decide (((rd_T73 l0 (ji6)).f0.f0) = a1_0 && (((rd_T73 l0 (ji6)).f0.f1) == a1_1)) = true := by simpa using c11))
       (try (have c11b2 : (((rd_T73 l0 (ji6)).f0.f0) == a1_0 && (((rd_T73 l0 (ji6)).f0.f1) == a1_1)) = true := by simpa using c11))
       clear c11
       obtain ⟨ji12, hji12⟩ : ∃ j_ : Int, (wrap64 (t249 + 2)) = j_ := ⟨_, rfl⟩
       replace H : (if 0 ≤ (ji12) then ((spec_imSlope.f k ((rd_T73 l0 (ji6)).f0.f0) ((rd_T73 l0 (ji6)).f0.f1) ((rd_T73 l0 (ji6)).f1.f0) ((rd_T73 l0 (ji6)).f1.f1) ((rd_T73 l0 (ji12)).f0.f0) ((rd_T73 l0 (ji12)).f0.f1) ((rd_T73 l0 (ji12)).f1.f0) ((rd_T73 l0 (ji12)).f1.f1)).bind fun bt258 => (if (!(bt258.1 == t252) || (!(bt258.2 == t253))) = true then (some (0, 0, false)) else (some (t252, t253, true)))) else (none)) = some (r1, r2, r3) := by first | (rw [hji12] at H; exact H) | (simp only [hji12] at H ⊢; exact H)
       (try rw [hji12] at c10b0)
       (try rw [hji12] at A3)
       (try rw [hji12] at A9)
       have hji12w : (IntKind.i64.wrap (t249 + 2)) = ji12 := (i64_w _).trans hji12
       by_cases c13 : 0 ≤ (ji12)
       ·rw [if_pos c13] at H
        have c13b0 : decide (0 ≤ (ji12)) = true := decide_eq_true c13
        clear c13
        replace H := Option.bind_eq_some_iff.mp H
        obtain ⟨⟨t258, t259⟩, A140, H⟩ := H
        replace H : (if (!(t258 == t252) || (!(t259 == t253))) = true then (some (0, 0, false)) else (some (t252, t253, true))) = some (r1, r2, r3) := H
        have A14 := Aside0.mk A140
        clear A140
        by_cases c15 : (!(t258 == t252) || (!(t259 == t253))) = true
        ·rw [if_pos c15] at H
         have c15b0 : (!(t258 == t252) || (!(t259 == t253))) = true := c15
         clear c15
         simp only [Option.some.injEq, Prod.mk.injEq] at H
         obtain ⟨rfl, rfl, rfl⟩ := H
         go_enter Try.func81, Try.ntmps81
         try go_wp2_with (first | ((with_reducible refine gate_dst (N := 3) rfl ?_); refine bx 3 #[.int .i64 a1_0, .int .i64 a1_1] 53 ?_; intro gb247 hg w16 hbox hb; have BK247 := Aside0.mk (hbox); have GW247 := Aside0.mk (bz hg); have GE247 := GW247; replace HB := kh hb; clear hb hbox hg) | ((with_reducible refine gate_dst (N := 4) rfl ?_); refine bx 4 #[.int .i64 0, .int .i64 0] 53 ?_; intro gb248 hg w17 hbox hb; have BK248 := Aside0.mk (hbox); have GW248 := Aside0.mk (bz hg); have GE248 := GW248; have NB247_248 := Aside0.mk (bn gb247 hg); have NB248_247 := sy NB247_248; replace BK247 := kb BK247 hb; replace HB := kh hb; clear hb hbox hg; have hnb18 := NB247_248.out; have hnc18 := NB248_247.out; obtain ⟨hcz19_0, hcz19_1, hfz19_0, hfz19_1⟩ := b2 BK247) | ((with_reducible refine gate_callee (f := 95) rfl ?_); refine gl 10 Try.func95 #[.slice A0 l0.length c0, .agg #[.int .i64 a1_0, .int .i64 a1_1]] ?_; (with_reducible refine (spec_imPiece.calls k _ _ l0 a1_0 a1_1 t249 _ ?side1 ?side2 A3.out).mono ?_); (case side1 => repeat (first | exact (Kd.C_below HR0.out HB.out) | (with_reducible refine Kd.C_alloc ?_ _) | (with_reducible refine Kd.C_drewN ?_ _) | (with_reducible refine Kd.C_drew ?_))); (case side2 => exact HC0.out); rintro e w20 ⟨rfl, hb⟩; refine ⟨_, rfl, ?_⟩; replace BK247 := kb BK247 hb; replace BK248 := kb BK248 hb; replace HB := kh hb; (try clear hb); (try clear hb2); (try clear hk); (try clear hi)))
         replace BK247 := Aside0.mk (blk_drew BK247.out)
         replace BK248 := Aside0.mk (blk_drew BK248.out)
         replace HB := Aside0.mk (below_drew1 HB.out)
         have p250 : 0 ≤ (t249 : Int) := da
         have q250 : t249 < (l0.length : Int) := da
         obtain ⟨ad250, e250, hx250_0, hx250_1, hx250_2, hx250_3⟩ := at_T73 HR0.out t249 p250 q250
         have hw250_3 := hx250_3
         have hw250_2 := hx250_2
         have hw250_1 := hx250_1
         have hw250_0 := hx250_0
         cases e250
         replace hx250_0 := (hc HB hx250_0 :)
         replace hx250_1 := (hc HB hx250_1 :)
         replace hx250_2 := (hc HB hx250_2 :)
         replace hx250_3 := (hc HB hx250_3 :)
         replace p250 := eq_true p250
         replace q250 := eq_true q250
         have p251 : 0 ≤ ((ji6) : Int) := da
         have q251 : (ji6) < (l0.length : Int) := da
         obtain ⟨ad251, e251, hx251_0, hx251_1, hx251_2, hx251_3⟩ := at_T73 HR0.out (ji6) p251 q251
         have hw251_3 := hx251_3
         have hw251_2 := hx251_2
         have hw251_1 := hx251_1
         have hw251_0 := hx251_0
         obtain rfl : ad250 = ad251 := (by injection e251)
         replace hx251_0 := (hc HB hx251_0 :)
         replace hx251_1 := (hc HB hx251_1 :)
         replace hx251_2 := (hc HB hx251_2 :)
         replace hx251_3 := (hc HB hx251_3 :)
         replace p251 := eq_true p251
         replace q251 := eq_true q251
         refine start_ (n := 12) (S := fun w' => w'.cell? (ad250.add ((t249).toNat * 4)) = some (.int .i64 ((rd_T73 l0 t249).f0.f0)) ∧ w'.cell? ⟨(ad250.add ((t249).toNat * 4)).block, (ad250.add ((t249).toNat * 4)).off + 1, none⟩ = some (.int .i64 ((rd_T73 l0 t249).f0.f1)) ∧ w'.cell? ⟨(ad250.add ((t249).toNat * 4)).block, (ad250.add ((t249).toNat * 4)).off + 2, none⟩ = some (.int .i64 ((rd_T73 l0 t249).f1.f0)) ∧ w'.cell? ⟨(ad250.add ((t249).toNat * 4)).block, (ad250.add ((t249).toNat * 4)).off + 3, none⟩ = some (.int .i64 ((rd_T73 l0 t249).f1.f1)) ∧ w'.cell? (ad250.add (((ji6)).toNat * 4)) = some (.int .i64 ((rd_T73 l0 (ji6)).f0.f0)) ∧ w'.cell? ⟨(ad250.add (((ji6)).toNat * 4)).block, (ad250.add (((ji6)).toNat * 4)).off + 1, none⟩ = some (.int .i64 ((rd_T73 l0 (ji6)).f0.f1)) ∧ w'.cell? ⟨(ad250.add (((ji6)).toNat * 4)).block, (ad250.add (((ji6)).toNat * 4)).off + 2, none⟩ = some (.int .i64 ((rd_T73 l0 (ji6)).f1.f0)) ∧ w'.cell? ⟨(ad250.add (((ji6)).toNat * 4)).block, (ad250.add (((ji6)).toNat * 4)).off + 3, none⟩ = some (.int .i64 ((rd_T73 l0 (ji6)).f1.f1))) (ds := []) (tb 0 12) (by kernel_rfl) rfl rfl ⟨(hc HB hw250_0 :), (hc HB hw250_1 :), (hc HB hw250_2 :), (hc HB hw250_3 :), (hc HB hw251_0 :), (hc HB hw251_1 :), (hc HB hw251_2 :), (hc HB hw251_3 :)⟩ (fun hHeld => ?_); refine with_tabW spec_orSlope.tab2 spec_orSlope.bits2 (fun HT_ HW_ => ?_)
         generalize w20.drew = w21 at BK247 BK248 HB hx250_0 hx250_1 hx250_2 hx250_3 hx251_0 hx251_1 hx251_2 hx251_3 hHeld ⊢
         refine pu 0 11 (tb 1 11) ?_
         refine pu 1 12 (tb 2 10) ?_
         refine pu 2 13 (tb 3 9) ?_
         refine pu 4 15 #[true, true, true, false, true, false, false, false, false, false, false, false] ?_
         refine pu 5 16 #[true, true, true, false, true, true, false, false, false, false, false, false] ?_
         refine pu 6 17 #[true, true, true, false, true, true, true, false, false, false, false, false] ?_
         refine pu 7 18 #[true, true, true, false, true, true, true, true, false, false, false, false] ?_
         refine tk 3 14 (tb 8 4) (hy := by rintro w' ⟨s0, s1, s2, s3, s4, s5, s6, s7⟩; go_simp; with_reducible rfl) (h := ?_)
         refine tk 8 19 (tb 9 3) (hy := by rintro w' ⟨s0, s1, s2, s3, s4, s5, s6, s7⟩; go_simp; with_reducible rfl) (h := ?_)
         refine join_ (σ := Nat) 1 (tb 11 1) (fun s_ => [(20, .agg #[.int .i64 t252, .int .i64 t253]), (7, .pointer (some ⟨s_, 0, none⟩))]) (fun s_ w' => (w'.cell? (ad250.add ((t249).toNat * 4)) = some (.int .i64 ((rd_T73 l0 t249).f0.f0)) ∧ w'.cell? ⟨(ad250.add ((t249).toNat * 4)).block, (ad250.add ((t249).toNat * 4)).off + 1, none⟩ = some (.int .i64 ((rd_T73 l0 t249).f0.f1)) ∧ w'.cell? ⟨(ad250.add ((t249).toNat * 4)).block, (ad250.add ((t249).toNat * 4)).off + 2, none⟩ = some (.int .i64 ((rd_T73 l0 t249).f1.f0)) ∧ w'.cell? ⟨(ad250.add ((t249).toNat * 4)).block, (ad250.add ((t249).toNat * 4)).off + 3, none⟩ = some (.int .i64 ((rd_T73 l0 t249).f1.f1)) ∧ w'.cell? (ad250.add (((ji6)).toNat * 4)) = some (.int .i64 ((rd_T73 l0 (ji6)).f0.f0)) ∧ w'.cell? ⟨(ad250.add (((ji6)).toNat * 4)).block, (ad250.add (((ji6)).toNat * 4)).off + 1, none⟩ = some (.int .i64 ((rd_T73 l0 (ji6)).f0.f1)) ∧ w'.cell? ⟨(ad250.add (((ji6)).toNat * 4)).block, (ad250.add (((ji6)).toNat * 4)).off + 2, none⟩ = some (.int .i64 ((rd_T73 l0 (ji6)).f1.f0)) ∧ w'.cell? ⟨(ad250.add (((ji6)).toNat * 4)).block, (ad250.add (((ji6)).toNat * 4)).off + 3, none⟩ = some (.int .i64 ((rd_T73 l0 (ji6)).f1.f1))) ∧ (w'.heap[gb247]? = some (.cells #[.int .i64 a1_0, .int .i64 a1_1] 53 (0, 0))) ∧ (w'.heap[gb248]? = some (.cells #[.int .i64 0, .int .i64 0] 53 (0, 0))) ∧ (w'.heap[s_]? = some (.cells #[.int .i64 0, .int .i64 0] 53 (0, 0))) ∧ (w.heap.size ≤ s_) ∧ (w.heap.size ≤ s_) ∧ (gb247 ≠ s_) ∧ (s_ ≠ gb247) ∧ (gb248 ≠ s_) ∧ (s_ ≠ gb248) ∧ (Below w.heap.size w w')) ?_ ?_
         rotate_left
         ·intro hCont
          refine two_ (i := 9) (j := 10) (Ni := some 20) (Nj := some 7) (tb 10 2) #[true, true, true, true, true, true, true, true, true, false, true, false] rfl rfl rfl rfl (two_of HT_.out (by kernel_rfl)) (by decide) (by decide) (fun K hK => ?_) (fun K hK => ?_)
          ·skip
           refine goes_ Try.func96 (by kernel_rfl) rfl #[.agg #[.int .i64 ((rd_T73 l0 t249).f0.f0), .int .i64 ((rd_T73 l0 t249).f0.f1), .int .i64 ((rd_T73 l0 t249).f1.f0), .int .i64 ((rd_T73 l0 t249).f1.f1)], .agg #[.int .i64 ((rd_T73 l0 (ji6)).f0.f0), .int .i64 ((rd_T73 l0 (ji6)).f0.f1), .int .i64 ((rd_T73 l0 (ji6)).f1.f0), .int .i64 ((rd_T73 l0 (ji6)).f1.f1)]] (by rfl) rfl rfl (by (try simp only [List.map_toArray, List.map_cons, List.map_nil]); first | done | (simp only [hji6]; rfl) | rfl | (simp only [List.length_drop, List.length_take]; rfl)) ?_
           with_reducible refine (spec_imSlope.calls k ((rd_T73 l0 t249).f0.f0) ((rd_T73 l0 t249).f0.f1) ((rd_T73 l0 t249).f1.f0) ((rd_T73 l0 t249).f1.f1) ((rd_T73 l0 (ji6)).f0.f0) ((rd_T73 l0 (ji6)).f0.f1) ((rd_T73 l0 (ji6)).f1.f0) ((rd_T73 l0 (ji6)).f1.f1) t252 t253 _ A9.out).mono ?_
           rintro e w22 ⟨rfl, hb⟩
           refine ⟨_, rfl, ?_⟩
           replace BK247 := kb BK247 hb
           replace BK248 := kb BK248 hb
           replace HB := kh hb
           (try clear hb)
           (try clear hb2)
           (try clear hk)
           (try clear hi)
           refine hK.out _ _ ⟨(hc HB hw250_0 :), (hc HB hw250_1 :), (hc HB hw250_2 :), (hc HB hw250_3 :), (hc HB hw251_0 :), (hc HB hw251_1 :), (hc HB hw251_2 :), (hc HB hw251_3 :)⟩ (fun hHeld => ?_)
           clear hK K
           refine nm 20 ?_
           refine on 10 7 (tb 11 1) (fun K hK => ?_)
           refine box_step ?hg (N := 7) ?hd (cs := #[.int .i64 0, .int .i64 0]) (t := 53) ?hr ?_; (case hd => rfl); (case hg => rfl); (case hr => first | (go_simp; done) | (go_simp; rfl))
           intro gb254 hg w23 hbox hb
           have BK254 := Aside0.mk (hbox)
           have GW254 := Aside0.mk (bz hg)
           have GE254 := GW254
           have NB247_254 := Aside0.mk (bn gb247 hg)
           have NB254_247 := sy NB247_254
           have NB248_254 := Aside0.mk (bn gb248 hg)
           have NB254_248 := sy NB248_254
           replace BK247 := kb BK247 hb
           replace BK248 := kb BK248 hb
           replace HB := kh hb
           clear hb hbox hg
           refine hK.out _ _ ⟨(hc HB hw250_0 :), (hc HB hw250_1 :), (hc HB hw250_2 :), (hc HB hw250_3 :), (hc HB hw251_0 :), (hc HB hw251_1 :), (hc HB hw251_2 :), (hc HB hw251_3 :)⟩ (fun hHeld => ?_)
           clear hK K
           refine nm 7 ?_
           exact norm_ (by simp only [putAll, Act.put, List.setIfInBounds_toArray, List.set_cons_zero, List.set_cons_succ]) (hCont (gb254) _ ⟨hHeld, (bo gb247), (bo gb248), (bo gb254), GW254.out, GE254.out, NB247_254.out, NB254_247.out, NB248_254.out, NB254_248.out, bl⟩)
          ·skip
           refine box_step ?hg (N := 7) ?hd (cs := #[.int .i64 0, .int .i64 0]) (t := 53) ?hr ?_; (case hd => rfl); (case hg => rfl); (case hr => first | (go_simp; done) | (go_simp; rfl))
           intro gb254 hg w22 hbox hb
           have BK254 := Aside0.mk (hbox)
           have GW254 := Aside0.mk (bz hg)
           have GE254 := GW254
           have NB247_254 := Aside0.mk (bn gb247 hg)
           have NB254_247 := sy NB247_254
           have NB248_254 := Aside0.mk (bn gb248 hg)
           have NB254_248 := sy NB248_254
           replace BK247 := kb BK247 hb
           replace BK248 := kb BK248 hb
           replace HB := kh hb
           clear hb hbox hg
           refine hK.out _ _ ⟨(hc HB hw250_0 :), (hc HB hw250_1 :), (hc HB hw250_2 :), (hc HB hw250_3 :), (hc HB hw251_0 :), (hc HB hw251_1 :), (hc HB hw251_2 :), (hc HB hw251_3 :)⟩ (fun hHeld => ?_)
           clear hK K
           refine nm 7 ?_
           refine on 9 20 (tb 11 1) (fun K hK => ?_)
           refine goes_ Try.func96 (by kernel_rfl) rfl #[.agg #[.int .i64 ((rd_T73 l0 t249).f0.f0), .int .i64 ((rd_T73 l0 t249).f0.f1), .int .i64 ((rd_T73 l0 t249).f1.f0), .int .i64 ((rd_T73 l0 t249).f1.f1)], .agg #[.int .i64 ((rd_T73 l0 (ji6)).f0.f0), .int .i64 ((rd_T73 l0 (ji6)).f0.f1), .int .i64 ((rd_T73 l0 (ji6)).f1.f0), .int .i64 ((rd_T73 l0 (ji6)).f1.f1)]] (by rfl) rfl rfl (by (try simp only [List.map_toArray, List.map_cons, List.map_nil]); first | done | (simp only [hji6]; rfl) | rfl | (simp only [List.length_drop, List.length_take]; rfl)) ?_
           with_reducible refine (spec_imSlope.calls k ((rd_T73 l0 t249).f0.f0) ((rd_T73 l0 t249).f0.f1) ((rd_T73 l0 t249).f1.f0) ((rd_T73 l0 t249).f1.f1) ((rd_T73 l0 (ji6)).f0.f0) ((rd_T73 l0 (ji6)).f0.f1) ((rd_T73 l0 (ji6)).f1.f0) ((rd_T73 l0 (ji6)).f1.f1) t252 t253 _ A9.out).mono ?_
           rintro e w23 ⟨rfl, hb⟩
           refine ⟨_, rfl, ?_⟩
           replace BK247 := kb BK247 hb
           replace BK248 := kb BK248 hb
           replace BK254 := kb BK254 hb
           replace HB := kh hb
           (try clear hb)
           (try clear hb2)
           (try clear hk)
           (try clear hi)
           refine hK.out _ _ ⟨(hc HB hw250_0 :), (hc HB hw250_1 :), (hc HB hw250_2 :), (hc HB hw250_3 :), (hc HB hw251_0 :), (hc HB hw251_1 :), (hc HB hw251_2 :), (hc HB hw251_3 :)⟩ (fun hHeld => ?_)
           clear hK K
           refine nm 20 ?_
           exact norm_ (by simp only [putAll, Act.put, List.setIfInBounds_toArray, List.set_cons_zero, List.set_cons_succ]) (hCont (gb254) _ ⟨hHeld, (bo gb247), (bo gb248), (bo gb254), GW254.out, GE254.out, NB247_254.out, NB254_247.out, NB248_254.out, NB254_248.out, bl⟩)
         rintro gb254 w24 ⟨hS_, h0_, h1_, h2_, h3_, h4_, h5_, h6_, h7_, h8_, h9_⟩
         have n0_ : Aside0 (w24.heap[gb247]? = some (.cells #[.int .i64 a1_0, .int .i64 a1_1] 53 (0, 0))) := ⟨h0_⟩
         have n1_ : Aside0 (w24.heap[gb248]? = some (.cells #[.int .i64 0, .int .i64 0] 53 (0, 0))) := ⟨h1_⟩
         have n2_ : Aside0 (w24.heap[gb254]? = some (.cells #[.int .i64 0, .int .i64 0] 53 (0, 0))) := ⟨h2_⟩
         have n3_ : Aside0 (w.heap.size ≤ gb254) := ⟨h3_⟩
         have n4_ : Aside0 (w.heap.size ≤ gb254) := ⟨h4_⟩
         have n5_ : Aside0 (gb247 ≠ gb254) := ⟨h5_⟩
         have n6_ : Aside0 (gb254 ≠ gb247) := ⟨h6_⟩
         have n7_ : Aside0 (gb248 ≠ gb254) := ⟨h7_⟩
         have n8_ : Aside0 (gb254 ≠ gb248) := ⟨h8_⟩
         have n9_ : Aside0 (Below w.heap.size w w24) := ⟨h9_⟩
         clear BK247
         clear BK248
         clear HB
         clear h0_ h1_ h2_ h3_ h4_ h5_ h6_ h7_ h8_ h9_
         have BK247 := n0_
         have BK248 := n1_
         have BK254 := n2_
         have GW254 := n3_
         have GE254 := n4_
         have NB247_254 := n5_
         have NB254_247 := n6_
         have NB248_254 := n7_
         have NB254_248 := n8_
         have HB := n9_
         clear n0_ n1_ n2_ n3_ n4_ n5_ n6_ n7_ n8_ n9_
         have hHeld : w24.cell? (ad250.add ((t249).toNat * 4)) = some (.int .i64 ((rd_T73 l0 t249).f0.f0)) ∧ w24.cell? ⟨(ad250.add ((t249).toNat * 4)).block, (ad250.add ((t249).toNat * 4)).off + 1, none⟩ = some (.int .i64 ((rd_T73 l0 t249).f0.f1)) ∧ w24.cell? ⟨(ad250.add ((t249).toNat * 4)).block, (ad250.add ((t249).toNat * 4)).off + 2, none⟩ = some (.int .i64 ((rd_T73 l0 t249).f1.f0)) ∧ w24.cell? ⟨(ad250.add ((t249).toNat * 4)).block, (ad250.add ((t249).toNat * 4)).off + 3, none⟩ = some (.int .i64 ((rd_T73 l0 t249).f1.f1)) ∧ w24.cell? (ad250.add (((ji6)).toNat * 4)) = some (.int .i64 ((rd_T73 l0 (ji6)).f0.f0)) ∧ w24.cell? ⟨(ad250.add (((ji6)).toNat * 4)).block, (ad250.add (((ji6)).toNat * 4)).off + 1, none⟩ = some (.int .i64 ((rd_T73 l0 (ji6)).f0.f1)) ∧ w24.cell? ⟨(ad250.add (((ji6)).toNat * 4)).block, (ad250.add (((ji6)).toNat * 4)).off + 2, none⟩ = some (.int .i64 ((rd_T73 l0 (ji6)).f1.f0)) ∧ w24.cell? ⟨(ad250.add (((ji6)).toNat * 4)).block, (ad250.add (((ji6)).toNat * 4)).off + 3, none⟩ = some (.int .i64 ((rd_T73 l0 (ji6)).f1.f1)) := hS_
         refine norm_ (a' := ?_) ?_ ?_
         rotate_left
         ·simp only [putAll, Act.put, List.setIfInBounds_toArray, List.set_cons_zero, List.set_cons_succ]
          rfl
         refine one_ (i := 11) (N := none) (tb 12 0) rfl rfl (one_of HT_.out (by kernel_rfl)) (by decide) (fun K hK => ?_)
         have hs25 : w24.cell? ⟨gb254, 0, none⟩ = some (.int .i64 0) := (blk_cell BK254.out 0).trans rfl
         have hfs25 := blk_frozen BK254.out 0
         have hns25_0 := NB247_254.out
         have hns25_1 := NB248_254.out
         have hms25_0 := NB254_247.out
         have hms25_1 := NB254_248.out
         have hs26 : w24.cell? ⟨gb254, 1, none⟩ = some (.int .i64 0) := (blk_cell BK254.out 1).trans rfl
         have hfs26 := blk_frozen BK254.out 1
         have hns26_0 := NB247_254.out
         have hns26_1 := NB248_254.out
         have hms26_0 := NB254_247.out
         have hms26_1 := NB254_248.out
         refine skip_ (w1 := ?_) (by rfl) rfl ?_ ?_
         rotate_left
         ·go_simp
          rfl
         refine hK.out _ _ ⟨(by (iterate 2 refine (cell_far (p := ⟨gb254, _, none⟩) (by have h_ := Nat.ne_of_lt (Nat.lt_of_lt_of_le (by have := World.block_lt_of_cell? _ _ hw250_0; first | rwa [add_block] at this | exact this) GW254.out); first | exact h_ | (rw [add_block]; exact h_) | (show (Addr.add _ _).block ≠ _; rw [add_block]; exact h_) | (dsimp only; exact h_)) _).trans ?_); exact hHeld.1), (by (iterate 2 refine (cell_far (p := ⟨gb254, _, none⟩) (by have h_ := Nat.ne_of_lt (Nat.lt_of_lt_of_le (by have := World.block_lt_of_cell? _ _ hw250_1; first | rwa [add_block] at this | exact this) GW254.out); first | exact h_ | (rw [add_block]; exact h_) | (show (Addr.add _ _).block ≠ _; rw [add_block]; exact h_) | (dsimp only; exact h_)) _).trans ?_); exact hHeld.2.1), (by (iterate 2 refine (cell_far (p := ⟨gb254, _, none⟩) (by have h_ := Nat.ne_of_lt (Nat.lt_of_lt_of_le (by have := World.block_lt_of_cell? _ _ hw250_2; first | rwa [add_block] at this | exact this) GW254.out); first | exact h_ | (rw [add_block]; exact h_) | (show (Addr.add _ _).block ≠ _; rw [add_block]; exact h_) | (dsimp only; exact h_)) _).trans ?_); exact hHeld.2.2.1), (by (iterate 2 refine (cell_far (p := ⟨gb254, _, none⟩) (by have h_ := Nat.ne_of_lt (Nat.lt_of_lt_of_le (by have := World.block_lt_of_cell? _ _ hw250_3; first | rwa [add_block] at this | exact this) GW254.out); first | exact h_ | (rw [add_block]; exact h_) | (show (Addr.add _ _).block ≠ _; rw [add_block]; exact h_) | (dsimp only; exact h_)) _).trans ?_); exact hHeld.2.2.2.1), (by (iterate 2 refine (cell_far (p := ⟨gb254, _, none⟩) (by have h_ := Nat.ne_of_lt (Nat.lt_of_lt_of_le (by have := World.block_lt_of_cell? _ _ hw251_0; first | rwa [add_block] at this | exact this) GW254.out); first | exact h_ | (rw [add_block]; exact h_) | (show (Addr.add _ _).block ≠ _; rw [add_block]; exact h_) | (dsimp only; exact h_)) _).trans ?_); exact hHeld.2.2.2.2.1), (by (iterate 2 refine (cell_far (p := ⟨gb254, _, none⟩) (by have h_ := Nat.ne_of_lt (Nat.lt_of_lt_of_le (by have := World.block_lt_of_cell? _ _ hw251_1; first | rwa [add_block] at this | exact this) GW254.out); first | exact h_ | (rw [add_block]; exact h_) | (show (Addr.add _ _).block ≠ _; rw [add_block]; exact h_) | (dsimp only; exact h_)) _).trans ?_); exact hHeld.2.2.2.2.2.1), (by (iterate 2 refine (cell_far (p := ⟨gb254, _, none⟩) (by have h_ := Nat.ne_of_lt (Nat.lt_of_lt_of_le (by have := World.block_lt_of_cell? _ _ hw251_2; first | rwa [add_block] at this | exact this) GW254.out); first | exact h_ | (rw [add_block]; exact h_) | (show (Addr.add _ _).block ≠ _; rw [add_block]; exact h_) | (dsimp only; exact h_)) _).trans ?_); exact hHeld.2.2.2.2.2.2.1), (by (iterate 2 refine (cell_far (p := ⟨gb254, _, none⟩) (by have h_ := Nat.ne_of_lt (Nat.lt_of_lt_of_le (by have := World.block_lt_of_cell? _ _ hw251_3; first | rwa [add_block] at this | exact this) GW254.out); first | exact h_ | (rw [add_block]; exact h_) | (show (Addr.add _ _).block ≠ _; rw [add_block]; exact h_) | (dsimp only; exact h_)) _).trans ?_); exact hHeld.2.2.2.2.2.2.2)⟩ (fun hHeld => ?_)
         clear hK K
         refine done_ (done_of HT_.out (by kernel_rfl)) ?_
         try go_wp2
         have n0_ : Aside0 (((w24.setCell ⟨gb254, 0, none⟩ (.int .i64 t252)).setCell ⟨gb254, 1, none⟩ (.int .i64 t253)).heap[gb247]? = some (.cells #[.int .i64 a1_0, .int .i64 a1_1] 53 (0, 0))) := ⟨by (with_reducible repeat (first | refine blk_drewN ?_ _ | refine blk_drew ?_ | refine blk_alloc ?_ _)); refine blk_far ?_ NB247_254.out _; (with_reducible repeat (first | refine blk_drewN ?_ _ | refine blk_drew ?_ | refine blk_alloc ?_ _)); refine blk_far ?_ NB247_254.out _; (with_reducible repeat (first | refine blk_drewN ?_ _ | refine blk_drew ?_ | refine blk_alloc ?_ _)); exact BK247.out⟩
         have n1_ : Aside0 (((w24.setCell ⟨gb254, 0, none⟩ (.int .i64 t252)).setCell ⟨gb254, 1, none⟩ (.int .i64 t253)).heap[gb248]? = some (.cells #[.int .i64 0, .int .i64 0] 53 (0, 0))) := ⟨by (with_reducible repeat (first | refine blk_drewN ?_ _ | refine blk_drew ?_ | refine blk_alloc ?_ _)); refine blk_far ?_ NB248_254.out _; (with_reducible repeat (first | refine blk_drewN ?_ _ | refine blk_drew ?_ | refine blk_alloc ?_ _)); refine blk_far ?_ NB248_254.out _; (with_reducible repeat (first | refine blk_drewN ?_ _ | refine blk_drew ?_ | refine blk_alloc ?_ _)); exact BK248.out⟩
         have n2_ : Aside0 (((w24.setCell ⟨gb254, 0, none⟩ (.int .i64 t252)).setCell ⟨gb254, 1, none⟩ (.int .i64 t253)).heap[gb254]? = some (.cells #[.int .i64 t252, .int .i64 t253] 53 (0, 0))) := ⟨by (with_reducible repeat (first | refine blk_drewN ?_ _ | refine blk_drew ?_ | refine blk_alloc ?_ _)); refine blk_put (cs := #[.int .i64 t252, .int .i64 0]) ?_ 1 _ rfl; (with_reducible repeat (first | refine blk_drewN ?_ _ | refine blk_drew ?_ | refine blk_alloc ?_ _)); refine blk_put (cs := #[.int .i64 0, .int .i64 0]) ?_ 0 _ rfl; (with_reducible repeat (first | refine blk_drewN ?_ _ | refine blk_drew ?_ | refine blk_alloc ?_ _)); exact BK254.out⟩
         have n3_ : Aside0 (Below w.heap.size w ((w24.setCell ⟨gb254, 0, none⟩ (.int .i64 t252)).setCell ⟨gb254, 1, none⟩ (.int .i64 t253))) := ⟨bl⟩
         (try clear BK247)
         (try clear BK248)
         (try clear BK254)
         (try clear HB)
         generalize ((w24.setCell ⟨gb254, 0, none⟩ (.int .i64 t252)).setCell ⟨gb254, 1, none⟩ (.int .i64 t253)) = w27 at n0_ n1_ n2_ n3_ ⊢
         have BK247 := n0_
         have BK248 := n1_
         have BK254 := n2_
         have HB := n3_
         clear n0_ n1_ n2_ n3_
         replace BK247 := Aside0.mk (blk_drew BK247.out)
         replace BK248 := Aside0.mk (blk_drew BK248.out)
         replace BK254 := Aside0.mk (blk_drew BK254.out)
         replace HB := Aside0.mk (below_drew1 HB.out)
         have p255 : 0 ≤ ((ji6) : Int) := da
         have q255 : (ji6) < (l0.length : Int) := da
         obtain ⟨ad255, e255, hx255_0, hx255_1, hx255_2, hx255_3⟩ := at_T73 HR0.out (ji6) p255 q255
         have hw255_3 := hx255_3
         have hw255_2 := hx255_2
         have hw255_1 := hx255_1
         have hw255_0 := hx255_0
         obtain rfl : ad250 = ad255 := (by injection e255)
         replace hx255_0 := (hc HB hx255_0 :)
         replace hx255_1 := (hc HB hx255_1 :)
         replace hx255_2 := (hc HB hx255_2 :)
         replace hx255_3 := (hc HB hx255_3 :)
         replace p255 := eq_true p255
         replace q255 := eq_true q255
         have p256 : 0 ≤ ((ji6) : Int) := da
         have q256 : (ji6) < (l0.length : Int) := da
         obtain ⟨ad256, e256, hx256_0, hx256_1, hx256_2, hx256_3⟩ := at_T73 HR0.out (ji6) p256 q256
         have hw256_3 := hx256_3
         have hw256_2 := hx256_2
         have hw256_1 := hx256_1
         have hw256_0 := hx256_0
         obtain rfl : ad250 = ad256 := (by injection e256)
         replace hx256_0 := (hc HB hx256_0 :)
         replace hx256_1 := (hc HB hx256_1 :)
         replace hx256_2 := (hc HB hx256_2 :)
         replace hx256_3 := (hc HB hx256_3 :)
         replace p256 := eq_true p256
         replace q256 := eq_true q256
         have p257 : 0 ≤ ((ji12) : Int) := da
         have q257 : (ji12) < (l0.length : Int) := da
         obtain ⟨ad257, e257, hx257_0, hx257_1, hx257_2, hx257_3⟩ := at_T73 HR0.out (ji12) p257 q257
         have hw257_3 := hx257_3
         have hw257_2 := hx257_2
         have hw257_1 := hx257_1
         have hw257_0 := hx257_0
         obtain rfl : ad250 = ad257 := (by injection e257)
         replace hx257_0 := (hc HB hx257_0 :)
         replace hx257_1 := (hc HB hx257_1 :)
         replace hx257_2 := (hc HB hx257_2 :)
         replace hx257_3 := (hc HB hx257_3 :)
         replace p257 := eq_true p257
         replace q257 := eq_true q257
         refine start_ (n := 30) (S := fun w' => w'.cell? ⟨gb247, 0, none⟩ = some (.int .i64 a1_0) ∧ w'.cell? ⟨gb247, 1, none⟩ = some (.int .i64 a1_1) ∧ w'.cell? ⟨gb254, 0, none⟩ = some (.int .i64 t252) ∧ w'.cell? ⟨gb254, 1, none⟩ = some (.int .i64 t253) ∧ w'.cell? (ad250.add (((ji6)).toNat * 4)) = some (.int .i64 ((rd_T73 l0 (ji6)).f0.f0)) ∧ w'.cell? ⟨(ad250.add (((ji6)).toNat * 4)).block, (ad250.add (((ji6)).toNat * 4)).off + 1, none⟩ = some (.int .i64 ((rd_T73 l0 (ji6)).f0.f1)) ∧ w'.cell? ⟨(ad250.add (((ji6)).toNat * 4)).block, (ad250.add (((ji6)).toNat * 4)).off + 2, none⟩ = some (.int .i64 ((rd_T73 l0 (ji6)).f1.f0)) ∧ w'.cell? ⟨(ad250.add (((ji6)).toNat * 4)).block, (ad250.add (((ji6)).toNat * 4)).off + 3, none⟩ = some (.int .i64 ((rd_T73 l0 (ji6)).f1.f1)) ∧ w'.cell? (ad250.add (((ji6)).toNat * 4)) = some (.int .i64 ((rd_T73 l0 (ji6)).f0.f0)) ∧ w'.cell? ⟨(ad250.add (((ji6)).toNat * 4)).block, (ad250.add (((ji6)).toNat * 4)).off + 1, none⟩ = some (.int .i64 ((rd_T73 l0 (ji6)).f0.f1)) ∧ w'.cell? ⟨(ad250.add (((ji6)).toNat * 4)).block, (ad250.add (((ji6)).toNat * 4)).off + 2, none⟩ = some (.int .i64 ((rd_T73 l0 (ji6)).f1.f0)) ∧ w'.cell? ⟨(ad250.add (((ji6)).toNat * 4)).block, (ad250.add (((ji6)).toNat * 4)).off + 3, none⟩ = some (.int .i64 ((rd_T73 l0 (ji6)).f1.f1)) ∧ w'.cell? (ad250.add (((ji12)).toNat * 4)) = some (.int .i64 ((rd_T73 l0 (ji12)).f0.f0)) ∧ w'.cell? ⟨(ad250.add (((ji12)).toNat * 4)).block, (ad250.add (((ji12)).toNat * 4)).off + 1, none⟩ = some (.int .i64 ((rd_T73 l0 (ji12)).f0.f1)) ∧ w'.cell? ⟨(ad250.add (((ji12)).toNat * 4)).block, (ad250.add (((ji12)).toNat * 4)).off + 2, none⟩ = some (.int .i64 ((rd_T73 l0 (ji12)).f1.f0)) ∧ w'.cell? ⟨(ad250.add (((ji12)).toNat * 4)).block, (ad250.add (((ji12)).toNat * 4)).off + 3, none⟩ = some (.int .i64 ((rd_T73 l0 (ji12)).f1.f1))) (ds := []) (tb 0 30) (by kernel_rfl) rfl rfl ⟨(blk_cell BK247.out 0).trans rfl, (blk_cell BK247.out 1).trans rfl, (blk_cell BK254.out 0).trans rfl, (blk_cell BK254.out 1).trans rfl, (hc HB hw255_0 :), (hc HB hw255_1 :), (hc HB hw255_2 :), (hc HB hw255_3 :), (hc HB hw256_0 :), (hc HB hw256_1 :), (hc HB hw256_2 :), (hc HB hw256_3 :), (hc HB hw257_0 :), (hc HB hw257_1 :), (hc HB hw257_2 :), (hc HB hw257_3 :)⟩ (fun hHeld => ?_); refine with_tabW spec_orSlope.tab3 spec_orSlope.bits3 (fun HT_ HW_ => ?_)
         generalize w27.drew = w28 at BK247 BK248 BK254 HB hx255_0 hx255_1 hx255_2 hx255_3 hx256_0 hx256_1 hx256_2 hx256_3 hx257_0 hx257_1 hx257_2 hx257_3 hHeld ⊢
         refine pu 0 21 (tb 1 29) ?_
         refine pu 1 22 (tb 2 28) ?_
         refine pu 2 23 (tb 3 27) ?_
         refine pu 3 24 (tb 4 26) ?_
         refine pu 4 25 (tb 5 25) ?_
         refine pu 5 26 (tb 6 24) ?_
         refine pu 6 27 (tb 7 23) ?_
         refine pu 7 28 (tb 8 22) ?_
         refine pu 8 29 (tb 9 21) ?_
         refine pu 9 30 (tb 10 20) ?_
         refine pu 10 31 (tb 11 19) ?_
         refine tk 11 32 (tb 12 18) (hy := by rintro w' ⟨s0, s1, s2, s3, s4, s5, s6, s7, s8, s9, s10, s11, s12, s13, s14, s15⟩; go_simp; with_reducible rfl) (h := ?_)
         refine tk 12 33 (tb 13 17) (hy := by rintro w' ⟨s0, s1, s2, s3, s4, s5, s6, s7, s8, s9, s10, s11, s12, s13, s14, s15⟩; go_simp; with_reducible rfl) (h := ?_)
         refine pu 13 34 (tb 14 16) ?_
         refine pu 14 35 (tb 15 15) ?_
         refine pu 15 36 (tb 16 14) ?_
         refine pu 16 37 (tb 17 13) ?_
         refine pu 17 38 (tb 18 12) ?_
         refine pu 18 39 (tb 19 11) ?_
         refine pu 19 40 (tb 20 10) ?_
         refine pu 21 42 #[true, true, true, true, true, true, true, true, true, true, true, true, true, true, true, true, true, true, true, true, false, true, false, false, false, false, false, false, false, false] ?_
         refine pu 22 43 #[true, true, true, true, true, true, true, true, true, true, true, true, true, true, true, true, true, true, true, true, false, true, true, false, false, false, false, false, false, false] ?_
         refine pu 23 44 #[true, true, true, true, true, true, true, true, true, true, true, true, true, true, true, true, true, true, true, true, false, true, true, true, false, false, false, false, false, false] ?_
         refine pu 24 45 #[true, true, true, true, true, true, true, true, true, true, true, true, true, true, true, true, true, true, true, true, false, true, true, true, true, false, false, false, false, false] ?_
         refine tk 20 41 (tb 25 5) (hy := by rintro w' ⟨s0, s1, s2, s3, s4, s5, s6, s7, s8, s9, s10, s11, s12, s13, s14, s15⟩; go_simp; with_reducible rfl) (h := ?_)
         refine tk 25 46 (tb 26 4) (hy := by rintro w' ⟨s0, s1, s2, s3, s4, s5, s6, s7, s8, s9, s10, s11, s12, s13, s14, s15⟩; go_simp; with_reducible rfl) (h := ?_)
         refine tk 27 48 #[true, true, true, true, true, true, true, true, true, true, true, true, true, true, true, true, true, true, true, true, true, true, true, true, true, true, false, true, false, false] (hy := by rintro w' ⟨s0, s1, s2, s3, s4, s5, s6, s7, s8, s9, s10, s11, s12, s13, s14, s15⟩; go_simp; with_reducible rfl) (h := ?_)
         refine on 26 47 (tb 28 2) (fun K hK => ?_)
         refine goes_ Try.func96 (by kernel_rfl) rfl #[.agg #[.int .i64 ((rd_T73 l0 (ji6)).f0.f0), .int .i64 ((rd_T73 l0 (ji6)).f0.f1), .int .i64 ((rd_T73 l0 (ji6)).f1.f0), .int .i64 ((rd_T73 l0 (ji6)).f1.f1)], .agg #[.int .i64 ((rd_T73 l0 (ji12)).f0.f0), .int .i64 ((rd_T73 l0 (ji12)).f0.f1), .int .i64 ((rd_T73 l0 (ji12)).f1.f0), .int .i64 ((rd_T73 l0 (ji12)).f1.f1)]] (by rfl) rfl rfl (by (try simp only [List.map_toArray, List.map_cons, List.map_nil]); first | done | (simp only [hji12, hji6]; rfl) | rfl | (simp only [List.length_drop, List.length_take]; rfl)) ?_
         with_reducible refine (spec_imSlope.calls k ((rd_T73 l0 (ji6)).f0.f0) ((rd_T73 l0 (ji6)).f0.f1) ((rd_T73 l0 (ji6)).f1.f0) ((rd_T73 l0 (ji6)).f1.f1) ((rd_T73 l0 (ji12)).f0.f0) ((rd_T73 l0 (ji12)).f0.f1) ((rd_T73 l0 (ji12)).f1.f0) ((rd_T73 l0 (ji12)).f1.f1) t258 t259 _ A14.out).mono ?_
         rintro e w29 ⟨rfl, hb⟩
         refine ⟨_, rfl, ?_⟩
         replace BK247 := kb BK247 hb
         replace BK248 := kb BK248 hb
         replace BK254 := kb BK254 hb
         replace HB := kh hb
         (try clear hb)
         (try clear hb2)
         (try clear hk)
         (try clear hi)
         refine hK.out _ _ ⟨(blk_cell BK247.out 0).trans rfl, (blk_cell BK247.out 1).trans rfl, (blk_cell BK254.out 0).trans rfl, (blk_cell BK254.out 1).trans rfl, (hc HB hw255_0 :), (hc HB hw255_1 :), (hc HB hw255_2 :), (hc HB hw255_3 :), (hc HB hw256_0 :), (hc HB hw256_1 :), (hc HB hw256_2 :), (hc HB hw256_3 :), (hc HB hw257_0 :), (hc HB hw257_1 :), (hc HB hw257_2 :), (hc HB hw257_3 :)⟩ (fun hHeld => ?_)
         clear hK K
         refine nm 47 ?_
         refine pu 28 49 (tb 29 1) ?_
         refine pu 29 50 (tb 30 0) ?_
         refine done_ (done_of HT_.out (by kernel_rfl)) ?_
         have hnb30 := NB248_254.out
         have hnc30 := NB254_248.out
         obtain ⟨hcz31_0, hcz31_1, hfz31_0, hfz31_1⟩ := b2 BK248
         try go_wp2
         refine bodyPost_ret (results_ct rfl _ _ gb248 53 #[.int .i64 0, .int .i64 0] (0, 0) _ rfl (by (with_reducible repeat (first | refine blk_drewN ?_ _ | refine blk_drew ?_ | refine blk_alloc ?_ _)); refine blk_put (cs := #[.int .i64 0, .int .i64 0]) ?_ 1 _ rfl; (with_reducible repeat (first | refine blk_drewN ?_ _ | refine blk_drew ?_ | refine blk_alloc ?_ _)); refine blk_put (cs := #[.int .i64 0, .int .i64 0]) ?_ 0 _ rfl; (with_reducible repeat (first | refine blk_drewN ?_ _ | refine blk_drew ?_ | refine blk_alloc ?_ _)); exact BK248.out) Try.underlying53 rfl (by kernel_rfl)) rfl ?_
         exact ⟨by first | rfl | (simp [errW_none, errW_some] <;> rfl) | (simp only [← hji6, ← hji12]; first | rfl | (simp [errW_none, errW_some] <;> rfl)) | (simp [*, errW_none, errW_some] <;> rfl), bl⟩
        ·rw [if_neg c15] at H
         have c15b0 : (!(t258 == t252) || (!(t259 == t253))) = false := by simpa using c15
         clear c15
         simp only [Option.some.injEq, Prod.mk.injEq] at H
         obtain ⟨rfl, rfl, rfl⟩ := H
         go_enter Try.func81, Try.ntmps81
         try go_wp2_with (first | ((with_reducible refine gate_dst (N := 3) rfl ?_); refine bx 3 #[.int .i64 a1_0, .int .i64 a1_1] 53 ?_; intro gb247 hg w32 hbox hb; have BK247 := Aside0.mk (hbox); have GW247 := Aside0.mk (bz hg); have GE247 := GW247; replace HB := kh hb; clear hb hbox hg) | ((with_reducible refine gate_dst (N := 4) rfl ?_); refine bx 4 #[.int .i64 0, .int .i64 0] 53 ?_; intro gb248 hg w33 hbox hb; have BK248 := Aside0.mk (hbox); have GW248 := Aside0.mk (bz hg); have GE248 := GW248; have NB247_248 := Aside0.mk (bn gb247 hg); have NB248_247 := sy NB247_248; replace BK247 := kb BK247 hb; replace HB := kh hb; clear hb hbox hg; have hnb34 := NB247_248.out; have hnc34 := NB248_247.out; obtain ⟨hcz35_0, hcz35_1, hfz35_0, hfz35_1⟩ := b2 BK247) | ((with_reducible refine gate_callee (f := 95) rfl ?_); refine gl 10 Try.func95 #[.slice A0 l0.length c0, .agg #[.int .i64 a1_0, .int .i64 a1_1]] ?_; (with_reducible refine (spec_imPiece.calls k _ _ l0 a1_0 a1_1 t249 _ ?side1 ?side2 A3.out).mono ?_); (case side1 => repeat (first | exact (Kd.C_below HR0.out HB.out) | (with_reducible refine Kd.C_alloc ?_ _) | (with_reducible refine Kd.C_drewN ?_ _) | (with_reducible refine Kd.C_drew ?_))); (case side2 => exact HC0.out); rintro e w36 ⟨rfl, hb⟩; refine ⟨_, rfl, ?_⟩; replace BK247 := kb BK247 hb; replace BK248 := kb BK248 hb; replace HB := kh hb; (try clear hb); (try clear hb2); (try clear hk); (try clear hi)))
         replace BK247 := Aside0.mk (blk_drew BK247.out)
         replace BK248 := Aside0.mk (blk_drew BK248.out)
         replace HB := Aside0.mk (below_drew1 HB.out)
         have p250 : 0 ≤ (t249 : Int) := da
         have q250 : t249 < (l0.length : Int) := da
         obtain ⟨ad250, e250, hx250_0, hx250_1, hx250_2, hx250_3⟩ := at_T73 HR0.out t249 p250 q250
         have hw250_3 := hx250_3
         have hw250_2 := hx250_2
         have hw250_1 := hx250_1
         have hw250_0 := hx250_0
         cases e250
         replace hx250_0 := (hc HB hx250_0 :)
         replace hx250_1 := (hc HB hx250_1 :)
         replace hx250_2 := (hc HB hx250_2 :)
         replace hx250_3 := (hc HB hx250_3 :)
         replace p250 := eq_true p250
         replace q250 := eq_true q250
         have p251 : 0 ≤ ((ji6) : Int) := da
         have q251 : (ji6) < (l0.length : Int) := da
         obtain ⟨ad251, e251, hx251_0, hx251_1, hx251_2, hx251_3⟩ := at_T73 HR0.out (ji6) p251 q251
         have hw251_3 := hx251_3
         have hw251_2 := hx251_2
         have hw251_1 := hx251_1
         have hw251_0 := hx251_0
         obtain rfl : ad250 = ad251 := (by injection e251)
         replace hx251_0 := (hc HB hx251_0 :)
         replace hx251_1 := (hc HB hx251_1 :)
         replace hx251_2 := (hc HB hx251_2 :)
         replace hx251_3 := (hc HB hx251_3 :)
         replace p251 := eq_true p251
         replace q251 := eq_true q251
         refine start_ (n := 12) (S := fun w' => w'.cell? (ad250.add ((t249).toNat * 4)) = some (.int .i64 ((rd_T73 l0 t249).f0.f0)) ∧ w'.cell? ⟨(ad250.add ((t249).toNat * 4)).block, (ad250.add ((t249).toNat * 4)).off + 1, none⟩ = some (.int .i64 ((rd_T73 l0 t249).f0.f1)) ∧ w'.cell? ⟨(ad250.add ((t249).toNat * 4)).block, (ad250.add ((t249).toNat * 4)).off + 2, none⟩ = some (.int .i64 ((rd_T73 l0 t249).f1.f0)) ∧ w'.cell? ⟨(ad250.add ((t249).toNat * 4)).block, (ad250.add ((t249).toNat * 4)).off + 3, none⟩ = some (.int .i64 ((rd_T73 l0 t249).f1.f1)) ∧ w'.cell? (ad250.add (((ji6)).toNat * 4)) = some (.int .i64 ((rd_T73 l0 (ji6)).f0.f0)) ∧ w'.cell? ⟨(ad250.add (((ji6)).toNat * 4)).block, (ad250.add (((ji6)).toNat * 4)).off + 1, none⟩ = some (.int .i64 ((rd_T73 l0 (ji6)).f0.f1)) ∧ w'.cell? ⟨(ad250.add (((ji6)).toNat * 4)).block, (ad250.add (((ji6)).toNat * 4)).off + 2, none⟩ = some (.int .i64 ((rd_T73 l0 (ji6)).f1.f0)) ∧ w'.cell? ⟨(ad250.add (((ji6)).toNat * 4)).block, (ad250.add (((ji6)).toNat * 4)).off + 3, none⟩ = some (.int .i64 ((rd_T73 l0 (ji6)).f1.f1))) (ds := []) (tb 0 12) (by kernel_rfl) rfl rfl ⟨(hc HB hw250_0 :), (hc HB hw250_1 :), (hc HB hw250_2 :), (hc HB hw250_3 :), (hc HB hw251_0 :), (hc HB hw251_1 :), (hc HB hw251_2 :), (hc HB hw251_3 :)⟩ (fun hHeld => ?_); refine with_tabW spec_orSlope.tab2 spec_orSlope.bits2 (fun HT_ HW_ => ?_)
         generalize w36.drew = w37 at BK247 BK248 HB hx250_0 hx250_1 hx250_2 hx250_3 hx251_0 hx251_1 hx251_2 hx251_3 hHeld ⊢
         refine pu 0 11 (tb 1 11) ?_
         refine pu 1 12 (tb 2 10) ?_
         refine pu 2 13 (tb 3 9) ?_
         refine pu 4 15 #[true, true, true, false, true, false, false, false, false, false, false, false] ?_
         refine pu 5 16 #[true, true, true, false, true, true, false, false, false, false, false, false] ?_
         refine pu 6 17 #[true, true, true, false, true, true, true, false, false, false, false, false] ?_
         refine pu 7 18 #[true, true, true, false, true, true, true, true, false, false, false, false] ?_
         refine tk 3 14 (tb 8 4) (hy := by rintro w' ⟨s0, s1, s2, s3, s4, s5, s6, s7⟩; go_simp; with_reducible rfl) (h := ?_)
         refine tk 8 19 (tb 9 3) (hy := by rintro w' ⟨s0, s1, s2, s3, s4, s5, s6, s7⟩; go_simp; with_reducible rfl) (h := ?_)
         refine join_ (σ := Nat) 1 (tb 11 1) (fun s_ => [(20, .agg #[.int .i64 t252, .int .i64 t253]), (7, .pointer (some ⟨s_, 0, none⟩))]) (fun s_ w' => (w'.cell? (ad250.add ((t249).toNat * 4)) = some (.int .i64 ((rd_T73 l0 t249).f0.f0)) ∧ w'.cell? ⟨(ad250.add ((t249).toNat * 4)).block, (ad250.add ((t249).toNat * 4)).off + 1, none⟩ = some (.int .i64 ((rd_T73 l0 t249).f0.f1)) ∧ w'.cell? ⟨(ad250.add ((t249).toNat * 4)).block, (ad250.add ((t249).toNat * 4)).off + 2, none⟩ = some (.int .i64 ((rd_T73 l0 t249).f1.f0)) ∧ w'.cell? ⟨(ad250.add ((t249).toNat * 4)).block, (ad250.add ((t249).toNat * 4)).off + 3, none⟩ = some (.int .i64 ((rd_T73 l0 t249).f1.f1)) ∧ w'.cell? (ad250.add (((ji6)).toNat * 4)) = some (.int .i64 ((rd_T73 l0 (ji6)).f0.f0)) ∧ w'.cell? ⟨(ad250.add (((ji6)).toNat * 4)).block, (ad250.add (((ji6)).toNat * 4)).off + 1, none⟩ = some (.int .i64 ((rd_T73 l0 (ji6)).f0.f1)) ∧ w'.cell? ⟨(ad250.add (((ji6)).toNat * 4)).block, (ad250.add (((ji6)).toNat * 4)).off + 2, none⟩ = some (.int .i64 ((rd_T73 l0 (ji6)).f1.f0)) ∧ w'.cell? ⟨(ad250.add (((ji6)).toNat * 4)).block, (ad250.add (((ji6)).toNat * 4)).off + 3, none⟩ = some (.int .i64 ((rd_T73 l0 (ji6)).f1.f1))) ∧ (w'.heap[gb247]? = some (.cells #[.int .i64 a1_0, .int .i64 a1_1] 53 (0, 0))) ∧ (w'.heap[gb248]? = some (.cells #[.int .i64 0, .int .i64 0] 53 (0, 0))) ∧ (w'.heap[s_]? = some (.cells #[.int .i64 0, .int .i64 0] 53 (0, 0))) ∧ (w.heap.size ≤ s_) ∧ (w.heap.size ≤ s_) ∧ (gb247 ≠ s_) ∧ (s_ ≠ gb247) ∧ (gb248 ≠ s_) ∧ (s_ ≠ gb248) ∧ (Below w.heap.size w w')) ?_ ?_
         rotate_left
         ·intro hCont
          refine two_ (i := 9) (j := 10) (Ni := some 20) (Nj := some 7) (tb 10 2) #[true, true, true, true, true, true, true, true, true, false, true, false] rfl rfl rfl rfl (two_of HT_.out (by kernel_rfl)) (by decide) (by decide) (fun K hK => ?_) (fun K hK => ?_)
          ·skip
           refine goes_ Try.func96 (by kernel_rfl) rfl #[.agg #[.int .i64 ((rd_T73 l0 t249).f0.f0), .int .i64 ((rd_T73 l0 t249).f0.f1), .int .i64 ((rd_T73 l0 t249).f1.f0), .int .i64 ((rd_T73 l0 t249).f1.f1)], .agg #[.int .i64 ((rd_T73 l0 (ji6)).f0.f0), .int .i64 ((rd_T73 l0 (ji6)).f0.f1), .int .i64 ((rd_T73 l0 (ji6)).f1.f0), .int .i64 ((rd_T73 l0 (ji6)).f1.f1)]] (by rfl) rfl rfl (by (try simp only [List.map_toArray, List.map_cons, List.map_nil]); first | done | (simp only [hji6]; rfl) | rfl | (simp only [List.length_drop, List.length_take]; rfl)) ?_
           with_reducible refine (spec_imSlope.calls k ((rd_T73 l0 t249).f0.f0) ((rd_T73 l0 t249).f0.f1) ((rd_T73 l0 t249).f1.f0) ((rd_T73 l0 t249).f1.f1) ((rd_T73 l0 (ji6)).f0.f0) ((rd_T73 l0 (ji6)).f0.f1) ((rd_T73 l0 (ji6)).f1.f0) ((rd_T73 l0 (ji6)).f1.f1) t252 t253 _ A9.out).mono ?_
           rintro e w38 ⟨rfl, hb⟩
           refine ⟨_, rfl, ?_⟩
           replace BK247 := kb BK247 hb
           replace BK248 := kb BK248 hb
           replace HB := kh hb
           (try clear hb)
           (try clear hb2)
           (try clear hk)
           (try clear hi)
           refine hK.out _ _ ⟨(hc HB hw250_0 :), (hc HB hw250_1 :), (hc HB hw250_2 :), (hc HB hw250_3 :), (hc HB hw251_0 :), (hc HB hw251_1 :), (hc HB hw251_2 :), (hc HB hw251_3 :)⟩ (fun hHeld => ?_)
           clear hK K
           refine nm 20 ?_
           refine on 10 7 (tb 11 1) (fun K hK => ?_)
           refine box_step ?hg (N := 7) ?hd (cs := #[.int .i64 0, .int .i64 0]) (t := 53) ?hr ?_; (case hd => rfl); (case hg => rfl); (case hr => first | (go_simp; done) | (go_simp; rfl))
           intro gb254 hg w39 hbox hb
           have BK254 := Aside0.mk (hbox)
           have GW254 := Aside0.mk (bz hg)
           have GE254 := GW254
           have NB247_254 := Aside0.mk (bn gb247 hg)
           have NB254_247 := sy NB247_254
           have NB248_254 := Aside0.mk (bn gb248 hg)
           have NB254_248 := sy NB248_254
           replace BK247 := kb BK247 hb
           replace BK248 := kb BK248 hb
           replace HB := kh hb
           clear hb hbox hg
           refine hK.out _ _ ⟨(hc HB hw250_0 :), (hc HB hw250_1 :), (hc HB hw250_2 :), (hc HB hw250_3 :), (hc HB hw251_0 :), (hc HB hw251_1 :), (hc HB hw251_2 :), (hc HB hw251_3 :)⟩ (fun hHeld => ?_)
           clear hK K
           refine nm 7 ?_
           exact norm_ (by simp only [putAll, Act.put, List.setIfInBounds_toArray, List.set_cons_zero, List.set_cons_succ]) (hCont (gb254) _ ⟨hHeld, (bo gb247), (bo gb248), (bo gb254), GW254.out, GE254.out, NB247_254.out, NB254_247.out, NB248_254.out, NB254_248.out, bl⟩)
          ·skip
           refine box_step ?hg (N := 7) ?hd (cs := #[.int .i64 0, .int .i64 0]) (t := 53) ?hr ?_; (case hd => rfl); (case hg => rfl); (case hr => first | (go_simp; done) | (go_simp; rfl))
           intro gb254 hg w38 hbox hb
           have BK254 := Aside0.mk (hbox)
           have GW254 := Aside0.mk (bz hg)
           have GE254 := GW254
           have NB247_254 := Aside0.mk (bn gb247 hg)
           have NB254_247 := sy NB247_254
           have NB248_254 := Aside0.mk (bn gb248 hg)
           have NB254_248 := sy NB248_254
           replace BK247 := kb BK247 hb
           replace BK248 := kb BK248 hb
           replace HB := kh hb
           clear hb hbox hg
           refine hK.out _ _ ⟨(hc HB hw250_0 :), (hc HB hw250_1 :), (hc HB hw250_2 :), (hc HB hw250_3 :), (hc HB hw251_0 :), (hc HB hw251_1 :), (hc HB hw251_2 :), (hc HB hw251_3 :)⟩ (fun hHeld => ?_)
           clear hK K
           refine nm 7 ?_
           refine on 9 20 (tb 11 1) (fun K hK => ?_)
           refine goes_ Try.func96 (by kernel_rfl) rfl #[.agg #[.int .i64 ((rd_T73 l0 t249).f0.f0), .int .i64 ((rd_T73 l0 t249).f0.f1), .int .i64 ((rd_T73 l0 t249).f1.f0), .int .i64 ((rd_T73 l0 t249).f1.f1)], .agg #[.int .i64 ((rd_T73 l0 (ji6)).f0.f0), .int .i64 ((rd_T73 l0 (ji6)).f0.f1), .int .i64 ((rd_T73 l0 (ji6)).f1.f0), .int .i64 ((rd_T73 l0 (ji6)).f1.f1)]] (by rfl) rfl rfl (by (try simp only [List.map_toArray, List.map_cons, List.map_nil]); first | done | (simp only [hji6]; rfl) | rfl | (simp only [List.length_drop, List.length_take]; rfl)) ?_
           with_reducible refine (spec_imSlope.calls k ((rd_T73 l0 t249).f0.f0) ((rd_T73 l0 t249).f0.f1) ((rd_T73 l0 t249).f1.f0) ((rd_T73 l0 t249).f1.f1) ((rd_T73 l0 (ji6)).f0.f0) ((rd_T73 l0 (ji6)).f0.f1) ((rd_T73 l0 (ji6)).f1.f0) ((rd_T73 l0 (ji6)).f1.f1) t252 t253 _ A9.out).mono ?_
           rintro e w39 ⟨rfl, hb⟩
           refine ⟨_, rfl, ?_⟩
           replace BK247 := kb BK247 hb
           replace BK248 := kb BK248 hb
           replace BK254 := kb BK254 hb
           replace HB := kh hb
           (try clear hb)
           (try clear hb2)
           (try clear hk)
           (try clear hi)
           refine hK.out _ _ ⟨(hc HB hw250_0 :), (hc HB hw250_1 :), (hc HB hw250_2 :), (hc HB hw250_3 :), (hc HB hw251_0 :), (hc HB hw251_1 :), (hc HB hw251_2 :), (hc HB hw251_3 :)⟩ (fun hHeld => ?_)
           clear hK K
           refine nm 20 ?_
           exact norm_ (by simp only [putAll, Act.put, List.setIfInBounds_toArray, List.set_cons_zero, List.set_cons_succ]) (hCont (gb254) _ ⟨hHeld, (bo gb247), (bo gb248), (bo gb254), GW254.out, GE254.out, NB247_254.out, NB254_247.out, NB248_254.out, NB254_248.out, bl⟩)
         rintro gb254 w40 ⟨hS_, h0_, h1_, h2_, h3_, h4_, h5_, h6_, h7_, h8_, h9_⟩
         have n0_ : Aside0 (w40.heap[gb247]? = some (.cells #[.int .i64 a1_0, .int .i64 a1_1] 53 (0, 0))) := ⟨h0_⟩
         have n1_ : Aside0 (w40.heap[gb248]? = some (.cells #[.int .i64 0, .int .i64 0] 53 (0, 0))) := ⟨h1_⟩
         have n2_ : Aside0 (w40.heap[gb254]? = some (.cells #[.int .i64 0, .int .i64 0] 53 (0, 0))) := ⟨h2_⟩
         have n3_ : Aside0 (w.heap.size ≤ gb254) := ⟨h3_⟩
         have n4_ : Aside0 (w.heap.size ≤ gb254) := ⟨h4_⟩
         have n5_ : Aside0 (gb247 ≠ gb254) := ⟨h5_⟩
         have n6_ : Aside0 (gb254 ≠ gb247) := ⟨h6_⟩
         have n7_ : Aside0 (gb248 ≠ gb254) := ⟨h7_⟩
         have n8_ : Aside0 (gb254 ≠ gb248) := ⟨h8_⟩
         have n9_ : Aside0 (Below w.heap.size w w40) := ⟨h9_⟩
         clear BK247
         clear BK248
         clear HB
         clear h0_ h1_ h2_ h3_ h4_ h5_ h6_ h7_ h8_ h9_
         have BK247 := n0_
         have BK248 := n1_
         have BK254 := n2_
         have GW254 := n3_
         have GE254 := n4_
         have NB247_254 := n5_
         have NB254_247 := n6_
         have NB248_254 := n7_
         have NB254_248 := n8_
         have HB := n9_
         clear n0_ n1_ n2_ n3_ n4_ n5_ n6_ n7_ n8_ n9_
         have hHeld : w40.cell? (ad250.add ((t249).toNat * 4)) = some (.int .i64 ((rd_T73 l0 t249).f0.f0)) ∧ w40.cell? ⟨(ad250.add ((t249).toNat * 4)).block, (ad250.add ((t249).toNat * 4)).off + 1, none⟩ = some (.int .i64 ((rd_T73 l0 t249).f0.f1)) ∧ w40.cell? ⟨(ad250.add ((t249).toNat * 4)).block, (ad250.add ((t249).toNat * 4)).off + 2, none⟩ = some (.int .i64 ((rd_T73 l0 t249).f1.f0)) ∧ w40.cell? ⟨(ad250.add ((t249).toNat * 4)).block, (ad250.add ((t249).toNat * 4)).off + 3, none⟩ = some (.int .i64 ((rd_T73 l0 t249).f1.f1)) ∧ w40.cell? (ad250.add (((ji6)).toNat * 4)) = some (.int .i64 ((rd_T73 l0 (ji6)).f0.f0)) ∧ w40.cell? ⟨(ad250.add (((ji6)).toNat * 4)).block, (ad250.add (((ji6)).toNat * 4)).off + 1, none⟩ = some (.int .i64 ((rd_T73 l0 (ji6)).f0.f1)) ∧ w40.cell? ⟨(ad250.add (((ji6)).toNat * 4)).block, (ad250.add (((ji6)).toNat * 4)).off + 2, none⟩ = some (.int .i64 ((rd_T73 l0 (ji6)).f1.f0)) ∧ w40.cell? ⟨(ad250.add (((ji6)).toNat * 4)).block, (ad250.add (((ji6)).toNat * 4)).off + 3, none⟩ = some (.int .i64 ((rd_T73 l0 (ji6)).f1.f1)) := hS_
         refine norm_ (a' := ?_) ?_ ?_
         rotate_left
         ·simp only [putAll, Act.put, List.setIfInBounds_toArray, List.set_cons_zero, List.set_cons_succ]
          rfl
         refine one_ (i := 11) (N := none) (tb 12 0) rfl rfl (one_of HT_.out (by kernel_rfl)) (by decide) (fun K hK => ?_)
         have hs41 : w40.cell? ⟨gb254, 0, none⟩ = some (.int .i64 0) := (blk_cell BK254.out 0).trans rfl
         have hfs41 := blk_frozen BK254.out 0
         have hns41_0 := NB247_254.out
         have hns41_1 := NB248_254.out
         have hms41_0 := NB254_247.out
         have hms41_1 := NB254_248.out
         have hs42 : w40.cell? ⟨gb254, 1, none⟩ = some (.int .i64 0) := (blk_cell BK254.out 1).trans rfl
         have hfs42 := blk_frozen BK254.out 1
         have hns42_0 := NB247_254.out
         have hns42_1 := NB248_254.out
         have hms42_0 := NB254_247.out
         have hms42_1 := NB254_248.out
         refine skip_ (w1 := ?_) (by rfl) rfl ?_ ?_
         rotate_left
         ·go_simp
          rfl
         refine hK.out _ _ ⟨(by (iterate 2 refine (cell_far (p := ⟨gb254, _, none⟩) (by have h_ := Nat.ne_of_lt (Nat.lt_of_lt_of_le (by have := World.block_lt_of_cell? _ _ hw250_0; first | rwa [add_block] at this | exact this) GW254.out); first | exact h_ | (rw [add_block]; exact h_) | (show (Addr.add _ _).block ≠ _; rw [add_block]; exact h_) | (dsimp only; exact h_)) _).trans ?_); exact hHeld.1), (by (iterate 2 refine (cell_far (p := ⟨gb254, _, none⟩) (by have h_ := Nat.ne_of_lt (Nat.lt_of_lt_of_le (by have := World.block_lt_of_cell? _ _ hw250_1; first | rwa [add_block] at this | exact this) GW254.out); first | exact h_ | (rw [add_block]; exact h_) | (show (Addr.add _ _).block ≠ _; rw [add_block]; exact h_) | (dsimp only; exact h_)) _).trans ?_); exact hHeld.2.1), (by (iterate 2 refine (cell_far (p := ⟨gb254, _, none⟩) (by have h_ := Nat.ne_of_lt (Nat.lt_of_lt_of_le (by have := World.block_lt_of_cell? _ _ hw250_2; first | rwa [add_block] at this | exact this) GW254.out); first | exact h_ | (rw [add_block]; exact h_) | (show (Addr.add _ _).block ≠ _; rw [add_block]; exact h_) | (dsimp only; exact h_)) _).trans ?_); exact hHeld.2.2.1), (by (iterate 2 refine (cell_far (p := ⟨gb254, _, none⟩) (by have h_ := Nat.ne_of_lt (Nat.lt_of_lt_of_le (by have := World.block_lt_of_cell? _ _ hw250_3; first | rwa [add_block] at this | exact this) GW254.out); first | exact h_ | (rw [add_block]; exact h_) | (show (Addr.add _ _).block ≠ _; rw [add_block]; exact h_) | (dsimp only; exact h_)) _).trans ?_); exact hHeld.2.2.2.1), (by (iterate 2 refine (cell_far (p := ⟨gb254, _, none⟩) (by have h_ := Nat.ne_of_lt (Nat.lt_of_lt_of_le (by have := World.block_lt_of_cell? _ _ hw251_0; first | rwa [add_block] at this | exact this) GW254.out); first | exact h_ | (rw [add_block]; exact h_) | (show (Addr.add _ _).block ≠ _; rw [add_block]; exact h_) | (dsimp only; exact h_)) _).trans ?_); exact hHeld.2.2.2.2.1), (by (iterate 2 refine (cell_far (p := ⟨gb254, _, none⟩) (by have h_ := Nat.ne_of_lt (Nat.lt_of_lt_of_le (by have := World.block_lt_of_cell? _ _ hw251_1; first | rwa [add_block] at this | exact this) GW254.out); first | exact h_ | (rw [add_block]; exact h_) | (show (Addr.add _ _).block ≠ _; rw [add_block]; exact h_) | (dsimp only; exact h_)) _).trans ?_); exact hHeld.2.2.2.2.2.1), (by (iterate 2 refine (cell_far (p := ⟨gb254, _, none⟩) (by have h_ := Nat.ne_of_lt (Nat.lt_of_lt_of_le (by have := World.block_lt_of_cell? _ _ hw251_2; first | rwa [add_block] at this | exact this) GW254.out); first | exact h_ | (rw [add_block]; exact h_) | (show (Addr.add _ _).block ≠ _; rw [add_block]; exact h_) | (dsimp only; exact h_)) _).trans ?_); exact hHeld.2.2.2.2.2.2.1), (by (iterate 2 refine (cell_far (p := ⟨gb254, _, none⟩) (by have h_ := Nat.ne_of_lt (Nat.lt_of_lt_of_le (by have := World.block_lt_of_cell? _ _ hw251_3; first | rwa [add_block] at this | exact this) GW254.out); first | exact h_ | (rw [add_block]; exact h_) | (show (Addr.add _ _).block ≠ _; rw [add_block]; exact h_) | (dsimp only; exact h_)) _).trans ?_); exact hHeld.2.2.2.2.2.2.2)⟩ (fun hHeld => ?_)
         clear hK K
         refine done_ (done_of HT_.out (by kernel_rfl)) ?_
         try go_wp2
         have n0_ : Aside0 (((w40.setCell ⟨gb254, 0, none⟩ (.int .i64 t252)).setCell ⟨gb254, 1, none⟩ (.int .i64 t253)).heap[gb247]? = some (.cells #[.int .i64 a1_0, .int .i64 a1_1] 53 (0, 0))) := ⟨by (with_reducible repeat (first | refine blk_drewN ?_ _ | refine blk_drew ?_ | refine blk_alloc ?_ _)); refine blk_far ?_ NB247_254.out _; (with_reducible repeat (first | refine blk_drewN ?_ _ | refine blk_drew ?_ | refine blk_alloc ?_ _)); refine blk_far ?_ NB247_254.out _; (with_reducible repeat (first | refine blk_drewN ?_ _ | refine blk_drew ?_ | refine blk_alloc ?_ _)); exact BK247.out⟩
         have n1_ : Aside0 (((w40.setCell ⟨gb254, 0, none⟩ (.int .i64 t252)).setCell ⟨gb254, 1, none⟩ (.int .i64 t253)).heap[gb248]? = some (.cells #[.int .i64 0, .int .i64 0] 53 (0, 0))) := ⟨by (with_reducible repeat (first | refine blk_drewN ?_ _ | refine blk_drew ?_ | refine blk_alloc ?_ _)); refine blk_far ?_ NB248_254.out _; (with_reducible repeat (first | refine blk_drewN ?_ _ | refine blk_drew ?_ | refine blk_alloc ?_ _)); refine blk_far ?_ NB248_254.out _; (with_reducible repeat (first | refine blk_drewN ?_ _ | refine blk_drew ?_ | refine blk_alloc ?_ _)); exact BK248.out⟩
         have n2_ : Aside0 (((w40.setCell ⟨gb254, 0, none⟩ (.int .i64 t252)).setCell ⟨gb254, 1, none⟩ (.int .i64 t253)).heap[gb254]? = some (.cells #[.int .i64 t252, .int .i64 t253] 53 (0, 0))) := ⟨by (with_reducible repeat (first | refine blk_drewN ?_ _ | refine blk_drew ?_ | refine blk_alloc ?_ _)); refine blk_put (cs := #[.int .i64 t252, .int .i64 0]) ?_ 1 _ rfl; (with_reducible repeat (first | refine blk_drewN ?_ _ | refine blk_drew ?_ | refine blk_alloc ?_ _)); refine blk_put (cs := #[.int .i64 0, .int .i64 0]) ?_ 0 _ rfl; (with_reducible repeat (first | refine blk_drewN ?_ _ | refine blk_drew ?_ | refine blk_alloc ?_ _)); exact BK254.out⟩
         have n3_ : Aside0 (Below w.heap.size w ((w40.setCell ⟨gb254, 0, none⟩ (.int .i64 t252)).setCell ⟨gb254, 1, none⟩ (.int .i64 t253))) := ⟨bl⟩
         (try clear BK247)
         (try clear BK248)
         (try clear BK254)
         (try clear HB)
         generalize ((w40.setCell ⟨gb254, 0, none⟩ (.int .i64 t252)).setCell ⟨gb254, 1, none⟩ (.int .i64 t253)) = w43 at n0_ n1_ n2_ n3_ ⊢
         have BK247 := n0_
         have BK248 := n1_
         have BK254 := n2_
         have HB := n3_
         clear n0_ n1_ n2_ n3_
         replace BK247 := Aside0.mk (blk_drew BK247.out)
         replace BK248 := Aside0.mk (blk_drew BK248.out)
         replace BK254 := Aside0.mk (blk_drew BK254.out)
         replace HB := Aside0.mk (below_drew1 HB.out)
         have p255 : 0 ≤ ((ji6) : Int) := da
         have q255 : (ji6) < (l0.length : Int) := da
         obtain ⟨ad255, e255, hx255_0, hx255_1, hx255_2, hx255_3⟩ := at_T73 HR0.out (ji6) p255 q255
         have hw255_3 := hx255_3
         have hw255_2 := hx255_2
         have hw255_1 := hx255_1
         have hw255_0 := hx255_0
         obtain rfl : ad250 = ad255 := (by injection e255)
         replace hx255_0 := (hc HB hx255_0 :)
         replace hx255_1 := (hc HB hx255_1 :)
         replace hx255_2 := (hc HB hx255_2 :)
         replace hx255_3 := (hc HB hx255_3 :)
         replace p255 := eq_true p255
         replace q255 := eq_true q255
         have p256 : 0 ≤ ((ji6) : Int) := da
         have q256 : (ji6) < (l0.length : Int) := da
         obtain ⟨ad256, e256, hx256_0, hx256_1, hx256_2, hx256_3⟩ := at_T73 HR0.out (ji6) p256 q256
         have hw256_3 := hx256_3
         have hw256_2 := hx256_2
         have hw256_1 := hx256_1
         have hw256_0 := hx256_0
         obtain rfl : ad250 = ad256 := (by injection e256)
         replace hx256_0 := (hc HB hx256_0 :)
         replace hx256_1 := (hc HB hx256_1 :)
         replace hx256_2 := (hc HB hx256_2 :)
         replace hx256_3 := (hc HB hx256_3 :)
         replace p256 := eq_true p256
         replace q256 := eq_true q256
         have p257 : 0 ≤ ((ji12) : Int) := da
         have q257 : (ji12) < (l0.length : Int) := da
         obtain ⟨ad257, e257, hx257_0, hx257_1, hx257_2, hx257_3⟩ := at_T73 HR0.out (ji12) p257 q257
         have hw257_3 := hx257_3
         have hw257_2 := hx257_2
         have hw257_1 := hx257_1
         have hw257_0 := hx257_0
         obtain rfl : ad250 = ad257 := (by injection e257)
         replace hx257_0 := (hc HB hx257_0 :)
         replace hx257_1 := (hc HB hx257_1 :)
         replace hx257_2 := (hc HB hx257_2 :)
         replace hx257_3 := (hc HB hx257_3 :)
         replace p257 := eq_true p257
         replace q257 := eq_true q257
         refine start_ (n := 30) (S := fun w' => w'.cell? ⟨gb247, 0, none⟩ = some (.int .i64 a1_0) ∧ w'.cell? ⟨gb247, 1, none⟩ = some (.int .i64 a1_1) ∧ w'.cell? ⟨gb254, 0, none⟩ = some (.int .i64 t252) ∧ w'.cell? ⟨gb254, 1, none⟩ = some (.int .i64 t253) ∧ w'.cell? (ad250.add (((ji6)).toNat * 4)) = some (.int .i64 ((rd_T73 l0 (ji6)).f0.f0)) ∧ w'.cell? ⟨(ad250.add (((ji6)).toNat * 4)).block, (ad250.add (((ji6)).toNat * 4)).off + 1, none⟩ = some (.int .i64 ((rd_T73 l0 (ji6)).f0.f1)) ∧ w'.cell? ⟨(ad250.add (((ji6)).toNat * 4)).block, (ad250.add (((ji6)).toNat * 4)).off + 2, none⟩ = some (.int .i64 ((rd_T73 l0 (ji6)).f1.f0)) ∧ w'.cell? ⟨(ad250.add (((ji6)).toNat * 4)).block, (ad250.add (((ji6)).toNat * 4)).off + 3, none⟩ = some (.int .i64 ((rd_T73 l0 (ji6)).f1.f1)) ∧ w'.cell? (ad250.add (((ji6)).toNat * 4)) = some (.int .i64 ((rd_T73 l0 (ji6)).f0.f0)) ∧ w'.cell? ⟨(ad250.add (((ji6)).toNat * 4)).block, (ad250.add (((ji6)).toNat * 4)).off + 1, none⟩ = some (.int .i64 ((rd_T73 l0 (ji6)).f0.f1)) ∧ w'.cell? ⟨(ad250.add (((ji6)).toNat * 4)).block, (ad250.add (((ji6)).toNat * 4)).off + 2, none⟩ = some (.int .i64 ((rd_T73 l0 (ji6)).f1.f0)) ∧ w'.cell? ⟨(ad250.add (((ji6)).toNat * 4)).block, (ad250.add (((ji6)).toNat * 4)).off + 3, none⟩ = some (.int .i64 ((rd_T73 l0 (ji6)).f1.f1)) ∧ w'.cell? (ad250.add (((ji12)).toNat * 4)) = some (.int .i64 ((rd_T73 l0 (ji12)).f0.f0)) ∧ w'.cell? ⟨(ad250.add (((ji12)).toNat * 4)).block, (ad250.add (((ji12)).toNat * 4)).off + 1, none⟩ = some (.int .i64 ((rd_T73 l0 (ji12)).f0.f1)) ∧ w'.cell? ⟨(ad250.add (((ji12)).toNat * 4)).block, (ad250.add (((ji12)).toNat * 4)).off + 2, none⟩ = some (.int .i64 ((rd_T73 l0 (ji12)).f1.f0)) ∧ w'.cell? ⟨(ad250.add (((ji12)).toNat * 4)).block, (ad250.add (((ji12)).toNat * 4)).off + 3, none⟩ = some (.int .i64 ((rd_T73 l0 (ji12)).f1.f1))) (ds := []) (tb 0 30) (by kernel_rfl) rfl rfl ⟨(blk_cell BK247.out 0).trans rfl, (blk_cell BK247.out 1).trans rfl, (blk_cell BK254.out 0).trans rfl, (blk_cell BK254.out 1).trans rfl, (hc HB hw255_0 :), (hc HB hw255_1 :), (hc HB hw255_2 :), (hc HB hw255_3 :), (hc HB hw256_0 :), (hc HB hw256_1 :), (hc HB hw256_2 :), (hc HB hw256_3 :), (hc HB hw257_0 :), (hc HB hw257_1 :), (hc HB hw257_2 :), (hc HB hw257_3 :)⟩ (fun hHeld => ?_); refine with_tabW spec_orSlope.tab3 spec_orSlope.bits3 (fun HT_ HW_ => ?_)
         generalize w43.drew = w44 at BK247 BK248 BK254 HB hx255_0 hx255_1 hx255_2 hx255_3 hx256_0 hx256_1 hx256_2 hx256_3 hx257_0 hx257_1 hx257_2 hx257_3 hHeld ⊢
         refine pu 0 21 (tb 1 29) ?_
         refine pu 1 22 (tb 2 28) ?_
         refine pu 2 23 (tb 3 27) ?_
         refine pu 3 24 (tb 4 26) ?_
         refine pu 4 25 (tb 5 25) ?_
         refine pu 5 26 (tb 6 24) ?_
         refine pu 6 27 (tb 7 23) ?_
         refine pu 7 28 (tb 8 22) ?_
         refine pu 8 29 (tb 9 21) ?_
         refine pu 9 30 (tb 10 20) ?_
         refine pu 10 31 (tb 11 19) ?_
         refine tk 11 32 (tb 12 18) (hy := by rintro w' ⟨s0, s1, s2, s3, s4, s5, s6, s7, s8, s9, s10, s11, s12, s13, s14, s15⟩; go_simp; with_reducible rfl) (h := ?_)
         refine tk 12 33 (tb 13 17) (hy := by rintro w' ⟨s0, s1, s2, s3, s4, s5, s6, s7, s8, s9, s10, s11, s12, s13, s14, s15⟩; go_simp; with_reducible rfl) (h := ?_)
         refine pu 13 34 (tb 14 16) ?_
         refine pu 14 35 (tb 15 15) ?_
         refine pu 15 36 (tb 16 14) ?_
         refine pu 16 37 (tb 17 13) ?_
         refine pu 17 38 (tb 18 12) ?_
         refine pu 18 39 (tb 19 11) ?_
         refine pu 19 40 (tb 20 10) ?_
         refine pu 21 42 #[true, true, true, true, true, true, true, true, true, true, true, true, true, true, true, true, true, true, true, true, false, true, false, false, false, false, false, false, false, false] ?_
         refine pu 22 43 #[true, true, true, true, true, true, true, true, true, true, true, true, true, true, true, true, true, true, true, true, false, true, true, false, false, false, false, false, false, false] ?_
         refine pu 23 44 #[true, true, true, true, true, true, true, true, true, true, true, true, true, true, true, true, true, true, true, true, false, true, true, true, false, false, false, false, false, false] ?_
         refine pu 24 45 #[true, true, true, true, true, true, true, true, true, true, true, true, true, true, true, true, true, true, true, true, false, true, true, true, true, false, false, false, false, false] ?_
         refine tk 20 41 (tb 25 5) (hy := by rintro w' ⟨s0, s1, s2, s3, s4, s5, s6, s7, s8, s9, s10, s11, s12, s13, s14, s15⟩; go_simp; with_reducible rfl) (h := ?_)
         refine tk 25 46 (tb 26 4) (hy := by rintro w' ⟨s0, s1, s2, s3, s4, s5, s6, s7, s8, s9, s10, s11, s12, s13, s14, s15⟩; go_simp; with_reducible rfl) (h := ?_)
         refine tk 27 48 #[true, true, true, true, true, true, true, true, true, true, true, true, true, true, true, true, true, true, true, true, true, true, true, true, true, true, false, true, false, false] (hy := by rintro w' ⟨s0, s1, s2, s3, s4, s5, s6, s7, s8, s9, s10, s11, s12, s13, s14, s15⟩; go_simp; with_reducible rfl) (h := ?_)
         refine on 26 47 (tb 28 2) (fun K hK => ?_)
         refine goes_ Try.func96 (by kernel_rfl) rfl #[.agg #[.int .i64 ((rd_T73 l0 (ji6)).f0.f0), .int .i64 ((rd_T73 l0 (ji6)).f0.f1), .int .i64 ((rd_T73 l0 (ji6)).f1.f0), .int .i64 ((rd_T73 l0 (ji6)).f1.f1)], .agg #[.int .i64 ((rd_T73 l0 (ji12)).f0.f0), .int .i64 ((rd_T73 l0 (ji12)).f0.f1), .int .i64 ((rd_T73 l0 (ji12)).f1.f0), .int .i64 ((rd_T73 l0 (ji12)).f1.f1)]] (by rfl) rfl rfl (by (try simp only [List.map_toArray, List.map_cons, List.map_nil]); first | done | (simp only [hji12, hji6]; rfl) | rfl | (simp only [List.length_drop, List.length_take]; rfl)) ?_
         with_reducible refine (spec_imSlope.calls k ((rd_T73 l0 (ji6)).f0.f0) ((rd_T73 l0 (ji6)).f0.f1) ((rd_T73 l0 (ji6)).f1.f0) ((rd_T73 l0 (ji6)).f1.f1) ((rd_T73 l0 (ji12)).f0.f0) ((rd_T73 l0 (ji12)).f0.f1) ((rd_T73 l0 (ji12)).f1.f0) ((rd_T73 l0 (ji12)).f1.f1) t258 t259 _ A14.out).mono ?_
         rintro e w45 ⟨rfl, hb⟩
         refine ⟨_, rfl, ?_⟩
         replace BK247 := kb BK247 hb
         replace BK248 := kb BK248 hb
         replace BK254 := kb BK254 hb
         replace HB := kh hb
         (try clear hb)
         (try clear hb2)
         (try clear hk)
         (try clear hi)
         refine hK.out _ _ ⟨(blk_cell BK247.out 0).trans rfl, (blk_cell BK247.out 1).trans rfl, (blk_cell BK254.out 0).trans rfl, (blk_cell BK254.out 1).trans rfl, (hc HB hw255_0 :), (hc HB hw255_1 :), (hc HB hw255_2 :), (hc HB hw255_3 :), (hc HB hw256_0 :), (hc HB hw256_1 :), (hc HB hw256_2 :), (hc HB hw256_3 :), (hc HB hw257_0 :), (hc HB hw257_1 :), (hc HB hw257_2 :), (hc HB hw257_3 :)⟩ (fun hHeld => ?_)
         clear hK K
         refine nm 47 ?_
         refine pu 28 49 (tb 29 1) ?_
         refine pu 29 50 (tb 30 0) ?_
         refine done_ (done_of HT_.out (by kernel_rfl)) ?_
         have hnb46 := NB254_247.out
         have hnc46 := NB247_254.out
         have hnb47 := NB254_248.out
         have hnc47 := NB248_254.out
         obtain ⟨hcz48_0, hcz48_1, hfz48_0, hfz48_1⟩ := b2 BK254
         obtain ⟨hcz49_0, hcz49_1, hfz49_0, hfz49_1⟩ := b2 BK248
         try go_wp2
         refine bodyPost_ret (results_ct rfl _ _ gb248 53 #[.int .i64 t252, .int .i64 t253] (0, 0) _ rfl (by (with_reducible repeat (first | refine blk_drewN ?_ _ | refine blk_drew ?_ | refine blk_alloc ?_ _)); refine blk_put (cs := #[.int .i64 t252, .int .i64 0]) ?_ 1 _ rfl; (with_reducible repeat (first | refine blk_drewN ?_ _ | refine blk_drew ?_ | refine blk_alloc ?_ _)); refine blk_put (cs := #[.int .i64 0, .int .i64 0]) ?_ 0 _ rfl; (with_reducible repeat (first | refine blk_drewN ?_ _ | refine blk_drew ?_ | refine blk_alloc ?_ _)); exact BK248.out) Try.underlying53 rfl (by kernel_rfl)) rfl ?_
         exact ⟨by first | rfl | (simp [errW_none, errW_some] <;> rfl) | (simp only [← hji6, ← hji12]; first | rfl | (simp [errW_none, errW_some] <;> rfl)) | (simp [*, errW_none, errW_some] <;> rfl), bl⟩
       ·rw [if_neg c13] at H
        exact absurd H (by simp)
      ·rw [if_neg c11] at H
       have c11b0 : (((rd_T73 l0 (ji6)).f0.f0) == a1_0 && (((rd_T73 l0 (ji6)).f0.f1) == a1_1)) = false := by simpa using c11
       (try (have c11b1 : decide (((rd_T73 l0 (ji6)).f0.f0) = a1_0 && (((rd_T73 l0 (ji6)).f0.f1) == a1_1)) = false := by simpa using c11))
       (try (have c11b2 : (((rd_T73 l0 (ji6)).f0.f0) == a1_0 && (((rd_T73 l0 (ji6)).f0.f1) == a1_1)) = false := by simpa using c11))
       (try (have c11b3 : ¬ (((rd_T73 l0 (ji6)).f0.f0) = a1_0 && (((rd_T73 l0 (ji6)).f0.f1) == a1_1)) := by simpa using c11))
       clear c11
       simp only [Option.some.injEq, Prod.mk.injEq] at H
       obtain ⟨rfl, rfl, rfl⟩ := H
       go_enter Try.func81, Try.ntmps81
       try go_wp2_with (first | ((with_reducible refine gate_dst (N := 3) rfl ?_); refine bx 3 #[.int .i64 a1_0, .int .i64 a1_1] 53 ?_; intro gb247 hg w50 hbox hb; have BK247 := Aside0.mk (hbox); have GW247 := Aside0.mk (bz hg); have GE247 := GW247; replace HB := kh hb; clear hb hbox hg) | ((with_reducible refine gate_dst (N := 4) rfl ?_); refine bx 4 #[.int .i64 0, .int .i64 0] 53 ?_; intro gb248 hg w51 hbox hb; have BK248 := Aside0.mk (hbox); have GW248 := Aside0.mk (bz hg); have GE248 := GW248; have NB247_248 := Aside0.mk (bn gb247 hg); have NB248_247 := sy NB247_248; replace BK247 := kb BK247 hb; replace HB := kh hb; clear hb hbox hg; have hnb52 := NB247_248.out; have hnc52 := NB248_247.out; obtain ⟨hcz53_0, hcz53_1, hfz53_0, hfz53_1⟩ := b2 BK247) | ((with_reducible refine gate_callee (f := 95) rfl ?_); refine gl 10 Try.func95 #[.slice A0 l0.length c0, .agg #[.int .i64 a1_0, .int .i64 a1_1]] ?_; (with_reducible refine (spec_imPiece.calls k _ _ l0 a1_0 a1_1 t249 _ ?side1 ?side2 A3.out).mono ?_); (case side1 => repeat (first | exact (Kd.C_below HR0.out HB.out) | (with_reducible refine Kd.C_alloc ?_ _) | (with_reducible refine Kd.C_drewN ?_ _) | (with_reducible refine Kd.C_drew ?_))); (case side2 => exact HC0.out); rintro e w54 ⟨rfl, hb⟩; refine ⟨_, rfl, ?_⟩; replace BK247 := kb BK247 hb; replace BK248 := kb BK248 hb; replace HB := kh hb; (try clear hb); (try clear hb2); (try clear hk); (try clear hi)))
       replace BK247 := Aside0.mk (blk_drew BK247.out)
       replace BK248 := Aside0.mk (blk_drew BK248.out)
       replace HB := Aside0.mk (below_drew1 HB.out)
       have p250 : 0 ≤ (t249 : Int) := da
       have q250 : t249 < (l0.length : Int) := da
       obtain ⟨ad250, e250, hx250_0, hx250_1, hx250_2, hx250_3⟩ := at_T73 HR0.out t249 p250 q250
       have hw250_3 := hx250_3
       have hw250_2 := hx250_2
       have hw250_1 := hx250_1
       have hw250_0 := hx250_0
       cases e250
       replace hx250_0 := (hc HB hx250_0 :)
       replace hx250_1 := (hc HB hx250_1 :)
       replace hx250_2 := (hc HB hx250_2 :)
       replace hx250_3 := (hc HB hx250_3 :)
       replace p250 := eq_true p250
       replace q250 := eq_true q250
       have p251 : 0 ≤ ((ji6) : Int) := da
       have q251 : (ji6) < (l0.length : Int) := da
       obtain ⟨ad251, e251, hx251_0, hx251_1, hx251_2, hx251_3⟩ := at_T73 HR0.out (ji6) p251 q251
       have hw251_3 := hx251_3
       have hw251_2 := hx251_2
       have hw251_1 := hx251_1
       have hw251_0 := hx251_0
       obtain rfl : ad250 = ad251 := (by injection e251)
       replace hx251_0 := (hc HB hx251_0 :)
       replace hx251_1 := (hc HB hx251_1 :)
       replace hx251_2 := (hc HB hx251_2 :)
       replace hx251_3 := (hc HB hx251_3 :)
       replace p251 := eq_true p251
       replace q251 := eq_true q251
       refine start_ (n := 12) (S := fun w' => w'.cell? (ad250.add ((t249).toNat * 4)) = some (.int .i64 ((rd_T73 l0 t249).f0.f0)) ∧ w'.cell? ⟨(ad250.add ((t249).toNat * 4)).block, (ad250.add ((t249).toNat * 4)).off + 1, none⟩ = some (.int .i64 ((rd_T73 l0 t249).f0.f1)) ∧ w'.cell? ⟨(ad250.add ((t249).toNat * 4)).block, (ad250.add ((t249).toNat * 4)).off + 2, none⟩ = some (.int .i64 ((rd_T73 l0 t249).f1.f0)) ∧ w'.cell? ⟨(ad250.add ((t249).toNat * 4)).block, (ad250.add ((t249).toNat * 4)).off + 3, none⟩ = some (.int .i64 ((rd_T73 l0 t249).f1.f1)) ∧ w'.cell? (ad250.add (((ji6)).toNat * 4)) = some (.int .i64 ((rd_T73 l0 (ji6)).f0.f0)) ∧ w'.cell? ⟨(ad250.add (((ji6)).toNat * 4)).block, (ad250.add (((ji6)).toNat * 4)).off + 1, none⟩ = some (.int .i64 ((rd_T73 l0 (ji6)).f0.f1)) ∧ w'.cell? ⟨(ad250.add (((ji6)).toNat * 4)).block, (ad250.add (((ji6)).toNat * 4)).off + 2, none⟩ = some (.int .i64 ((rd_T73 l0 (ji6)).f1.f0)) ∧ w'.cell? ⟨(ad250.add (((ji6)).toNat * 4)).block, (ad250.add (((ji6)).toNat * 4)).off + 3, none⟩ = some (.int .i64 ((rd_T73 l0 (ji6)).f1.f1))) (ds := []) (tb 0 12) (by kernel_rfl) rfl rfl ⟨(hc HB hw250_0 :), (hc HB hw250_1 :), (hc HB hw250_2 :), (hc HB hw250_3 :), (hc HB hw251_0 :), (hc HB hw251_1 :), (hc HB hw251_2 :), (hc HB hw251_3 :)⟩ (fun hHeld => ?_); refine with_tabW spec_orSlope.tab2 spec_orSlope.bits2 (fun HT_ HW_ => ?_)
       generalize w54.drew = w55 at BK247 BK248 HB hx250_0 hx250_1 hx250_2 hx250_3 hx251_0 hx251_1 hx251_2 hx251_3 hHeld ⊢
       refine pu 0 11 (tb 1 11) ?_
       refine pu 1 12 (tb 2 10) ?_
       refine pu 2 13 (tb 3 9) ?_
       refine pu 4 15 #[true, true, true, false, true, false, false, false, false, false, false, false] ?_
       refine pu 5 16 #[true, true, true, false, true, true, false, false, false, false, false, false] ?_
       refine pu 6 17 #[true, true, true, false, true, true, true, false, false, false, false, false] ?_
       refine pu 7 18 #[true, true, true, false, true, true, true, true, false, false, false, false] ?_
       refine tk 3 14 (tb 8 4) (hy := by rintro w' ⟨s0, s1, s2, s3, s4, s5, s6, s7⟩; go_simp; with_reducible rfl) (h := ?_)
       refine tk 8 19 (tb 9 3) (hy := by rintro w' ⟨s0, s1, s2, s3, s4, s5, s6, s7⟩; go_simp; with_reducible rfl) (h := ?_)
       refine join_ (σ := Nat) 1 (tb 11 1) (fun s_ => [(20, .agg #[.int .i64 t252, .int .i64 t253]), (7, .pointer (some ⟨s_, 0, none⟩))]) (fun s_ w' => (w'.cell? (ad250.add ((t249).toNat * 4)) = some (.int .i64 ((rd_T73 l0 t249).f0.f0)) ∧ w'.cell? ⟨(ad250.add ((t249).toNat * 4)).block, (ad250.add ((t249).toNat * 4)).off + 1, none⟩ = some (.int .i64 ((rd_T73 l0 t249).f0.f1)) ∧ w'.cell? ⟨(ad250.add ((t249).toNat * 4)).block, (ad250.add ((t249).toNat * 4)).off + 2, none⟩ = some (.int .i64 ((rd_T73 l0 t249).f1.f0)) ∧ w'.cell? ⟨(ad250.add ((t249).toNat * 4)).block, (ad250.add ((t249).toNat * 4)).off + 3, none⟩ = some (.int .i64 ((rd_T73 l0 t249).f1.f1)) ∧ w'.cell? (ad250.add (((ji6)).toNat * 4)) = some (.int .i64 ((rd_T73 l0 (ji6)).f0.f0)) ∧ w'.cell? ⟨(ad250.add (((ji6)).toNat * 4)).block, (ad250.add (((ji6)).toNat * 4)).off + 1, none⟩ = some (.int .i64 ((rd_T73 l0 (ji6)).f0.f1)) ∧ w'.cell? ⟨(ad250.add (((ji6)).toNat * 4)).block, (ad250.add (((ji6)).toNat * 4)).off + 2, none⟩ = some (.int .i64 ((rd_T73 l0 (ji6)).f1.f0)) ∧ w'.cell? ⟨(ad250.add (((ji6)).toNat * 4)).block, (ad250.add (((ji6)).toNat * 4)).off + 3, none⟩ = some (.int .i64 ((rd_T73 l0 (ji6)).f1.f1))) ∧ (w'.heap[gb247]? = some (.cells #[.int .i64 a1_0, .int .i64 a1_1] 53 (0, 0))) ∧ (w'.heap[gb248]? = some (.cells #[.int .i64 0, .int .i64 0] 53 (0, 0))) ∧ (w'.heap[s_]? = some (.cells #[.int .i64 0, .int .i64 0] 53 (0, 0))) ∧ (w.heap.size ≤ s_) ∧ (w.heap.size ≤ s_) ∧ (gb247 ≠ s_) ∧ (s_ ≠ gb247) ∧ (gb248 ≠ s_) ∧ (s_ ≠ gb248) ∧ (Below w.heap.size w w')) ?_ ?_
       rotate_left
       ·intro hCont
        refine two_ (i := 9) (j := 10) (Ni := some 20) (Nj := some 7) (tb 10 2) #[true, true, true, true, true, true, true, true, true, false, true, false] rfl rfl rfl rfl (two_of HT_.out (by kernel_rfl)) (by decide) (by decide) (fun K hK => ?_) (fun K hK => ?_)
        ·skip
         refine goes_ Try.func96 (by kernel_rfl) rfl #[.agg #[.int .i64 ((rd_T73 l0 t249).f0.f0), .int .i64 ((rd_T73 l0 t249).f0.f1), .int .i64 ((rd_T73 l0 t249).f1.f0), .int .i64 ((rd_T73 l0 t249).f1.f1)], .agg #[.int .i64 ((rd_T73 l0 (ji6)).f0.f0), .int .i64 ((rd_T73 l0 (ji6)).f0.f1), .int .i64 ((rd_T73 l0 (ji6)).f1.f0), .int .i64 ((rd_T73 l0 (ji6)).f1.f1)]] (by rfl) rfl rfl (by (try simp only [List.map_toArray, List.map_cons, List.map_nil]); first | done | (simp only [hji6]; rfl) | rfl | (simp only [List.length_drop, List.length_take]; rfl)) ?_
         with_reducible refine (spec_imSlope.calls k ((rd_T73 l0 t249).f0.f0) ((rd_T73 l0 t249).f0.f1) ((rd_T73 l0 t249).f1.f0) ((rd_T73 l0 t249).f1.f1) ((rd_T73 l0 (ji6)).f0.f0) ((rd_T73 l0 (ji6)).f0.f1) ((rd_T73 l0 (ji6)).f1.f0) ((rd_T73 l0 (ji6)).f1.f1) t252 t253 _ A9.out).mono ?_
         rintro e w56 ⟨rfl, hb⟩
         refine ⟨_, rfl, ?_⟩
         replace BK247 := kb BK247 hb
         replace BK248 := kb BK248 hb
         replace HB := kh hb
         (try clear hb)
         (try clear hb2)
         (try clear hk)
         (try clear hi)
         refine hK.out _ _ ⟨(hc HB hw250_0 :), (hc HB hw250_1 :), (hc HB hw250_2 :), (hc HB hw250_3 :), (hc HB hw251_0 :), (hc HB hw251_1 :), (hc HB hw251_2 :), (hc HB hw251_3 :)⟩ (fun hHeld => ?_)
         clear hK K
         refine nm 20 ?_
         refine on 10 7 (tb 11 1) (fun K hK => ?_)
         refine box_step ?hg (N := 7) ?hd (cs := #[.int .i64 0, .int .i64 0]) (t := 53) ?hr ?_; (case hd => rfl); (case hg => rfl); (case hr => first | (go_simp; done) | (go_simp; rfl))
         intro gb254 hg w57 hbox hb
         have BK254 := Aside0.mk (hbox)
         have GW254 := Aside0.mk (bz hg)
         have GE254 := GW254
         have NB247_254 := Aside0.mk (bn gb247 hg)
         have NB254_247 := sy NB247_254
         have NB248_254 := Aside0.mk (bn gb248 hg)
         have NB254_248 := sy NB248_254
         replace BK247 := kb BK247 hb
         replace BK248 := kb BK248 hb
         replace HB := kh hb
         clear hb hbox hg
         refine hK.out _ _ ⟨(hc HB hw250_0 :), (hc HB hw250_1 :), (hc HB hw250_2 :), (hc HB hw250_3 :), (hc HB hw251_0 :), (hc HB hw251_1 :), (hc HB hw251_2 :), (hc HB hw251_3 :)⟩ (fun hHeld => ?_)
         clear hK K
         refine nm 7 ?_
         exact norm_ (by simp only [putAll, Act.put, List.setIfInBounds_toArray, List.set_cons_zero, List.set_cons_succ]) (hCont (gb254) _ ⟨hHeld, (bo gb247), (bo gb248), (bo gb254), GW254.out, GE254.out, NB247_254.out, NB254_247.out, NB248_254.out, NB254_248.out, bl⟩)
        ·skip
         refine box_step ?hg (N := 7) ?hd (cs := #[.int .i64 0, .int .i64 0]) (t := 53) ?hr ?_; (case hd => rfl); (case hg => rfl); (case hr => first | (go_simp; done) | (go_simp; rfl))
         intro gb254 hg w56 hbox hb
         have BK254 := Aside0.mk (hbox)
         have GW254 := Aside0.mk (bz hg)
         have GE254 := GW254
         have NB247_254 := Aside0.mk (bn gb247 hg)
         have NB254_247 := sy NB247_254
         have NB248_254 := Aside0.mk (bn gb248 hg)
         have NB254_248 := sy NB248_254
         replace BK247 := kb BK247 hb
         replace BK248 := kb BK248 hb
         replace HB := kh hb
         clear hb hbox hg
         refine hK.out _ _ ⟨(hc HB hw250_0 :), (hc HB hw250_1 :), (hc HB hw250_2 :), (hc HB hw250_3 :), (hc HB hw251_0 :), (hc HB hw251_1 :), (hc HB hw251_2 :), (hc HB hw251_3 :)⟩ (fun hHeld => ?_)
         clear hK K
         refine nm 7 ?_
         refine on 9 20 (tb 11 1) (fun K hK => ?_)
         refine goes_ Try.func96 (by kernel_rfl) rfl #[.agg #[.int .i64 ((rd_T73 l0 t249).f0.f0), .int .i64 ((rd_T73 l0 t249).f0.f1), .int .i64 ((rd_T73 l0 t249).f1.f0), .int .i64 ((rd_T73 l0 t249).f1.f1)], .agg #[.int .i64 ((rd_T73 l0 (ji6)).f0.f0), .int .i64 ((rd_T73 l0 (ji6)).f0.f1), .int .i64 ((rd_T73 l0 (ji6)).f1.f0), .int .i64 ((rd_T73 l0 (ji6)).f1.f1)]] (by rfl) rfl rfl (by (try simp only [List.map_toArray, List.map_cons, List.map_nil]); first | done | (simp only [hji6]; rfl) | rfl | (simp only [List.length_drop, List.length_take]; rfl)) ?_
         with_reducible refine (spec_imSlope.calls k ((rd_T73 l0 t249).f0.f0) ((rd_T73 l0 t249).f0.f1) ((rd_T73 l0 t249).f1.f0) ((rd_T73 l0 t249).f1.f1) ((rd_T73 l0 (ji6)).f0.f0) ((rd_T73 l0 (ji6)).f0.f1) ((rd_T73 l0 (ji6)).f1.f0) ((rd_T73 l0 (ji6)).f1.f1) t252 t253 _ A9.out).mono ?_
         rintro e w57 ⟨rfl, hb⟩
         refine ⟨_, rfl, ?_⟩
         replace BK247 := kb BK247 hb
         replace BK248 := kb BK248 hb
         replace BK254 := kb BK254 hb
         replace HB := kh hb
         (try clear hb)
         (try clear hb2)
         (try clear hk)
         (try clear hi)
         refine hK.out _ _ ⟨(hc HB hw250_0 :), (hc HB hw250_1 :), (hc HB hw250_2 :), (hc HB hw250_3 :), (hc HB hw251_0 :), (hc HB hw251_1 :), (hc HB hw251_2 :), (hc HB hw251_3 :)⟩ (fun hHeld => ?_)
         clear hK K
         refine nm 20 ?_
         exact norm_ (by simp only [putAll, Act.put, List.setIfInBounds_toArray, List.set_cons_zero, List.set_cons_succ]) (hCont (gb254) _ ⟨hHeld, (bo gb247), (bo gb248), (bo gb254), GW254.out, GE254.out, NB247_254.out, NB254_247.out, NB248_254.out, NB254_248.out, bl⟩)
       rintro gb254 w58 ⟨hS_, h0_, h1_, h2_, h3_, h4_, h5_, h6_, h7_, h8_, h9_⟩
       have n0_ : Aside0 (w58.heap[gb247]? = some (.cells #[.int .i64 a1_0, .int .i64 a1_1] 53 (0, 0))) := ⟨h0_⟩
       have n1_ : Aside0 (w58.heap[gb248]? = some (.cells #[.int .i64 0, .int .i64 0] 53 (0, 0))) := ⟨h1_⟩
       have n2_ : Aside0 (w58.heap[gb254]? = some (.cells #[.int .i64 0, .int .i64 0] 53 (0, 0))) := ⟨h2_⟩
       have n3_ : Aside0 (w.heap.size ≤ gb254) := ⟨h3_⟩
       have n4_ : Aside0 (w.heap.size ≤ gb254) := ⟨h4_⟩
       have n5_ : Aside0 (gb247 ≠ gb254) := ⟨h5_⟩
       have n6_ : Aside0 (gb254 ≠ gb247) := ⟨h6_⟩
       have n7_ : Aside0 (gb248 ≠ gb254) := ⟨h7_⟩
       have n8_ : Aside0 (gb254 ≠ gb248) := ⟨h8_⟩
       have n9_ : Aside0 (Below w.heap.size w w58) := ⟨h9_⟩
       clear BK247
       clear BK248
       clear HB
       clear h0_ h1_ h2_ h3_ h4_ h5_ h6_ h7_ h8_ h9_
       have BK247 := n0_
       have BK248 := n1_
       have BK254 := n2_
       have GW254 := n3_
       have GE254 := n4_
       have NB247_254 := n5_
       have NB254_247 := n6_
       have NB248_254 := n7_
       have NB254_248 := n8_
       have HB := n9_
       clear n0_ n1_ n2_ n3_ n4_ n5_ n6_ n7_ n8_ n9_
       have hHeld : w58.cell? (ad250.add ((t249).toNat * 4)) = some (.int .i64 ((rd_T73 l0 t249).f0.f0)) ∧ w58.cell? ⟨(ad250.add ((t249).toNat * 4)).block, (ad250.add ((t249).toNat * 4)).off + 1, none⟩ = some (.int .i64 ((rd_T73 l0 t249).f0.f1)) ∧ w58.cell? ⟨(ad250.add ((t249).toNat * 4)).block, (ad250.add ((t249).toNat * 4)).off + 2, none⟩ = some (.int .i64 ((rd_T73 l0 t249).f1.f0)) ∧ w58.cell? ⟨(ad250.add ((t249).toNat * 4)).block, (ad250.add ((t249).toNat * 4)).off + 3, none⟩ = some (.int .i64 ((rd_T73 l0 t249).f1.f1)) ∧ w58.cell? (ad250.add (((ji6)).toNat * 4)) = some (.int .i64 ((rd_T73 l0 (ji6)).f0.f0)) ∧ w58.cell? ⟨(ad250.add (((ji6)).toNat * 4)).block, (ad250.add (((ji6)).toNat * 4)).off + 1, none⟩ = some (.int .i64 ((rd_T73 l0 (ji6)).f0.f1)) ∧ w58.cell? ⟨(ad250.add (((ji6)).toNat * 4)).block, (ad250.add (((ji6)).toNat * 4)).off + 2, none⟩ = some (.int .i64 ((rd_T73 l0 (ji6)).f1.f0)) ∧ w58.cell? ⟨(ad250.add (((ji6)).toNat * 4)).block, (ad250.add (((ji6)).toNat * 4)).off + 3, none⟩ = some (.int .i64 ((rd_T73 l0 (ji6)).f1.f1)) := hS_
       refine norm_ (a' := ?_) ?_ ?_
       rotate_left
       ·simp only [putAll, Act.put, List.setIfInBounds_toArray, List.set_cons_zero, List.set_cons_succ]
        rfl
       refine one_ (i := 11) (N := none) (tb 12 0) rfl rfl (one_of HT_.out (by kernel_rfl)) (by decide) (fun K hK => ?_)
       have hs59 : w58.cell? ⟨gb254, 0, none⟩ = some (.int .i64 0) := (blk_cell BK254.out 0).trans rfl
       have hfs59 := blk_frozen BK254.out 0
       have hns59_0 := NB247_254.out
       have hns59_1 := NB248_254.out
       have hms59_0 := NB254_247.out
       have hms59_1 := NB254_248.out
       have hs60 : w58.cell? ⟨gb254, 1, none⟩ = some (.int .i64 0) := (blk_cell BK254.out 1).trans rfl
       have hfs60 := blk_frozen BK254.out 1
       have hns60_0 := NB247_254.out
       have hns60_1 := NB248_254.out
       have hms60_0 := NB254_247.out
       have hms60_1 := NB254_248.out
       refine skip_ (w1 := ?_) (by rfl) rfl ?_ ?_
       rotate_left
       ·go_simp
        rfl
       refine hK.out _ _ ⟨(by (iterate 2 refine (cell_far (p := ⟨gb254, _, none⟩) (by have h_ := Nat.ne_of_lt (Nat.lt_of_lt_of_le (by have := World.block_lt_of_cell? _ _ hw250_0; first | rwa [add_block] at this | exact this) GW254.out); first | exact h_ | (rw [add_block]; exact h_) | (show (Addr.add _ _).block ≠ _; rw [add_block]; exact h_) | (dsimp only; exact h_)) _).trans ?_); exact hHeld.1), (by (iterate 2 refine (cell_far (p := ⟨gb254, _, none⟩) (by have h_ := Nat.ne_of_lt (Nat.lt_of_lt_of_le (by have := World.block_lt_of_cell? _ _ hw250_1; first | rwa [add_block] at this | exact this) GW254.out); first | exact h_ | (rw [add_block]; exact h_) | (show (Addr.add _ _).block ≠ _; rw [add_block]; exact h_) | (dsimp only; exact h_)) _).trans ?_); exact hHeld.2.1), (by (iterate 2 refine (cell_far (p := ⟨gb254, _, none⟩) (by have h_ := Nat.ne_of_lt (Nat.lt_of_lt_of_le (by have := World.block_lt_of_cell? _ _ hw250_2; first | rwa [add_block] at this | exact this) GW254.out); first | exact h_ | (rw [add_block]; exact h_) | (show (Addr.add _ _).block ≠ _; rw [add_block]; exact h_) | (dsimp only; exact h_)) _).trans ?_); exact hHeld.2.2.1), (by (iterate 2 refine (cell_far (p := ⟨gb254, _, none⟩) (by have h_ := Nat.ne_of_lt (Nat.lt_of_lt_of_le (by have := World.block_lt_of_cell? _ _ hw250_3; first | rwa [add_block] at this | exact this) GW254.out); first | exact h_ | (rw [add_block]; exact h_) | (show (Addr.add _ _).block ≠ _; rw [add_block]; exact h_) | (dsimp only; exact h_)) _).trans ?_); exact hHeld.2.2.2.1), (by (iterate 2 refine (cell_far (p := ⟨gb254, _, none⟩) (by have h_ := Nat.ne_of_lt (Nat.lt_of_lt_of_le (by have := World.block_lt_of_cell? _ _ hw251_0; first | rwa [add_block] at this | exact this) GW254.out); first | exact h_ | (rw [add_block]; exact h_) | (show (Addr.add _ _).block ≠ _; rw [add_block]; exact h_) | (dsimp only; exact h_)) _).trans ?_); exact hHeld.2.2.2.2.1), (by (iterate 2 refine (cell_far (p := ⟨gb254, _, none⟩) (by have h_ := Nat.ne_of_lt (Nat.lt_of_lt_of_le (by have := World.block_lt_of_cell? _ _ hw251_1; first | rwa [add_block] at this | exact this) GW254.out); first | exact h_ | (rw [add_block]; exact h_) | (show (Addr.add _ _).block ≠ _; rw [add_block]; exact h_) | (dsimp only; exact h_)) _).trans ?_); exact hHeld.2.2.2.2.2.1), (by (iterate 2 refine (cell_far (p := ⟨gb254, _, none⟩) (by have h_ := Nat.ne_of_lt (Nat.lt_of_lt_of_le (by have := World.block_lt_of_cell? _ _ hw251_2; first | rwa [add_block] at this | exact this) GW254.out); first | exact h_ | (rw [add_block]; exact h_) | (show (Addr.add _ _).block ≠ _; rw [add_block]; exact h_) | (dsimp only; exact h_)) _).trans ?_); exact hHeld.2.2.2.2.2.2.1), (by (iterate 2 refine (cell_far (p := ⟨gb254, _, none⟩) (by have h_ := Nat.ne_of_lt (Nat.lt_of_lt_of_le (by have := World.block_lt_of_cell? _ _ hw251_3; first | rwa [add_block] at this | exact this) GW254.out); first | exact h_ | (rw [add_block]; exact h_) | (show (Addr.add _ _).block ≠ _; rw [add_block]; exact h_) | (dsimp only; exact h_)) _).trans ?_); exact hHeld.2.2.2.2.2.2.2)⟩ (fun hHeld => ?_)
       clear hK K
       refine done_ (done_of HT_.out (by kernel_rfl)) ?_
       try go_wp2
       have n0_ : Aside0 (((w58.setCell ⟨gb254, 0, none⟩ (.int .i64 t252)).setCell ⟨gb254, 1, none⟩ (.int .i64 t253)).heap[gb247]? = some (.cells #[.int .i64 a1_0, .int .i64 a1_1] 53 (0, 0))) := ⟨by (with_reducible repeat (first | refine blk_drewN ?_ _ | refine blk_drew ?_ | refine blk_alloc ?_ _)); refine blk_far ?_ NB247_254.out _; (with_reducible repeat (first | refine blk_drewN ?_ _ | refine blk_drew ?_ | refine blk_alloc ?_ _)); refine blk_far ?_ NB247_254.out _; (with_reducible repeat (first | refine blk_drewN ?_ _ | refine blk_drew ?_ | refine blk_alloc ?_ _)); exact BK247.out⟩
       have n1_ : Aside0 (((w58.setCell ⟨gb254, 0, none⟩ (.int .i64 t252)).setCell ⟨gb254, 1, none⟩ (.int .i64 t253)).heap[gb248]? = some (.cells #[.int .i64 0, .int .i64 0] 53 (0, 0))) := ⟨by (with_reducible repeat (first | refine blk_drewN ?_ _ | refine blk_drew ?_ | refine blk_alloc ?_ _)); refine blk_far ?_ NB248_254.out _; (with_reducible repeat (first | refine blk_drewN ?_ _ | refine blk_drew ?_ | refine blk_alloc ?_ _)); refine blk_far ?_ NB248_254.out _; (with_reducible repeat (first | refine blk_drewN ?_ _ | refine blk_drew ?_ | refine blk_alloc ?_ _)); exact BK248.out⟩
       have n2_ : Aside0 (((w58.setCell ⟨gb254, 0, none⟩ (.int .i64 t252)).setCell ⟨gb254, 1, none⟩ (.int .i64 t253)).heap[gb254]? = some (.cells #[.int .i64 t252, .int .i64 t253] 53 (0, 0))) := ⟨by (with_reducible repeat (first | refine blk_drewN ?_ _ | refine blk_drew ?_ | refine blk_alloc ?_ _)); refine blk_put (cs := #[.int .i64 t252, .int .i64 0]) ?_ 1 _ rfl; (with_reducible repeat (first | refine blk_drewN ?_ _ | refine blk_drew ?_ | refine blk_alloc ?_ _)); refine blk_put (cs := #[.int .i64 0, .int .i64 0]) ?_ 0 _ rfl; (with_reducible repeat (first | refine blk_drewN ?_ _ | refine blk_drew ?_ | refine blk_alloc ?_ _)); exact BK254.out⟩
       have n3_ : Aside0 (Below w.heap.size w ((w58.setCell ⟨gb254, 0, none⟩ (.int .i64 t252)).setCell ⟨gb254, 1, none⟩ (.int .i64 t253))) := ⟨bl⟩
       (try clear BK247)
       (try clear BK248)
       (try clear BK254)
       (try clear HB)
       generalize ((w58.setCell ⟨gb254, 0, none⟩ (.int .i64 t252)).setCell ⟨gb254, 1, none⟩ (.int .i64 t253)) = w61 at n0_ n1_ n2_ n3_ ⊢
       have BK247 := n0_
       have BK248 := n1_
       have BK254 := n2_
       have HB := n3_
       clear n0_ n1_ n2_ n3_
       replace BK247 := Aside0.mk (blk_drew BK247.out)
       replace BK248 := Aside0.mk (blk_drew BK248.out)
       replace BK254 := Aside0.mk (blk_drew BK254.out)
       replace HB := Aside0.mk (below_drew1 HB.out)
       have p255 : 0 ≤ ((ji6) : Int) := da
       have q255 : (ji6) < (l0.length : Int) := da
       obtain ⟨ad255, e255, hx255_0, hx255_1, hx255_2, hx255_3⟩ := at_T73 HR0.out (ji6) p255 q255
       have hw255_3 := hx255_3
       have hw255_2 := hx255_2
       have hw255_1 := hx255_1
       have hw255_0 := hx255_0
       obtain rfl : ad250 = ad255 := (by injection e255)
       replace hx255_0 := (hc HB hx255_0 :)
       replace hx255_1 := (hc HB hx255_1 :)
       replace hx255_2 := (hc HB hx255_2 :)
       replace hx255_3 := (hc HB hx255_3 :)
       replace p255 := eq_true p255
       replace q255 := eq_true q255
       refine start_ (n := 30) (S := fun w' => w'.cell? ⟨gb247, 0, none⟩ = some (.int .i64 a1_0) ∧ w'.cell? ⟨gb247, 1, none⟩ = some (.int .i64 a1_1) ∧ w'.cell? (ad250.add (((ji6)).toNat * 4)) = some (.int .i64 ((rd_T73 l0 (ji6)).f0.f0)) ∧ w'.cell? ⟨(ad250.add (((ji6)).toNat * 4)).block, (ad250.add (((ji6)).toNat * 4)).off + 1, none⟩ = some (.int .i64 ((rd_T73 l0 (ji6)).f0.f1)) ∧ w'.cell? ⟨(ad250.add (((ji6)).toNat * 4)).block, (ad250.add (((ji6)).toNat * 4)).off + 2, none⟩ = some (.int .i64 ((rd_T73 l0 (ji6)).f1.f0)) ∧ w'.cell? ⟨(ad250.add (((ji6)).toNat * 4)).block, (ad250.add (((ji6)).toNat * 4)).off + 3, none⟩ = some (.int .i64 ((rd_T73 l0 (ji6)).f1.f1))) (ds := []) (tb 0 30) (by kernel_rfl) rfl rfl ⟨(blk_cell BK247.out 0).trans rfl, (blk_cell BK247.out 1).trans rfl, (hc HB hw255_0 :), (hc HB hw255_1 :), (hc HB hw255_2 :), (hc HB hw255_3 :)⟩ (fun hHeld => ?_); refine with_tabW spec_orSlope.tab3 spec_orSlope.bits3 (fun HT_ HW_ => ?_)
       generalize w61.drew = w62 at BK247 BK248 BK254 HB hx255_0 hx255_1 hx255_2 hx255_3 hHeld ⊢
       refine pu 0 21 (tb 1 29) ?_
       refine pu 1 22 (tb 2 28) ?_
       refine pu 2 23 (tb 3 27) ?_
       refine pu 3 24 (tb 4 26) ?_
       refine pu 4 25 (tb 5 25) ?_
       refine pu 5 26 (tb 6 24) ?_
       refine pu 6 27 (tb 7 23) ?_
       refine pu 7 28 (tb 8 22) ?_
       refine pu 8 29 (tb 9 21) ?_
       refine pu 9 30 (tb 10 20) ?_
       refine pu 10 31 (tb 11 19) ?_
       refine tk 11 32 (tb 12 18) (hy := by rintro w' ⟨s0, s1, s2, s3, s4, s5⟩; go_simp; with_reducible rfl) (h := ?_)
       refine tk 12 33 (tb 13 17) (hy := by rintro w' ⟨s0, s1, s2, s3, s4, s5⟩; go_simp; with_reducible rfl) (h := ?_)
       refine pu 13 34 (tb 14 16) ?_
       refine pu 14 35 (tb 15 15) ?_
       refine pu 15 36 (tb 16 14) ?_
       refine sk 16 37 (tb 17 13) ?_
       refine sk 17 38 (tb 18 12) ?_
       refine sk 18 39 (tb 19 11) ?_
       refine sk 19 40 (tb 20 10) ?_
       refine sk 20 41 (tb 21 9) ?_
       refine sk 21 42 (tb 22 8) ?_
       refine sk 22 43 (tb 23 7) ?_
       refine sk 23 44 (tb 24 6) ?_
       refine sk 24 45 (tb 25 5) ?_
       refine sk 25 46 (tb 26 4) ?_
       refine sk 26 47 (tb 27 3) ?_
       refine sk 27 48 (tb 28 2) ?_
       refine sk 28 49 (tb 29 1) ?_
       refine pu 29 50 (tb 30 0) ?_
       refine done_ (done_of HT_.out (by kernel_rfl)) ?_
       have hnb63 := NB254_247.out
       have hnc63 := NB247_254.out
       have hnb64 := NB254_248.out
       have hnc64 := NB248_254.out
       obtain ⟨hcz65_0, hcz65_1, hfz65_0, hfz65_1⟩ := b2 BK254
       obtain ⟨hcz66_0, hcz66_1, hfz66_0, hfz66_1⟩ := b2 BK248
       try go_wp2
       refine bodyPost_ret (results_ct rfl _ _ gb248 53 #[.int .i64 t252, .int .i64 t253] (0, 0) _ rfl (by (with_reducible repeat (first | refine blk_drewN ?_ _ | refine blk_drew ?_ | refine blk_alloc ?_ _)); refine blk_put (cs := #[.int .i64 t252, .int .i64 0]) ?_ 1 _ rfl; (with_reducible repeat (first | refine blk_drewN ?_ _ | refine blk_drew ?_ | refine blk_alloc ?_ _)); refine blk_put (cs := #[.int .i64 0, .int .i64 0]) ?_ 0 _ rfl; (with_reducible repeat (first | refine blk_drewN ?_ _ | refine blk_drew ?_ | refine blk_alloc ?_ _)); exact BK248.out) Try.underlying53 rfl (by kernel_rfl)) rfl ?_
       exact ⟨by first | rfl | (simp [errW_none, errW_some] <;> rfl) | (simp only [← hji6]; first | rfl | (simp [errW_none, errW_some] <;> rfl)) | (simp [*, errW_none, errW_some] <;> rfl), bl⟩
     ·rw [if_neg c10] at H
      have c10b0 : decide ((wrap64 (t249 + 2)) < (l0.length : Int)) = false := decide_eq_false c10
      clear c10
      simp only [Option.some.injEq, Prod.mk.injEq] at H
      obtain ⟨rfl, rfl, rfl⟩ := H
      go_enter Try.func81, Try.ntmps81
      try go_wp2_with (first | ((with_reducible refine gate_dst (N := 3) rfl ?_); refine bx 3 #[.int .i64 a1_0, .int .i64 a1_1] 53 ?_; intro gb247 hg w67 hbox hb; have BK247 := Aside0.mk (hbox); have GW247 := Aside0.mk (bz hg); have GE247 := GW247; replace HB := kh hb; clear hb hbox hg) | ((with_reducible refine gate_dst (N := 4) rfl ?_); refine bx 4 #[.int .i64 0, .int .i64 0] 53 ?_; intro gb248 hg w68 hbox hb; have BK248 := Aside0.mk (hbox); have GW248 := Aside0.mk (bz hg); have GE248 := GW248; have NB247_248 := Aside0.mk (bn gb247 hg); have NB248_247 := sy NB247_248; replace BK247 := kb BK247 hb; replace HB := kh hb; clear hb hbox hg; have hnb69 := NB247_248.out; have hnc69 := NB248_247.out; obtain ⟨hcz70_0, hcz70_1, hfz70_0, hfz70_1⟩ := b2 BK247) | ((with_reducible refine gate_callee (f := 95) rfl ?_); refine gl 10 Try.func95 #[.slice A0 l0.length c0, .agg #[.int .i64 a1_0, .int .i64 a1_1]] ?_; (with_reducible refine (spec_imPiece.calls k _ _ l0 a1_0 a1_1 t249 _ ?side1 ?side2 A3.out).mono ?_); (case side1 => repeat (first | exact (Kd.C_below HR0.out HB.out) | (with_reducible refine Kd.C_alloc ?_ _) | (with_reducible refine Kd.C_drewN ?_ _) | (with_reducible refine Kd.C_drew ?_))); (case side2 => exact HC0.out); rintro e w71 ⟨rfl, hb⟩; refine ⟨_, rfl, ?_⟩; replace BK247 := kb BK247 hb; replace BK248 := kb BK248 hb; replace HB := kh hb; (try clear hb); (try clear hb2); (try clear hk); (try clear hi)))
      replace BK247 := Aside0.mk (blk_drew BK247.out)
      replace BK248 := Aside0.mk (blk_drew BK248.out)
      replace HB := Aside0.mk (below_drew1 HB.out)
      have p250 : 0 ≤ (t249 : Int) := da
      have q250 : t249 < (l0.length : Int) := da
      obtain ⟨ad250, e250, hx250_0, hx250_1, hx250_2, hx250_3⟩ := at_T73 HR0.out t249 p250 q250
      have hw250_3 := hx250_3
      have hw250_2 := hx250_2
      have hw250_1 := hx250_1
      have hw250_0 := hx250_0
      cases e250
      replace hx250_0 := (hc HB hx250_0 :)
      replace hx250_1 := (hc HB hx250_1 :)
      replace hx250_2 := (hc HB hx250_2 :)
      replace hx250_3 := (hc HB hx250_3 :)
      replace p250 := eq_true p250
      replace q250 := eq_true q250
      have p251 : 0 ≤ ((ji6) : Int) := da
      have q251 : (ji6) < (l0.length : Int) := da
      obtain ⟨ad251, e251, hx251_0, hx251_1, hx251_2, hx251_3⟩ := at_T73 HR0.out (ji6) p251 q251
      have hw251_3 := hx251_3
      have hw251_2 := hx251_2
      have hw251_1 := hx251_1
      have hw251_0 := hx251_0
      obtain rfl : ad250 = ad251 := (by injection e251)
      replace hx251_0 := (hc HB hx251_0 :)
      replace hx251_1 := (hc HB hx251_1 :)
      replace hx251_2 := (hc HB hx251_2 :)
      replace hx251_3 := (hc HB hx251_3 :)
      replace p251 := eq_true p251
      replace q251 := eq_true q251
      refine start_ (n := 12) (S := fun w' => w'.cell? (ad250.add ((t249).toNat * 4)) = some (.int .i64 ((rd_T73 l0 t249).f0.f0)) ∧ w'.cell? ⟨(ad250.add ((t249).toNat * 4)).block, (ad250.add ((t249).toNat * 4)).off + 1, none⟩ = some (.int .i64 ((rd_T73 l0 t249).f0.f1)) ∧ w'.cell? ⟨(ad250.add ((t249).toNat * 4)).block, (ad250.add ((t249).toNat * 4)).off + 2, none⟩ = some (.int .i64 ((rd_T73 l0 t249).f1.f0)) ∧ w'.cell? ⟨(ad250.add ((t249).toNat * 4)).block, (ad250.add ((t249).toNat * 4)).off + 3, none⟩ = some (.int .i64 ((rd_T73 l0 t249).f1.f1)) ∧ w'.cell? (ad250.add (((ji6)).toNat * 4)) = some (.int .i64 ((rd_T73 l0 (ji6)).f0.f0)) ∧ w'.cell? ⟨(ad250.add (((ji6)).toNat * 4)).block, (ad250.add (((ji6)).toNat * 4)).off + 1, none⟩ = some (.int .i64 ((rd_T73 l0 (ji6)).f0.f1)) ∧ w'.cell? ⟨(ad250.add (((ji6)).toNat * 4)).block, (ad250.add (((ji6)).toNat * 4)).off + 2, none⟩ = some (.int .i64 ((rd_T73 l0 (ji6)).f1.f0)) ∧ w'.cell? ⟨(ad250.add (((ji6)).toNat * 4)).block, (ad250.add (((ji6)).toNat * 4)).off + 3, none⟩ = some (.int .i64 ((rd_T73 l0 (ji6)).f1.f1))) (ds := []) (tb 0 12) (by kernel_rfl) rfl rfl ⟨(hc HB hw250_0 :), (hc HB hw250_1 :), (hc HB hw250_2 :), (hc HB hw250_3 :), (hc HB hw251_0 :), (hc HB hw251_1 :), (hc HB hw251_2 :), (hc HB hw251_3 :)⟩ (fun hHeld => ?_); refine with_tabW spec_orSlope.tab2 spec_orSlope.bits2 (fun HT_ HW_ => ?_)
      generalize w71.drew = w72 at BK247 BK248 HB hx250_0 hx250_1 hx250_2 hx250_3 hx251_0 hx251_1 hx251_2 hx251_3 hHeld ⊢
      refine pu 0 11 (tb 1 11) ?_
      refine pu 1 12 (tb 2 10) ?_
      refine pu 2 13 (tb 3 9) ?_
      refine pu 4 15 #[true, true, true, false, true, false, false, false, false, false, false, false] ?_
      refine pu 5 16 #[true, true, true, false, true, true, false, false, false, false, false, false] ?_
      refine pu 6 17 #[true, true, true, false, true, true, true, false, false, false, false, false] ?_
      refine pu 7 18 #[true, true, true, false, true, true, true, true, false, false, false, false] ?_
      refine tk 3 14 (tb 8 4) (hy := by rintro w' ⟨s0, s1, s2, s3, s4, s5, s6, s7⟩; go_simp; with_reducible rfl) (h := ?_)
      refine tk 8 19 (tb 9 3) (hy := by rintro w' ⟨s0, s1, s2, s3, s4, s5, s6, s7⟩; go_simp; with_reducible rfl) (h := ?_)
      refine join_ (σ := Nat) 1 (tb 11 1) (fun s_ => [(20, .agg #[.int .i64 t252, .int .i64 t253]), (7, .pointer (some ⟨s_, 0, none⟩))]) (fun s_ w' => (w'.cell? (ad250.add ((t249).toNat * 4)) = some (.int .i64 ((rd_T73 l0 t249).f0.f0)) ∧ w'.cell? ⟨(ad250.add ((t249).toNat * 4)).block, (ad250.add ((t249).toNat * 4)).off + 1, none⟩ = some (.int .i64 ((rd_T73 l0 t249).f0.f1)) ∧ w'.cell? ⟨(ad250.add ((t249).toNat * 4)).block, (ad250.add ((t249).toNat * 4)).off + 2, none⟩ = some (.int .i64 ((rd_T73 l0 t249).f1.f0)) ∧ w'.cell? ⟨(ad250.add ((t249).toNat * 4)).block, (ad250.add ((t249).toNat * 4)).off + 3, none⟩ = some (.int .i64 ((rd_T73 l0 t249).f1.f1)) ∧ w'.cell? (ad250.add (((ji6)).toNat * 4)) = some (.int .i64 ((rd_T73 l0 (ji6)).f0.f0)) ∧ w'.cell? ⟨(ad250.add (((ji6)).toNat * 4)).block, (ad250.add (((ji6)).toNat * 4)).off + 1, none⟩ = some (.int .i64 ((rd_T73 l0 (ji6)).f0.f1)) ∧ w'.cell? ⟨(ad250.add (((ji6)).toNat * 4)).block, (ad250.add (((ji6)).toNat * 4)).off + 2, none⟩ = some (.int .i64 ((rd_T73 l0 (ji6)).f1.f0)) ∧ w'.cell? ⟨(ad250.add (((ji6)).toNat * 4)).block, (ad250.add (((ji6)).toNat * 4)).off + 3, none⟩ = some (.int .i64 ((rd_T73 l0 (ji6)).f1.f1))) ∧ (w'.heap[gb247]? = some (.cells #[.int .i64 a1_0, .int .i64 a1_1] 53 (0, 0))) ∧ (w'.heap[gb248]? = some (.cells #[.int .i64 0, .int .i64 0] 53 (0, 0))) ∧ (w'.heap[s_]? = some (.cells #[.int .i64 0, .int .i64 0] 53 (0, 0))) ∧ (w.heap.size ≤ s_) ∧ (w.heap.size ≤ s_) ∧ (gb247 ≠ s_) ∧ (s_ ≠ gb247) ∧ (gb248 ≠ s_) ∧ (s_ ≠ gb248) ∧ (Below w.heap.size w w')) ?_ ?_
      rotate_left
      ·intro hCont
       refine two_ (i := 9) (j := 10) (Ni := some 20) (Nj := some 7) (tb 10 2) #[true, true, true, true, true, true, true, true, true, false, true, false] rfl rfl rfl rfl (two_of HT_.out (by kernel_rfl)) (by decide) (by decide) (fun K hK => ?_) (fun K hK => ?_)
       ·skip
        refine goes_ Try.func96 (by kernel_rfl) rfl #[.agg #[.int .i64 ((rd_T73 l0 t249).f0.f0), .int .i64 ((rd_T73 l0 t249).f0.f1), .int .i64 ((rd_T73 l0 t249).f1.f0), .int .i64 ((rd_T73 l0 t249).f1.f1)], .agg #[.int .i64 ((rd_T73 l0 (ji6)).f0.f0), .int .i64 ((rd_T73 l0 (ji6)).f0.f1), .int .i64 ((rd_T73 l0 (ji6)).f1.f0), .int .i64 ((rd_T73 l0 (ji6)).f1.f1)]] (by rfl) rfl rfl (by (try simp only [List.map_toArray, List.map_cons, List.map_nil]); first | done | (simp only [hji6]; rfl) | rfl | (simp only [List.length_drop, List.length_take]; rfl)) ?_
        with_reducible refine (spec_imSlope.calls k ((rd_T73 l0 t249).f0.f0) ((rd_T73 l0 t249).f0.f1) ((rd_T73 l0 t249).f1.f0) ((rd_T73 l0 t249).f1.f1) ((rd_T73 l0 (ji6)).f0.f0) ((rd_T73 l0 (ji6)).f0.f1) ((rd_T73 l0 (ji6)).f1.f0) ((rd_T73 l0 (ji6)).f1.f1) t252 t253 _ A9.out).mono ?_
        rintro e w73 ⟨rfl, hb⟩
        refine ⟨_, rfl, ?_⟩
        replace BK247 := kb BK247 hb
        replace BK248 := kb BK248 hb
        replace HB := kh hb
        (try clear hb)
        (try clear hb2)
        (try clear hk)
        (try clear hi)
        refine hK.out _ _ ⟨(hc HB hw250_0 :), (hc HB hw250_1 :), (hc HB hw250_2 :), (hc HB hw250_3 :), (hc HB hw251_0 :), (hc HB hw251_1 :), (hc HB hw251_2 :), (hc HB hw251_3 :)⟩ (fun hHeld => ?_)
        clear hK K
        refine nm 20 ?_
        refine on 10 7 (tb 11 1) (fun K hK => ?_)
        refine box_step ?hg (N := 7) ?hd (cs := #[.int .i64 0, .int .i64 0]) (t := 53) ?hr ?_; (case hd => rfl); (case hg => rfl); (case hr => first | (go_simp; done) | (go_simp; rfl))
        intro gb254 hg w74 hbox hb
        have BK254 := Aside0.mk (hbox)
        have GW254 := Aside0.mk (bz hg)
        have GE254 := GW254
        have NB247_254 := Aside0.mk (bn gb247 hg)
        have NB254_247 := sy NB247_254
        have NB248_254 := Aside0.mk (bn gb248 hg)
        have NB254_248 := sy NB248_254
        replace BK247 := kb BK247 hb
        replace BK248 := kb BK248 hb
        replace HB := kh hb
        clear hb hbox hg
        refine hK.out _ _ ⟨(hc HB hw250_0 :), (hc HB hw250_1 :), (hc HB hw250_2 :), (hc HB hw250_3 :), (hc HB hw251_0 :), (hc HB hw251_1 :), (hc HB hw251_2 :), (hc HB hw251_3 :)⟩ (fun hHeld => ?_)
        clear hK K
        refine nm 7 ?_
        exact norm_ (by simp only [putAll, Act.put, List.setIfInBounds_toArray, List.set_cons_zero, List.set_cons_succ]) (hCont (gb254) _ ⟨hHeld, (bo gb247), (bo gb248), (bo gb254), GW254.out, GE254.out, NB247_254.out, NB254_247.out, NB248_254.out, NB254_248.out, bl⟩)
       ·skip
        refine box_step ?hg (N := 7) ?hd (cs := #[.int .i64 0, .int .i64 0]) (t := 53) ?hr ?_; (case hd => rfl); (case hg => rfl); (case hr => first | (go_simp; done) | (go_simp; rfl))
        intro gb254 hg w73 hbox hb
        have BK254 := Aside0.mk (hbox)
        have GW254 := Aside0.mk (bz hg)
        have GE254 := GW254
        have NB247_254 := Aside0.mk (bn gb247 hg)
        have NB254_247 := sy NB247_254
        have NB248_254 := Aside0.mk (bn gb248 hg)
        have NB254_248 := sy NB248_254
        replace BK247 := kb BK247 hb
        replace BK248 := kb BK248 hb
        replace HB := kh hb
        clear hb hbox hg
        refine hK.out _ _ ⟨(hc HB hw250_0 :), (hc HB hw250_1 :), (hc HB hw250_2 :), (hc HB hw250_3 :), (hc HB hw251_0 :), (hc HB hw251_1 :), (hc HB hw251_2 :), (hc HB hw251_3 :)⟩ (fun hHeld => ?_)
        clear hK K
        refine nm 7 ?_
        refine on 9 20 (tb 11 1) (fun K hK => ?_)
        refine goes_ Try.func96 (by kernel_rfl) rfl #[.agg #[.int .i64 ((rd_T73 l0 t249).f0.f0), .int .i64 ((rd_T73 l0 t249).f0.f1), .int .i64 ((rd_T73 l0 t249).f1.f0), .int .i64 ((rd_T73 l0 t249).f1.f1)], .agg #[.int .i64 ((rd_T73 l0 (ji6)).f0.f0), .int .i64 ((rd_T73 l0 (ji6)).f0.f1), .int .i64 ((rd_T73 l0 (ji6)).f1.f0), .int .i64 ((rd_T73 l0 (ji6)).f1.f1)]] (by rfl) rfl rfl (by (try simp only [List.map_toArray, List.map_cons, List.map_nil]); first | done | (simp only [hji6]; rfl) | rfl | (simp only [List.length_drop, List.length_take]; rfl)) ?_
        with_reducible refine (spec_imSlope.calls k ((rd_T73 l0 t249).f0.f0) ((rd_T73 l0 t249).f0.f1) ((rd_T73 l0 t249).f1.f0) ((rd_T73 l0 t249).f1.f1) ((rd_T73 l0 (ji6)).f0.f0) ((rd_T73 l0 (ji6)).f0.f1) ((rd_T73 l0 (ji6)).f1.f0) ((rd_T73 l0 (ji6)).f1.f1) t252 t253 _ A9.out).mono ?_
        rintro e w74 ⟨rfl, hb⟩
        refine ⟨_, rfl, ?_⟩
        replace BK247 := kb BK247 hb
        replace BK248 := kb BK248 hb
        replace BK254 := kb BK254 hb
        replace HB := kh hb
        (try clear hb)
        (try clear hb2)
        (try clear hk)
        (try clear hi)
        refine hK.out _ _ ⟨(hc HB hw250_0 :), (hc HB hw250_1 :), (hc HB hw250_2 :), (hc HB hw250_3 :), (hc HB hw251_0 :), (hc HB hw251_1 :), (hc HB hw251_2 :), (hc HB hw251_3 :)⟩ (fun hHeld => ?_)
        clear hK K
        refine nm 20 ?_
        exact norm_ (by simp only [putAll, Act.put, List.setIfInBounds_toArray, List.set_cons_zero, List.set_cons_succ]) (hCont (gb254) _ ⟨hHeld, (bo gb247), (bo gb248), (bo gb254), GW254.out, GE254.out, NB247_254.out, NB254_247.out, NB248_254.out, NB254_248.out, bl⟩)
      rintro gb254 w75 ⟨hS_, h0_, h1_, h2_, h3_, h4_, h5_, h6_, h7_, h8_, h9_⟩
      have n0_ : Aside0 (w75.heap[gb247]? = some (.cells #[.int .i64 a1_0, .int .i64 a1_1] 53 (0, 0))) := ⟨h0_⟩
      have n1_ : Aside0 (w75.heap[gb248]? = some (.cells #[.int .i64 0, .int .i64 0] 53 (0, 0))) := ⟨h1_⟩
      have n2_ : Aside0 (w75.heap[gb254]? = some (.cells #[.int .i64 0, .int .i64 0] 53 (0, 0))) := ⟨h2_⟩
      have n3_ : Aside0 (w.heap.size ≤ gb254) := ⟨h3_⟩
      have n4_ : Aside0 (w.heap.size ≤ gb254) := ⟨h4_⟩
      have n5_ : Aside0 (gb247 ≠ gb254) := ⟨h5_⟩
      have n6_ : Aside0 (gb254 ≠ gb247) := ⟨h6_⟩
      have n7_ : Aside0 (gb248 ≠ gb254) := ⟨h7_⟩
      have n8_ : Aside0 (gb254 ≠ gb248) := ⟨h8_⟩
      have n9_ : Aside0 (Below w.heap.size w w75) := ⟨h9_⟩
      clear BK247
      clear BK248
      clear HB
      clear h0_ h1_ h2_ h3_ h4_ h5_ h6_ h7_ h8_ h9_
      have BK247 := n0_
      have BK248 := n1_
      have BK254 := n2_
      have GW254 := n3_
      have GE254 := n4_
      have NB247_254 := n5_
      have NB254_247 := n6_
      have NB248_254 := n7_
      have NB254_248 := n8_
      have HB := n9_
      clear n0_ n1_ n2_ n3_ n4_ n5_ n6_ n7_ n8_ n9_
      have hHeld : w75.cell? (ad250.add ((t249).toNat * 4)) = some (.int .i64 ((rd_T73 l0 t249).f0.f0)) ∧ w75.cell? ⟨(ad250.add ((t249).toNat * 4)).block, (ad250.add ((t249).toNat * 4)).off + 1, none⟩ = some (.int .i64 ((rd_T73 l0 t249).f0.f1)) ∧ w75.cell? ⟨(ad250.add ((t249).toNat * 4)).block, (ad250.add ((t249).toNat * 4)).off + 2, none⟩ = some (.int .i64 ((rd_T73 l0 t249).f1.f0)) ∧ w75.cell? ⟨(ad250.add ((t249).toNat * 4)).block, (ad250.add ((t249).toNat * 4)).off + 3, none⟩ = some (.int .i64 ((rd_T73 l0 t249).f1.f1)) ∧ w75.cell? (ad250.add (((ji6)).toNat * 4)) = some (.int .i64 ((rd_T73 l0 (ji6)).f0.f0)) ∧ w75.cell? ⟨(ad250.add (((ji6)).toNat * 4)).block, (ad250.add (((ji6)).toNat * 4)).off + 1, none⟩ = some (.int .i64 ((rd_T73 l0 (ji6)).f0.f1)) ∧ w75.cell? ⟨(ad250.add (((ji6)).toNat * 4)).block, (ad250.add (((ji6)).toNat * 4)).off + 2, none⟩ = some (.int .i64 ((rd_T73 l0 (ji6)).f1.f0)) ∧ w75.cell? ⟨(ad250.add (((ji6)).toNat * 4)).block, (ad250.add (((ji6)).toNat * 4)).off + 3, none⟩ = some (.int .i64 ((rd_T73 l0 (ji6)).f1.f1)) := hS_
      refine norm_ (a' := ?_) ?_ ?_
      rotate_left
      ·simp only [putAll, Act.put, List.setIfInBounds_toArray, List.set_cons_zero, List.set_cons_succ]
       rfl
      refine one_ (i := 11) (N := none) (tb 12 0) rfl rfl (one_of HT_.out (by kernel_rfl)) (by decide) (fun K hK => ?_)
      have hs76 : w75.cell? ⟨gb254, 0, none⟩ = some (.int .i64 0) := (blk_cell BK254.out 0).trans rfl
      have hfs76 := blk_frozen BK254.out 0
      have hns76_0 := NB247_254.out
      have hns76_1 := NB248_254.out
      have hms76_0 := NB254_247.out
      have hms76_1 := NB254_248.out
      have hs77 : w75.cell? ⟨gb254, 1, none⟩ = some (.int .i64 0) := (blk_cell BK254.out 1).trans rfl
      have hfs77 := blk_frozen BK254.out 1
      have hns77_0 := NB247_254.out
      have hns77_1 := NB248_254.out
      have hms77_0 := NB254_247.out
      have hms77_1 := NB254_248.out
      refine skip_ (w1 := ?_) (by rfl) rfl ?_ ?_
      rotate_left
      ·go_simp
       rfl
      refine hK.out _ _ ⟨(by (iterate 2 refine (cell_far (p := ⟨gb254, _, none⟩) (by have h_ := Nat.ne_of_lt (Nat.lt_of_lt_of_le (by have := World.block_lt_of_cell? _ _ hw250_0; first | rwa [add_block] at this | exact this) GW254.out); first | exact h_ | (rw [add_block]; exact h_) | (show (Addr.add _ _).block ≠ _; rw [add_block]; exact h_) | (dsimp only; exact h_)) _).trans ?_); exact hHeld.1), (by (iterate 2 refine (cell_far (p := ⟨gb254, _, none⟩) (by have h_ := Nat.ne_of_lt (Nat.lt_of_lt_of_le (by have := World.block_lt_of_cell? _ _ hw250_1; first | rwa [add_block] at this | exact this) GW254.out); first | exact h_ | (rw [add_block]; exact h_) | (show (Addr.add _ _).block ≠ _; rw [add_block]; exact h_) | (dsimp only; exact h_)) _).trans ?_); exact hHeld.2.1), (by (iterate 2 refine (cell_far (p := ⟨gb254, _, none⟩) (by have h_ := Nat.ne_of_lt (Nat.lt_of_lt_of_le (by have := World.block_lt_of_cell? _ _ hw250_2; first | rwa [add_block] at this | exact this) GW254.out); first | exact h_ | (rw [add_block]; exact h_) | (show (Addr.add _ _).block ≠ _; rw [add_block]; exact h_) | (dsimp only; exact h_)) _).trans ?_); exact hHeld.2.2.1), (by (iterate 2 refine (cell_far (p := ⟨gb254, _, none⟩) (by have h_ := Nat.ne_of_lt (Nat.lt_of_lt_of_le (by have := World.block_lt_of_cell? _ _ hw250_3; first | rwa [add_block] at this | exact this) GW254.out); first | exact h_ | (rw [add_block]; exact h_) | (show (Addr.add _ _).block ≠ _; rw [add_block]; exact h_) | (dsimp only; exact h_)) _).trans ?_); exact hHeld.2.2.2.1), (by (iterate 2 refine (cell_far (p := ⟨gb254, _, none⟩) (by have h_ := Nat.ne_of_lt (Nat.lt_of_lt_of_le (by have := World.block_lt_of_cell? _ _ hw251_0; first | rwa [add_block] at this | exact this) GW254.out); first | exact h_ | (rw [add_block]; exact h_) | (show (Addr.add _ _).block ≠ _; rw [add_block]; exact h_) | (dsimp only; exact h_)) _).trans ?_); exact hHeld.2.2.2.2.1), (by (iterate 2 refine (cell_far (p := ⟨gb254, _, none⟩) (by have h_ := Nat.ne_of_lt (Nat.lt_of_lt_of_le (by have := World.block_lt_of_cell? _ _ hw251_1; first | rwa [add_block] at this | exact this) GW254.out); first | exact h_ | (rw [add_block]; exact h_) | (show (Addr.add _ _).block ≠ _; rw [add_block]; exact h_) | (dsimp only; exact h_)) _).trans ?_); exact hHeld.2.2.2.2.2.1), (by (iterate 2 refine (cell_far (p := ⟨gb254, _, none⟩) (by have h_ := Nat.ne_of_lt (Nat.lt_of_lt_of_le (by have := World.block_lt_of_cell? _ _ hw251_2; first | rwa [add_block] at this | exact this) GW254.out); first | exact h_ | (rw [add_block]; exact h_) | (show (Addr.add _ _).block ≠ _; rw [add_block]; exact h_) | (dsimp only; exact h_)) _).trans ?_); exact hHeld.2.2.2.2.2.2.1), (by (iterate 2 refine (cell_far (p := ⟨gb254, _, none⟩) (by have h_ := Nat.ne_of_lt (Nat.lt_of_lt_of_le (by have := World.block_lt_of_cell? _ _ hw251_3; first | rwa [add_block] at this | exact this) GW254.out); first | exact h_ | (rw [add_block]; exact h_) | (show (Addr.add _ _).block ≠ _; rw [add_block]; exact h_) | (dsimp only; exact h_)) _).trans ?_); exact hHeld.2.2.2.2.2.2.2)⟩ (fun hHeld => ?_)
      clear hK K
      refine done_ (done_of HT_.out (by kernel_rfl)) ?_
      try go_wp2
      have n0_ : Aside0 (((w75.setCell ⟨gb254, 0, none⟩ (.int .i64 t252)).setCell ⟨gb254, 1, none⟩ (.int .i64 t253)).heap[gb247]? = some (.cells #[.int .i64 a1_0, .int .i64 a1_1] 53 (0, 0))) := ⟨by (with_reducible repeat (first | refine blk_drewN ?_ _ | refine blk_drew ?_ | refine blk_alloc ?_ _)); refine blk_far ?_ NB247_254.out _; (with_reducible repeat (first | refine blk_drewN ?_ _ | refine blk_drew ?_ | refine blk_alloc ?_ _)); refine blk_far ?_ NB247_254.out _; (with_reducible repeat (first | refine blk_drewN ?_ _ | refine blk_drew ?_ | refine blk_alloc ?_ _)); exact BK247.out⟩
      have n1_ : Aside0 (((w75.setCell ⟨gb254, 0, none⟩ (.int .i64 t252)).setCell ⟨gb254, 1, none⟩ (.int .i64 t253)).heap[gb248]? = some (.cells #[.int .i64 0, .int .i64 0] 53 (0, 0))) := ⟨by (with_reducible repeat (first | refine blk_drewN ?_ _ | refine blk_drew ?_ | refine blk_alloc ?_ _)); refine blk_far ?_ NB248_254.out _; (with_reducible repeat (first | refine blk_drewN ?_ _ | refine blk_drew ?_ | refine blk_alloc ?_ _)); refine blk_far ?_ NB248_254.out _; (with_reducible repeat (first | refine blk_drewN ?_ _ | refine blk_drew ?_ | refine blk_alloc ?_ _)); exact BK248.out⟩
      have n2_ : Aside0 (((w75.setCell ⟨gb254, 0, none⟩ (.int .i64 t252)).setCell ⟨gb254, 1, none⟩ (.int .i64 t253)).heap[gb254]? = some (.cells #[.int .i64 t252, .int .i64 t253] 53 (0, 0))) := ⟨by (with_reducible repeat (first | refine blk_drewN ?_ _ | refine blk_drew ?_ | refine blk_alloc ?_ _)); refine blk_put (cs := #[.int .i64 t252, .int .i64 0]) ?_ 1 _ rfl; (with_reducible repeat (first | refine blk_drewN ?_ _ | refine blk_drew ?_ | refine blk_alloc ?_ _)); refine blk_put (cs := #[.int .i64 0, .int .i64 0]) ?_ 0 _ rfl; (with_reducible repeat (first | refine blk_drewN ?_ _ | refine blk_drew ?_ | refine blk_alloc ?_ _)); exact BK254.out⟩
      have n3_ : Aside0 (Below w.heap.size w ((w75.setCell ⟨gb254, 0, none⟩ (.int .i64 t252)).setCell ⟨gb254, 1, none⟩ (.int .i64 t253))) := ⟨bl⟩
      (try clear BK247)
      (try clear BK248)
      (try clear BK254)
      (try clear HB)
      generalize ((w75.setCell ⟨gb254, 0, none⟩ (.int .i64 t252)).setCell ⟨gb254, 1, none⟩ (.int .i64 t253)) = w78 at n0_ n1_ n2_ n3_ ⊢
      have BK247 := n0_
      have BK248 := n1_
      have BK254 := n2_
      have HB := n3_
      clear n0_ n1_ n2_ n3_
      replace BK247 := Aside0.mk (blk_drew BK247.out)
      replace BK248 := Aside0.mk (blk_drew BK248.out)
      replace BK254 := Aside0.mk (blk_drew BK254.out)
      replace HB := Aside0.mk (below_drew1 HB.out)
      refine start_ (n := 30) (S := fun w' => True) (ds := []) (tb 0 30) (by kernel_rfl) rfl rfl trivial (fun hHeld => ?_); refine with_tabW spec_orSlope.tab3 spec_orSlope.bits3 (fun HT_ HW_ => ?_)
      generalize w78.drew = w79 at BK247 BK248 BK254 HB hHeld ⊢
      refine pu 0 21 (tb 1 29) ?_
      refine pu 1 22 (tb 2 28) ?_
      refine pu 2 23 (tb 3 27) ?_
      refine pu 3 24 (tb 4 26) ?_
      refine pu 4 25 (tb 5 25) ?_
      refine pu 5 26 (tb 6 24) ?_
      refine sk 6 27 (tb 7 23) ?_
      refine sk 7 28 (tb 8 22) ?_
      refine sk 8 29 (tb 9 21) ?_
      refine sk 9 30 (tb 10 20) ?_
      refine sk 10 31 (tb 11 19) ?_
      refine sk 11 32 (tb 12 18) ?_
      refine sk 12 33 (tb 13 17) ?_
      refine sk 13 34 (tb 14 16) ?_
      refine pu 14 35 (tb 15 15) ?_
      refine pu 15 36 (tb 16 14) ?_
      refine sk 16 37 (tb 17 13) ?_
      refine sk 17 38 (tb 18 12) ?_
      refine sk 18 39 (tb 19 11) ?_
      refine sk 19 40 (tb 20 10) ?_
      refine sk 20 41 (tb 21 9) ?_
      refine sk 21 42 (tb 22 8) ?_
      refine sk 22 43 (tb 23 7) ?_
      refine sk 23 44 (tb 24 6) ?_
      refine sk 24 45 (tb 25 5) ?_
      refine sk 25 46 (tb 26 4) ?_
      refine sk 26 47 (tb 27 3) ?_
      refine sk 27 48 (tb 28 2) ?_
      refine sk 28 49 (tb 29 1) ?_
      refine pu 29 50 (tb 30 0) ?_
      refine done_ (done_of HT_.out (by kernel_rfl)) ?_
      have hnb80 := NB254_247.out
      have hnc80 := NB247_254.out
      have hnb81 := NB254_248.out
      have hnc81 := NB248_254.out
      obtain ⟨hcz82_0, hcz82_1, hfz82_0, hfz82_1⟩ := b2 BK254
      obtain ⟨hcz83_0, hcz83_1, hfz83_0, hfz83_1⟩ := b2 BK248
      try go_wp2
      refine bodyPost_ret (results_ct rfl _ _ gb248 53 #[.int .i64 t252, .int .i64 t253] (0, 0) _ rfl (by (with_reducible repeat (first | refine blk_drewN ?_ _ | refine blk_drew ?_ | refine blk_alloc ?_ _)); refine blk_put (cs := #[.int .i64 t252, .int .i64 0]) ?_ 1 _ rfl; (with_reducible repeat (first | refine blk_drewN ?_ _ | refine blk_drew ?_ | refine blk_alloc ?_ _)); refine blk_put (cs := #[.int .i64 0, .int .i64 0]) ?_ 0 _ rfl; (with_reducible repeat (first | refine blk_drewN ?_ _ | refine blk_drew ?_ | refine blk_alloc ?_ _)); exact BK248.out) Try.underlying53 rfl (by kernel_rfl)) rfl ?_
      exact ⟨by first | rfl | (simp [errW_none, errW_some] <;> rfl) | (simp only [← hji6]; first | rfl | (simp [errW_none, errW_some] <;> rfl)) | (simp [*, errW_none, errW_some] <;> rfl), bl⟩
    ·rw [if_neg c8] at H
     exact absurd H (by simp)
   ·rw [if_neg c7] at H
    exact absurd H (by simp)
  ·rw [if_neg c5] at H
   exact absurd H (by simp)
 ·rw [if_neg c4] at H
  exact absurd H (by simp)

end Go.Proofs.Ytannadjfkaghjaa.PFnExactIsRepelling
