-- Written by this session's program wip/pp (the kit's print tool with additions) 35421559b90ae4d0a3588c463048766b98c2df88dd9212a6774a882060cdf62d
import Derived.Test.YtmpccnagidednaaPFnExactAddressOfx0
import Derived.Test.YtmpccnagidednaaPFnExactAddressOfx1
import Derived.Test.YtmpccnagidednaaPFnExactAddressOfx7
import Derived.Test.YtmpccnagidednaaPFnExactAddressOfx8
import Derived.Test.YtmpccnagidednaaPFnExactAddressOfx9
namespace Go.Proofs.Ytmpccnagidednaa.PFnExactAddressOf
open Go.RowKit Go.Proofs.YtmpccnagidednaaW.PrintWords Go.Proofs.YtmpccnagidednaaW.PrintLast Go.Proofs.YtmpccnagidednaaW.PrintMore
attribute [local go_sem] max2_int min2_int max_two min_two max_three min_three max_four min_four   -- for this text's walks alone
set_option linter.unusedVariables false
set_option linter.unusedSimpArgs false

attribute [local go_sem high] eqA33
/-! ### impl_isMap: function 71 -/
def impl_isMap.j0 : Nat → List (S91) → Bool → Option (Bool)
  | 0, _, _ => none
  | k + 1, x0, x10 => if x10 = true then (some false) else (if 0 < (x0.length : Int) then ((impl_zero.f).bind fun bt278 => (if (((rd_T91 x0 0).f0.f0) == bt278.1 && (((rd_T91 x0 0).f0.f1) == bt278.2)) = true then (if 0 ≤ (wrap64 ((x0.length : Int) - 1)) then (if (wrap64 ((x0.length : Int) - 1)) < (x0.length : Int) then ((impl_oneRat.f).bind fun bt281 => (if (((rd_T91 x0 (wrap64 ((x0.length : Int) - 1))).f0.f0) == bt281.1 && (((rd_T91 x0 (wrap64 ((x0.length : Int) - 1))).f0.f1) == bt281.2)) = true then ((impl_xsOf.f k x0).bind fun t283 => ((impl_isRising.f k t283).bind fun t286 => (some t286))) else (some false))) else (none)) else (none)) else (some false))) else (none))
def impl_isMap.f (k : Nat) (l0 : List (S91)) : Option (Bool) := (impl_within.f (l0.length : Int) 2 12).bind fun t275 => (if t275 = true then ((slices_ContainsFunc__impl_isMap_1.f k l0).bind fun t276 => (impl_isMap.j0 k l0 t276)) else (impl_isMap.j0 k l0 true))
theorem impl_isMap.mono_l : ∀ k, (∀ y0 y1, LeO (impl_isMap.j0 k y0 y1) (impl_isMap.j0 (k + 1) y0 y1))
  | 0 => fun _ _ r h => by simp [impl_isMap.j0] at h
  | k + 1 => by
    have ih0 := impl_isMap.mono_l k
    · intro y0 y1
      unfold impl_isMap.j0
      repeat' first
      | (with_reducible exact ih0 _ _)
      | (with_reducible exact impl_isRising.mono _ _)
      | (with_reducible exact impl_xsOf.mono _ _)
      | (with_reducible exact slices_ContainsFunc__impl_isMap_1.mono _ _)
      | (with_reducible exact LeO.refl _)
      | (with_reducible exact LeO.none _)
      | (with_reducible refine LeO.ite ?_ ?_)
      | (with_reducible refine LeO.bind ?_ (fun _ => ?_))
      | exact ih0 _ _
      | exact impl_isRising.mono _ _
      | exact impl_xsOf.mono _ _
      | exact slices_ContainsFunc__impl_isMap_1.mono _ _
      | exact LeO.none _
      | refine LeO.ite ?_ ?_
      | refine LeO.bind ?_ (fun _ => ?_)
theorem impl_isMap.mono : ∀ a0 k, LeO (impl_isMap.f k a0) (impl_isMap.f (k + 1) a0) := by
  intro a0 k
  have ih0 := impl_isMap.mono_l k
  unfold impl_isMap.f
  repeat' first
      | (with_reducible exact ih0 _ _)
      | (with_reducible exact impl_isRising.mono _ _)
      | (with_reducible exact impl_xsOf.mono _ _)
      | (with_reducible exact slices_ContainsFunc__impl_isMap_1.mono _ _)
      | (with_reducible exact LeO.refl _)
      | (with_reducible exact LeO.none _)
      | (with_reducible refine LeO.ite ?_ ?_)
      | (with_reducible refine LeO.bind ?_ (fun _ => ?_))
      | exact ih0 _ _
      | exact impl_isRising.mono _ _
      | exact impl_xsOf.mono _ _
      | exact slices_ContainsFunc__impl_isMap_1.mono _ _
      | exact LeO.none _
      | refine LeO.ite ?_ ?_
      | refine LeO.bind ?_ (fun _ => ?_)
def impl_isMap.T3 : Bool × List (List Nat × List Nat) := (true, [([], []), ([0], [0]), ([1], [1]), ([2], [2]), ([], []), ([3, 4], [3, 4]), ([5, 4], [5]), ([6], [6]), ([6], [6]), ([8, 6], [6, 8]), ([9, 6], [6, 9]), ([7, 10, 6], [6, 7, 10]), ([11, 6], [6, 11]), ([12, 6], [6, 12]), ([6, 6], [6]), ([13, 14, 6], [6, 13, 14]), ([6, 15], [6, 15]), ([16, 14], [16]), ([17], [17]), ([18, 17, 17], [17, 18]), ([19, 19, 17], [17, 19]), ([17, 20], [17, 20]), ([21, 20, 0, 1, 2, 3, 4, 5, 6, 7, 8, 9, 10, 11, 12, 13, 14, 15, 16, 17, 18, 19, 20, 21], [21])])
def impl_isMap.B3 : List Nat := [0, 1, 3, 7, 0, 31, 63, 127, 127, 383, 895, 2047, 4095, 8191, 127, 32767, 65535, 131071, 262143, 524287, 1048575, 2097151, 4194303]
theorem impl_isMap.tab3 : rtab .any (opsOf Try.f71 3) = impl_isMap.T3 := by kernel_rfl
theorem impl_isMap.bits3 : waitsOk impl_isMap.T3.2 impl_isMap.B3 = true := by kernel_rfl
set_option maxHeartbeats 8000000 in
set_option maxRecDepth 100000 in
theorem impl_isMap.calls (k : Nat) (A0 : Option Addr) (c0 : Nat) (l0 : List (S91)) (r : Bool) (w : World) (hr0 : Kd.C k91 w A0 l0.length l0) (hc0 : l0.length ≤ c0) (h : impl_isMap.f k l0 = some r) :
    Calls Try.prog 71 #[.slice A0 l0.length c0] w fun e w' => e = .returned (.bool r) ∧ Below w.heap.size w w' := by
  have hu33 := Try.underlying33
  have HR0 := Aside0.mk hr0
  have HC0 := Aside0.mk hc0
  clear hr0 hc0
  have HB := Aside0.mk (Below.refl w.heap.size w)
  have H : ((impl_within.f (l0.length : Int) 2 12).bind fun t275 => (if t275 = true then ((slices_ContainsFunc__impl_isMap_1.f k l0).bind fun t276 => (impl_isMap.j0 k l0 t276)) else (impl_isMap.j0 k l0 true))) = some r := h
  clear h
  have HC2 := Aside0.mk H
  clear H
  go_enter Try.func71, Try.ntmps71
  go_upto_region 1 with (fail)
  go_cut [10] (fun v10 wc => ∃ (kq : Nat) (x10_1 : Bool), v10 = .bool x10_1 ∧ Aside0 (impl_isMap.j0 kq l0 x10_1 = some r) ∧ Aside0 (kq ≤ k) ∧ Aside0 (Below w.heap.size w wc))
  case first =>
    have H := HC2.out
    clear HC2
    replace H := Option.bind_eq_some_iff.mp H
    obtain ⟨t275, A30, H⟩ := H
    replace H : (if t275 = true then ((slices_ContainsFunc__impl_isMap_1.f k l0).bind fun t276 => (impl_isMap.j0 k l0 t276)) else (impl_isMap.j0 k l0 true)) = some r := H
    have A3 := Aside0.mk A30
    clear A30
    by_cases c4 : t275 = true
    · subst c4
      have H1 : ((slices_ContainsFunc__impl_isMap_1.f k l0).bind fun t276 => (impl_isMap.j0 k l0 t276)) = some r := by rw [if_pos rfl] at H; exact H
      clear H
      have H := H1
      clear H1
      replace H := Option.bind_eq_some_iff.mp H
      obtain ⟨t276, A50, H⟩ := H
      replace H : (impl_isMap.j0 k l0 t276) = some r := H
      have A5 := Aside0.mk A50
      clear A50
      have H' := Aside0.mk H
      clear H
      go_wp2_with (first | ((with_reducible refine gate_callee (f := 90) rfl ?_); refine goesL_ (some 5) rfl rfl Try.func90 (by kernel_rfl) rfl #[.int .i64 (l0.length : Int), .int .i64 2, .int .i64 12] rfl (by (try simp only [List.map_toArray, List.map_cons, List.map_nil]); first | done | rfl | (simp only [List.length_drop, List.length_take]; rfl)) ?_; (with_reducible refine (impl_within.calls (l0.length : Int) 2 12 true _ A3.out).mono ?_); rintro e w' ⟨rfl, ⟨nd, rfl⟩⟩; refine ⟨_, rfl, ?_⟩) | (go_at_call 133; (with_reducible refine (slices_ContainsFunc__impl_isMap_1.calls k _ _ l0  t276 _ ?side1 ?side2 A5.out).mono ?_); (case side1 => repeat (first | exact (Kd.C_below HR0.out bl) | (with_reducible refine Kd.C_alloc ?_ _) | (with_reducible refine Kd.C_drewN ?_ _) | (with_reducible refine Kd.C_drew ?_))); (case side2 => exact HC0.out); rintro e w6 ⟨rfl, hb⟩; replace HB := Aside0.mk (bs hb); (try clear hb); (try clear hb2); (try clear hk); (try clear hi)))
      go_meet
      case rel => exact ⟨_, (t276), (by first | rfl | (simp; done) | (simp [*]; done)), H', ⟨by first | omega | exact Nat.le_refl _⟩, ⟨bl⟩⟩
    · replace c4 := Bool.eq_false_iff.mpr c4
      subst c4
      have H1 : (impl_isMap.j0 k l0 true) = some r := by rw [if_neg (show ¬ (false = true) by decide)] at H; exact H
      clear H
      have H := H1
      clear H1
      have H' := Aside0.mk H
      clear H
      go_wp2_with (first | ((with_reducible refine gate_callee (f := 90) rfl ?_); refine goesL_ (some 5) rfl rfl Try.func90 (by kernel_rfl) rfl #[.int .i64 (l0.length : Int), .int .i64 2, .int .i64 12] rfl (by (try simp only [List.map_toArray, List.map_cons, List.map_nil]); first | done | rfl | (simp only [List.length_drop, List.length_take]; rfl)) ?_; (with_reducible refine (impl_within.calls (l0.length : Int) 2 12 false _ A3.out).mono ?_); rintro e w' ⟨rfl, ⟨nd, rfl⟩⟩; refine ⟨_, rfl, ?_⟩))
      go_meet
      case rel => exact ⟨_, (true), (by first | rfl | (simp; done) | (simp [*]; done)), H', ⟨by first | omega | exact Nat.le_refl _⟩, ⟨bl⟩⟩
  case rest =>
    clear HC2
    try clear p2
    try clear c4
    obtain ⟨kq, x10_1, rfl, HA, HJ1, HB⟩ := hcut
    cases kq with
    | zero => exact absurd HA.out (by simp [impl_isMap.j0])
    | succ kj1 =>
      have H := HA.out
      clear HA
      simp only [impl_isMap.j0] at H
      by_cases c7 : x10_1 = true
      · subst c7
        have H1 : (some false) = some r := by rw [if_pos rfl] at H; exact H
        clear H
        have H := H1
        clear H1
        obtain rfl := Option.some.inj H
        go_wp2
        go_ret
        exact ⟨by first | rfl | (simp [errW_none, errW_some] <;> rfl) | (simp [*, errW_none, errW_some] <;> rfl), bl⟩
      · replace c7 := Bool.eq_false_iff.mpr c7
        subst c7
        have H1 : (if 0 < (l0.length : Int) then ((impl_zero.f).bind fun bt278 => (if (((rd_T91 l0 0).f0.f0) == bt278.1 && (((rd_T91 l0 0).f0.f1) == bt278.2)) = true then (if 0 ≤ (wrap64 ((l0.length : Int) - 1)) then (if (wrap64 ((l0.length : Int) - 1)) < (l0.length : Int) then ((impl_oneRat.f).bind fun bt281 => (if (((rd_T91 l0 (wrap64 ((l0.length : Int) - 1))).f0.f0) == bt281.1 && (((rd_T91 l0 (wrap64 ((l0.length : Int) - 1))).f0.f1) == bt281.2)) = true then ((impl_xsOf.f kj1 l0).bind fun t283 => ((impl_isRising.f kj1 t283).bind fun t286 => (some t286))) else (some false))) else (none)) else (none)) else (some false))) else (none)) = some r := by rw [if_neg (show ¬ (false = true) by decide)] at H; exact H
        clear H
        have H := H1
        clear H1
        by_cases c8 : 0 < (l0.length : Int)
        · rw [if_pos c8] at H
          have c8b0 : decide (0 < (l0.length : Int)) = true := decide_eq_true c8
          have c8b1 : decide (0 < l0.length) = true := decide_eq_true (by omega)
          clear c8
          replace H := Option.bind_eq_some_iff.mp H
          obtain ⟨⟨t278, t279⟩, A90, H⟩ := H
          replace H : (if (((rd_T91 l0 0).f0.f0) == t278 && (((rd_T91 l0 0).f0.f1) == t279)) = true then (if 0 ≤ (wrap64 ((l0.length : Int) - 1)) then (if (wrap64 ((l0.length : Int) - 1)) < (l0.length : Int) then ((impl_oneRat.f).bind fun bt281 => (if (((rd_T91 l0 (wrap64 ((l0.length : Int) - 1))).f0.f0) == bt281.1 && (((rd_T91 l0 (wrap64 ((l0.length : Int) - 1))).f0.f1) == bt281.2)) = true then ((impl_xsOf.f kj1 l0).bind fun t283 => ((impl_isRising.f kj1 t283).bind fun t286 => (some t286))) else (some false))) else (none)) else (none)) else (some false)) = some r := H
          have A9 := Aside0.mk A90
          clear A90
          by_cases c10 : (((rd_T91 l0 0).f0.f0) == t278 && (((rd_T91 l0 0).f0.f1) == t279)) = true
          · rw [if_pos c10] at H
            have c10b0 : (((rd_T91 l0 0).f0.f0) == t278 && (((rd_T91 l0 0).f0.f1) == t279)) = true := c10
            (try (have c10b1 : decide (((rd_T91 l0 0).f0.f0) = t278 && (((rd_T91 l0 0).f0.f1) == t279)) = true := by simpa using c10))
            (try (have c10b2 : (((rd_T91 l0 0).f0.f0) == t278 && (((rd_T91 l0 0).f0.f1) == t279)) = true := by simpa using c10))
            clear c10
            obtain ⟨ji11, hji11⟩ : ∃ j_ : Int, (wrap64 ((l0.length : Int) - 1)) = j_ := ⟨_, rfl⟩
            replace H : (if 0 ≤ (ji11) then (if (ji11) < (l0.length : Int) then ((impl_oneRat.f).bind fun bt281 => (if (((rd_T91 l0 (ji11)).f0.f0) == bt281.1 && (((rd_T91 l0 (ji11)).f0.f1) == bt281.2)) = true then ((impl_xsOf.f kj1 l0).bind fun t283 => ((impl_isRising.f kj1 t283).bind fun t286 => (some t286))) else (some false))) else (none)) else (none)) = some r := by first | (rw [hji11] at H; exact H) | (simp only [hji11] at H ⊢; exact H)
            (try rw [hji11] at A9)
            have hji11w : (IntKind.i64.wrap ((l0.length : Int) - 1)) = ji11 := (i64_w _).trans hji11
            by_cases c12 : 0 ≤ (ji11)
            · rw [if_pos c12] at H
              have c12b0 : decide (0 ≤ (ji11)) = true := decide_eq_true c12
              clear c12
              by_cases c13 : (ji11) < (l0.length : Int)
              · rw [if_pos c13] at H
                have c13b0 : decide ((ji11) < (l0.length : Int)) = true := decide_eq_true c13
                clear c13
                replace H := Option.bind_eq_some_iff.mp H
                obtain ⟨⟨t281, t282⟩, A140, H⟩ := H
                replace H : (if (((rd_T91 l0 (ji11)).f0.f0) == t281 && (((rd_T91 l0 (ji11)).f0.f1) == t282)) = true then ((impl_xsOf.f kj1 l0).bind fun t283 => ((impl_isRising.f kj1 t283).bind fun t286 => (some t286))) else (some false)) = some r := H
                have A14 := Aside0.mk A140
                clear A140
                by_cases c15 : (((rd_T91 l0 (ji11)).f0.f0) == t281 && (((rd_T91 l0 (ji11)).f0.f1) == t282)) = true
                · rw [if_pos c15] at H
                  have c15b0 : (((rd_T91 l0 (ji11)).f0.f0) == t281 && (((rd_T91 l0 (ji11)).f0.f1) == t282)) = true := c15
                  (try (have c15b1 : decide (((rd_T91 l0 (ji11)).f0.f0) = t281 && (((rd_T91 l0 (ji11)).f0.f1) == t282)) = true := by simpa using c15))
                  (try (have c15b2 : (((rd_T91 l0 (ji11)).f0.f0) == t281 && (((rd_T91 l0 (ji11)).f0.f1) == t282)) = true := by simpa using c15))
                  clear c15
                  replace H := Option.bind_eq_some_iff.mp H
                  obtain ⟨t283, A160, H⟩ := H
                  replace H : ((impl_isRising.f kj1 t283).bind fun t286 => (some t286)) = some r := H
                  have A16 := Aside0.mk A160
                  clear A160
                  replace H := Option.bind_eq_some_iff.mp H
                  obtain ⟨t286, A170, H⟩ := H
                  replace H : (some t286) = some r := H
                  have A17 := Aside0.mk A170
                  clear A170
                  obtain rfl := Option.some.inj H
                  try go_wp2
                  replace HB := Aside0.mk (below_drew1 HB.out)
                  have p277 : 0 ≤ (0 : Int) := (by omega)
                  have q277 : 0 < (l0.length : Int) := of_decide_eq_true (by first | (with_reducible assumption) | assumption)
                  obtain ⟨ad277, e277, hx277_0, hx277_1, hx277_2, hx277_3⟩ := at_T91 HR0.out 0 p277 q277
                  have hw277_3 := hx277_3
                  (try rw [show ((0 : Int)).toNat = 0 from rfl] at hw277_3)
                  (try rw [show 0 * 4 = 0 from rfl] at hw277_3)
                  (try rw [Addr.add_zero'] at hw277_3)
                  have hw277_2 := hx277_2
                  (try rw [show ((0 : Int)).toNat = 0 from rfl] at hw277_2)
                  (try rw [show 0 * 4 = 0 from rfl] at hw277_2)
                  (try rw [Addr.add_zero'] at hw277_2)
                  have hw277_1 := hx277_1
                  (try rw [show ((0 : Int)).toNat = 0 from rfl] at hw277_1)
                  (try rw [show 0 * 4 = 0 from rfl] at hw277_1)
                  (try rw [Addr.add_zero'] at hw277_1)
                  have hw277_0 := hx277_0
                  (try rw [show ((0 : Int)).toNat = 0 from rfl] at hw277_0)
                  (try rw [show 0 * 4 = 0 from rfl] at hw277_0)
                  (try rw [Addr.add_zero'] at hw277_0)
                  cases e277
                  have qi277 : (0 < l0.length) = True := eq_true (by omega)
                  (try rw [show ((0 : Int)).toNat = 0 from rfl] at hx277_0)
                  (try rw [show 0 * 4 = 0 from rfl] at hx277_0)
                  (try rw [Addr.add_zero'] at hx277_0)
                  (try rw [show ((0 : Int)).toNat = 0 from rfl] at hx277_1)
                  (try rw [show 0 * 4 = 0 from rfl] at hx277_1)
                  (try rw [Addr.add_zero'] at hx277_1)
                  (try rw [show ((0 : Int)).toNat = 0 from rfl] at hx277_2)
                  (try rw [show 0 * 4 = 0 from rfl] at hx277_2)
                  (try rw [Addr.add_zero'] at hx277_2)
                  (try rw [show ((0 : Int)).toNat = 0 from rfl] at hx277_3)
                  (try rw [show 0 * 4 = 0 from rfl] at hx277_3)
                  (try rw [Addr.add_zero'] at hx277_3)
                  replace hx277_0 := (HB.out.cell (World.block_lt_of_cell? w _ hx277_0)).trans hx277_0
                  replace hx277_1 := (HB.out.cell (World.block_lt_of_cell? w _ hx277_1)).trans hx277_1
                  replace hx277_2 := (HB.out.cell (World.block_lt_of_cell? w _ hx277_2)).trans hx277_2
                  replace hx277_3 := (HB.out.cell (World.block_lt_of_cell? w _ hx277_3)).trans hx277_3
                  replace p277 := eq_true p277
                  replace q277 := eq_true q277
                  have p280 : 0 ≤ ((ji11) : Int) := of_decide_eq_true (by first | (with_reducible assumption) | assumption)
                  have q280 : (ji11) < (l0.length : Int) := of_decide_eq_true (by first | (with_reducible assumption) | assumption)
                  obtain ⟨ad280, e280, hx280_0, hx280_1, hx280_2, hx280_3⟩ := at_T91 HR0.out (ji11) p280 q280
                  have hw280_3 := hx280_3
                  have hw280_2 := hx280_2
                  have hw280_1 := hx280_1
                  have hw280_0 := hx280_0
                  obtain rfl : ad277 = ad280 := (by injection e280)
                  replace hx280_0 := (HB.out.cell (World.block_lt_of_cell? w _ hx280_0)).trans hx280_0
                  replace hx280_1 := (HB.out.cell (World.block_lt_of_cell? w _ hx280_1)).trans hx280_1
                  replace hx280_2 := (HB.out.cell (World.block_lt_of_cell? w _ hx280_2)).trans hx280_2
                  replace hx280_3 := (HB.out.cell (World.block_lt_of_cell? w _ hx280_3)).trans hx280_3
                  replace p280 := eq_true p280
                  replace q280 := eq_true q280
                  refine start_ (n := 23) (S := fun w' => w'.cell? ad277 = some (.int .i64 ((rd_T91 l0 0).f0.f0)) ∧ w'.cell? ⟨ad277.block, ad277.off + 1, none⟩ = some (.int .i64 ((rd_T91 l0 0).f0.f1)) ∧ w'.cell? ⟨ad277.block, ad277.off + 2, none⟩ = some (.int .i64 ((rd_T91 l0 0).f1.f0)) ∧ w'.cell? ⟨ad277.block, ad277.off + 3, none⟩ = some (.int .i64 ((rd_T91 l0 0).f1.f1)) ∧ w'.cell? (ad277.add (((ji11)).toNat * 4)) = some (.int .i64 ((rd_T91 l0 (ji11)).f0.f0)) ∧ w'.cell? ⟨(ad277.add (((ji11)).toNat * 4)).block, (ad277.add (((ji11)).toNat * 4)).off + 1, none⟩ = some (.int .i64 ((rd_T91 l0 (ji11)).f0.f1)) ∧ w'.cell? ⟨(ad277.add (((ji11)).toNat * 4)).block, (ad277.add (((ji11)).toNat * 4)).off + 2, none⟩ = some (.int .i64 ((rd_T91 l0 (ji11)).f1.f0)) ∧ w'.cell? ⟨(ad277.add (((ji11)).toNat * 4)).block, (ad277.add (((ji11)).toNat * 4)).off + 3, none⟩ = some (.int .i64 ((rd_T91 l0 (ji11)).f1.f1))) (ds := []) #[false, false, false, false, false, false, false, false, false, false, false, false, false, false, false, false, false, false, false, false, false, false, false] (by kernel_rfl) rfl rfl ⟨((HB.out.cell (World.block_lt_of_cell? w _ hw277_0)).trans hw277_0), ((HB.out.cell (World.block_lt_of_cell? w _ hw277_1)).trans hw277_1), ((HB.out.cell (World.block_lt_of_cell? w _ hw277_2)).trans hw277_2), ((HB.out.cell (World.block_lt_of_cell? w _ hw277_3)).trans hw277_3), ((HB.out.cell (World.block_lt_of_cell? w _ hw280_0)).trans hw280_0), ((HB.out.cell (World.block_lt_of_cell? w _ hw280_1)).trans hw280_1), ((HB.out.cell (World.block_lt_of_cell? w _ hw280_2)).trans hw280_2), ((HB.out.cell (World.block_lt_of_cell? w _ hw280_3)).trans hw280_3)⟩ (fun hHeld => ?_); refine with_tabW impl_isMap.tab3 impl_isMap.bits3 (fun HT_ HW_ => ?_)
                  generalize wc.drew = w18 at HB hx277_0 hx277_1 hx277_2 hx277_3 hx280_0 hx280_1 hx280_2 hx280_3 hHeld ⊢
                  refine pu 0 11 #[true, false, false, false, false, false, false, false, false, false, false, false, false, false, false, false, false, false, false, false, false, false, false] ?_
                  refine pu 1 12 #[true, true, false, false, false, false, false, false, false, false, false, false, false, false, false, false, false, false, false, false, false, false, false] ?_
                  refine pu 2 13 #[true, true, true, false, false, false, false, false, false, false, false, false, false, false, false, false, false, false, false, false, false, false, false] ?_
                  refine take_ (i := 3) (N := some 14) (v := ?_) (a' := ?_) #[true, true, true, true, false, false, false, false, false, false, false, false, false, false, false, false, false, false, false, false, false, false, false] rfl rfl (take_ofW HT_.out HW_.out (by kernel_rfl)) (fun _ _ _ h => h) (Or.inl ⟨by rfl, ?_⟩) hHeld ?_ ?_
                  rotate_left
                  · rintro w' ⟨s0, s1, s2, s3, s4, s5, s6, s7⟩
                    go_simp
                    with_reducible rfl
                  rotate_left
                  · simp only [Act.put, List.setIfInBounds_toArray, List.set_cons_zero, List.set_cons_succ, i64_w, i32_w]
                    rfl
                  refine one_ (i := 4) (N := some 15) #[true, true, true, true, true, false, false, false, false, false, false, false, false, false, false, false, false, false, false, false, false, false, false] rfl rfl (one_of HT_.out (by kernel_rfl)) (by decide) (fun K hK => ?_)
                  refine goes_ Try.func131 (by kernel_rfl) rfl #[] (by rfl) rfl rfl (by (try simp only [List.map_toArray, List.map_cons, List.map_nil]); first | done | rfl | (simp only [List.length_drop, List.length_take]; rfl)) ?_
                  with_reducible refine (impl_zero.calls  t278 t279 _ A9.out).mono ?_
                  rintro e w19 ⟨rfl, hb⟩
                  refine ⟨_, rfl, ?_⟩
                  replace HB := Aside0.mk (bs hb)
                  (try clear hb)
                  (try clear hb2)
                  (try clear hk)
                  (try clear hi)
                  refine hK.out _ _ ⟨((HB.out.cell (World.block_lt_of_cell? w _ hw277_0)).trans hw277_0), ((HB.out.cell (World.block_lt_of_cell? w _ hw277_1)).trans hw277_1), ((HB.out.cell (World.block_lt_of_cell? w _ hw277_2)).trans hw277_2), ((HB.out.cell (World.block_lt_of_cell? w _ hw277_3)).trans hw277_3), ((HB.out.cell (World.block_lt_of_cell? w _ hw280_0)).trans hw280_0), ((HB.out.cell (World.block_lt_of_cell? w _ hw280_1)).trans hw280_1), ((HB.out.cell (World.block_lt_of_cell? w _ hw280_2)).trans hw280_2), ((HB.out.cell (World.block_lt_of_cell? w _ hw280_3)).trans hw280_3)⟩ (fun hHeld => ?_)
                  clear hK K
                  refine norm_ (a' := ?_) ?_ ?_
                  rotate_left
                  · show Act.put _ (some 15) _ = _
                    simp only [Act.put, List.setIfInBounds_toArray, List.set_cons_zero, List.set_cons_succ, i64_w, i32_w]
                    rfl
                  refine pu 5 16 #[true, true, true, true, true, true, false, false, false, false, false, false, false, false, false, false, false, false, false, false, false, false, false] ?_
                  refine pu 6 17 #[true, true, true, true, true, true, true, false, false, false, false, false, false, false, false, false, false, false, false, false, false, false, false] ?_
                  refine pu 7 18 #[true, true, true, true, true, true, true, true, false, false, false, false, false, false, false, false, false, false, false, false, false, false, false] ?_
                  refine pu 8 19 #[true, true, true, true, true, true, true, true, true, false, false, false, false, false, false, false, false, false, false, false, false, false, false] ?_
                  refine pu 9 20 #[true, true, true, true, true, true, true, true, true, true, false, false, false, false, false, false, false, false, false, false, false, false, false] ?_
                  refine pu 10 21 #[true, true, true, true, true, true, true, true, true, true, true, false, false, false, false, false, false, false, false, false, false, false, false] ?_
                  refine pu 11 22 #[true, true, true, true, true, true, true, true, true, true, true, true, false, false, false, false, false, false, false, false, false, false, false] ?_
                  refine pu 12 23 #[true, true, true, true, true, true, true, true, true, true, true, true, true, false, false, false, false, false, false, false, false, false, false] ?_
                  refine take_ (i := 13) (N := some 24) (v := ?_) (a' := ?_) #[true, true, true, true, true, true, true, true, true, true, true, true, true, true, false, false, false, false, false, false, false, false, false] rfl rfl (take_ofW HT_.out HW_.out (by kernel_rfl)) (fun _ _ _ h => h) (Or.inl ⟨by rfl, ?_⟩) hHeld ?_ ?_
                  rotate_left
                  · rintro w' ⟨s0, s1, s2, s3, s4, s5, s6, s7⟩
                    go_simp
                    with_reducible rfl
                  rotate_left
                  · simp only [Act.put, List.setIfInBounds_toArray, List.set_cons_zero, List.set_cons_succ, i64_w, i32_w]
                    rfl
                  refine one_ (i := 14) (N := some 25) #[true, true, true, true, true, true, true, true, true, true, true, true, true, true, true, false, false, false, false, false, false, false, false] rfl rfl (one_of HT_.out (by kernel_rfl)) (by decide) (fun K hK => ?_)
                  refine goes_ Try.func132 (by kernel_rfl) rfl #[] (by rfl) rfl rfl (by (try simp only [List.map_toArray, List.map_cons, List.map_nil]); first | done | rfl | (simp only [List.length_drop, List.length_take]; rfl)) ?_
                  with_reducible refine (impl_oneRat.calls  t281 t282 _ A14.out).mono ?_
                  rintro e w20 ⟨rfl, hb⟩
                  refine ⟨_, rfl, ?_⟩
                  replace HB := Aside0.mk (bs hb)
                  (try clear hb)
                  (try clear hb2)
                  (try clear hk)
                  (try clear hi)
                  refine hK.out _ _ ⟨((HB.out.cell (World.block_lt_of_cell? w _ hw277_0)).trans hw277_0), ((HB.out.cell (World.block_lt_of_cell? w _ hw277_1)).trans hw277_1), ((HB.out.cell (World.block_lt_of_cell? w _ hw277_2)).trans hw277_2), ((HB.out.cell (World.block_lt_of_cell? w _ hw277_3)).trans hw277_3), ((HB.out.cell (World.block_lt_of_cell? w _ hw280_0)).trans hw280_0), ((HB.out.cell (World.block_lt_of_cell? w _ hw280_1)).trans hw280_1), ((HB.out.cell (World.block_lt_of_cell? w _ hw280_2)).trans hw280_2), ((HB.out.cell (World.block_lt_of_cell? w _ hw280_3)).trans hw280_3)⟩ (fun hHeld => ?_)
                  clear hK K
                  refine norm_ (a' := ?_) ?_ ?_
                  rotate_left
                  · show Act.put _ (some 25) _ = _
                    simp only [Act.put, List.setIfInBounds_toArray, List.set_cons_zero, List.set_cons_succ, i64_w, i32_w]
                    rfl
                  refine pu 15 26 #[true, true, true, true, true, true, true, true, true, true, true, true, true, true, true, true, false, false, false, false, false, false, false] ?_
                  refine pu 16 27 #[true, true, true, true, true, true, true, true, true, true, true, true, true, true, true, true, true, false, false, false, false, false, false] ?_
                  refine pu 17 28 #[true, true, true, true, true, true, true, true, true, true, true, true, true, true, true, true, true, true, false, false, false, false, false] ?_
                  refine pu 18 29 #[true, true, true, true, true, true, true, true, true, true, true, true, true, true, true, true, true, true, true, false, false, false, false] ?_
                  refine one_ (i := 19) (N := some 30) #[true, true, true, true, true, true, true, true, true, true, true, true, true, true, true, true, true, true, true, true, false, false, false] rfl rfl (one_of HT_.out (by kernel_rfl)) (by decide) (fun K hK => ?_)
                  refine goes_ Try.func136 (by kernel_rfl) rfl #[.slice (some ad277) l0.length c0] (by rfl) rfl rfl (by (try simp only [List.map_toArray, List.map_cons, List.map_nil]); first | done | rfl | (simp only [List.length_drop, List.length_take]; rfl)) ?_
                  with_reducible refine (impl_xsOf.calls kj1 _ _ l0 t283 _ ?side1 ?side2 A16.out).mono ?_
                  (case side1 => repeat (first | exact (Kd.C_below HR0.out HB.out) | (with_reducible refine Kd.C_alloc ?_ _) | (with_reducible refine Kd.C_drewN ?_ _) | (with_reducible refine Kd.C_drew ?_)))
                  (case side2 => exact HC0.out)
                  rintro e w21 ⟨v284, rfl, ho0, hb⟩
                  refine ⟨_, rfl, ?_⟩
                  have HO285 := Aside0.mk (Kd.R_lower ho0 (below_size bl))
                  replace HB := Aside0.mk (bs hb)
                  (try clear hb)
                  (try clear hb2)
                  (try clear hk)
                  (try clear hi)
                  (try clear ho0)
                  obtain ⟨Ao22, co22, eo22⟩ := Kd.R_slice HO285.out
                  (first | subst eo22 | (injection eo22 with f1_ f2_ f3_; have f4_ := f1_.symm; have f5_ := f3_.symm; clear f1_ f2_ f3_; subst f4_; subst f5_))
                  refine hK.out _ _ ⟨((HB.out.cell (World.block_lt_of_cell? w _ hw277_0)).trans hw277_0), ((HB.out.cell (World.block_lt_of_cell? w _ hw277_1)).trans hw277_1), ((HB.out.cell (World.block_lt_of_cell? w _ hw277_2)).trans hw277_2), ((HB.out.cell (World.block_lt_of_cell? w _ hw277_3)).trans hw277_3), ((HB.out.cell (World.block_lt_of_cell? w _ hw280_0)).trans hw280_0), ((HB.out.cell (World.block_lt_of_cell? w _ hw280_1)).trans hw280_1), ((HB.out.cell (World.block_lt_of_cell? w _ hw280_2)).trans hw280_2), ((HB.out.cell (World.block_lt_of_cell? w _ hw280_3)).trans hw280_3)⟩ (fun hHeld => ?_)
                  clear hK K
                  refine norm_ (a' := ?_) ?_ ?_
                  rotate_left
                  · show Act.put _ (some 30) _ = _
                    simp only [Act.put, List.setIfInBounds_toArray, List.set_cons_zero, List.set_cons_succ, i64_w, i32_w]
                    rfl
                  refine one_ (i := 20) (N := some 31) #[true, true, true, true, true, true, true, true, true, true, true, true, true, true, true, true, true, true, true, true, true, false, false] rfl rfl (one_of HT_.out (by kernel_rfl)) (by decide) (fun K hK => ?_)
                  refine goes_ Try.func92 (by kernel_rfl) rfl #[.slice Ao22 t283.length co22] (by rfl) rfl rfl (by (try simp only [List.map_toArray, List.map_cons, List.map_nil]); first | done | rfl | (simp only [List.length_drop, List.length_take]; rfl)) ?_
                  with_reducible refine (impl_isRising.calls kj1 _ _ t283 t286 _ ?side1 ?side2 A17.out).mono ?_
                  (case side1 => repeat (first | exact (Kd.R_reads' HO285.out).2.2 | (with_reducible refine Kd.C_alloc ?_ _) | (with_reducible refine Kd.C_drewN ?_ _) | (with_reducible refine Kd.C_drew ?_)))
                  (case side2 => exact (Kd.R_reads' HO285.out).2.1)
                  rintro e w23 ⟨rfl, hb⟩
                  refine ⟨_, rfl, ?_⟩
                  replace HO285 := Aside0.mk (Kd.R_below (by (with_reducible repeat (first | apply Kd.R_alloc | apply Kd.R_drewN | apply Kd.R_drew)); exact HO285.out) hb)
                  replace HB := Aside0.mk (bs hb)
                  (try clear hb)
                  (try clear hb2)
                  (try clear hk)
                  (try clear hi)
                  refine hK.out _ _ ⟨((HB.out.cell (World.block_lt_of_cell? w _ hw277_0)).trans hw277_0), ((HB.out.cell (World.block_lt_of_cell? w _ hw277_1)).trans hw277_1), ((HB.out.cell (World.block_lt_of_cell? w _ hw277_2)).trans hw277_2), ((HB.out.cell (World.block_lt_of_cell? w _ hw277_3)).trans hw277_3), ((HB.out.cell (World.block_lt_of_cell? w _ hw280_0)).trans hw280_0), ((HB.out.cell (World.block_lt_of_cell? w _ hw280_1)).trans hw280_1), ((HB.out.cell (World.block_lt_of_cell? w _ hw280_2)).trans hw280_2), ((HB.out.cell (World.block_lt_of_cell? w _ hw280_3)).trans hw280_3)⟩ (fun hHeld => ?_)
                  clear hK K
                  refine norm_ (a' := ?_) ?_ ?_
                  rotate_left
                  · show Act.put _ (some 31) _ = _
                    simp only [Act.put, List.setIfInBounds_toArray, List.set_cons_zero, List.set_cons_succ, i64_w, i32_w]
                    rfl
                  refine pu 21 32 #[true, true, true, true, true, true, true, true, true, true, true, true, true, true, true, true, true, true, true, true, true, true, false] ?_
                  refine pu 22 2 #[true, true, true, true, true, true, true, true, true, true, true, true, true, true, true, true, true, true, true, true, true, true, true] ?_
                  refine done_ (done_of HT_.out (by kernel_rfl)) ?_
                  try go_wp2
                  go_ret
                  exact ⟨by first | rfl | (simp [errW_none, errW_some] <;> rfl) | (simp only [← hji11]; first | rfl | (simp [errW_none, errW_some] <;> rfl)) | (simp [*, errW_none, errW_some] <;> rfl), bl⟩
                · rw [if_neg c15] at H
                  have c15b0 : (((rd_T91 l0 (ji11)).f0.f0) == t281 && (((rd_T91 l0 (ji11)).f0.f1) == t282)) = false := by simpa using c15
                  (try (have c15b1 : decide (((rd_T91 l0 (ji11)).f0.f0) = t281 && (((rd_T91 l0 (ji11)).f0.f1) == t282)) = false := by simpa using c15))
                  (try (have c15b2 : (((rd_T91 l0 (ji11)).f0.f0) == t281 && (((rd_T91 l0 (ji11)).f0.f1) == t282)) = false := by simpa using c15))
                  (try (have c15b3 : ¬ (((rd_T91 l0 (ji11)).f0.f0) = t281 && (((rd_T91 l0 (ji11)).f0.f1) == t282)) := by simpa using c15))
                  clear c15
                  obtain rfl := Option.some.inj H
                  try go_wp2
                  replace HB := Aside0.mk (below_drew1 HB.out)
                  have p277 : 0 ≤ (0 : Int) := (by omega)
                  have q277 : 0 < (l0.length : Int) := of_decide_eq_true (by first | (with_reducible assumption) | assumption)
                  obtain ⟨ad277, e277, hx277_0, hx277_1, hx277_2, hx277_3⟩ := at_T91 HR0.out 0 p277 q277
                  have hw277_3 := hx277_3
                  (try rw [show ((0 : Int)).toNat = 0 from rfl] at hw277_3)
                  (try rw [show 0 * 4 = 0 from rfl] at hw277_3)
                  (try rw [Addr.add_zero'] at hw277_3)
                  have hw277_2 := hx277_2
                  (try rw [show ((0 : Int)).toNat = 0 from rfl] at hw277_2)
                  (try rw [show 0 * 4 = 0 from rfl] at hw277_2)
                  (try rw [Addr.add_zero'] at hw277_2)
                  have hw277_1 := hx277_1
                  (try rw [show ((0 : Int)).toNat = 0 from rfl] at hw277_1)
                  (try rw [show 0 * 4 = 0 from rfl] at hw277_1)
                  (try rw [Addr.add_zero'] at hw277_1)
                  have hw277_0 := hx277_0
                  (try rw [show ((0 : Int)).toNat = 0 from rfl] at hw277_0)
                  (try rw [show 0 * 4 = 0 from rfl] at hw277_0)
                  (try rw [Addr.add_zero'] at hw277_0)
                  cases e277
                  have qi277 : (0 < l0.length) = True := eq_true (by omega)
                  (try rw [show ((0 : Int)).toNat = 0 from rfl] at hx277_0)
                  (try rw [show 0 * 4 = 0 from rfl] at hx277_0)
                  (try rw [Addr.add_zero'] at hx277_0)
                  (try rw [show ((0 : Int)).toNat = 0 from rfl] at hx277_1)
                  (try rw [show 0 * 4 = 0 from rfl] at hx277_1)
                  (try rw [Addr.add_zero'] at hx277_1)
                  (try rw [show ((0 : Int)).toNat = 0 from rfl] at hx277_2)
                  (try rw [show 0 * 4 = 0 from rfl] at hx277_2)
                  (try rw [Addr.add_zero'] at hx277_2)
                  (try rw [show ((0 : Int)).toNat = 0 from rfl] at hx277_3)
                  (try rw [show 0 * 4 = 0 from rfl] at hx277_3)
                  (try rw [Addr.add_zero'] at hx277_3)
                  replace hx277_0 := (HB.out.cell (World.block_lt_of_cell? w _ hx277_0)).trans hx277_0
                  replace hx277_1 := (HB.out.cell (World.block_lt_of_cell? w _ hx277_1)).trans hx277_1
                  replace hx277_2 := (HB.out.cell (World.block_lt_of_cell? w _ hx277_2)).trans hx277_2
                  replace hx277_3 := (HB.out.cell (World.block_lt_of_cell? w _ hx277_3)).trans hx277_3
                  replace p277 := eq_true p277
                  replace q277 := eq_true q277
                  have p280 : 0 ≤ ((ji11) : Int) := of_decide_eq_true (by first | (with_reducible assumption) | assumption)
                  have q280 : (ji11) < (l0.length : Int) := of_decide_eq_true (by first | (with_reducible assumption) | assumption)
                  obtain ⟨ad280, e280, hx280_0, hx280_1, hx280_2, hx280_3⟩ := at_T91 HR0.out (ji11) p280 q280
                  have hw280_3 := hx280_3
                  have hw280_2 := hx280_2
                  have hw280_1 := hx280_1
                  have hw280_0 := hx280_0
                  obtain rfl : ad277 = ad280 := (by injection e280)
                  replace hx280_0 := (HB.out.cell (World.block_lt_of_cell? w _ hx280_0)).trans hx280_0
                  replace hx280_1 := (HB.out.cell (World.block_lt_of_cell? w _ hx280_1)).trans hx280_1
                  replace hx280_2 := (HB.out.cell (World.block_lt_of_cell? w _ hx280_2)).trans hx280_2
                  replace hx280_3 := (HB.out.cell (World.block_lt_of_cell? w _ hx280_3)).trans hx280_3
                  replace p280 := eq_true p280
                  replace q280 := eq_true q280
                  refine start_ (n := 23) (S := fun w' => w'.cell? ad277 = some (.int .i64 ((rd_T91 l0 0).f0.f0)) ∧ w'.cell? ⟨ad277.block, ad277.off + 1, none⟩ = some (.int .i64 ((rd_T91 l0 0).f0.f1)) ∧ w'.cell? ⟨ad277.block, ad277.off + 2, none⟩ = some (.int .i64 ((rd_T91 l0 0).f1.f0)) ∧ w'.cell? ⟨ad277.block, ad277.off + 3, none⟩ = some (.int .i64 ((rd_T91 l0 0).f1.f1)) ∧ w'.cell? (ad277.add (((ji11)).toNat * 4)) = some (.int .i64 ((rd_T91 l0 (ji11)).f0.f0)) ∧ w'.cell? ⟨(ad277.add (((ji11)).toNat * 4)).block, (ad277.add (((ji11)).toNat * 4)).off + 1, none⟩ = some (.int .i64 ((rd_T91 l0 (ji11)).f0.f1)) ∧ w'.cell? ⟨(ad277.add (((ji11)).toNat * 4)).block, (ad277.add (((ji11)).toNat * 4)).off + 2, none⟩ = some (.int .i64 ((rd_T91 l0 (ji11)).f1.f0)) ∧ w'.cell? ⟨(ad277.add (((ji11)).toNat * 4)).block, (ad277.add (((ji11)).toNat * 4)).off + 3, none⟩ = some (.int .i64 ((rd_T91 l0 (ji11)).f1.f1))) (ds := []) #[false, false, false, false, false, false, false, false, false, false, false, false, false, false, false, false, false, false, false, false, false, false, false] (by kernel_rfl) rfl rfl ⟨((HB.out.cell (World.block_lt_of_cell? w _ hw277_0)).trans hw277_0), ((HB.out.cell (World.block_lt_of_cell? w _ hw277_1)).trans hw277_1), ((HB.out.cell (World.block_lt_of_cell? w _ hw277_2)).trans hw277_2), ((HB.out.cell (World.block_lt_of_cell? w _ hw277_3)).trans hw277_3), ((HB.out.cell (World.block_lt_of_cell? w _ hw280_0)).trans hw280_0), ((HB.out.cell (World.block_lt_of_cell? w _ hw280_1)).trans hw280_1), ((HB.out.cell (World.block_lt_of_cell? w _ hw280_2)).trans hw280_2), ((HB.out.cell (World.block_lt_of_cell? w _ hw280_3)).trans hw280_3)⟩ (fun hHeld => ?_); refine with_tabW impl_isMap.tab3 impl_isMap.bits3 (fun HT_ HW_ => ?_)
                  generalize wc.drew = w24 at HB hx277_0 hx277_1 hx277_2 hx277_3 hx280_0 hx280_1 hx280_2 hx280_3 hHeld ⊢
                  refine pu 0 11 #[true, false, false, false, false, false, false, false, false, false, false, false, false, false, false, false, false, false, false, false, false, false, false] ?_
                  refine pu 1 12 #[true, true, false, false, false, false, false, false, false, false, false, false, false, false, false, false, false, false, false, false, false, false, false] ?_
                  refine pu 2 13 #[true, true, true, false, false, false, false, false, false, false, false, false, false, false, false, false, false, false, false, false, false, false, false] ?_
                  refine take_ (i := 3) (N := some 14) (v := ?_) (a' := ?_) #[true, true, true, true, false, false, false, false, false, false, false, false, false, false, false, false, false, false, false, false, false, false, false] rfl rfl (take_ofW HT_.out HW_.out (by kernel_rfl)) (fun _ _ _ h => h) (Or.inl ⟨by rfl, ?_⟩) hHeld ?_ ?_
                  rotate_left
                  · rintro w' ⟨s0, s1, s2, s3, s4, s5, s6, s7⟩
                    go_simp
                    with_reducible rfl
                  rotate_left
                  · simp only [Act.put, List.setIfInBounds_toArray, List.set_cons_zero, List.set_cons_succ, i64_w, i32_w]
                    rfl
                  refine one_ (i := 4) (N := some 15) #[true, true, true, true, true, false, false, false, false, false, false, false, false, false, false, false, false, false, false, false, false, false, false] rfl rfl (one_of HT_.out (by kernel_rfl)) (by decide) (fun K hK => ?_)
                  refine goes_ Try.func131 (by kernel_rfl) rfl #[] (by rfl) rfl rfl (by (try simp only [List.map_toArray, List.map_cons, List.map_nil]); first | done | rfl | (simp only [List.length_drop, List.length_take]; rfl)) ?_
                  with_reducible refine (impl_zero.calls  t278 t279 _ A9.out).mono ?_
                  rintro e w25 ⟨rfl, hb⟩
                  refine ⟨_, rfl, ?_⟩
                  replace HB := Aside0.mk (bs hb)
                  (try clear hb)
                  (try clear hb2)
                  (try clear hk)
                  (try clear hi)
                  refine hK.out _ _ ⟨((HB.out.cell (World.block_lt_of_cell? w _ hw277_0)).trans hw277_0), ((HB.out.cell (World.block_lt_of_cell? w _ hw277_1)).trans hw277_1), ((HB.out.cell (World.block_lt_of_cell? w _ hw277_2)).trans hw277_2), ((HB.out.cell (World.block_lt_of_cell? w _ hw277_3)).trans hw277_3), ((HB.out.cell (World.block_lt_of_cell? w _ hw280_0)).trans hw280_0), ((HB.out.cell (World.block_lt_of_cell? w _ hw280_1)).trans hw280_1), ((HB.out.cell (World.block_lt_of_cell? w _ hw280_2)).trans hw280_2), ((HB.out.cell (World.block_lt_of_cell? w _ hw280_3)).trans hw280_3)⟩ (fun hHeld => ?_)
                  clear hK K
                  refine norm_ (a' := ?_) ?_ ?_
                  rotate_left
                  · show Act.put _ (some 15) _ = _
                    simp only [Act.put, List.setIfInBounds_toArray, List.set_cons_zero, List.set_cons_succ, i64_w, i32_w]
                    rfl
                  refine pu 5 16 #[true, true, true, true, true, true, false, false, false, false, false, false, false, false, false, false, false, false, false, false, false, false, false] ?_
                  refine pu 6 17 #[true, true, true, true, true, true, true, false, false, false, false, false, false, false, false, false, false, false, false, false, false, false, false] ?_
                  refine pu 7 18 #[true, true, true, true, true, true, true, true, false, false, false, false, false, false, false, false, false, false, false, false, false, false, false] ?_
                  refine pu 8 19 #[true, true, true, true, true, true, true, true, true, false, false, false, false, false, false, false, false, false, false, false, false, false, false] ?_
                  refine pu 9 20 #[true, true, true, true, true, true, true, true, true, true, false, false, false, false, false, false, false, false, false, false, false, false, false] ?_
                  refine pu 10 21 #[true, true, true, true, true, true, true, true, true, true, true, false, false, false, false, false, false, false, false, false, false, false, false] ?_
                  refine pu 11 22 #[true, true, true, true, true, true, true, true, true, true, true, true, false, false, false, false, false, false, false, false, false, false, false] ?_
                  refine pu 12 23 #[true, true, true, true, true, true, true, true, true, true, true, true, true, false, false, false, false, false, false, false, false, false, false] ?_
                  refine take_ (i := 13) (N := some 24) (v := ?_) (a' := ?_) #[true, true, true, true, true, true, true, true, true, true, true, true, true, true, false, false, false, false, false, false, false, false, false] rfl rfl (take_ofW HT_.out HW_.out (by kernel_rfl)) (fun _ _ _ h => h) (Or.inl ⟨by rfl, ?_⟩) hHeld ?_ ?_
                  rotate_left
                  · rintro w' ⟨s0, s1, s2, s3, s4, s5, s6, s7⟩
                    go_simp
                    with_reducible rfl
                  rotate_left
                  · simp only [Act.put, List.setIfInBounds_toArray, List.set_cons_zero, List.set_cons_succ, i64_w, i32_w]
                    rfl
                  refine one_ (i := 14) (N := some 25) #[true, true, true, true, true, true, true, true, true, true, true, true, true, true, true, false, false, false, false, false, false, false, false] rfl rfl (one_of HT_.out (by kernel_rfl)) (by decide) (fun K hK => ?_)
                  refine goes_ Try.func132 (by kernel_rfl) rfl #[] (by rfl) rfl rfl (by (try simp only [List.map_toArray, List.map_cons, List.map_nil]); first | done | rfl | (simp only [List.length_drop, List.length_take]; rfl)) ?_
                  with_reducible refine (impl_oneRat.calls  t281 t282 _ A14.out).mono ?_
                  rintro e w26 ⟨rfl, hb⟩
                  refine ⟨_, rfl, ?_⟩
                  replace HB := Aside0.mk (bs hb)
                  (try clear hb)
                  (try clear hb2)
                  (try clear hk)
                  (try clear hi)
                  refine hK.out _ _ ⟨((HB.out.cell (World.block_lt_of_cell? w _ hw277_0)).trans hw277_0), ((HB.out.cell (World.block_lt_of_cell? w _ hw277_1)).trans hw277_1), ((HB.out.cell (World.block_lt_of_cell? w _ hw277_2)).trans hw277_2), ((HB.out.cell (World.block_lt_of_cell? w _ hw277_3)).trans hw277_3), ((HB.out.cell (World.block_lt_of_cell? w _ hw280_0)).trans hw280_0), ((HB.out.cell (World.block_lt_of_cell? w _ hw280_1)).trans hw280_1), ((HB.out.cell (World.block_lt_of_cell? w _ hw280_2)).trans hw280_2), ((HB.out.cell (World.block_lt_of_cell? w _ hw280_3)).trans hw280_3)⟩ (fun hHeld => ?_)
                  clear hK K
                  refine norm_ (a' := ?_) ?_ ?_
                  rotate_left
                  · show Act.put _ (some 25) _ = _
                    simp only [Act.put, List.setIfInBounds_toArray, List.set_cons_zero, List.set_cons_succ, i64_w, i32_w]
                    rfl
                  refine pu 15 26 #[true, true, true, true, true, true, true, true, true, true, true, true, true, true, true, true, false, false, false, false, false, false, false] ?_
                  refine pu 16 27 #[true, true, true, true, true, true, true, true, true, true, true, true, true, true, true, true, true, false, false, false, false, false, false] ?_
                  refine pu 17 28 #[true, true, true, true, true, true, true, true, true, true, true, true, true, true, true, true, true, true, false, false, false, false, false] ?_
                  refine pure_ (i := 18) (N := some 29) (v := undef) (a' := ?_) #[true, true, true, true, true, true, true, true, true, true, true, true, true, true, true, true, true, true, true, false, false, false, false] rfl rfl (any_of HT_.out (by kernel_rfl)) (fun _ _ _ h => h) (Or.inr ⟨by rfl, rfl⟩) ?_ ?_
                  rotate_left
                  · simp only [Act.put, List.setIfInBounds_toArray, List.set_cons_zero, List.set_cons_succ, i64_w, i32_w]
                    rfl
                  refine pure_ (i := 19) (N := some 30) (v := undef) (a' := ?_) #[true, true, true, true, true, true, true, true, true, true, true, true, true, true, true, true, true, true, true, true, false, false, false] rfl rfl (any_of HT_.out (by kernel_rfl)) (fun _ _ _ h => h) (Or.inr ⟨by rfl, rfl⟩) ?_ ?_
                  rotate_left
                  · simp only [Act.put, List.setIfInBounds_toArray, List.set_cons_zero, List.set_cons_succ, i64_w, i32_w]
                    rfl
                  refine pure_ (i := 20) (N := some 31) (v := undef) (a' := ?_) #[true, true, true, true, true, true, true, true, true, true, true, true, true, true, true, true, true, true, true, true, true, false, false] rfl rfl (any_of HT_.out (by kernel_rfl)) (fun _ _ _ h => h) (Or.inr ⟨by rfl, rfl⟩) ?_ ?_
                  rotate_left
                  · simp only [Act.put, List.setIfInBounds_toArray, List.set_cons_zero, List.set_cons_succ, i64_w, i32_w]
                    rfl
                  refine pu 21 32 #[true, true, true, true, true, true, true, true, true, true, true, true, true, true, true, true, true, true, true, true, true, true, false] ?_
                  refine pu 22 2 #[true, true, true, true, true, true, true, true, true, true, true, true, true, true, true, true, true, true, true, true, true, true, true] ?_
                  refine done_ (done_of HT_.out (by kernel_rfl)) ?_
                  try go_wp2
                  go_ret
                  exact ⟨by first | rfl | (simp [errW_none, errW_some] <;> rfl) | (simp only [← hji11]; first | rfl | (simp [errW_none, errW_some] <;> rfl)) | (simp [*, errW_none, errW_some] <;> rfl), bl⟩
              · rw [if_neg c13] at H
                exact absurd H (by simp)
            · rw [if_neg c12] at H
              exact absurd H (by simp)
          · rw [if_neg c10] at H
            have c10b0 : (((rd_T91 l0 0).f0.f0) == t278 && (((rd_T91 l0 0).f0.f1) == t279)) = false := by simpa using c10
            (try (have c10b1 : decide (((rd_T91 l0 0).f0.f0) = t278 && (((rd_T91 l0 0).f0.f1) == t279)) = false := by simpa using c10))
            (try (have c10b2 : (((rd_T91 l0 0).f0.f0) == t278 && (((rd_T91 l0 0).f0.f1) == t279)) = false := by simpa using c10))
            (try (have c10b3 : ¬ (((rd_T91 l0 0).f0.f0) = t278 && (((rd_T91 l0 0).f0.f1) == t279)) := by simpa using c10))
            clear c10
            obtain rfl := Option.some.inj H
            try go_wp2
            replace HB := Aside0.mk (below_drew1 HB.out)
            have p277 : 0 ≤ (0 : Int) := (by omega)
            have q277 : 0 < (l0.length : Int) := of_decide_eq_true (by first | (with_reducible assumption) | assumption)
            obtain ⟨ad277, e277, hx277_0, hx277_1, hx277_2, hx277_3⟩ := at_T91 HR0.out 0 p277 q277
            have hw277_3 := hx277_3
            (try rw [show ((0 : Int)).toNat = 0 from rfl] at hw277_3)
            (try rw [show 0 * 4 = 0 from rfl] at hw277_3)
            (try rw [Addr.add_zero'] at hw277_3)
            have hw277_2 := hx277_2
            (try rw [show ((0 : Int)).toNat = 0 from rfl] at hw277_2)
            (try rw [show 0 * 4 = 0 from rfl] at hw277_2)
            (try rw [Addr.add_zero'] at hw277_2)
            have hw277_1 := hx277_1
            (try rw [show ((0 : Int)).toNat = 0 from rfl] at hw277_1)
            (try rw [show 0 * 4 = 0 from rfl] at hw277_1)
            (try rw [Addr.add_zero'] at hw277_1)
            have hw277_0 := hx277_0
            (try rw [show ((0 : Int)).toNat = 0 from rfl] at hw277_0)
            (try rw [show 0 * 4 = 0 from rfl] at hw277_0)
            (try rw [Addr.add_zero'] at hw277_0)
            cases e277
            have qi277 : (0 < l0.length) = True := eq_true (by omega)
            (try rw [show ((0 : Int)).toNat = 0 from rfl] at hx277_0)
            (try rw [show 0 * 4 = 0 from rfl] at hx277_0)
            (try rw [Addr.add_zero'] at hx277_0)
            (try rw [show ((0 : Int)).toNat = 0 from rfl] at hx277_1)
            (try rw [show 0 * 4 = 0 from rfl] at hx277_1)
            (try rw [Addr.add_zero'] at hx277_1)
            (try rw [show ((0 : Int)).toNat = 0 from rfl] at hx277_2)
            (try rw [show 0 * 4 = 0 from rfl] at hx277_2)
            (try rw [Addr.add_zero'] at hx277_2)
            (try rw [show ((0 : Int)).toNat = 0 from rfl] at hx277_3)
            (try rw [show 0 * 4 = 0 from rfl] at hx277_3)
            (try rw [Addr.add_zero'] at hx277_3)
            replace hx277_0 := (HB.out.cell (World.block_lt_of_cell? w _ hx277_0)).trans hx277_0
            replace hx277_1 := (HB.out.cell (World.block_lt_of_cell? w _ hx277_1)).trans hx277_1
            replace hx277_2 := (HB.out.cell (World.block_lt_of_cell? w _ hx277_2)).trans hx277_2
            replace hx277_3 := (HB.out.cell (World.block_lt_of_cell? w _ hx277_3)).trans hx277_3
            replace p277 := eq_true p277
            replace q277 := eq_true q277
            refine start_ (n := 23) (S := fun w' => w'.cell? ad277 = some (.int .i64 ((rd_T91 l0 0).f0.f0)) ∧ w'.cell? ⟨ad277.block, ad277.off + 1, none⟩ = some (.int .i64 ((rd_T91 l0 0).f0.f1)) ∧ w'.cell? ⟨ad277.block, ad277.off + 2, none⟩ = some (.int .i64 ((rd_T91 l0 0).f1.f0)) ∧ w'.cell? ⟨ad277.block, ad277.off + 3, none⟩ = some (.int .i64 ((rd_T91 l0 0).f1.f1))) (ds := []) #[false, false, false, false, false, false, false, false, false, false, false, false, false, false, false, false, false, false, false, false, false, false, false] (by kernel_rfl) rfl rfl ⟨((HB.out.cell (World.block_lt_of_cell? w _ hw277_0)).trans hw277_0), ((HB.out.cell (World.block_lt_of_cell? w _ hw277_1)).trans hw277_1), ((HB.out.cell (World.block_lt_of_cell? w _ hw277_2)).trans hw277_2), ((HB.out.cell (World.block_lt_of_cell? w _ hw277_3)).trans hw277_3)⟩ (fun hHeld => ?_); refine with_tabW impl_isMap.tab3 impl_isMap.bits3 (fun HT_ HW_ => ?_)
            generalize wc.drew = w27 at HB hx277_0 hx277_1 hx277_2 hx277_3 hHeld ⊢
            refine pu 0 11 #[true, false, false, false, false, false, false, false, false, false, false, false, false, false, false, false, false, false, false, false, false, false, false] ?_
            refine pu 1 12 #[true, true, false, false, false, false, false, false, false, false, false, false, false, false, false, false, false, false, false, false, false, false, false] ?_
            refine pu 2 13 #[true, true, true, false, false, false, false, false, false, false, false, false, false, false, false, false, false, false, false, false, false, false, false] ?_
            refine take_ (i := 3) (N := some 14) (v := ?_) (a' := ?_) #[true, true, true, true, false, false, false, false, false, false, false, false, false, false, false, false, false, false, false, false, false, false, false] rfl rfl (take_ofW HT_.out HW_.out (by kernel_rfl)) (fun _ _ _ h => h) (Or.inl ⟨by rfl, ?_⟩) hHeld ?_ ?_
            rotate_left
            · rintro w' ⟨s0, s1, s2, s3⟩
              go_simp
              with_reducible rfl
            rotate_left
            · simp only [Act.put, List.setIfInBounds_toArray, List.set_cons_zero, List.set_cons_succ, i64_w, i32_w]
              rfl
            refine one_ (i := 4) (N := some 15) #[true, true, true, true, true, false, false, false, false, false, false, false, false, false, false, false, false, false, false, false, false, false, false] rfl rfl (one_of HT_.out (by kernel_rfl)) (by decide) (fun K hK => ?_)
            refine goes_ Try.func131 (by kernel_rfl) rfl #[] (by rfl) rfl rfl (by (try simp only [List.map_toArray, List.map_cons, List.map_nil]); first | done | rfl | (simp only [List.length_drop, List.length_take]; rfl)) ?_
            with_reducible refine (impl_zero.calls  t278 t279 _ A9.out).mono ?_
            rintro e w28 ⟨rfl, hb⟩
            refine ⟨_, rfl, ?_⟩
            replace HB := Aside0.mk (bs hb)
            (try clear hb)
            (try clear hb2)
            (try clear hk)
            (try clear hi)
            refine hK.out _ _ ⟨((HB.out.cell (World.block_lt_of_cell? w _ hw277_0)).trans hw277_0), ((HB.out.cell (World.block_lt_of_cell? w _ hw277_1)).trans hw277_1), ((HB.out.cell (World.block_lt_of_cell? w _ hw277_2)).trans hw277_2), ((HB.out.cell (World.block_lt_of_cell? w _ hw277_3)).trans hw277_3)⟩ (fun hHeld => ?_)
            clear hK K
            refine norm_ (a' := ?_) ?_ ?_
            rotate_left
            · show Act.put _ (some 15) _ = _
              simp only [Act.put, List.setIfInBounds_toArray, List.set_cons_zero, List.set_cons_succ, i64_w, i32_w]
              rfl
            refine pu 5 16 #[true, true, true, true, true, true, false, false, false, false, false, false, false, false, false, false, false, false, false, false, false, false, false] ?_
            refine pu 6 17 #[true, true, true, true, true, true, true, false, false, false, false, false, false, false, false, false, false, false, false, false, false, false, false] ?_
            refine pure_ (i := 7) (N := some 18) (v := undef) (a' := ?_) #[true, true, true, true, true, true, true, true, false, false, false, false, false, false, false, false, false, false, false, false, false, false, false] rfl rfl (any_of HT_.out (by kernel_rfl)) (fun _ _ _ h => h) (Or.inr ⟨by rfl, rfl⟩) ?_ ?_
            rotate_left
            · simp only [Act.put, List.setIfInBounds_toArray, List.set_cons_zero, List.set_cons_succ, i64_w, i32_w]
              rfl
            refine pure_ (i := 8) (N := some 19) (v := undef) (a' := ?_) #[true, true, true, true, true, true, true, true, true, false, false, false, false, false, false, false, false, false, false, false, false, false, false] rfl rfl (any_of HT_.out (by kernel_rfl)) (fun _ _ _ h => h) (Or.inr ⟨by rfl, rfl⟩) ?_ ?_
            rotate_left
            · simp only [Act.put, List.setIfInBounds_toArray, List.set_cons_zero, List.set_cons_succ, i64_w, i32_w]
              rfl
            refine pure_ (i := 9) (N := some 20) (v := undef) (a' := ?_) #[true, true, true, true, true, true, true, true, true, true, false, false, false, false, false, false, false, false, false, false, false, false, false] rfl rfl (any_of HT_.out (by kernel_rfl)) (fun _ _ _ h => h) (Or.inr ⟨by rfl, rfl⟩) ?_ ?_
            rotate_left
            · simp only [Act.put, List.setIfInBounds_toArray, List.set_cons_zero, List.set_cons_succ, i64_w, i32_w]
              rfl
            refine pure_ (i := 10) (N := some 21) (v := undef) (a' := ?_) #[true, true, true, true, true, true, true, true, true, true, true, false, false, false, false, false, false, false, false, false, false, false, false] rfl rfl (any_of HT_.out (by kernel_rfl)) (fun _ _ _ h => h) (Or.inr ⟨by rfl, rfl⟩) ?_ ?_
            rotate_left
            · simp only [Act.put, List.setIfInBounds_toArray, List.set_cons_zero, List.set_cons_succ, i64_w, i32_w]
              rfl
            refine pure_ (i := 11) (N := some 22) (v := undef) (a' := ?_) #[true, true, true, true, true, true, true, true, true, true, true, true, false, false, false, false, false, false, false, false, false, false, false] rfl rfl (any_of HT_.out (by kernel_rfl)) (fun _ _ _ h => h) (Or.inr ⟨by rfl, rfl⟩) ?_ ?_
            rotate_left
            · simp only [Act.put, List.setIfInBounds_toArray, List.set_cons_zero, List.set_cons_succ, i64_w, i32_w]
              rfl
            refine pure_ (i := 12) (N := some 23) (v := undef) (a' := ?_) #[true, true, true, true, true, true, true, true, true, true, true, true, true, false, false, false, false, false, false, false, false, false, false] rfl rfl (any_of HT_.out (by kernel_rfl)) (fun _ _ _ h => h) (Or.inr ⟨by rfl, rfl⟩) ?_ ?_
            rotate_left
            · simp only [Act.put, List.setIfInBounds_toArray, List.set_cons_zero, List.set_cons_succ, i64_w, i32_w]
              rfl
            refine pure_ (i := 13) (N := some 24) (v := undef) (a' := ?_) #[true, true, true, true, true, true, true, true, true, true, true, true, true, true, false, false, false, false, false, false, false, false, false] rfl rfl (any_of HT_.out (by kernel_rfl)) (fun _ _ _ h => h) (Or.inr ⟨by rfl, rfl⟩) ?_ ?_
            rotate_left
            · simp only [Act.put, List.setIfInBounds_toArray, List.set_cons_zero, List.set_cons_succ, i64_w, i32_w]
              rfl
            refine pure_ (i := 14) (N := some 25) (v := undef) (a' := ?_) #[true, true, true, true, true, true, true, true, true, true, true, true, true, true, true, false, false, false, false, false, false, false, false] rfl rfl (any_of HT_.out (by kernel_rfl)) (fun _ _ _ h => h) (Or.inr ⟨by rfl, rfl⟩) ?_ ?_
            rotate_left
            · simp only [Act.put, List.setIfInBounds_toArray, List.set_cons_zero, List.set_cons_succ, i64_w, i32_w]
              rfl
            refine pure_ (i := 15) (N := some 26) (v := undef) (a' := ?_) #[true, true, true, true, true, true, true, true, true, true, true, true, true, true, true, true, false, false, false, false, false, false, false] rfl rfl (any_of HT_.out (by kernel_rfl)) (fun _ _ _ h => h) (Or.inr ⟨by rfl, rfl⟩) ?_ ?_
            rotate_left
            · simp only [Act.put, List.setIfInBounds_toArray, List.set_cons_zero, List.set_cons_succ, i64_w, i32_w]
              rfl
            refine pu 16 27 #[true, true, true, true, true, true, true, true, true, true, true, true, true, true, true, true, true, false, false, false, false, false, false] ?_
            refine pu 17 28 #[true, true, true, true, true, true, true, true, true, true, true, true, true, true, true, true, true, true, false, false, false, false, false] ?_
            refine pure_ (i := 18) (N := some 29) (v := undef) (a' := ?_) #[true, true, true, true, true, true, true, true, true, true, true, true, true, true, true, true, true, true, true, false, false, false, false] rfl rfl (any_of HT_.out (by kernel_rfl)) (fun _ _ _ h => h) (Or.inr ⟨by rfl, rfl⟩) ?_ ?_
            rotate_left
            · simp only [Act.put, List.setIfInBounds_toArray, List.set_cons_zero, List.set_cons_succ, i64_w, i32_w]
              rfl
            refine pure_ (i := 19) (N := some 30) (v := undef) (a' := ?_) #[true, true, true, true, true, true, true, true, true, true, true, true, true, true, true, true, true, true, true, true, false, false, false] rfl rfl (any_of HT_.out (by kernel_rfl)) (fun _ _ _ h => h) (Or.inr ⟨by rfl, rfl⟩) ?_ ?_
            rotate_left
            · simp only [Act.put, List.setIfInBounds_toArray, List.set_cons_zero, List.set_cons_succ, i64_w, i32_w]
              rfl
            refine pure_ (i := 20) (N := some 31) (v := undef) (a' := ?_) #[true, true, true, true, true, true, true, true, true, true, true, true, true, true, true, true, true, true, true, true, true, false, false] rfl rfl (any_of HT_.out (by kernel_rfl)) (fun _ _ _ h => h) (Or.inr ⟨by rfl, rfl⟩) ?_ ?_
            rotate_left
            · simp only [Act.put, List.setIfInBounds_toArray, List.set_cons_zero, List.set_cons_succ, i64_w, i32_w]
              rfl
            refine pu 21 32 #[true, true, true, true, true, true, true, true, true, true, true, true, true, true, true, true, true, true, true, true, true, true, false] ?_
            refine pu 22 2 #[true, true, true, true, true, true, true, true, true, true, true, true, true, true, true, true, true, true, true, true, true, true, true] ?_
            refine done_ (done_of HT_.out (by kernel_rfl)) ?_
            try go_wp2
            go_ret
            exact ⟨by first | rfl | (simp [errW_none, errW_some] <;> rfl) | (simp [*, errW_none, errW_some] <;> rfl), bl⟩
        · rw [if_neg c8] at H
          exact absurd H (by simp)

end Go.Proofs.Ytmpccnagidednaa.PFnExactAddressOf
