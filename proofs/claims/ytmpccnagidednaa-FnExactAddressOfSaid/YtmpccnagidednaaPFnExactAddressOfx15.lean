-- Written by this session's program wip/pp (the kit's print tool with additions) 35421559b90ae4d0a3588c463048766b98c2df88dd9212a6774a882060cdf62d
import Derived.Test.YtmpccnagidednaaPFnExactAddressOfx0
import Derived.Test.YtmpccnagidednaaPFnExactAddressOfx2
import Derived.Test.YtmpccnagidednaaPFnExactAddressOfx7
import Derived.Test.YtmpccnagidednaaPFnExactAddressOfx8
import Derived.Test.YtmpccnagidednaaPFnExactAddressOfx13
import Derived.Test.YtmpccnagidednaaPFnExactAddressOfx14
namespace Go.Proofs.Ytmpccnagidednaa.PFnExactAddressOf
open Go.RowKit Go.Proofs.YtmpccnagidednaaW.PrintWords Go.Proofs.YtmpccnagidednaaW.PrintLast Go.Proofs.YtmpccnagidednaaW.PrintMore
attribute [local go_sem] max2_int min2_int max_two min_two max_three min_three max_four min_four   -- for this text's walks alone
set_option linter.unusedVariables false
set_option linter.unusedSimpArgs false

/-! ### impl_address_1_with: function 160 -/
def impl_address_1_with.f (l0 : List Int) (l1 : List (List (S91))) (l2 : List (S33)) : Option (Bool) := if 0 < (l1.length : Int) then (if 1 < (l0.length : Int) then (if 0 ≤ (rd l0 1) then (if (rd l0 1) < ((rd_L6 l1 0).length : Int) then (if 0 < (l2.length : Int) then ((impl_less.f ((rd_T91 (rd_L6 l1 0) (rd l0 1)).f0.f0) ((rd_T91 (rd_L6 l1 0) (rd l0 1)).f0.f1) ((rd_T33 l2 0).f0) ((rd_T33 l2 0).f1)).bind fun t413 => (some (!t413))) else (none)) else (none)) else (none)) else (none)) else (none)
def impl_address_1_with.T1 : Bool × List (List Nat × List Nat) := (true, [([], []), ([], []), ([1], [1]), ([2], [2]), ([0, 3], [0, 3]), ([4], [4]), ([5], [5]), ([], []), ([6, 7], [6, 7]), ([8], [8]), ([9, 8, 0, 1, 2, 3, 4, 5, 6, 7, 8, 9], [9])])
def impl_address_1_with.B1 : List Nat := [0, 0, 2, 6, 15, 31, 63, 0, 255, 511, 1023]
theorem impl_address_1_with.tab1 : rtab .any (opsOf Try.f160 1) = impl_address_1_with.T1 := by kernel_rfl
theorem impl_address_1_with.bits1 : waitsOk impl_address_1_with.T1.2 impl_address_1_with.B1 = true := by kernel_rfl
set_option maxHeartbeats 8000000 in
set_option maxRecDepth 100000 in
theorem impl_address_1_with.calls (A0 : Option Addr) (c0 : Nat) (l0 : List Int) (A1 : Option Addr) (c1 : Nat) (l1 : List (List (S91))) (A2 : Option Addr) (c2 : Nat) (l2 : List (S33)) (r : Bool) (w : World) (hr0 : Kd.C (Kd.int .i64) w A0 l0.length l0) (hc0 : l0.length ≤ c0) (hr1 : Kd.C (Kd.slice 91 k91) w A1 l1.length l1) (hc1 : l1.length ≤ c1) (hr2 : Kd.C k33 w A2 l2.length l2) (hc2 : l2.length ≤ c2) (h : impl_address_1_with.f l0 l1 l2 = some r) :
    Calls Try.prog 160 #[.slice A0 l0.length c0, .pointer A1, .pointer A2] w fun e w' => e = .returned (.bool r) ∧ Below w.heap.size w w' := by
  have hu33 := Try.underlying33
  have HR0 := Aside0.mk hr0
  have HC0 := Aside0.mk hc0
  clear hr0 hc0
  have HR1 := Aside0.mk hr1
  have HC1 := Aside0.mk hc1
  clear hr1 hc1
  have HR2 := Aside0.mk hr2
  have HC2 := Aside0.mk hc2
  clear hr2 hc2
  have HB := Aside0.mk (Below.refl w.heap.size w)
  have H : (if 0 < (l1.length : Int) then (if 1 < (l0.length : Int) then (if 0 ≤ (rd l0 1) then (if (rd l0 1) < ((rd_L6 l1 0).length : Int) then (if 0 < (l2.length : Int) then ((impl_less.f ((rd_T91 (rd_L6 l1 0) (rd l0 1)).f0.f0) ((rd_T91 (rd_L6 l1 0) (rd l0 1)).f0.f1) ((rd_T33 l2 0).f0) ((rd_T33 l2 0).f1)).bind fun t413 => (some (!t413))) else (none)) else (none)) else (none)) else (none)) else (none)) = some r := h
  clear h
  by_cases c4 : 0 < (l1.length : Int)
  · rw [if_pos c4] at H
    have c4b0 : decide (0 < (l1.length : Int)) = true := decide_eq_true c4
    have c4b1 : decide (0 < l1.length) = true := decide_eq_true (by omega)
    clear c4
    by_cases c5 : 1 < (l0.length : Int)
    · rw [if_pos c5] at H
      have c5b0 : decide (1 < (l0.length : Int)) = true := decide_eq_true c5
      have c5b1 : decide (1 < l0.length) = true := decide_eq_true (by omega)
      clear c5
      by_cases c6 : 0 ≤ (rd l0 1)
      · rw [if_pos c6] at H
        have c6b0 : decide (0 ≤ (rd l0 1)) = true := decide_eq_true c6
        clear c6
        by_cases c7 : (rd l0 1) < ((rd_L6 l1 0).length : Int)
        · rw [if_pos c7] at H
          have c7b0 : decide ((rd l0 1) < ((rd_L6 l1 0).length : Int)) = true := decide_eq_true c7
          clear c7
          by_cases c8 : 0 < (l2.length : Int)
          · rw [if_pos c8] at H
            have c8b0 : decide (0 < (l2.length : Int)) = true := decide_eq_true c8
            have c8b1 : decide (0 < l2.length) = true := decide_eq_true (by omega)
            clear c8
            replace H := Option.bind_eq_some_iff.mp H
            obtain ⟨t413, A90, H⟩ := H
            replace H : (some (!t413)) = some r := H
            have A9 := Aside0.mk A90
            clear A90
            obtain rfl := Option.some.inj H
            go_enter Try.func160, Try.ntmps160
            try go_wp2
            replace HB := Aside0.mk (below_drew1 HB.out)
            have p409 : 0 ≤ (0 : Int) := (by omega)
            have q409 : 0 < (l1.length : Int) := of_decide_eq_true (by first | (with_reducible assumption) | assumption)
            obtain ⟨ad409, A409_0, c409_0, e409, hx409_0, hl409_0, hi409_0⟩ := at_L6 HR1.out 0 p409 q409
            have hw409_0 := hx409_0
            (try rw [show ((0 : Int)).toNat = 0 from rfl] at hw409_0)
            (try rw [show 0 * 1 = 0 from rfl] at hw409_0)
            (try rw [Addr.add_zero'] at hw409_0)
            cases e409
            have qi409 : (0 < l1.length) = True := eq_true (by omega)
            (try rw [show ((0 : Int)).toNat = 0 from rfl] at hx409_0)
            (try rw [Addr.add_zero'] at hx409_0)
            replace hx409_0 := (HB.out.cell (World.block_lt_of_cell? w _ hx409_0)).trans hx409_0
            have HR409_0 := Aside0.mk hi409_0
            have HC409_0 := Aside0.mk hl409_0
            clear hi409_0 hl409_0
            replace p409 := eq_true p409
            replace q409 := eq_true q409
            have p410 : 0 ≤ (1 : Int) := (by omega)
            have q410 : 1 < (l0.length : Int) := of_decide_eq_true (by first | (with_reducible assumption) | assumption)
            obtain ⟨ad410, e410, hx410_0⟩ := Kd.at_int HR0.out 1 p410 q410
            have hw410_0 := hx410_0
            (try rw [show ((1 : Int)).toNat = 1 from rfl] at hw410_0)
            (try rw [show 1 * 1 = 1 from rfl] at hw410_0)
            (try simp only [Nat.reduceMul, Nat.reduceEqDiff, Go.Addr.add, ↓reduceIte] at hw410_0)
            cases e410
            (try simp only [show (1 : Int).toNat = 1 from rfl, Nat.reduceMul, Nat.reduceEqDiff, Go.Addr.add, ↓reduceIte] at hx410_0)
            have qi410 : (1 < l0.length) = True := eq_true (by omega)
            (try rw [show ((1 : Int)).toNat = 1 from rfl] at hx410_0)
            replace hx410_0 := (HB.out.cell (World.block_lt_of_cell? w _ hx410_0)).trans hx410_0
            replace p410 := eq_true p410
            replace q410 := eq_true q410
            have p411 : 0 ≤ ((rd l0 1) : Int) := of_decide_eq_true (by first | (with_reducible assumption) | assumption)
            have q411 : (rd l0 1) < ((rd_L6 l1 0).length : Int) := of_decide_eq_true (by first | (with_reducible assumption) | assumption)
            obtain ⟨ad411, e411, hx411_0, hx411_1, hx411_2, hx411_3⟩ := at_T91 HR409_0.out (rd l0 1) p411 q411
            have hw411_3 := hx411_3
            have hw411_2 := hx411_2
            have hw411_1 := hx411_1
            have hw411_0 := hx411_0
            cases e411
            replace hx411_0 := (HB.out.cell (World.block_lt_of_cell? w _ hx411_0)).trans hx411_0
            replace hx411_1 := (HB.out.cell (World.block_lt_of_cell? w _ hx411_1)).trans hx411_1
            replace hx411_2 := (HB.out.cell (World.block_lt_of_cell? w _ hx411_2)).trans hx411_2
            replace hx411_3 := (HB.out.cell (World.block_lt_of_cell? w _ hx411_3)).trans hx411_3
            replace p411 := eq_true p411
            replace q411 := eq_true q411
            have p412 : 0 ≤ (0 : Int) := (by omega)
            have q412 : 0 < (l2.length : Int) := of_decide_eq_true (by first | (with_reducible assumption) | assumption)
            obtain ⟨ad412, e412, hx412_0, hx412_1⟩ := at_T33 HR2.out 0 p412 q412
            have hw412_1 := hx412_1
            (try rw [show ((0 : Int)).toNat = 0 from rfl] at hw412_1)
            (try rw [show 0 * 2 = 0 from rfl] at hw412_1)
            (try rw [Addr.add_zero'] at hw412_1)
            have hw412_0 := hx412_0
            (try rw [show ((0 : Int)).toNat = 0 from rfl] at hw412_0)
            (try rw [show 0 * 2 = 0 from rfl] at hw412_0)
            (try rw [Addr.add_zero'] at hw412_0)
            cases e412
            have qi412 : (0 < l2.length) = True := eq_true (by omega)
            (try rw [show ((0 : Int)).toNat = 0 from rfl] at hx412_0)
            (try rw [show 0 * 2 = 0 from rfl] at hx412_0)
            (try rw [Addr.add_zero'] at hx412_0)
            (try rw [show ((0 : Int)).toNat = 0 from rfl] at hx412_1)
            (try rw [show 0 * 2 = 0 from rfl] at hx412_1)
            (try rw [Addr.add_zero'] at hx412_1)
            replace hx412_0 := (HB.out.cell (World.block_lt_of_cell? w _ hx412_0)).trans hx412_0
            replace hx412_1 := (HB.out.cell (World.block_lt_of_cell? w _ hx412_1)).trans hx412_1
            replace p412 := eq_true p412
            replace q412 := eq_true q412
            refine start_ (n := 11) (S := fun w' => w'.cell? ad409 = some (.slice (some ad411) (rd_L6 l1 0).length c409_0) ∧ w'.cell? ⟨ad410.block, ad410.off + 1, none⟩ = some (.int .i64 (rd l0 1)) ∧ w'.cell? (ad411.add (((rd l0 1)).toNat * 4)) = some (.int .i64 ((rd_T91 (rd_L6 l1 0) (rd l0 1)).f0.f0)) ∧ w'.cell? ⟨(ad411.add (((rd l0 1)).toNat * 4)).block, (ad411.add (((rd l0 1)).toNat * 4)).off + 1, none⟩ = some (.int .i64 ((rd_T91 (rd_L6 l1 0) (rd l0 1)).f0.f1)) ∧ w'.cell? ⟨(ad411.add (((rd l0 1)).toNat * 4)).block, (ad411.add (((rd l0 1)).toNat * 4)).off + 2, none⟩ = some (.int .i64 ((rd_T91 (rd_L6 l1 0) (rd l0 1)).f1.f0)) ∧ w'.cell? ⟨(ad411.add (((rd l0 1)).toNat * 4)).block, (ad411.add (((rd l0 1)).toNat * 4)).off + 3, none⟩ = some (.int .i64 ((rd_T91 (rd_L6 l1 0) (rd l0 1)).f1.f1)) ∧ w'.cell? ad412 = some (.int .i64 ((rd_T33 l2 0).f0)) ∧ w'.cell? ⟨ad412.block, ad412.off + 1, none⟩ = some (.int .i64 ((rd_T33 l2 0).f1))) (ds := []) #[false, false, false, false, false, false, false, false, false, false, false] (by kernel_rfl) rfl rfl ⟨((HB.out.cell (World.block_lt_of_cell? w _ hw409_0)).trans hw409_0), ((HB.out.cell (World.block_lt_of_cell? w _ hw410_0)).trans hw410_0), ((HB.out.cell (World.block_lt_of_cell? w _ hw411_0)).trans hw411_0), ((HB.out.cell (World.block_lt_of_cell? w _ hw411_1)).trans hw411_1), ((HB.out.cell (World.block_lt_of_cell? w _ hw411_2)).trans hw411_2), ((HB.out.cell (World.block_lt_of_cell? w _ hw411_3)).trans hw411_3), ((HB.out.cell (World.block_lt_of_cell? w _ hw412_0)).trans hw412_0), ((HB.out.cell (World.block_lt_of_cell? w _ hw412_1)).trans hw412_1)⟩ (fun hHeld => ?_); refine with_tabW impl_address_1_with.tab1 impl_address_1_with.bits1 (fun HT_ HW_ => ?_)
            generalize w.drew = w10 at HB HR409_0 hx409_0 hx410_0 hx411_0 hx411_1 hx411_2 hx411_3 hx412_0 hx412_1 hHeld ⊢
            refine pu 1 6 #[false, true, false, false, false, false, false, false, false, false, false] ?_
            refine pu 2 7 #[false, true, true, false, false, false, false, false, false, false, false] ?_
            refine take_ (i := 0) (N := some 5) (v := ?_) (a' := ?_) #[true, true, true, false, false, false, false, false, false, false, false] rfl rfl (take_ofW HT_.out HW_.out (by kernel_rfl)) (fun _ _ _ h => h) (Or.inl ⟨by rfl, ?_⟩) hHeld ?_ ?_
            rotate_left
            · rintro w' ⟨s0, s1, s2, s3, s4, s5, s6, s7⟩
              go_simp
              with_reducible rfl
            rotate_left
            · simp only [Act.put, List.setIfInBounds_toArray, List.set_cons_zero, List.set_cons_succ, i64_w, i32_w]
              rfl
            refine take_ (i := 3) (N := some 8) (v := ?_) (a' := ?_) #[true, true, true, true, false, false, false, false, false, false, false] rfl rfl (take_ofW HT_.out HW_.out (by kernel_rfl)) (fun _ _ _ h => h) (Or.inl ⟨by rfl, ?_⟩) hHeld ?_ ?_
            rotate_left
            · rintro w' ⟨s0, s1, s2, s3, s4, s5, s6, s7⟩
              go_simp
              with_reducible rfl
            rotate_left
            · simp only [Act.put, List.setIfInBounds_toArray, List.set_cons_zero, List.set_cons_succ, i64_w, i32_w]
              rfl
            refine pu 4 9 #[true, true, true, true, true, false, false, false, false, false, false] ?_
            refine pu 5 10 #[true, true, true, true, true, true, false, false, false, false, false] ?_
            refine take_ (i := 6) (N := some 11) (v := ?_) (a' := ?_) #[true, true, true, true, true, true, true, false, false, false, false] rfl rfl (take_ofW HT_.out HW_.out (by kernel_rfl)) (fun _ _ _ h => h) (Or.inl ⟨by rfl, ?_⟩) hHeld ?_ ?_
            rotate_left
            · rintro w' ⟨s0, s1, s2, s3, s4, s5, s6, s7⟩
              go_simp
              with_reducible rfl
            rotate_left
            · simp only [Act.put, List.setIfInBounds_toArray, List.set_cons_zero, List.set_cons_succ, i64_w, i32_w]
              rfl
            refine take_ (i := 7) (N := some 12) (v := ?_) (a' := ?_) #[true, true, true, true, true, true, true, true, false, false, false] rfl rfl (take_ofW HT_.out HW_.out (by kernel_rfl)) (fun _ _ _ h => h) (Or.inl ⟨by rfl, ?_⟩) hHeld ?_ ?_
            rotate_left
            · rintro w' ⟨s0, s1, s2, s3, s4, s5, s6, s7⟩
              go_simp
              with_reducible rfl
            rotate_left
            · simp only [Act.put, List.setIfInBounds_toArray, List.set_cons_zero, List.set_cons_succ, i64_w, i32_w]
              rfl
            refine one_ (i := 8) (N := some 13) #[true, true, true, true, true, true, true, true, true, false, false] rfl rfl (one_of HT_.out (by kernel_rfl)) (by decide) (fun K hK => ?_)
            refine goes_ Try.func142 (by kernel_rfl) rfl #[.agg #[.int .i64 ((rd_T91 (rd_L6 l1 0) (rd l0 1)).f0.f0), .int .i64 ((rd_T91 (rd_L6 l1 0) (rd l0 1)).f0.f1)], .agg #[.int .i64 ((rd_T33 l2 0).f0), .int .i64 ((rd_T33 l2 0).f1)]] (by rfl) rfl rfl (by (try simp only [List.map_toArray, List.map_cons, List.map_nil]); first | done | rfl | (simp only [List.length_drop, List.length_take]; rfl)) ?_
            with_reducible refine (impl_less.calls ((rd_T91 (rd_L6 l1 0) (rd l0 1)).f0.f0) ((rd_T91 (rd_L6 l1 0) (rd l0 1)).f0.f1) ((rd_T33 l2 0).f0) ((rd_T33 l2 0).f1) t413 _ A9.out).mono ?_
            rintro e w11 ⟨rfl, hb⟩
            refine ⟨_, rfl, ?_⟩
            replace HB := Aside0.mk (bs hb)
            (try clear hb)
            (try clear hb2)
            (try clear hk)
            (try clear hi)
            refine hK.out _ _ ⟨((HB.out.cell (World.block_lt_of_cell? w _ hw409_0)).trans hw409_0), ((HB.out.cell (World.block_lt_of_cell? w _ hw410_0)).trans hw410_0), ((HB.out.cell (World.block_lt_of_cell? w _ hw411_0)).trans hw411_0), ((HB.out.cell (World.block_lt_of_cell? w _ hw411_1)).trans hw411_1), ((HB.out.cell (World.block_lt_of_cell? w _ hw411_2)).trans hw411_2), ((HB.out.cell (World.block_lt_of_cell? w _ hw411_3)).trans hw411_3), ((HB.out.cell (World.block_lt_of_cell? w _ hw412_0)).trans hw412_0), ((HB.out.cell (World.block_lt_of_cell? w _ hw412_1)).trans hw412_1)⟩ (fun hHeld => ?_)
            clear hK K
            refine norm_ (a' := ?_) ?_ ?_
            rotate_left
            · show Act.put _ (some 13) _ = _
              simp only [Act.put, List.setIfInBounds_toArray, List.set_cons_zero, List.set_cons_succ, i64_w, i32_w]
              rfl
            refine pu 9 14 #[true, true, true, true, true, true, true, true, true, true, false] ?_
            refine pu 10 4 #[true, true, true, true, true, true, true, true, true, true, true] ?_
            refine done_ (done_of HT_.out (by kernel_rfl)) ?_
            try go_wp2
            go_ret
            exact ⟨by first | rfl | (simp [errW_none, errW_some] <;> rfl) | (simp [*, errW_none, errW_some] <;> rfl), bl⟩
          · rw [if_neg c8] at H
            exact absurd H (by simp)
        · rw [if_neg c7] at H
          exact absurd H (by simp)
      · rw [if_neg c6] at H
        exact absurd H (by simp)
    · rw [if_neg c5] at H
      exact absurd H (by simp)
  · rw [if_neg c4] at H
    exact absurd H (by simp)

/-! ### slices_IndexFunc__impl_address_1: function 158 -/
def slices_IndexFunc__impl_address_1.l0 : Nat → List (List Int) → Int → Int → List (List (S91)) → List (S33) → Option (Int)
  | 0, _, _, _, _, _ => none
  | k + 1, x0, x7, x8, x502, x503 => if x8 < x7 then (if 0 ≤ x8 then (if x8 < (x0.length : Int) then ((impl_address_1_with.f (rd_L5 x0 x8) x502 x503).bind fun t415 => (if t415 = true then (some x8) else (slices_IndexFunc__impl_address_1.l0 k x0 x7 (wrap64 (x8 + 1)) x502 x503))) else (none)) else (none)) else (some (-1))
def slices_IndexFunc__impl_address_1.f (k : Nat) (l0 : List (List Int))  (l2 : List (List (S91))) (l3 : List (S33)) : Option (Int) := slices_IndexFunc__impl_address_1.l0 k l0 (l0.length : Int) 0 l2 l3
theorem slices_IndexFunc__impl_address_1.mono_l : ∀ k, (∀ y0 y1 y2 y3 y4, LeO (slices_IndexFunc__impl_address_1.l0 k y0 y1 y2 y3 y4) (slices_IndexFunc__impl_address_1.l0 (k + 1) y0 y1 y2 y3 y4))
  | 0 => fun _ _ _ _ _ r h => by simp [slices_IndexFunc__impl_address_1.l0] at h
  | k + 1 => by
    have ih0 := slices_IndexFunc__impl_address_1.mono_l k
    · intro y0 y1 y2 y3 y4
      unfold slices_IndexFunc__impl_address_1.l0
      repeat' first
      | (with_reducible exact ih0 _ _ _ _ _)
      | (with_reducible exact LeO.refl _)
      | (with_reducible exact LeO.none _)
      | (with_reducible refine LeO.ite ?_ ?_)
      | (with_reducible refine LeO.bind ?_ (fun _ => ?_))
      | exact ih0 _ _ _ _ _
      | exact LeO.none _
      | refine LeO.ite ?_ ?_
      | refine LeO.bind ?_ (fun _ => ?_)
theorem slices_IndexFunc__impl_address_1.mono : ∀ a0 a1 a2 k, LeO (slices_IndexFunc__impl_address_1.f k a0 a1 a2) (slices_IndexFunc__impl_address_1.f (k + 1) a0 a1 a2) := by
  intro a0 a1 a2 k
  have ih0 := slices_IndexFunc__impl_address_1.mono_l k
  unfold slices_IndexFunc__impl_address_1.f
  repeat' first
      | (with_reducible exact ih0 _ _ _ _ _)
      | (with_reducible exact LeO.refl _)
      | (with_reducible exact LeO.none _)
      | (with_reducible refine LeO.ite ?_ ?_)
      | (with_reducible refine LeO.bind ?_ (fun _ => ?_))
      | exact ih0 _ _ _ _ _
      | exact LeO.none _
      | refine LeO.ite ?_ ?_
      | refine LeO.bind ?_ (fun _ => ?_)
set_option maxHeartbeats 8000000 in
set_option maxRecDepth 100000 in
theorem slices_IndexFunc__impl_address_1.calls (k : Nat) (A0 : Option Addr) (c0 : Nat) (l0 : List (List Int))  (A2 : Option Addr) (c2 : Nat) (l2 : List (List (S91))) (A3 : Option Addr) (c3 : Nat) (l3 : List (S33)) (r : Int) (w : World) (hr0 : Kd.C (Kd.slice 3 (Kd.int .i64)) w A0 l0.length l0) (hc0 : l0.length ≤ c0) (hr2 : Kd.C (Kd.slice 91 k91) w A2 l2.length l2) (hc2 : l2.length ≤ c2) (hr3 : Kd.C k33 w A3 l3.length l3) (hc3 : l3.length ≤ c3) (h : slices_IndexFunc__impl_address_1.f k l0 l2 l3 = some r) :
    Calls Try.prog 158 #[.slice A0 l0.length c0, .func (.func 160) #[] #[.pointer A2, .pointer A3]] w fun e w' => e = .returned (.int .i64 r) ∧ Below w.heap.size w w' := by
  have HR0 := Aside0.mk hr0
  have HC0 := Aside0.mk hc0
  clear hr0 hc0
  have HR2 := Aside0.mk hr2
  have HC2 := Aside0.mk hc2
  clear hr2 hc2
  have HR3 := Aside0.mk hr3
  have HC3 := Aside0.mk hc3
  clear hr3 hc3
  have HB := Aside0.mk (Below.refl w.heap.size w)
  have H : (slices_IndexFunc__impl_address_1.l0 k l0 (l0.length : Int) 0 l2 l3) = some r := h
  clear h
  have H' := Aside0.mk H
  clear H
  go_enter Try.func158, Try.ntmps158
  go_wp2
  go_loopg [8] k (fun kq v8 w' => ∃ (x8_1 : Int), v8 = .int .i64 x8_1 ∧ Aside0 (slices_IndexFunc__impl_address_1.l0 kq l0 (l0.length : Int) x8_1 l2 l3 = some r) ∧ Aside0 (kq ≤ k) ∧ Aside0 (Below w.heap.size w w'))
  case atStart => exact ⟨(0), (by first | rfl | (simp; done) | (simp [*]; done)), H', ⟨Nat.le_refl _⟩, ⟨bl⟩⟩
  case round =>
    clear H'
    try clear c2
    try clear p2
    try clear c3
    obtain ⟨x8_1, rfl, HA, HK1, HB⟩ := hrel
    cases gk with
    | zero => exact absurd HA.out (by simp [slices_IndexFunc__impl_address_1.l0])
    | succ k1 =>
      have H := HA.out
      clear HA
      simp only [slices_IndexFunc__impl_address_1.l0] at H
      by_cases c5 : x8_1 < (l0.length : Int)
      · rw [if_pos c5] at H
        have c5b0 : decide (x8_1 < (l0.length : Int)) = true := decide_eq_true c5
        clear c5
        by_cases c6 : 0 ≤ x8_1
        · rw [if_pos c6] at H
          have c6b0 : decide (0 ≤ x8_1) = true := decide_eq_true c6
          clear c6
          by_cases c7 : x8_1 < (l0.length : Int)
          · rw [if_pos c7] at H
            have c7b0 : decide (x8_1 < (l0.length : Int)) = true := decide_eq_true c7
            clear c7
            replace H := Option.bind_eq_some_iff.mp H
            obtain ⟨t415, A80, H⟩ := H
            replace H : (if t415 = true then (some x8_1) else (slices_IndexFunc__impl_address_1.l0 k1 l0 (l0.length : Int) (wrap64 (x8_1 + 1)) l2 l3)) = some r := H
            have A8 := Aside0.mk A80
            clear A80
            by_cases c9 : t415 = true
            · subst c9
              have H1 : (some x8_1) = some r := by rw [if_pos rfl] at H; exact H
              clear H
              have H := H1
              clear H1
              obtain rfl := Option.some.inj H
              have p414 : 0 ≤ (x8_1 : Int) := of_decide_eq_true (by first | (with_reducible assumption) | assumption)
              have q414 : x8_1 < (l0.length : Int) := of_decide_eq_true (by first | (with_reducible assumption) | assumption)
              obtain ⟨ad414, A414_0, c414_0, e414, hx414_0, hl414_0, hi414_0⟩ := at_L5 HR0.out x8_1 p414 q414
              cases e414
              replace hx414_0 := (HB.out.cell (World.block_lt_of_cell? w _ hx414_0)).trans hx414_0
              have HR414_0 := Aside0.mk hi414_0
              have HC414_0 := Aside0.mk hl414_0
              clear hi414_0 hl414_0
              replace p414 := eq_true p414
              replace q414 := eq_true q414
              go_wp2_with (first | ((with_reducible refine gate_value (t := 11) rfl ?_); refine goesV_ (t := 11) (f := 160) rfl (some 16) rfl rfl Try.func160 (by kernel_rfl) rfl #[.slice A414_0 (rd_L5 l0 x8_1).length c414_0, .pointer A2, .pointer A3] rfl (by (try simp only [List.map_toArray, List.map_cons, List.map_nil]); first | done | rfl | (simp only [List.length_drop, List.length_take]; rfl)) ?_; (with_reducible refine (impl_address_1_with.calls _ _ (rd_L5 l0 x8_1) _ c2 l2 _ c3 l3 true _ ?side1 ?side2 ?side3 ?side4 ?side5 ?side6 A8.out).mono ?_); (case side1 => repeat (first | exact (Kd.C_below HR414_0.out HB.out) | (with_reducible refine Kd.C_alloc ?_ _) | (with_reducible refine Kd.C_drewN ?_ _) | (with_reducible refine Kd.C_drew ?_))); (case side2 => exact HC414_0.out); (case side3 => repeat (first | exact (Kd.C_below HR2.out HB.out) | (with_reducible refine Kd.C_alloc ?_ _) | (with_reducible refine Kd.C_drewN ?_ _) | (with_reducible refine Kd.C_drew ?_))); (case side4 => exact HC2.out); (case side5 => repeat (first | exact (Kd.C_below HR3.out HB.out) | (with_reducible refine Kd.C_alloc ?_ _) | (with_reducible refine Kd.C_drewN ?_ _) | (with_reducible refine Kd.C_drew ?_))); (case side6 => exact HC3.out); rintro e w10 ⟨rfl, hb⟩; refine ⟨_, rfl, ?_⟩; replace HB := Aside0.mk (bs hb); (try clear hb); (try clear hb2); (try clear hk); (try clear hi)))
              go_ret
              exact ⟨by first | rfl | (simp [errW_none, errW_some] <;> rfl) | (simp [*, errW_none, errW_some] <;> rfl), bl⟩
            · replace c9 := Bool.eq_false_iff.mpr c9
              subst c9
              have H1 : (slices_IndexFunc__impl_address_1.l0 k1 l0 (l0.length : Int) (wrap64 (x8_1 + 1)) l2 l3) = some r := by rw [if_neg (show ¬ (false = true) by decide)] at H; exact H
              clear H
              have H := H1
              clear H1
              have H' := Aside0.mk H
              clear H
              have p414 : 0 ≤ (x8_1 : Int) := of_decide_eq_true (by first | (with_reducible assumption) | assumption)
              have q414 : x8_1 < (l0.length : Int) := of_decide_eq_true (by first | (with_reducible assumption) | assumption)
              obtain ⟨ad414, A414_0, c414_0, e414, hx414_0, hl414_0, hi414_0⟩ := at_L5 HR0.out x8_1 p414 q414
              cases e414
              replace hx414_0 := (HB.out.cell (World.block_lt_of_cell? w _ hx414_0)).trans hx414_0
              have HR414_0 := Aside0.mk hi414_0
              have HC414_0 := Aside0.mk hl414_0
              clear hi414_0 hl414_0
              replace p414 := eq_true p414
              replace q414 := eq_true q414
              go_wp2_with (first | ((with_reducible refine gate_value (t := 11) rfl ?_); refine goesV_ (t := 11) (f := 160) rfl (some 16) rfl rfl Try.func160 (by kernel_rfl) rfl #[.slice A414_0 (rd_L5 l0 x8_1).length c414_0, .pointer A2, .pointer A3] rfl (by (try simp only [List.map_toArray, List.map_cons, List.map_nil]); first | done | rfl | (simp only [List.length_drop, List.length_take]; rfl)) ?_; (with_reducible refine (impl_address_1_with.calls _ _ (rd_L5 l0 x8_1) _ c2 l2 _ c3 l3 false _ ?side1 ?side2 ?side3 ?side4 ?side5 ?side6 A8.out).mono ?_); (case side1 => repeat (first | exact (Kd.C_below HR414_0.out HB.out) | (with_reducible refine Kd.C_alloc ?_ _) | (with_reducible refine Kd.C_drewN ?_ _) | (with_reducible refine Kd.C_drew ?_))); (case side2 => exact HC414_0.out); (case side3 => repeat (first | exact (Kd.C_below HR2.out HB.out) | (with_reducible refine Kd.C_alloc ?_ _) | (with_reducible refine Kd.C_drewN ?_ _) | (with_reducible refine Kd.C_drew ?_))); (case side4 => exact HC2.out); (case side5 => repeat (first | exact (Kd.C_below HR3.out HB.out) | (with_reducible refine Kd.C_alloc ?_ _) | (with_reducible refine Kd.C_drewN ?_ _) | (with_reducible refine Kd.C_drew ?_))); (case side6 => exact HC3.out); rintro e w11 ⟨rfl, hb⟩; refine ⟨_, rfl, ?_⟩; replace HB := Aside0.mk (bs hb); (try clear hb); (try clear hb2); (try clear hk); (try clear hi)))
              go_roundg k1
              case measure => have := HK1.out; omega
              case rel => exact ⟨(wrap64 (x8_1 + 1)), (by first | rfl | (simp; done) | (simp [*]; done)), H', ⟨by have := HK1.out; omega⟩, ⟨bl⟩⟩
          · rw [if_neg c7] at H
            exact absurd H (by simp)
        · rw [if_neg c6] at H
          exact absurd H (by simp)
      · rw [if_neg c5] at H
        have c5b0 : decide (x8_1 < (l0.length : Int)) = false := decide_eq_false c5
        clear c5
        obtain rfl := Option.some.inj H
        go_wp2
        go_ret
        exact ⟨by first | rfl | (simp [errW_none, errW_some] <;> rfl) | (simp [*, errW_none, errW_some] <;> rfl), bl⟩

/-! ### impl_address: function 112 -/
def impl_address.f (k : Nat) (l0 : List (S91)) (a1_0 : Int) (a1_1 : Int) : Option (Int) := (impl_laps.f k l0).bind fun t418 => ((slices_IndexFunc__impl_address_1.f k t418 [l0] [(⟨a1_0, a1_1⟩ : S33)]).bind fun t421 => (some t421))
theorem impl_address.mono : ∀ a0 a1 a2 k, LeO (impl_address.f k a0 a1 a2) (impl_address.f (k + 1) a0 a1 a2) := by
  intro a0 a1 a2 k
  unfold impl_address.f
  repeat' first
      | (with_reducible exact impl_laps.mono _ _)
      | (with_reducible exact slices_IndexFunc__impl_address_1.mono _ _ _ _)
      | (with_reducible exact LeO.refl _)
      | (with_reducible exact LeO.none _)
      | (with_reducible refine LeO.ite ?_ ?_)
      | (with_reducible refine LeO.bind ?_ (fun _ => ?_))
      | exact impl_laps.mono _ _
      | exact slices_IndexFunc__impl_address_1.mono _ _ _ _
      | exact LeO.none _
      | refine LeO.ite ?_ ?_
      | refine LeO.bind ?_ (fun _ => ?_)
set_option maxHeartbeats 8000000 in
set_option maxRecDepth 100000 in
theorem impl_address.calls (k : Nat) (A0 : Option Addr) (c0 : Nat) (l0 : List (S91)) (a1_0 : Int) (a1_1 : Int) (r : Int) (w : World) (hr0 : Kd.C k91 w A0 l0.length l0) (hc0 : l0.length ≤ c0) (h : impl_address.f k l0 a1_0 a1_1 = some r) :
    Calls Try.prog 112 #[.slice A0 l0.length c0, .agg #[.int .i64 a1_0, .int .i64 a1_1]] w fun e w' => e = .returned (.int .i64 r) ∧ Below w.heap.size w w' := by
  have hu33 := Try.underlying33
  have HR0 := Aside0.mk hr0
  have HC0 := Aside0.mk hc0
  clear hr0 hc0
  have HB := Aside0.mk (Below.refl w.heap.size w)
  have H : ((impl_laps.f k l0).bind fun t418 => ((slices_IndexFunc__impl_address_1.f k t418 [l0] [(⟨a1_0, a1_1⟩ : S33)]).bind fun t421 => (some t421))) = some r := h
  clear h
  replace H := Option.bind_eq_some_iff.mp H
  obtain ⟨t418, A30, H⟩ := H
  replace H : ((slices_IndexFunc__impl_address_1.f k t418 [l0] [(⟨a1_0, a1_1⟩ : S33)]).bind fun t421 => (some t421)) = some r := H
  have A3 := Aside0.mk A30
  clear A30
  replace H := Option.bind_eq_some_iff.mp H
  obtain ⟨t421, A40, H⟩ := H
  replace H : (some t421) = some r := H
  have A4 := Aside0.mk A40
  clear A40
  obtain rfl := Option.some.inj H
  go_enter Try.func112, Try.ntmps112
  go_wp2_with (first | ((with_reducible refine gate_dst (N := 2) rfl ?_); refine box_event ?hg (N := 2) ?hd (cs := #[.slice A0 l0.length c0]) (t := 30) ?hr ?_; (case hd => rfl); (case hg => rfl); (case hr => first | (go_simp; done) | (go_simp; rfl)); intro gb416 hg w5 hbox hb; have BK416 := Aside0.mk (hbox); have GW416 := Aside0.mk (bz hg); have GE416 := GW416; replace HB := Aside0.mk (bs hb); clear hb hbox hg) | ((with_reducible refine gate_dst (N := 3) rfl ?_); refine box_event ?hg (N := 3) ?hd (cs := #[.int .i64 a1_0, .int .i64 a1_1]) (t := 33) ?hr ?_; (case hd => rfl); (case hg => rfl); (case hr => first | (go_simp; done) | (go_simp; rfl)); intro gb417 hg w6 hbox hb; have BK417 := Aside0.mk (hbox); have GW417 := Aside0.mk (bz hg); have GE417 := GW417; have NB416_417 := Aside0.mk (bn gb416 hg); have NB417_416 := Aside0.mk NB416_417.out.symm; replace BK416 := Aside0.mk (bb gb416 hb); replace HB := Aside0.mk (bs hb); clear hb hbox hg; have hnb7 := NB416_417.out; have hnc7 := NB417_416.out; have hcz8_0 : w6.cell? ⟨gb416, 0, none⟩ = some (.slice A0 l0.length c0) := (blk_cell BK416.out 0).trans rfl; have hfz8_0 := blk_frozen BK416.out 0) | ((with_reducible refine gate_callee (f := 159) rfl ?_); refine goesL_ (some 6) rfl rfl Try.func159 (by kernel_rfl) rfl #[.slice A0 l0.length c0] rfl (by (try simp only [List.map_toArray, List.map_cons, List.map_nil]); first | done | rfl | (simp only [List.length_drop, List.length_take]; rfl)) ?_; (with_reducible refine (impl_laps.calls k _ _ l0 t418 _ ?side1 ?side2 A3.out).mono ?_); (case side1 => repeat (first | exact (Kd.C_below HR0.out HB.out) | (with_reducible refine Kd.C_alloc ?_ _) | (with_reducible refine Kd.C_drewN ?_ _) | (with_reducible refine Kd.C_drew ?_))); (case side2 => exact HC0.out); rintro e w9 ⟨v419, rfl, ho0, hb⟩; refine ⟨_, rfl, ?_⟩; have HO420 := Aside0.mk (Kd.S_lower ho0 (below_size bl)); replace BK416 := Aside0.mk (bb gb416 hb); replace BK417 := Aside0.mk (bb gb417 hb); replace HB := Aside0.mk (bs hb); (try clear hb); (try clear hb2); (try clear hk); (try clear hi); (try clear ho0); obtain ⟨Ao10, co10, eo10⟩ := Kd.S_slice HO420.out; subst eo10) | ((with_reducible refine gate_callee (f := 158) rfl ?_); refine goesL_ (some 8) rfl rfl Try.func158 (by kernel_rfl) rfl #[.slice Ao10 t418.length co10, .func (.func 160) #[] #[.pointer (some ⟨gb416, 0, none⟩), .pointer (some ⟨gb417, 0, none⟩)]] rfl (by (try simp only [List.map_toArray, List.map_cons, List.map_nil]); first | done | rfl | (simp only [List.length_drop, List.length_take]; rfl)) ?_; (with_reducible refine (slices_IndexFunc__impl_address_1.calls k _ _ t418  _ 1 [l0] _ 1 [(⟨a1_0, a1_1⟩ : S33)] t421 _ ?side1 ?side2 ?side3 ?side4 ?side5 ?side6 A4.out).mono ?_); (case side1 => repeat (first | exact (Kd.S_reads' HO420.out).2.2 | (with_reducible refine Kd.C_alloc ?_ _) | (with_reducible refine Kd.C_drewN ?_ _) | (with_reducible refine Kd.C_drew ?_))); (case side2 => exact (Kd.S_reads' HO420.out).2.1); (case side3 => exact capC (t := 30) (d := (Kd.slice 91 k91)) (cs := [.slice A0 l0.length c0]) (x := l0) (bo gb416) (⟨_, _, rfl, (by exact HC0.out), (by repeat (first | exact (Kd.C_below HR0.out HB.out) | (with_reducible refine Kd.C_alloc ?_ _) | (with_reducible refine Kd.C_drewN ?_ _) | (with_reducible refine Kd.C_drew ?_)))⟩)); (case side4 => exact Nat.le_refl _); (case side5 => exact capC (t := 33) (d := k33) (cs := [.int .i64 a1_0, .int .i64 a1_1]) (x := (⟨a1_0, a1_1⟩ : S33)) (bo gb417) (k33_mk _ _)); (case side6 => exact Nat.le_refl _); rintro e w11 ⟨rfl, hb⟩; refine ⟨_, rfl, ?_⟩; replace HO420 := Aside0.mk (Kd.S_below (by (with_reducible repeat (first | apply Kd.S_alloc | apply Kd.S_drewN | apply Kd.S_drew)); exact HO420.out) hb); replace BK416 := Aside0.mk (bb gb416 hb); replace BK417 := Aside0.mk (bb gb417 hb); replace HB := Aside0.mk (bs hb); (try clear hb); (try clear hb2); (try clear hk); (try clear hi)))
  go_ret
  exact ⟨by first | rfl | (simp [errW_none, errW_some] <;> rfl) | (simp [*, errW_none, errW_some] <;> rfl), bl⟩

/-! ### impl_AddressOf: function 45 -/
def impl_AddressOf.f (k : Nat) (l0 : List (S91)) (a1_0 : Int) (a1_1 : Int) : Option (Int × Bool) := (impl_isLapMap.f k l0).bind fun t423 => (if t423 = true then ((impl_isUnit.f k a1_0 a1_1).bind fun t424 => (if t424 = true then ((impl_address.f k l0 a1_0 a1_1).bind fun t425 => (some (t425, true))) else (some (0, false)))) else (some (0, false)))
theorem impl_AddressOf.mono : ∀ a0 a1 a2 k, LeO (impl_AddressOf.f k a0 a1 a2) (impl_AddressOf.f (k + 1) a0 a1 a2) := by
  intro a0 a1 a2 k
  unfold impl_AddressOf.f
  repeat' first
      | (with_reducible exact impl_address.mono _ _ _ _)
      | (with_reducible exact impl_isLapMap.mono _ _)
      | (with_reducible exact impl_isUnit.mono _ _ _)
      | (with_reducible exact LeO.refl _)
      | (with_reducible exact LeO.none _)
      | (with_reducible refine LeO.ite ?_ ?_)
      | (with_reducible refine LeO.bind ?_ (fun _ => ?_))
      | exact impl_address.mono _ _ _ _
      | exact impl_isLapMap.mono _ _
      | exact impl_isUnit.mono _ _ _
      | exact LeO.none _
      | refine LeO.ite ?_ ?_
      | refine LeO.bind ?_ (fun _ => ?_)
set_option maxHeartbeats 8000000 in
set_option maxRecDepth 100000 in
theorem impl_AddressOf.calls (k : Nat) (A0 : Option Addr) (c0 : Nat) (l0 : List (S91)) (a1_0 : Int) (a1_1 : Int) (r1 : Int) (r2 : Bool) (w : World) (hr0 : Kd.C k91 w A0 l0.length l0) (hc0 : l0.length ≤ c0) (h : impl_AddressOf.f k l0 a1_0 a1_1 = some (r1, r2)) :
    Calls Try.prog 45 #[.slice A0 l0.length c0, .agg #[.int .i64 a1_0, .int .i64 a1_1]] w fun e w' => e = .returned (.tuple #[.int .i64 r1, .bool r2]) ∧ Below w.heap.size w w' := by
  have hu33 := Try.underlying33
  have HR0 := Aside0.mk hr0
  have HC0 := Aside0.mk hc0
  clear hr0 hc0
  have HB := Aside0.mk (Below.refl w.heap.size w)
  have H : ((impl_isLapMap.f k l0).bind fun t423 => (if t423 = true then ((impl_isUnit.f k a1_0 a1_1).bind fun t424 => (if t424 = true then ((impl_address.f k l0 a1_0 a1_1).bind fun t425 => (some (t425, true))) else (some (0, false)))) else (some (0, false)))) = some (r1, r2) := h
  clear h
  replace H := Option.bind_eq_some_iff.mp H
  obtain ⟨t423, A30, H⟩ := H
  replace H : (if t423 = true then ((impl_isUnit.f k a1_0 a1_1).bind fun t424 => (if t424 = true then ((impl_address.f k l0 a1_0 a1_1).bind fun t425 => (some (t425, true))) else (some (0, false)))) else (some (0, false))) = some (r1, r2) := H
  have A3 := Aside0.mk A30
  clear A30
  by_cases c4 : t423 = true
  · subst c4
    have H1 : ((impl_isUnit.f k a1_0 a1_1).bind fun t424 => (if t424 = true then ((impl_address.f k l0 a1_0 a1_1).bind fun t425 => (some (t425, true))) else (some (0, false)))) = some (r1, r2) := by rw [if_pos rfl] at H; exact H
    clear H
    have H := H1
    clear H1
    replace H := Option.bind_eq_some_iff.mp H
    obtain ⟨t424, A50, H⟩ := H
    replace H : (if t424 = true then ((impl_address.f k l0 a1_0 a1_1).bind fun t425 => (some (t425, true))) else (some (0, false))) = some (r1, r2) := H
    have A5 := Aside0.mk A50
    clear A50
    by_cases c6 : t424 = true
    · subst c6
      have H1 : ((impl_address.f k l0 a1_0 a1_1).bind fun t425 => (some (t425, true))) = some (r1, r2) := by rw [if_pos rfl] at H; exact H
      clear H
      have H := H1
      clear H1
      replace H := Option.bind_eq_some_iff.mp H
      obtain ⟨t425, A70, H⟩ := H
      replace H : (some (t425, true)) = some (r1, r2) := H
      have A7 := Aside0.mk A70
      clear A70
      simp only [Option.some.injEq, Prod.mk.injEq] at H
      obtain ⟨rfl, rfl⟩ := H
      go_enter Try.func45, Try.ntmps45
      go_wp2_with (first | ((with_reducible refine gate_dst (N := 3) rfl ?_); refine box_event ?hg (N := 3) ?hd (cs := #[.int .i64 a1_0, .int .i64 a1_1]) (t := 33) ?hr ?_; (case hd => rfl); (case hg => rfl); (case hr => first | (go_simp; done) | (go_simp; rfl)); intro gb422 hg w8 hbox hb; have BK422 := Aside0.mk (hbox); have GW422 := Aside0.mk (bz hg); have GE422 := GW422; replace HB := Aside0.mk (bs hb); clear hb hbox hg) | ((with_reducible refine gate_callee (f := 108) rfl ?_); refine goesL_ (some 7) rfl rfl Try.func108 (by kernel_rfl) rfl #[.slice A0 l0.length c0] rfl (by (try simp only [List.map_toArray, List.map_cons, List.map_nil]); first | done | rfl | (simp only [List.length_drop, List.length_take]; rfl)) ?_; (with_reducible refine (impl_isLapMap.calls k _ _ l0 true _ ?side1 ?side2 A3.out).mono ?_); (case side1 => repeat (first | exact (Kd.C_below HR0.out HB.out) | (with_reducible refine Kd.C_alloc ?_ _) | (with_reducible refine Kd.C_drewN ?_ _) | (with_reducible refine Kd.C_drew ?_))); (case side2 => exact HC0.out); rintro e w9 ⟨rfl, hb⟩; refine ⟨_, rfl, ?_⟩; replace BK422 := Aside0.mk (bb gb422 hb); replace HB := Aside0.mk (bs hb); (try clear hb); (try clear hb2); (try clear hk); (try clear hi); have hcz10_0 : w9.cell? ⟨gb422, 0, none⟩ = some (.int .i64 a1_0) := (blk_cell BK422.out 0).trans rfl; have hcz10_1 : w9.cell? ⟨gb422, 1, none⟩ = some (.int .i64 a1_1) := (blk_cell BK422.out 1).trans rfl; have hfz10_0 := blk_frozen BK422.out 0; have hfz10_1 := blk_frozen BK422.out 1) | (go_at_call 111; (with_reducible refine (impl_isUnit.calls k a1_0 a1_1 true _ A5.out).mono ?_); rintro e w11 ⟨rfl, hb⟩; replace BK422 := Aside0.mk (bb gb422 hb); replace HB := Aside0.mk (bs hb); (try clear hb); (try clear hb2); (try clear hk); (try clear hi); have hcz12_0 : w11.cell? ⟨gb422, 0, none⟩ = some (.int .i64 a1_0) := (blk_cell BK422.out 0).trans rfl; have hcz12_1 : w11.cell? ⟨gb422, 1, none⟩ = some (.int .i64 a1_1) := (blk_cell BK422.out 1).trans rfl; have hfz12_0 := blk_frozen BK422.out 0; have hfz12_1 := blk_frozen BK422.out 1) | ((with_reducible refine gate_callee (f := 112) rfl ?_); refine goesL_ (some 16) rfl rfl Try.func112 (by kernel_rfl) rfl #[.slice A0 l0.length c0, .agg #[.int .i64 a1_0, .int .i64 a1_1]] rfl (by (try simp only [List.map_toArray, List.map_cons, List.map_nil]); first | done | rfl | (simp only [List.length_drop, List.length_take]; rfl)) ?_; (with_reducible refine (impl_address.calls k _ _ l0 a1_0 a1_1 t425 _ ?side1 ?side2 A7.out).mono ?_); (case side1 => repeat (first | exact (Kd.C_below HR0.out HB.out) | (with_reducible refine Kd.C_alloc ?_ _) | (with_reducible refine Kd.C_drewN ?_ _) | (with_reducible refine Kd.C_drew ?_))); (case side2 => exact HC0.out); rintro e w13 ⟨rfl, hb⟩; refine ⟨_, rfl, ?_⟩; replace BK422 := Aside0.mk (bb gb422 hb); replace HB := Aside0.mk (bs hb); (try clear hb); (try clear hb2); (try clear hk); (try clear hi)))
      go_ret2
      exact ⟨by first | rfl | (simp [errW_none, errW_some] <;> rfl) | (simp [*, errW_none, errW_some] <;> rfl), bl⟩
    · replace c6 := Bool.eq_false_iff.mpr c6
      subst c6
      have H1 : (some (0, false)) = some (r1, r2) := by rw [if_neg (show ¬ (false = true) by decide)] at H; exact H
      clear H
      have H := H1
      clear H1
      simp only [Option.some.injEq, Prod.mk.injEq] at H
      obtain ⟨rfl, rfl⟩ := H
      go_enter Try.func45, Try.ntmps45
      go_wp2_with (first | ((with_reducible refine gate_dst (N := 3) rfl ?_); refine box_event ?hg (N := 3) ?hd (cs := #[.int .i64 a1_0, .int .i64 a1_1]) (t := 33) ?hr ?_; (case hd => rfl); (case hg => rfl); (case hr => first | (go_simp; done) | (go_simp; rfl)); intro gb422 hg w14 hbox hb; have BK422 := Aside0.mk (hbox); have GW422 := Aside0.mk (bz hg); have GE422 := GW422; replace HB := Aside0.mk (bs hb); clear hb hbox hg) | ((with_reducible refine gate_callee (f := 108) rfl ?_); refine goesL_ (some 7) rfl rfl Try.func108 (by kernel_rfl) rfl #[.slice A0 l0.length c0] rfl (by (try simp only [List.map_toArray, List.map_cons, List.map_nil]); first | done | rfl | (simp only [List.length_drop, List.length_take]; rfl)) ?_; (with_reducible refine (impl_isLapMap.calls k _ _ l0 true _ ?side1 ?side2 A3.out).mono ?_); (case side1 => repeat (first | exact (Kd.C_below HR0.out HB.out) | (with_reducible refine Kd.C_alloc ?_ _) | (with_reducible refine Kd.C_drewN ?_ _) | (with_reducible refine Kd.C_drew ?_))); (case side2 => exact HC0.out); rintro e w15 ⟨rfl, hb⟩; refine ⟨_, rfl, ?_⟩; replace BK422 := Aside0.mk (bb gb422 hb); replace HB := Aside0.mk (bs hb); (try clear hb); (try clear hb2); (try clear hk); (try clear hi); have hcz16_0 : w15.cell? ⟨gb422, 0, none⟩ = some (.int .i64 a1_0) := (blk_cell BK422.out 0).trans rfl; have hcz16_1 : w15.cell? ⟨gb422, 1, none⟩ = some (.int .i64 a1_1) := (blk_cell BK422.out 1).trans rfl; have hfz16_0 := blk_frozen BK422.out 0; have hfz16_1 := blk_frozen BK422.out 1) | (go_at_call 111; (with_reducible refine (impl_isUnit.calls k a1_0 a1_1 false _ A5.out).mono ?_); rintro e w17 ⟨rfl, hb⟩; replace BK422 := Aside0.mk (bb gb422 hb); replace HB := Aside0.mk (bs hb); (try clear hb); (try clear hb2); (try clear hk); (try clear hi)))
      go_ret2
      exact ⟨by first | rfl | (simp [errW_none, errW_some] <;> rfl) | (simp [*, errW_none, errW_some] <;> rfl), bl⟩
  · replace c4 := Bool.eq_false_iff.mpr c4
    subst c4
    have H1 : (some (0, false)) = some (r1, r2) := by rw [if_neg (show ¬ (false = true) by decide)] at H; exact H
    clear H
    have H := H1
    clear H1
    simp only [Option.some.injEq, Prod.mk.injEq] at H
    obtain ⟨rfl, rfl⟩ := H
    go_enter Try.func45, Try.ntmps45
    go_wp2_with (first | ((with_reducible refine gate_dst (N := 3) rfl ?_); refine box_event ?hg (N := 3) ?hd (cs := #[.int .i64 a1_0, .int .i64 a1_1]) (t := 33) ?hr ?_; (case hd => rfl); (case hg => rfl); (case hr => first | (go_simp; done) | (go_simp; rfl)); intro gb422 hg w18 hbox hb; have BK422 := Aside0.mk (hbox); have GW422 := Aside0.mk (bz hg); have GE422 := GW422; replace HB := Aside0.mk (bs hb); clear hb hbox hg) | ((with_reducible refine gate_callee (f := 108) rfl ?_); refine goesL_ (some 7) rfl rfl Try.func108 (by kernel_rfl) rfl #[.slice A0 l0.length c0] rfl (by (try simp only [List.map_toArray, List.map_cons, List.map_nil]); first | done | rfl | (simp only [List.length_drop, List.length_take]; rfl)) ?_; (with_reducible refine (impl_isLapMap.calls k _ _ l0 false _ ?side1 ?side2 A3.out).mono ?_); (case side1 => repeat (first | exact (Kd.C_below HR0.out HB.out) | (with_reducible refine Kd.C_alloc ?_ _) | (with_reducible refine Kd.C_drewN ?_ _) | (with_reducible refine Kd.C_drew ?_))); (case side2 => exact HC0.out); rintro e w19 ⟨rfl, hb⟩; refine ⟨_, rfl, ?_⟩; replace BK422 := Aside0.mk (bb gb422 hb); replace HB := Aside0.mk (bs hb); (try clear hb); (try clear hb2); (try clear hk); (try clear hi)))
    go_ret2
    exact ⟨by first | rfl | (simp [errW_none, errW_some] <;> rfl) | (simp [*, errW_none, errW_some] <;> rfl), bl⟩

/-! ### laws_FnExactAddressOf: function 10 -/
def laws_FnExactAddressOf.j0 : Nat → List (S115) → List (S91) → Bool → Option (Bool)
  | 0, _, _, _ => none
  | k + 1, x0, x8, x40 => if x40 = true then (some false) else ((laws_toPointS.f k x0).bind fun t442 => ((laws_eqPointS.f k x8 t442).bind fun t445 => (if t445 = true then (some true) else (some false))))
def laws_FnExactAddressOf.f (k : Nat) (l0 : List (S115)) (a1_0 : Int) (a1_1 : Int) : Option (Bool) := (laws_szPointS.f l0 1048576).bind fun t427 => (if t427 < 0 then (some true) else ((laws_toPointS.f k l0).bind fun t428 => ((laws_toRat.f a1_0 a1_1).bind fun bt431 => ((spec_AddressOf.f k t428 bt431.1 bt431.2).bind fun bt433 => ((laws_toPointS.f k l0).bind fun t435 => ((laws_toRat.f a1_0 a1_1).bind fun bt438 => ((impl_AddressOf.f k t435 bt438.1 bt438.2).bind fun bt440 => (if bt440.1 = bt433.1 then (laws_FnExactAddressOf.j0 k l0 t435 (bt440.2 != bt433.2)) else (laws_FnExactAddressOf.j0 k l0 t435 true)))))))))
theorem laws_FnExactAddressOf.mono_l : ∀ k, (∀ y0 y1 y2, LeO (laws_FnExactAddressOf.j0 k y0 y1 y2) (laws_FnExactAddressOf.j0 (k + 1) y0 y1 y2))
  | 0 => fun _ _ _ r h => by simp [laws_FnExactAddressOf.j0] at h
  | k + 1 => by
    have ih0 := laws_FnExactAddressOf.mono_l k
    · intro y0 y1 y2
      unfold laws_FnExactAddressOf.j0
      repeat' first
      | (with_reducible exact ih0 _ _ _)
      | (with_reducible exact impl_AddressOf.mono _ _ _ _)
      | (with_reducible exact laws_eqPointS.mono _ _ _)
      | (with_reducible exact laws_toPointS.mono _ _)
      | (with_reducible exact spec_AddressOf.mono _ _ _ _)
      | (with_reducible exact LeO.refl _)
      | (with_reducible exact LeO.none _)
      | (with_reducible refine LeO.ite ?_ ?_)
      | (with_reducible refine LeO.bind ?_ (fun _ => ?_))
      | exact ih0 _ _ _
      | exact impl_AddressOf.mono _ _ _ _
      | exact laws_eqPointS.mono _ _ _
      | exact laws_toPointS.mono _ _
      | exact spec_AddressOf.mono _ _ _ _
      | exact LeO.none _
      | refine LeO.ite ?_ ?_
      | refine LeO.bind ?_ (fun _ => ?_)
theorem laws_FnExactAddressOf.mono : ∀ a0 a1 a2 k, LeO (laws_FnExactAddressOf.f k a0 a1 a2) (laws_FnExactAddressOf.f (k + 1) a0 a1 a2) := by
  intro a0 a1 a2 k
  have ih0 := laws_FnExactAddressOf.mono_l k
  unfold laws_FnExactAddressOf.f
  repeat' first
      | (with_reducible exact ih0 _ _ _)
      | (with_reducible exact impl_AddressOf.mono _ _ _ _)
      | (with_reducible exact laws_eqPointS.mono _ _ _)
      | (with_reducible exact laws_toPointS.mono _ _)
      | (with_reducible exact spec_AddressOf.mono _ _ _ _)
      | (with_reducible exact LeO.refl _)
      | (with_reducible exact LeO.none _)
      | (with_reducible refine LeO.ite ?_ ?_)
      | (with_reducible refine LeO.bind ?_ (fun _ => ?_))
      | exact ih0 _ _ _
      | exact impl_AddressOf.mono _ _ _ _
      | exact laws_eqPointS.mono _ _ _
      | exact laws_toPointS.mono _ _
      | exact spec_AddressOf.mono _ _ _ _
      | exact LeO.none _
      | refine LeO.ite ?_ ?_
      | refine LeO.bind ?_ (fun _ => ?_)
def laws_FnExactAddressOf.T5 : Bool × List (List Nat × List Nat) := (true, [([], []), ([0], [0]), ([], []), ([2, 1], [2]), ([1, 3, 3], [1, 3]), ([4], [4]), ([5], [5]), ([5], [5]), ([6, 4, 0, 1, 2, 3, 4, 5, 6], [6]), ([7, 8, 0, 1, 2, 3, 4, 5, 6, 7, 8], [7])])
def laws_FnExactAddressOf.B5 : List Nat := [0, 1, 0, 7, 15, 31, 63, 63, 127, 511]
theorem laws_FnExactAddressOf.tab5 : rtab .any (opsOf Try.f10 5) = laws_FnExactAddressOf.T5 := by kernel_rfl
theorem laws_FnExactAddressOf.bits5 : waitsOk laws_FnExactAddressOf.T5.2 laws_FnExactAddressOf.B5 = true := by kernel_rfl
set_option maxHeartbeats 8000000 in
set_option maxRecDepth 100000 in
theorem laws_FnExactAddressOf.calls (k : Nat) (A0 : Option Addr) (c0 : Nat) (l0 : List (S115)) (a1_0 : Int) (a1_1 : Int) (r : Bool) (w : World) (hr0 : Kd.C k115 w A0 l0.length l0) (hc0 : l0.length ≤ c0) (h : laws_FnExactAddressOf.f k l0 a1_0 a1_1 = some r) :
    Calls Try.prog 10 #[.slice A0 l0.length c0, .agg #[.int .i64 a1_0, .int .i64 a1_1]] w fun e w' => e = .returned (.bool r) ∧ Below w.heap.size w w' := by
  have hu29 := Try.underlying29
  have HR0 := Aside0.mk hr0
  have HC0 := Aside0.mk hc0
  clear hr0 hc0
  have HB := Aside0.mk (Below.refl w.heap.size w)
  have H : ((laws_szPointS.f l0 1048576).bind fun t427 => (if t427 < 0 then (some true) else ((laws_toPointS.f k l0).bind fun t428 => ((laws_toRat.f a1_0 a1_1).bind fun bt431 => ((spec_AddressOf.f k t428 bt431.1 bt431.2).bind fun bt433 => ((laws_toPointS.f k l0).bind fun t435 => ((laws_toRat.f a1_0 a1_1).bind fun bt438 => ((impl_AddressOf.f k t435 bt438.1 bt438.2).bind fun bt440 => (if bt440.1 = bt433.1 then (laws_FnExactAddressOf.j0 k l0 t435 (bt440.2 != bt433.2)) else (laws_FnExactAddressOf.j0 k l0 t435 true)))))))))) = some r := h
  clear h
  replace H := Option.bind_eq_some_iff.mp H
  obtain ⟨t427, A30, H⟩ := H
  replace H : (if t427 < 0 then (some true) else ((laws_toPointS.f k l0).bind fun t428 => ((laws_toRat.f a1_0 a1_1).bind fun bt431 => ((spec_AddressOf.f k t428 bt431.1 bt431.2).bind fun bt433 => ((laws_toPointS.f k l0).bind fun t435 => ((laws_toRat.f a1_0 a1_1).bind fun bt438 => ((impl_AddressOf.f k t435 bt438.1 bt438.2).bind fun bt440 => (if bt440.1 = bt433.1 then (laws_FnExactAddressOf.j0 k l0 t435 (bt440.2 != bt433.2)) else (laws_FnExactAddressOf.j0 k l0 t435 true))))))))) = some r := H
  have A3 := Aside0.mk A30
  clear A30
  by_cases c4 : t427 < 0
  · rw [if_pos c4] at H
    have c4b0 : decide (t427 < 0) = true := decide_eq_true c4
    clear c4
    obtain rfl := Option.some.inj H
    go_enter Try.func10, Try.ntmps10
    go_wp2_with (first | ((with_reducible refine gate_dst (N := 3) rfl ?_); refine box_event ?hg (N := 3) ?hd (cs := #[.int .i64 a1_0, .int .i64 a1_1]) (t := 29) ?hr ?_; (case hd => rfl); (case hg => rfl); (case hr => first | (go_simp; done) | (go_simp; rfl)); intro gb426 hg w5 hbox hb; have BK426 := Aside0.mk (hbox); have GW426 := Aside0.mk (bz hg); have GE426 := GW426; replace HB := Aside0.mk (bs hb); clear hb hbox hg) | ((with_reducible refine gate_callee (f := 40) rfl ?_); refine goesL_ (some 13) rfl rfl Try.func40 (by kernel_rfl) rfl #[.slice A0 l0.length c0, .int .i64 1048576] rfl (by (try simp only [List.map_toArray, List.map_cons, List.map_nil]); first | done | rfl | (simp only [List.length_drop, List.length_take]; rfl)) ?_; (with_reducible refine (laws_szPointS.calls _ _ l0 1048576 t427 _ ?side1 ?side2 A3.out).mono ?_); (case side1 => repeat (first | exact (Kd.C_below HR0.out HB.out) | (with_reducible refine Kd.C_alloc ?_ _) | (with_reducible refine Kd.C_drewN ?_ _) | (with_reducible refine Kd.C_drew ?_))); (case side2 => exact HC0.out); rintro e w' ⟨rfl, ⟨nd, rfl⟩⟩; refine ⟨_, rfl, ?_⟩))
    go_ret
    exact ⟨by first | rfl | (simp [errW_none, errW_some] <;> rfl) | (simp [*, errW_none, errW_some] <;> rfl), bl⟩
  · rw [if_neg c4] at H
    have c4b0 : decide (t427 < 0) = false := decide_eq_false c4
    clear c4
    replace H := Option.bind_eq_some_iff.mp H
    obtain ⟨t428, A60, H⟩ := H
    replace H : ((laws_toRat.f a1_0 a1_1).bind fun bt431 => ((spec_AddressOf.f k t428 bt431.1 bt431.2).bind fun bt433 => ((laws_toPointS.f k l0).bind fun t435 => ((laws_toRat.f a1_0 a1_1).bind fun bt438 => ((impl_AddressOf.f k t435 bt438.1 bt438.2).bind fun bt440 => (if bt440.1 = bt433.1 then (laws_FnExactAddressOf.j0 k l0 t435 (bt440.2 != bt433.2)) else (laws_FnExactAddressOf.j0 k l0 t435 true))))))) = some r := H
    have A6 := Aside0.mk A60
    clear A60
    replace H := Option.bind_eq_some_iff.mp H
    obtain ⟨⟨t431, t432⟩, A70, H⟩ := H
    replace H : ((spec_AddressOf.f k t428 t431 t432).bind fun bt433 => ((laws_toPointS.f k l0).bind fun t435 => ((laws_toRat.f a1_0 a1_1).bind fun bt438 => ((impl_AddressOf.f k t435 bt438.1 bt438.2).bind fun bt440 => (if bt440.1 = bt433.1 then (laws_FnExactAddressOf.j0 k l0 t435 (bt440.2 != bt433.2)) else (laws_FnExactAddressOf.j0 k l0 t435 true)))))) = some r := H
    have A7 := Aside0.mk A70
    clear A70
    replace H := Option.bind_eq_some_iff.mp H
    obtain ⟨⟨t433, t434⟩, A80, H⟩ := H
    replace H : ((laws_toPointS.f k l0).bind fun t435 => ((laws_toRat.f a1_0 a1_1).bind fun bt438 => ((impl_AddressOf.f k t435 bt438.1 bt438.2).bind fun bt440 => (if bt440.1 = t433 then (laws_FnExactAddressOf.j0 k l0 t435 (bt440.2 != t434)) else (laws_FnExactAddressOf.j0 k l0 t435 true))))) = some r := H
    have A8 := Aside0.mk A80
    clear A80
    replace H := Option.bind_eq_some_iff.mp H
    obtain ⟨t435, A90, H⟩ := H
    replace H : ((laws_toRat.f a1_0 a1_1).bind fun bt438 => ((impl_AddressOf.f k t435 bt438.1 bt438.2).bind fun bt440 => (if bt440.1 = t433 then (laws_FnExactAddressOf.j0 k l0 t435 (bt440.2 != t434)) else (laws_FnExactAddressOf.j0 k l0 t435 true)))) = some r := H
    have A9 := Aside0.mk A90
    clear A90
    replace H := Option.bind_eq_some_iff.mp H
    obtain ⟨⟨t438, t439⟩, A100, H⟩ := H
    replace H : ((impl_AddressOf.f k t435 t438 t439).bind fun bt440 => (if bt440.1 = t433 then (laws_FnExactAddressOf.j0 k l0 t435 (bt440.2 != t434)) else (laws_FnExactAddressOf.j0 k l0 t435 true))) = some r := H
    have A10 := Aside0.mk A100
    clear A100
    replace H := Option.bind_eq_some_iff.mp H
    obtain ⟨⟨t440, t441⟩, A110, H⟩ := H
    replace H : (if t440 = t433 then (laws_FnExactAddressOf.j0 k l0 t435 (t441 != t434)) else (laws_FnExactAddressOf.j0 k l0 t435 true)) = some r := H
    have A11 := Aside0.mk A110
    clear A110
    have HC12 := Aside0.mk H
    clear H
    go_enter Try.func10, Try.ntmps10
    try go_wp2_with (first | ((with_reducible refine gate_dst (N := 3) rfl ?_); refine box_event ?hg (N := 3) ?hd (cs := #[.int .i64 a1_0, .int .i64 a1_1]) (t := 29) ?hr ?_; (case hd => rfl); (case hg => rfl); (case hr => first | (go_simp; done) | (go_simp; rfl)); intro gb426 hg w13 hbox hb; have BK426 := Aside0.mk (hbox); have GW426 := Aside0.mk (bz hg); have GE426 := GW426; replace HB := Aside0.mk (bs hb); clear hb hbox hg) | ((with_reducible refine gate_callee (f := 40) rfl ?_); refine goesL_ (some 13) rfl rfl Try.func40 (by kernel_rfl) rfl #[.slice A0 l0.length c0, .int .i64 1048576] rfl (by (try simp only [List.map_toArray, List.map_cons, List.map_nil]); first | done | rfl | (simp only [List.length_drop, List.length_take]; rfl)) ?_; (with_reducible refine (laws_szPointS.calls _ _ l0 1048576 t427 _ ?side1 ?side2 A3.out).mono ?_); (case side1 => repeat (first | exact (Kd.C_below HR0.out HB.out) | (with_reducible refine Kd.C_alloc ?_ _) | (with_reducible refine Kd.C_drewN ?_ _) | (with_reducible refine Kd.C_drew ?_))); (case side2 => exact HC0.out); rintro e w' ⟨rfl, ⟨nd, rfl⟩⟩; refine ⟨_, rfl, ?_⟩))
    (try (rw [drewN_self w13]; generalize hq_ : World.drewN w13 _ = w13; have n0_ : Aside0 (w13.heap[gb426]? = some (.cells #[.int .i64 a1_0, .int .i64 a1_1] 29 (0, 0))) := ⟨by rw [← hq_]; exact (bo gb426)⟩; have n1_ : Aside0 (Below w.heap.size w w13) := ⟨by rw [← hq_]; exact bl⟩; clear BK426 HB hq_; have BK426 := n0_; have HB := n1_; clear n0_ n1_))
    replace BK426 := Aside0.mk (blk_drew BK426.out)
    replace HB := Aside0.mk (below_drew1 HB.out)
    refine start_ (n := 10) (S := fun w' => w'.cell? ⟨gb426, 0, none⟩ = some (.int .i64 a1_0) ∧ w'.cell? ⟨gb426, 1, none⟩ = some (.int .i64 a1_1)) (ds := []) #[false, false, false, false, false, false, false, false, false, false] (by kernel_rfl) rfl rfl ⟨(blk_cell BK426.out 0).trans rfl, (blk_cell BK426.out 1).trans rfl⟩ (fun hHeld => ?_); refine with_tabW laws_FnExactAddressOf.tab5 laws_FnExactAddressOf.bits5 (fun HT_ HW_ => ?_)
    generalize w13.drew = w14 at BK426 HB hHeld ⊢
    refine pu 0 17 #[true, false, false, false, false, false, false, false, false, false] ?_
    refine take_ (i := 2) (N := some 19) (v := ?_) (a' := ?_) #[true, false, true, false, false, false, false, false, false, false] rfl rfl (take_ofW HT_.out HW_.out (by kernel_rfl)) (fun _ _ _ h => h) (Or.inl ⟨by rfl, ?_⟩) hHeld ?_ ?_
    rotate_left
    · rintro w' ⟨s0, s1⟩
      go_simp
      with_reducible rfl
    rotate_left
    · simp only [Act.put, List.setIfInBounds_toArray, List.set_cons_zero, List.set_cons_succ, i64_w, i32_w]
      rfl
    refine one_ (i := 1) (N := some 18) #[true, true, true, false, false, false, false, false, false, false] rfl rfl (one_of HT_.out (by kernel_rfl)) (by decide) (fun K hK => ?_)
    refine goes_ Try.func42 (by kernel_rfl) rfl #[.slice A0 l0.length c0] (by rfl) rfl rfl (by (try simp only [List.map_toArray, List.map_cons, List.map_nil]); first | done | rfl | (simp only [List.length_drop, List.length_take]; rfl)) ?_
    with_reducible refine (laws_toPointS.calls k _ _ l0 t428 _ ?side1 ?side2 A6.out).mono ?_
    (case side1 => repeat (first | exact (Kd.C_below HR0.out HB.out) | (with_reducible refine Kd.C_alloc ?_ _) | (with_reducible refine Kd.C_drewN ?_ _) | (with_reducible refine Kd.C_drew ?_)))
    (case side2 => exact HC0.out)
    rintro e w15 ⟨v429, rfl, ho0, hb⟩
    refine ⟨_, rfl, ?_⟩
    have HO430 := Aside0.mk (Kd.R_lower ho0 (below_size bl))
    replace BK426 := Aside0.mk (bb gb426 hb)
    replace HB := Aside0.mk (bs hb)
    (try clear hb)
    (try clear hb2)
    (try clear hk)
    (try clear hi)
    (try clear ho0)
    refine hK.out _ _ ⟨(blk_cell BK426.out 0).trans rfl, (blk_cell BK426.out 1).trans rfl⟩ (fun hHeld => ?_)
    clear hK K
    refine norm_ (a' := ?_) ?_ ?_
    rotate_left
    · show Act.put _ (some 18) _ = _
      simp only [Act.put, List.setIfInBounds_toArray, List.set_cons_zero, List.set_cons_succ, i64_w, i32_w]
      rfl
    refine one_ (i := 3) (N := some 20) #[true, true, true, true, false, false, false, false, false, false] rfl rfl (one_of HT_.out (by kernel_rfl)) (by decide) (fun K hK => ?_)
    refine goes_ Try.func17 (by kernel_rfl) rfl #[.agg #[.int .i64 a1_0, .int .i64 a1_1]] (by rfl) rfl rfl (by (try simp only [List.map_toArray, List.map_cons, List.map_nil]); first | done | rfl | (simp only [List.length_drop, List.length_take]; rfl)) ?_
    with_reducible refine (laws_toRat.calls a1_0 a1_1 t431 t432 _ A7.out).mono ?_
    rintro e w16 ⟨rfl, hb⟩
    refine ⟨_, rfl, ?_⟩
    replace HO430 := Aside0.mk (Kd.R_below (by (with_reducible repeat (first | apply Kd.R_alloc | apply Kd.R_drewN | apply Kd.R_drew)); exact HO430.out) hb)
    replace BK426 := Aside0.mk (bb gb426 hb)
    replace HB := Aside0.mk (bs hb)
    (try clear hb)
    (try clear hb2)
    (try clear hk)
    (try clear hi)
    obtain ⟨Ao17, co17, eo17⟩ := Kd.R_slice HO430.out
    (first | subst eo17 | (injection eo17 with f1_ f2_ f3_; have f4_ := f1_.symm; have f5_ := f3_.symm; clear f1_ f2_ f3_; subst f4_; subst f5_))
    refine hK.out _ _ ⟨(blk_cell BK426.out 0).trans rfl, (blk_cell BK426.out 1).trans rfl⟩ (fun hHeld => ?_)
    clear hK K
    refine norm_ (a' := ?_) ?_ ?_
    rotate_left
    · show Act.put _ (some 20) _ = _
      simp only [Act.put, List.setIfInBounds_toArray, List.set_cons_zero, List.set_cons_succ, i64_w, i32_w]
      rfl
    refine one_ (i := 4) (N := some 21) #[true, true, true, true, true, false, false, false, false, false] rfl rfl (one_of HT_.out (by kernel_rfl)) (by decide) (fun K hK => ?_)
    refine goes_ Try.func44 (by kernel_rfl) rfl #[.slice Ao17 t428.length co17, .agg #[.int .i64 t431, .int .i64 t432]] (by rfl) rfl rfl (by (try simp only [List.map_toArray, List.map_cons, List.map_nil]); first | done | rfl | (simp only [List.length_drop, List.length_take]; rfl)) ?_
    with_reducible refine (spec_AddressOf.calls k _ _ t428 t431 t432 t433 t434 _ ?side1 ?side2 A8.out).mono ?_
    (case side1 => repeat (first | exact (Kd.R_reads' HO430.out).2.2 | (with_reducible refine Kd.C_alloc ?_ _) | (with_reducible refine Kd.C_drewN ?_ _) | (with_reducible refine Kd.C_drew ?_)))
    (case side2 => exact (Kd.R_reads' HO430.out).2.1)
    rintro e w18 ⟨rfl, hb⟩
    refine ⟨_, rfl, ?_⟩
    replace HO430 := Aside0.mk (Kd.R_below (by (with_reducible repeat (first | apply Kd.R_alloc | apply Kd.R_drewN | apply Kd.R_drew)); exact HO430.out) hb)
    replace BK426 := Aside0.mk (bb gb426 hb)
    replace HB := Aside0.mk (bs hb)
    (try clear hb)
    (try clear hb2)
    (try clear hk)
    (try clear hi)
    refine hK.out _ _ ⟨(blk_cell BK426.out 0).trans rfl, (blk_cell BK426.out 1).trans rfl⟩ (fun hHeld => ?_)
    clear hK K
    refine norm_ (a' := ?_) ?_ ?_
    rotate_left
    · show Act.put _ (some 21) _ = _
      simp only [Act.put, List.setIfInBounds_toArray, List.set_cons_zero, List.set_cons_succ, i64_w, i32_w]
      rfl
    refine pu 5 16 #[true, true, true, true, true, true, false, false, false, false] ?_
    refine pu 6 22 #[true, true, true, true, true, true, true, false, false, false] ?_
    refine pu 7 23 #[true, true, true, true, true, true, true, true, false, false] ?_
    refine pu 8 6 #[true, true, true, true, true, true, true, true, true, false] ?_
    refine pu 9 7 #[true, true, true, true, true, true, true, true, true, true] ?_
    refine done_ (done_of HT_.out (by kernel_rfl)) ?_
    go_upto_region 8 with (first | ((with_reducible refine gate_callee (f := 42) rfl ?_); refine goesL_ (some 25) rfl rfl Try.func42 (by kernel_rfl) rfl #[.slice A0 l0.length c0] rfl (by (try simp only [List.map_toArray, List.map_cons, List.map_nil]); first | done | rfl | (simp only [List.length_drop, List.length_take]; rfl)) ?_; (with_reducible refine (laws_toPointS.calls k _ _ l0 t435 _ ?side1 ?side2 A9.out).mono ?_); (case side1 => repeat (first | exact (Kd.C_below HR0.out HB.out) | (with_reducible refine Kd.C_alloc ?_ _) | (with_reducible refine Kd.C_drewN ?_ _) | (with_reducible refine Kd.C_drew ?_))); (case side2 => exact HC0.out); rintro e w19 ⟨v436, rfl, ho0, hb⟩; refine ⟨_, rfl, ?_⟩; have HO437 := Aside0.mk (Kd.R_lower (Kd.R_new' ho0 (Kd.R_lt (by (with_reducible repeat (first | apply Kd.R_alloc | apply Kd.R_drewN | apply Kd.R_drew)); exact HO430.out))) (below_size bl)); replace HO430 := Aside0.mk (Kd.R_elder' (by (with_reducible repeat (first | apply Kd.R_alloc | apply Kd.R_drewN | apply Kd.R_drew)); exact HO430.out) (Kd.R_base ho0) hb); replace BK426 := Aside0.mk (bb gb426 hb); replace HB := Aside0.mk (bs hb); (try clear hb); (try clear hb2); (try clear hk); (try clear hi); (try clear ho0); have hcz20_0 : w19.cell? ⟨gb426, 0, none⟩ = some (.int .i64 a1_0) := (blk_cell BK426.out 0).trans rfl; have hcz20_1 : w19.cell? ⟨gb426, 1, none⟩ = some (.int .i64 a1_1) := (blk_cell BK426.out 1).trans rfl; have hfz20_0 := blk_frozen BK426.out 0; have hfz20_1 := blk_frozen BK426.out 1) | ((with_reducible refine gate_callee (f := 17) rfl ?_); refine goesL_ (some 29) rfl rfl Try.func17 (by kernel_rfl) rfl #[.agg #[.int .i64 a1_0, .int .i64 a1_1]] rfl (by (try simp only [List.map_toArray, List.map_cons, List.map_nil]); first | done | rfl | (simp only [List.length_drop, List.length_take]; rfl)) ?_; (with_reducible refine (laws_toRat.calls a1_0 a1_1 t438 t439 _ A10.out).mono ?_); rintro e w21 ⟨rfl, hb⟩; refine ⟨_, rfl, ?_⟩; replace HO430 := Aside0.mk (Kd.R_below (by (with_reducible repeat (first | apply Kd.R_alloc | apply Kd.R_drewN | apply Kd.R_drew)); exact HO430.out) hb); replace HO437 := Aside0.mk (Kd.R_below (by (with_reducible repeat (first | apply Kd.R_alloc | apply Kd.R_drewN | apply Kd.R_drew)); exact HO437.out) hb); replace BK426 := Aside0.mk (bb gb426 hb); replace HB := Aside0.mk (bs hb); (try clear hb); (try clear hb2); (try clear hk); (try clear hi); obtain ⟨Ao22, co22, eo22⟩ := Kd.R_slice HO437.out; subst eo22) | ((with_reducible refine gate_callee (f := 45) rfl ?_); refine goesL_ (some 30) rfl rfl Try.func45 (by kernel_rfl) rfl #[.slice Ao22 t435.length co22, .agg #[.int .i64 t438, .int .i64 t439]] rfl (by (try simp only [List.map_toArray, List.map_cons, List.map_nil]); first | done | rfl | (simp only [List.length_drop, List.length_take]; rfl)) ?_; (with_reducible refine (impl_AddressOf.calls k _ _ t435 t438 t439 t440 t441 _ ?side1 ?side2 A11.out).mono ?_); (case side1 => repeat (first | exact (Kd.R_reads' HO437.out).2.2 | (with_reducible refine Kd.C_alloc ?_ _) | (with_reducible refine Kd.C_drewN ?_ _) | (with_reducible refine Kd.C_drew ?_))); (case side2 => exact (Kd.R_reads' HO437.out).2.1); rintro e w23 ⟨rfl, hb⟩; refine ⟨_, rfl, ?_⟩; replace HO430 := Aside0.mk (Kd.R_below (by (with_reducible repeat (first | apply Kd.R_alloc | apply Kd.R_drewN | apply Kd.R_drew)); exact HO430.out) hb); replace HO437 := Aside0.mk (Kd.R_below (by (with_reducible repeat (first | apply Kd.R_alloc | apply Kd.R_drewN | apply Kd.R_drew)); exact HO437.out) hb); replace BK426 := Aside0.mk (bb gb426 hb); replace HB := Aside0.mk (bs hb); (try clear hb); (try clear hb2); (try clear hk); (try clear hi)))
    (try simp only [Act.put, List.setIfInBounds_toArray, List.set_cons_zero, List.set_cons_succ])
    go_cut [40] (fun v40 wc => ∃ (kq : Nat) (x40_11 : Bool), v40 = .bool x40_11 ∧ Aside0 (laws_FnExactAddressOf.j0 kq l0 t435 x40_11 = some r) ∧ Aside0 (kq ≤ k) ∧ Aside0 (Kd.R k91 91 wc w.heap.size (fun _ => True) (.slice Ao22 t435.length co22) t435) ∧ Aside0 (wc.heap[gb426]? = some (.cells #[.int .i64 a1_0, .int .i64 a1_1] 29 (0, 0))) ∧ Aside0 (Below w.heap.size w wc))
    case first =>
      have H := HC12.out
      clear HC12
      by_cases c24 : t440 = t433
      · rw [if_pos c24] at H
        have c24b0 : (t440 == t433) = true := beq_iff_eq.mpr c24
        have c24b1 : (t440 != t433) = false := bne_eq_false_iff_eq.mpr c24
        clear c24
        (first | rw [c24b0] | (simp only [i64_w, i32_w]; rw [c24b0]) | skip)
        have H' := Aside0.mk H
        clear H
        go_wp2
        go_meet
        case rel => exact ⟨_, ((t441 != t434)), (by first | rfl | (simp; done) | (simp [*]; done)), H', ⟨by first | omega | exact Nat.le_refl _⟩, ⟨by (with_reducible repeat (first | apply Kd.R_alloc | apply Kd.R_drewN | apply Kd.R_drew)); exact Kd.R_mono HO437.out (fun _ hk => trivial)⟩, ⟨by (with_reducible repeat (first | refine blk_drewN ?_ _ | refine blk_drew ?_ | refine blk_alloc ?_ _)); exact BK426.out⟩, ⟨bl⟩⟩
      · rw [if_neg c24] at H
        have c24b0 : (t440 == t433) = false := beq_eq_false_iff_ne.mpr c24
        have c24b1 : (t440 != t433) = true := bne_iff_ne.mpr c24
        (first | rw [c24b0] | (simp only [i64_w, i32_w]; rw [c24b0]) | skip)
        have H' := Aside0.mk H
        clear H
        go_wp2
        go_meet
        case rel => exact ⟨_, (true), (by first | rfl | (simp; done) | (simp [*]; done)), H', ⟨by first | omega | exact Nat.le_refl _⟩, ⟨by (with_reducible repeat (first | apply Kd.R_alloc | apply Kd.R_drewN | apply Kd.R_drew)); exact Kd.R_mono HO437.out (fun _ hk => trivial)⟩, ⟨by (with_reducible repeat (first | refine blk_drewN ?_ _ | refine blk_drew ?_ | refine blk_alloc ?_ _)); exact BK426.out⟩, ⟨bl⟩⟩
    case rest =>
      clear HC12
      try clear c1
      try clear c2
      try clear p2
      try clear c4
      try clear c4b0
      try clear c10
      try clear c17
      try clear c24
      try clear c24b0
      try clear c24b1
      try clear hcz20_0
      try clear hcz20_1
      try clear hfz20_0
      try clear hfz20_1
      obtain ⟨kq, x40_11, rfl, HA, HJ11, HO_8, BK426, HB⟩ := hcut
      cases kq with
      | zero => exact absurd HA.out (by simp [laws_FnExactAddressOf.j0])
      | succ kj11 =>
        have H := HA.out
        clear HA
        simp only [laws_FnExactAddressOf.j0] at H
        by_cases c25 : x40_11 = true
        · subst c25
          have H1 : (some false) = some r := by rw [if_pos rfl] at H; exact H
          clear H
          have H := H1
          clear H1
          obtain rfl := Option.some.inj H
          go_wp2
          go_ret
          exact ⟨by first | rfl | (simp [errW_none, errW_some] <;> rfl) | (simp [*, errW_none, errW_some] <;> rfl), bl⟩
        · replace c25 := Bool.eq_false_iff.mpr c25
          subst c25
          have H1 : ((laws_toPointS.f kj11 l0).bind fun t442 => ((laws_eqPointS.f kj11 t435 t442).bind fun t445 => (if t445 = true then (some true) else (some false)))) = some r := by rw [if_neg (show ¬ (false = true) by decide)] at H; exact H
          clear H
          have H := H1
          clear H1
          replace H := Option.bind_eq_some_iff.mp H
          obtain ⟨t442, A260, H⟩ := H
          replace H : ((laws_eqPointS.f kj11 t435 t442).bind fun t445 => (if t445 = true then (some true) else (some false))) = some r := H
          have A26 := Aside0.mk A260
          clear A260
          replace H := Option.bind_eq_some_iff.mp H
          obtain ⟨t445, A270, H⟩ := H
          replace H : (if t445 = true then (some true) else (some false)) = some r := H
          have A27 := Aside0.mk A270
          clear A270
          by_cases c28 : t445 = true
          · subst c28
            have H1 : (some true) = some r := by rw [if_pos rfl] at H; exact H
            clear H
            have H := H1
            clear H1
            obtain rfl := Option.some.inj H
            go_wp2_with (first | ((with_reducible refine gate_callee (f := 42) rfl ?_); refine goesL_ (some 43) rfl rfl Try.func42 (by kernel_rfl) rfl #[.slice A0 l0.length c0] rfl (by (try simp only [List.map_toArray, List.map_cons, List.map_nil]); first | done | rfl | (simp only [List.length_drop, List.length_take]; rfl)) ?_; (with_reducible refine (laws_toPointS.calls kj11 _ _ l0 t442 _ ?side1 ?side2 A26.out).mono ?_); (case side1 => repeat (first | exact (Kd.C_below HR0.out HB.out) | (with_reducible refine Kd.C_alloc ?_ _) | (with_reducible refine Kd.C_drewN ?_ _) | (with_reducible refine Kd.C_drew ?_))); (case side2 => exact HC0.out); rintro e w29 ⟨v443, rfl, ho0, hb⟩; refine ⟨_, rfl, ?_⟩; have HO444 := Aside0.mk (Kd.R_lower (Kd.R_new' ho0 (Kd.R_lt (by (with_reducible repeat (first | apply Kd.R_alloc | apply Kd.R_drewN | apply Kd.R_drew)); exact HO_8.out))) (below_size bl)); replace HO_8 := Aside0.mk (Kd.R_elder' (by (with_reducible repeat (first | apply Kd.R_alloc | apply Kd.R_drewN | apply Kd.R_drew)); exact HO_8.out) (Kd.R_base ho0) hb); replace BK426 := Aside0.mk (bb gb426 hb); replace HB := Aside0.mk (bs hb); (try clear hb); (try clear hb2); (try clear hk); (try clear hi); (try clear ho0); obtain ⟨Ao30, co30, eo30⟩ := Kd.R_slice HO444.out; subst eo30) | ((with_reducible refine gate_callee (f := 19) rfl ?_); refine goesL_ (some 44) rfl rfl Try.func19 (by kernel_rfl) rfl #[.slice Ao22 t435.length co22, .slice Ao30 t442.length co30] rfl (by (try simp only [List.map_toArray, List.map_cons, List.map_nil]); first | done | rfl | (simp only [List.length_drop, List.length_take]; rfl)) ?_; (with_reducible refine (laws_eqPointS.calls kj11 _ _ t435 _ _ t442 true _ ?side1 ?side2 ?side3 ?side4 A27.out).mono ?_); (case side1 => repeat (first | exact (Kd.R_reads' HO_8.out).2.2 | (with_reducible refine Kd.C_alloc ?_ _) | (with_reducible refine Kd.C_drewN ?_ _) | (with_reducible refine Kd.C_drew ?_))); (case side2 => exact (Kd.R_reads' HO_8.out).2.1); (case side3 => repeat (first | exact (Kd.R_reads' HO444.out).2.2 | (with_reducible refine Kd.C_alloc ?_ _) | (with_reducible refine Kd.C_drewN ?_ _) | (with_reducible refine Kd.C_drew ?_))); (case side4 => exact (Kd.R_reads' HO444.out).2.1); rintro e w31 ⟨rfl, hb⟩; refine ⟨_, rfl, ?_⟩; replace HO_8 := Aside0.mk (Kd.R_below (by (with_reducible repeat (first | apply Kd.R_alloc | apply Kd.R_drewN | apply Kd.R_drew)); exact HO_8.out) hb); replace HO444 := Aside0.mk (Kd.R_below (by (with_reducible repeat (first | apply Kd.R_alloc | apply Kd.R_drewN | apply Kd.R_drew)); exact HO444.out) hb); replace BK426 := Aside0.mk (bb gb426 hb); replace HB := Aside0.mk (bs hb); (try clear hb); (try clear hb2); (try clear hk); (try clear hi)))
            go_ret
            exact ⟨by first | rfl | (simp [errW_none, errW_some] <;> rfl) | (simp [*, errW_none, errW_some] <;> rfl), bl⟩
          · replace c28 := Bool.eq_false_iff.mpr c28
            subst c28
            have H1 : (some false) = some r := by rw [if_neg (show ¬ (false = true) by decide)] at H; exact H
            clear H
            have H := H1
            clear H1
            obtain rfl := Option.some.inj H
            go_wp2_with (first | ((with_reducible refine gate_callee (f := 42) rfl ?_); refine goesL_ (some 43) rfl rfl Try.func42 (by kernel_rfl) rfl #[.slice A0 l0.length c0] rfl (by (try simp only [List.map_toArray, List.map_cons, List.map_nil]); first | done | rfl | (simp only [List.length_drop, List.length_take]; rfl)) ?_; (with_reducible refine (laws_toPointS.calls kj11 _ _ l0 t442 _ ?side1 ?side2 A26.out).mono ?_); (case side1 => repeat (first | exact (Kd.C_below HR0.out HB.out) | (with_reducible refine Kd.C_alloc ?_ _) | (with_reducible refine Kd.C_drewN ?_ _) | (with_reducible refine Kd.C_drew ?_))); (case side2 => exact HC0.out); rintro e w32 ⟨v443, rfl, ho0, hb⟩; refine ⟨_, rfl, ?_⟩; have HO444 := Aside0.mk (Kd.R_lower (Kd.R_new' ho0 (Kd.R_lt (by (with_reducible repeat (first | apply Kd.R_alloc | apply Kd.R_drewN | apply Kd.R_drew)); exact HO_8.out))) (below_size bl)); replace HO_8 := Aside0.mk (Kd.R_elder' (by (with_reducible repeat (first | apply Kd.R_alloc | apply Kd.R_drewN | apply Kd.R_drew)); exact HO_8.out) (Kd.R_base ho0) hb); replace BK426 := Aside0.mk (bb gb426 hb); replace HB := Aside0.mk (bs hb); (try clear hb); (try clear hb2); (try clear hk); (try clear hi); (try clear ho0); obtain ⟨Ao33, co33, eo33⟩ := Kd.R_slice HO444.out; subst eo33) | ((with_reducible refine gate_callee (f := 19) rfl ?_); refine goesL_ (some 44) rfl rfl Try.func19 (by kernel_rfl) rfl #[.slice Ao22 t435.length co22, .slice Ao33 t442.length co33] rfl (by (try simp only [List.map_toArray, List.map_cons, List.map_nil]); first | done | rfl | (simp only [List.length_drop, List.length_take]; rfl)) ?_; (with_reducible refine (laws_eqPointS.calls kj11 _ _ t435 _ _ t442 false _ ?side1 ?side2 ?side3 ?side4 A27.out).mono ?_); (case side1 => repeat (first | exact (Kd.R_reads' HO_8.out).2.2 | (with_reducible refine Kd.C_alloc ?_ _) | (with_reducible refine Kd.C_drewN ?_ _) | (with_reducible refine Kd.C_drew ?_))); (case side2 => exact (Kd.R_reads' HO_8.out).2.1); (case side3 => repeat (first | exact (Kd.R_reads' HO444.out).2.2 | (with_reducible refine Kd.C_alloc ?_ _) | (with_reducible refine Kd.C_drewN ?_ _) | (with_reducible refine Kd.C_drew ?_))); (case side4 => exact (Kd.R_reads' HO444.out).2.1); rintro e w34 ⟨rfl, hb⟩; refine ⟨_, rfl, ?_⟩; replace HO_8 := Aside0.mk (Kd.R_below (by (with_reducible repeat (first | apply Kd.R_alloc | apply Kd.R_drewN | apply Kd.R_drew)); exact HO_8.out) hb); replace HO444 := Aside0.mk (Kd.R_below (by (with_reducible repeat (first | apply Kd.R_alloc | apply Kd.R_drewN | apply Kd.R_drew)); exact HO444.out) hb); replace BK426 := Aside0.mk (bb gb426 hb); replace HB := Aside0.mk (bs hb); (try clear hb); (try clear hb2); (try clear hk); (try clear hi)))
            go_ret
            exact ⟨by first | rfl | (simp [errW_none, errW_some] <;> rfl) | (simp [*, errW_none, errW_some] <;> rfl), bl⟩

/-- THE ONE PURE STATEMENT of laws_FnExactAddressOf: yours. -/
def laws_FnExactAddressOf.Pure : Prop := ∀ (l0 : List (S115)) (a1_0 : Int) (a1_1 : Int), l0.length ≤ maxLen → l0.length * 32 ≤ 140737488351232 → (∀ x ∈ l0, (Lit.int .i64 x.f0.f0).wf = true ∧ (Lit.int .i64 x.f0.f1).wf = true ∧ (Lit.int .i64 x.f1.f0).wf = true ∧ (Lit.int .i64 x.f1.f1).wf = true) → (Lit.int .i64 a1_0).wf = true → (Lit.int .i64 a1_1).wf = true → ∃ k, laws_FnExactAddressOf.f k l0 a1_0 a1_1 = some true

end Go.Proofs.Ytmpccnagidednaa.PFnExactAddressOf
