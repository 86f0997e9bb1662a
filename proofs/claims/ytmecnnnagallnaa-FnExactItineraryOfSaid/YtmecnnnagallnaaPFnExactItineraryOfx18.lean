-- Written by this session's program wip/pp (the kit's print tool with additions) 35421559b90ae4d0a3588c463048766b98c2df88dd9212a6774a882060cdf62d
import Derived.Test.YtmecnnnagallnaaPFnExactItineraryOfx0
import Derived.Test.YtmecnnnagallnaaPFnExactItineraryOfx11
import Derived.Test.YtmecnnnagallnaaPFnExactItineraryOfx16
namespace Go.Proofs.Ytmecnnnagallnaa.PFnExactItineraryOf
open Go.RowKit Go.Proofs.YtmecnnnagallnaaW.PrintWords Go.Proofs.YtmecnnnagallnaaW.PrintLast Go.Proofs.YtmecnnnagallnaaW.PrintMore
attribute [local go_sem] max2_int min2_int max_two min_two max_three min_three max_four min_four   -- for this text's walks alone
set_option linter.unusedVariables false
set_option linter.unusedSimpArgs false

/-! ### impl_sign: function 132 -/
def impl_sign.f (a0_0 : Int) (a0_1 : Int) : Option (Int) := (impl_zero.f).bind fun bt520 => ((impl_compare.f a0_0 a0_1 bt520.1 bt520.2).bind fun t522 => (some t522))
set_option maxHeartbeats 8000000 in
set_option maxRecDepth 100000 in
theorem impl_sign.calls (a0_0 : Int) (a0_1 : Int) (r : Int) (w : World) (h : impl_sign.f a0_0 a0_1 = some r) :
  Calls Try.prog 132 #[.agg #[.int .i64 a0_0, .int .i64 a0_1]] w fun e w' => e = .returned (.int .i64 r) ∧ Below w.heap.size w w' := by
 have hu28 := Try.underlying28
 have HB := Aside0.mk (Below.refl w.heap.size w)
 have H : ((impl_zero.f).bind fun bt520 => ((impl_compare.f a0_0 a0_1 bt520.1 bt520.2).bind fun t522 => (some t522))) = some r := h
 clear h
 replace H := Option.bind_eq_some_iff.mp H
 obtain ⟨⟨t520, t521⟩, A20, H⟩ := H
 replace H : ((impl_compare.f a0_0 a0_1 t520 t521).bind fun t522 => (some t522)) = some r := H
 have A2 := Aside0.mk A20
 clear A20
 replace H := Option.bind_eq_some_iff.mp H
 obtain ⟨t522, A30, H⟩ := H
 replace H : (some t522) = some r := H
 have A3 := Aside0.mk A30
 clear A30
 obtain rfl := Option.some.inj H
 go_enter Try.func132, Try.ntmps132
 try go_wp2_with (first | ((with_reducible refine gate_dst (N := 1) rfl ?_); refine bx 1 #[.int .i64 a0_0, .int .i64 a0_1] 28 ?_; intro gb519 hg w4 hbox hb; have BK519 := Aside0.mk (hbox); have GW519 := Aside0.mk (bz hg); have GE519 := GW519; replace HB := kh hb; clear hb hbox hg))
 replace BK519 := Aside0.mk (blk_drew BK519.out)
 replace HB := Aside0.mk (below_drew1 HB.out)
 refine start_ (n := 4) (S := fun w' => w'.cell? ⟨gb519, 0, none⟩ = some (.int .i64 a0_0) ∧ w'.cell? ⟨gb519, 1, none⟩ = some (.int .i64 a0_1)) (ds := []) (tb 0 4) (by kernel_rfl) rfl rfl ⟨(blk_cell BK519.out 0).trans rfl, (blk_cell BK519.out 1).trans rfl⟩ (fun hHeld => ?_)
 generalize w4.drew = w5 at BK519 HB hHeld ⊢
 refine take_ (i := 0) (N := some 3) (v := ?_) (a' := ?_) (tb 1 3) rfl rfl (by kernel_rfl) (fun _ _ _ h => h) (Or.inl ⟨by rfl, ?_⟩) hHeld ?_ ?_
 rotate_left
 ·rintro w' ⟨s0, s1⟩
  go_simp
  with_reducible rfl
 rotate_left
 ·simp only [Act.put, List.setIfInBounds_toArray, List.set_cons_zero, List.set_cons_succ, i64_w, i32_w]
  rfl
 refine one_ (i := 1) (N := some 4) (tb 2 2) rfl rfl (by kernel_rfl) (by decide) (fun K hK => ?_)
 refine gs Try.func90 #[] ?_
 with_reducible refine (impl_zero.calls  t520 t521 _ A2.out).mono ?_
 rintro e w6 ⟨rfl, hb⟩
 refine ⟨_, rfl, ?_⟩
 replace BK519 := kb BK519 hb
 replace HB := kh hb
 (try clear hb)
 (try clear hb2)
 (try clear hk)
 (try clear hi)
 refine hK.out _ _ ⟨(blk_cell BK519.out 0).trans rfl, (blk_cell BK519.out 1).trans rfl⟩ (fun hHeld => ?_)
 clear hK K
 refine nm 4 ?_
 refine one_ (i := 2) (N := some 5) (tb 3 1) rfl rfl (by kernel_rfl) (by decide) (fun K hK => ?_)
 refine gs Try.func54 #[.agg #[.int .i64 a0_0, .int .i64 a0_1], .agg #[.int .i64 t520, .int .i64 t521]] ?_
 with_reducible refine (impl_compare.calls a0_0 a0_1 t520 t521 t522 _ A3.out).mono ?_
 rintro e w7 ⟨rfl, hb⟩
 refine ⟨_, rfl, ?_⟩
 replace BK519 := kb BK519 hb
 replace HB := kh hb
 (try clear hb)
 (try clear hb2)
 (try clear hk)
 (try clear hi)
 refine hK.out _ _ ⟨(blk_cell BK519.out 0).trans rfl, (blk_cell BK519.out 1).trans rfl⟩ (fun hHeld => ?_)
 clear hK K
 refine nm 5 ?_
 refine pure_ (i := 3) (N := some 2) (v := ?_) (a' := ?_) (tb 4 0) rfl rfl (by kernel_rfl) (fun _ _ _ h => h) (Or.inl ⟨by rfl, ?_⟩) ?_ ?_
 rotate_left
 ·intro w'
  go_simp
  with_reducible rfl
 rotate_left
 ·simp only [Act.put, List.setIfInBounds_toArray, List.set_cons_zero, List.set_cons_succ, i64_w, i32_w]
  rfl
 refine done_ (by kernel_rfl) ?_
 try go_wp2
 go_ret
 exact ⟨rt, bl⟩

/-! ### impl_laps: function 111 -/
def impl_laps.l0 : Nat → List (List Int) → List (S28) → Int → Int → Option ((List (List Int)))
 | 0, _, _, _, _ => none
 | k + 1, x3, x8, x9, x10 => if x10 < x9 then (if 0 ≤ x10 then (if x10 < (x8.length : Int) then (if (wrap64 ((x3.length : Int) - 1)) ≥ 0 then (if 0 ≤ (wrap64 ((x3.length : Int) - 1)) then (if (wrap64 ((x3.length : Int) - 1)) < (x3.length : Int) then (if 2 < ((rd_L5 x3 (wrap64 ((x3.length : Int) - 1))).length : Int) then ((impl_sign.f ((rd_T28 x8 x10).f0) ((rd_T28 x8 x10).f1)).bind fun t530 => (if (rd (rd_L5 x3 (wrap64 ((x3.length : Int) - 1))) 2) = t530 then (if 1 < ((rd_L5 x3 (wrap64 ((x3.length : Int) - 1))).length : Int) then (impl_laps.l0 k (x3.set ((wrap64 ((x3.length : Int) - 1)) : Int).toNat ((rd_L5 x3 (wrap64 ((x3.length : Int) - 1))).set (1 : Int).toNat (wrap64 (x10 + 1)))) x8 x9 (wrap64 (x10 + 1))) else (none)) else ((impl_sign.f ((rd_T28 x8 x10).f0) ((rd_T28 x8 x10).f1)).bind fun t535 => (if x3.length < 5864062014805 then (impl_laps.l0 k (x3 ++ [(([x10, wrap64 (x10 + 1), t535] : List Int))]) x8 x9 (wrap64 (x10 + 1))) else (none))))) else (none)) else (none)) else (none)) else ((impl_sign.f ((rd_T28 x8 x10).f0) ((rd_T28 x8 x10).f1)).bind fun t542 => (if x3.length < 5864062014805 then (impl_laps.l0 k (x3 ++ [(([x10, wrap64 (x10 + 1), t542] : List Int))]) x8 x9 (wrap64 (x10 + 1))) else (none)))) else (none)) else (none)) else (some x3)
def impl_laps.f (k : Nat) (l0 : List (S68)) : Option ((List (List Int))) := (impl_slopes.f k l0).bind fun t523 => (impl_laps.l0 k ([] : List (List Int)) t523 (t523.length : Int) 0)
def impl_laps.T6 : Bool × List (List Nat × List Nat) := (true, [([], []), ([0], [0]), ([1], [1]), ([2], [2]), ([2], [2]), ([3, 4, 2], [2, 3, 4]), ([5, 2], [2, 5]), ([6, 2], [2, 6]), ([7, 2], [2, 7]), ([2], [2]), ([9, 2, 2], [2, 9]), ([8, 10, 2], [2, 8, 10]), ([2, 11], [2, 11])])
def impl_laps.B6 : List Nat := [0, 1, 3, 7, 7, 31, 63, 127, 255, 7, 519, 2047, 4095]
theorem impl_laps.tab6 : rtab .any (opsOf Try.f111 6) = impl_laps.T6 := by kernel_rfl
theorem impl_laps.bits6 : waitsOk impl_laps.T6.2 impl_laps.B6 = true := by kernel_rfl
set_option maxHeartbeats 8000000 in
set_option maxRecDepth 100000 in
theorem impl_laps.calls (k : Nat) (A0 : Option Addr) (c0 : Nat) (l0 : List (S68)) (r : List (List Int)) (w : World) (hr0 : Kd.C k68 w A0 l0.length l0) (hc0 : l0.length ≤ c0) (h : impl_laps.f k l0 = some r) :
  Calls Try.prog 111 #[.slice A0 l0.length c0] w fun e w' => ∃ v0_ : Value, e = .returned (v0_) ∧ Kd.S (Kd.slice 3 (Kd.int .i64)) 39 w' w.heap.size (fun _ => True) v0_ r ∧ Below w.heap.size w w' := by
 have hu28 := Try.underlying28
 have HR0 := Aside0.mk hr0
 have HC0 := Aside0.mk hc0
 clear hr0 hc0
 have HB := Aside0.mk (Below.refl w.heap.size w)
 have H : ((impl_slopes.f k l0).bind fun t523 => (impl_laps.l0 k ([] : List (List Int)) t523 (t523.length : Int) 0)) = some r := h
 clear h
 replace H := Option.bind_eq_some_iff.mp H
 obtain ⟨t523, A20, H⟩ := H
 replace H : (impl_laps.l0 k ([] : List (List Int)) t523 (t523.length : Int) 0) = some r := H
 have A2 := Aside0.mk A20
 clear A20
 have H' := Aside0.mk H
 clear H
 go_enter Try.func111, Try.ntmps111
 go_wp2_with (first | ((with_reducible refine gate_callee (f := 50) rfl ?_); refine gl 8 Try.func50 #[.slice A0 l0.length c0] ?_; (with_reducible refine (impl_slopes.calls k _ _ l0 t523 _ ?side1 ?side2 A2.out).mono ?_); (case side1 => repeat (first | exact HR0.out | (with_reducible refine Kd.C_alloc ?_ _) | (with_reducible refine Kd.C_drewN ?_ _) | (with_reducible refine Kd.C_drew ?_))); (case side2 => exact HC0.out); rintro e w3 ⟨v524, rfl, ho0, hb⟩; refine ⟨_, rfl, ?_⟩; have HO525 := Aside0.mk (Kd.R_lower ho0 (below_size bl)); replace HB := kh hb; (try clear hb); (try clear hb2); (try clear hk); (try clear hi); (try clear ho0); obtain ⟨Ao4, co4, eo4⟩ := Kd.R_slice HO525.out; subst eo4))
 go_loopg [3, 10] k (fun kq v3 v10 w' => ∃ (x3_1 : List (List Int)) (x10_1 : Int), v10 = .int .i64 x10_1 ∧ Aside0 (impl_laps.l0 kq x3_1 t523 (t523.length : Int) x10_1 = some r) ∧ Aside0 (kq ≤ k) ∧ Aside0 (Kd.S (Kd.slice 3 (Kd.int .i64)) 39 w' w.heap.size (fun _ => True) v3 x3_1) ∧ Aside0 (Kd.R k28 28 w' w.heap.size (fun _ => True) (.slice Ao4 t523.length co4) t523) ∧ Aside0 (Below w.heap.size w w'))
 case atStart => exact ⟨(([] : List (List Int))), (0), rs, H', ⟨Nat.le_refl _⟩, ⟨by first | exact Kd.S_nil _ _ _ _ _ | exact Kd.N_nil _ _ _ _ _ | exact Kd.V_nil _ _ _ _ _ | exact Kd.Q_nil _ _ _ _ _ | exact Kd.R_nil _ _ _ _ _⟩, ⟨by (with_reducible repeat (first | apply Kd.R_alloc | apply Kd.R_drewN | apply Kd.R_drew)); exact HO525.out⟩, ⟨bl⟩⟩
 case round =>
  clear H'
  try clear c1
  try clear p2
  obtain ⟨x3_1, x10_1, rfl, HA, HK1, HO_3, HO_8, HB⟩ := hrel
  cases gk with
  | zero => exact absurd HA.out (by simp [impl_laps.l0])
  | succ k1 =>
   have H := HA.out
   clear HA
   simp only [impl_laps.l0] at H
   by_cases c5 : x10_1 < (t523.length : Int)
   ·rw [if_pos c5] at H
    have c5b0 : decide (x10_1 < (t523.length : Int)) = true := decide_eq_true c5
    clear c5
    by_cases c6 : 0 ≤ x10_1
    ·rw [if_pos c6] at H
     have c6b0 : decide (0 ≤ x10_1) = true := decide_eq_true c6
     clear c6
     by_cases c7 : x10_1 < (t523.length : Int)
     ·rw [if_pos c7] at H
      have c7b0 : decide (x10_1 < (t523.length : Int)) = true := decide_eq_true c7
      clear c7
      by_cases c8 : (wrap64 ((x3_1.length : Int) - 1)) ≥ 0
      ·rw [if_pos c8] at H
       have c8b0 : decide (0 ≤ (wrap64 ((x3_1.length : Int) - 1))) = true := decide_eq_true c8
       clear c8
       obtain ⟨ji9, hji9⟩ : ∃ j_ : Int, (wrap64 ((x3_1.length : Int) - 1)) = j_ := ⟨_, rfl⟩
       replace H : (if 0 ≤ (ji9) then (if (ji9) < (x3_1.length : Int) then (if 2 < ((rd_L5 x3_1 (ji9)).length : Int) then ((impl_sign.f ((rd_T28 t523 x10_1).f0) ((rd_T28 t523 x10_1).f1)).bind fun t530 => (if (rd (rd_L5 x3_1 (ji9)) 2) = t530 then (if 1 < ((rd_L5 x3_1 (ji9)).length : Int) then (impl_laps.l0 k1 (x3_1.set ((ji9) : Int).toNat ((rd_L5 x3_1 (ji9)).set (1 : Int).toNat (wrap64 (x10_1 + 1)))) t523 (t523.length : Int) (wrap64 (x10_1 + 1))) else (none)) else ((impl_sign.f ((rd_T28 t523 x10_1).f0) ((rd_T28 t523 x10_1).f1)).bind fun t535 => (if x3_1.length < 5864062014805 then (impl_laps.l0 k1 (x3_1 ++ [(([x10_1, wrap64 (x10_1 + 1), t535] : List Int))]) t523 (t523.length : Int) (wrap64 (x10_1 + 1))) else (none))))) else (none)) else (none)) else (none)) = some r := by first | (rw [hji9] at H; exact H) | (simp only [hji9] at H ⊢; exact H)
       (try rw [hji9] at c8b0)
       have hji9w : (IntKind.i64.wrap ((x3_1.length : Int) - 1)) = ji9 := (i64_w _).trans hji9
       by_cases c10 : 0 ≤ (ji9)
       ·rw [if_pos c10] at H
        have c10b0 : decide (0 ≤ (ji9)) = true := decide_eq_true c10
        clear c10
        by_cases c11 : (ji9) < (x3_1.length : Int)
        ·rw [if_pos c11] at H
         have c11b0 : decide ((ji9) < (x3_1.length : Int)) = true := decide_eq_true c11
         clear c11
         by_cases c12 : 2 < ((rd_L5 x3_1 (ji9)).length : Int)
         ·rw [if_pos c12] at H
          have c12b0 : decide (2 < ((rd_L5 x3_1 (ji9)).length : Int)) = true := decide_eq_true c12
          have c12b1 : decide (2 < (rd_L5 x3_1 (ji9)).length) = true := decide_eq_true (by omega)
          clear c12
          replace H := Option.bind_eq_some_iff.mp H
          obtain ⟨t530, A130, H⟩ := H
          replace H : (if (rd (rd_L5 x3_1 (ji9)) 2) = t530 then (if 1 < ((rd_L5 x3_1 (ji9)).length : Int) then (impl_laps.l0 k1 (x3_1.set ((ji9) : Int).toNat ((rd_L5 x3_1 (ji9)).set (1 : Int).toNat (wrap64 (x10_1 + 1)))) t523 (t523.length : Int) (wrap64 (x10_1 + 1))) else (none)) else ((impl_sign.f ((rd_T28 t523 x10_1).f0) ((rd_T28 t523 x10_1).f1)).bind fun t535 => (if x3_1.length < 5864062014805 then (impl_laps.l0 k1 (x3_1 ++ [(([x10_1, wrap64 (x10_1 + 1), t535] : List Int))]) t523 (t523.length : Int) (wrap64 (x10_1 + 1))) else (none)))) = some r := H
          have A13 := Aside0.mk A130
          clear A130
          by_cases c14 : (rd (rd_L5 x3_1 (ji9)) 2) = t530
          ·rw [if_pos c14] at H
           have c14b0 : ((rd (rd_L5 x3_1 (ji9)) 2) == t530) = true := beq_iff_eq.mpr c14
           have c14b1 : ((rd (rd_L5 x3_1 (ji9)) 2) != t530) = false := bne_eq_false_iff_eq.mpr c14
           clear c14
           by_cases c15 : 1 < ((rd_L5 x3_1 (ji9)).length : Int)
           ·rw [if_pos c15] at H
            have c15b0 : decide (1 < ((rd_L5 x3_1 (ji9)).length : Int)) = true := decide_eq_true c15
            have c15b1 : decide (1 < (rd_L5 x3_1 (ji9)).length) = true := decide_eq_true (by omega)
            clear c15
            obtain ⟨y532, hy532⟩ : ∃ y_ : List Int, y_ = ((rd_L5 x3_1 (ji9)).set (1 : Int).toNat (wrap64 (x10_1 + 1))) := ⟨_, rfl⟩
            replace H : (impl_laps.l0 k1 (x3_1.set ((ji9) : Int).toNat y532) t523 (t523.length : Int) (wrap64 (x10_1 + 1))) = some r := by first | (rw [hy532]; with_reducible exact H) | (have H2_ := (Option.bind_some _ _).symm.trans H; rw [hy532]; with_reducible exact H2_) | (have H2_ := (Option.bind_some _ _).symm.trans H; with_reducible exact H2_) | with_reducible exact H | (rw [hy532]; exact H) | exact H
            have Ny532 := Aside0.mk hy532
            clear hy532
            obtain ⟨y534, hy534⟩ : ∃ y_ : List (List Int), y_ = (x3_1.set ((ji9) : Int).toNat y532) := ⟨_, rfl⟩
            replace H : (impl_laps.l0 k1 y534 t523 (t523.length : Int) (wrap64 (x10_1 + 1))) = some r := by first | (rw [hy534]; with_reducible exact H) | (have H2_ := (Option.bind_some _ _).symm.trans H; rw [hy534]; with_reducible exact H2_) | (have H2_ := (Option.bind_some _ _).symm.trans H; with_reducible exact H2_) | with_reducible exact H | (rw [hy534]; exact H) | exact H
            have Ny534 := Aside0.mk hy534
            clear hy534
            have H' := Aside0.mk H
            clear H
            have p526 : 0 ≤ (x10_1 : Int) := da
            have q526 : x10_1 < (t523.length : Int) := da
            obtain ⟨ad526, e526, hx526_0, hx526_1⟩ := at_T28 (Kd.R_reads' HO_8.out).2.2 x10_1 p526 q526
            cases e526
            replace p526 := eq_true p526
            replace q526 := eq_true q526
            try go_wp2_with (first | ((with_reducible refine gate_dst (N := 5) rfl ?_); refine bx 5 #[.int .i64 0, .int .i64 0] 28 ?_; intro gb527 hg w17 hbox hb; have BK527 := Aside0.mk (hbox); have GW527 := Aside0.mk (bz hg); have GE527 := GW527; replace HO_3 := Aside0.mk (Kd.S_below (by (with_reducible repeat (first | apply Kd.S_alloc | apply Kd.S_drewN | apply Kd.S_drew)); exact HO_3.out) hb); replace HO_8 := Aside0.mk (Kd.R_below (Kd.R_elderB (by (with_reducible repeat (first | apply Kd.R_alloc | apply Kd.R_drewN | apply Kd.R_drew)); exact HO_8.out) gb527 (Nat.le_of_eq hg.symm)) hb); replace HB := kh hb; clear hb hbox hg; obtain ⟨hcz18_0, hcz18_1, hfz18_0, hfz18_1⟩ := b2 BK527; obtain ⟨Ao19, co19, eo19⟩ := Kd.S_slice HO_3.out; subst eo19))
            have n0_ : Aside0 (Kd.S (Kd.slice 3 (Kd.int .i64)) 39 ((w17.setCell ⟨gb527, 0, none⟩ (.int .i64 ((rd_T28 t523 x10_1).f0))).setCell ⟨gb527, 1, none⟩ (.int .i64 ((rd_T28 t523 x10_1).f1))) w.heap.size (fun _ => True) (.slice Ao19 x3_1.length co19) x3_1) := ⟨by (with_reducible repeat (first | apply Kd.S_alloc | apply Kd.S_drewN | apply Kd.S_drew)); exact Kd.S_mono (Kd.S_far (p := ⟨gb527, 1, none⟩) (Kd.S_far (p := ⟨gb527, 0, none⟩) (Kd.S_types HO_3.out BK527.out (by decide)) (fun _ hk => hk.2) (.int .i64 ((rd_T28 t523 x10_1).f0))) (fun _ hk => hk.2) (.int .i64 ((rd_T28 t523 x10_1).f1))) (fun _ hk => trivial)⟩
            have n1_ : Aside0 (Kd.R k28 28 ((w17.setCell ⟨gb527, 0, none⟩ (.int .i64 ((rd_T28 t523 x10_1).f0))).setCell ⟨gb527, 1, none⟩ (.int .i64 ((rd_T28 t523 x10_1).f1))) w.heap.size (fun k_ => k_ ≠ gb527) (.slice (some ad526) t523.length co4) t523) := ⟨by (with_reducible repeat (first | apply Kd.R_alloc | apply Kd.R_drewN | apply Kd.R_drew)); exact Kd.R_mono (Kd.R_far (p := ⟨gb527, 1, none⟩) (Kd.R_far (p := ⟨gb527, 0, none⟩) (Kd.R_mono HO_8.out (fun k_ hk => (⟨hk, hk.2⟩ : _ ∧ k_ ≠ gb527))) (fun _ hk => hk.2) (.int .i64 ((rd_T28 t523 x10_1).f0))) (fun _ hk => hk.2) (.int .i64 ((rd_T28 t523 x10_1).f1))) (fun _ hk => hk.1.2)⟩
            have n2_ : Aside0 (((w17.setCell ⟨gb527, 0, none⟩ (.int .i64 ((rd_T28 t523 x10_1).f0))).setCell ⟨gb527, 1, none⟩ (.int .i64 ((rd_T28 t523 x10_1).f1))).heap[gb527]? = some (.cells #[.int .i64 ((rd_T28 t523 x10_1).f0), .int .i64 ((rd_T28 t523 x10_1).f1)] 28 (0, 0))) := ⟨by (with_reducible repeat (first | refine blk_drewN ?_ _ | refine blk_drew ?_ | refine blk_alloc ?_ _)); refine blk_put (cs := #[.int .i64 ((rd_T28 t523 x10_1).f0), .int .i64 0]) ?_ 1 _ rfl; (with_reducible repeat (first | refine blk_drewN ?_ _ | refine blk_drew ?_ | refine blk_alloc ?_ _)); refine blk_put (cs := #[.int .i64 0, .int .i64 0]) ?_ 0 _ rfl; (with_reducible repeat (first | refine blk_drewN ?_ _ | refine blk_drew ?_ | refine blk_alloc ?_ _)); exact BK527.out⟩
            have n3_ : Aside0 (Below w.heap.size w ((w17.setCell ⟨gb527, 0, none⟩ (.int .i64 ((rd_T28 t523 x10_1).f0))).setCell ⟨gb527, 1, none⟩ (.int .i64 ((rd_T28 t523 x10_1).f1)))) := ⟨bl⟩
            (try clear HO_3)
            (try clear HO_8)
            (try clear BK527)
            (try clear HB)
            generalize ((w17.setCell ⟨gb527, 0, none⟩ (.int .i64 ((rd_T28 t523 x10_1).f0))).setCell ⟨gb527, 1, none⟩ (.int .i64 ((rd_T28 t523 x10_1).f1))) = w20 at n0_ n1_ n2_ n3_ ⊢
            have HO_3 := n0_
            have HO_8 := n1_
            have BK527 := n2_
            have HB := n3_
            clear n0_ n1_ n2_ n3_
            replace HO_3 := Aside0.mk (Kd.S_drew HO_3.out)
            replace HO_8 := Aside0.mk (Kd.R_drew HO_8.out)
            replace BK527 := Aside0.mk (blk_drew BK527.out)
            replace HB := Aside0.mk (below_drew1 HB.out)
            have p528 : 0 ≤ ((ji9) : Int) := da
            have q528 : (ji9) < (x3_1.length : Int) := da
            obtain ⟨ad528, A528_0, c528_0, e528, hx528_0, hl528_0, hi528_0⟩ := at_L5 (Kd.S_reads' HO_3.out).2.2 (ji9) p528 q528
            cases e528
            obtain ⟨ce528, hce528, hMe528, hcc528⟩ := Kd.S_get HO_3.out [] (ji9) p528 (by first | exact q528 | exact da | (have e_ := (Kd.S_reads' HO_3.out).1; omega))
            obtain ⟨ve528_0, rfl, ge528_0⟩ := hMe528
            have hv528_0 := hcc528 0 _ rfl
            rw [Nat.add_zero, show ((Kd.slice 3 (Kd.int .i64))).sz = 1 from rfl, Nat.mul_one] at hv528_0
            replace hv528_0 := Option.some.inj (hv528_0.symm.trans hx528_0)
            rw [hv528_0] at ge528_0
            have HL528_0 := Aside0.mk (show Kd.R (Kd.int .i64) 3 _ _ _ _ (rd_L5 x3_1 (ji9)) from ge528_0)
            clear hv528_0 ge528_0
            have HX528_0 := Aside0.mk hx528_0
            clear hcc528 hce528
            have HR528_0 := Aside0.mk hi528_0
            have HC528_0 := Aside0.mk hl528_0
            clear hi528_0 hl528_0
            replace p528 := eq_true p528
            replace q528 := eq_true q528
            have p529 : 0 ≤ (2 : Int) := (by omega)
            have q529 : 2 < ((rd_L5 x3_1 (ji9)).length : Int) := da
            obtain ⟨ad529, e529, hx529_0⟩ := Kd.at_int (by repeat (first | (with_reducible exact HR528_0.out) | (with_reducible refine Kd.C_alloc ?_ _) | (with_reducible refine Kd.C_drewN ?_ _) | (with_reducible refine Kd.C_drew ?_) | exact HR528_0.out)) 2 p529 q529
            cases e529
            (try simp only [show (2 : Int).toNat = 2 from rfl, Nat.reduceMul, Nat.reduceEqDiff, Go.Addr.add, ↓reduceIte] at hx529_0)
            have qi529 : (2 < (rd_L5 x3_1 (ji9)).length) = True := eq_true (by omega)
            (try rw [show ((2 : Int)).toNat = 2 from rfl] at hx529_0)
            replace p529 := eq_true p529
            replace q529 := eq_true q529
            refine start_ (n := 13) (S := fun w' => w'.cell? ⟨gb527, 0, none⟩ = some (.int .i64 ((rd_T28 t523 x10_1).f0)) ∧ w'.cell? ⟨gb527, 1, none⟩ = some (.int .i64 ((rd_T28 t523 x10_1).f1)) ∧ w'.cell? (ad528.add ((ji9)).toNat) = some (.slice (some ad529) (rd_L5 x3_1 (ji9)).length c528_0) ∧ w'.cell? ⟨ad529.block, ad529.off + 2, none⟩ = some (.int .i64 (rd (rd_L5 x3_1 (ji9)) 2))) (ds := []) (tb 0 13) (by kernel_rfl) rfl rfl ⟨(blk_cell BK527.out 0).trans rfl, (blk_cell BK527.out 1).trans rfl, hx528_0, hx529_0⟩ (fun hHeld => ?_); refine with_tabW impl_laps.tab6 impl_laps.bits6 (fun HT_ HW_ => ?_)
            generalize w20.drew = w21 at HO_3 HO_8 BK527 HB HL528_0 HR528_0 HX528_0 hx528_0 hx529_0 hHeld ⊢
            refine pu 0 18 (tb 1 12) ?_
            refine pu 1 19 (tb 2 11) ?_
            refine pu 2 20 (tb 3 10) ?_
            refine pu 3 21 (tb 4 9) ?_
            refine pu 4 22 (tb 5 8) ?_
            refine pu 5 23 (tb 6 7) ?_
            refine tk 6 24 (tb 7 6) (hy := by rintro w' ⟨s0, s1, s2, s3⟩; go_simp; with_reducible rfl) (h := ?_)
            refine pu 7 25 (tb 8 5) ?_
            refine tk 8 26 (tb 9 4) (hy := by rintro w' ⟨s0, s1, s2, s3⟩; go_simp; with_reducible rfl) (h := ?_)
            refine tk 9 27 (tb 10 3) (hy := by rintro w' ⟨s0, s1, s2, s3⟩; go_simp; with_reducible rfl) (h := ?_)
            refine on 10 28 (tb 11 2) (fun K hK => ?_)
            refine gs Try.func132 #[.agg #[.int .i64 ((rd_T28 t523 x10_1).f0), .int .i64 ((rd_T28 t523 x10_1).f1)]] ?_
            with_reducible refine (impl_sign.calls ((rd_T28 t523 x10_1).f0) ((rd_T28 t523 x10_1).f1) t530 _ A13.out).mono ?_
            rintro e w22 ⟨rfl, hb⟩
            have HS2_ := (hb.cell (World.block_lt_of_cell? _ _ (hHeld.2.2.1))).trans (hHeld.2.2.1)
            have HS3_ := (hb.cell (World.block_lt_of_cell? _ _ (hHeld.2.2.2))).trans (hHeld.2.2.2)
            refine ⟨_, rfl, ?_⟩
            replace HO_3 := Aside0.mk (Kd.S_below (by (with_reducible repeat (first | apply Kd.S_alloc | apply Kd.S_drewN | apply Kd.S_drew)); exact HO_3.out) hb)
            replace HO_8 := Aside0.mk (Kd.R_below (by (with_reducible repeat (first | apply Kd.R_alloc | apply Kd.R_drewN | apply Kd.R_drew)); exact HO_8.out) hb)
            replace HL528_0 := Aside0.mk (Kd.R_below (by (with_reducible repeat (first | apply Kd.R_alloc | apply Kd.R_drewN | apply Kd.R_drew)); exact HL528_0.out) hb)
            replace BK527 := kb BK527 hb
            replace HR528_0 := Aside0.mk (Kd.C_below (by repeat (first | (with_reducible exact HR528_0.out) | (with_reducible refine Kd.C_alloc ?_ _) | (with_reducible refine Kd.C_drewN ?_ _) | (with_reducible refine Kd.C_drew ?_) | exact HR528_0.out)) hb)
            replace HX528_0 := Aside0.mk (pw_cell_below hb HX528_0.out)
            replace HB := kh hb
            (try clear hb)
            (try clear hb2)
            (try clear hk)
            (try clear hi)
            refine hK.out _ _ ⟨(blk_cell BK527.out 0).trans rfl, (blk_cell BK527.out 1).trans rfl, HS2_, HS3_⟩ (fun hHeld => ?_)
            clear hK K
            refine nm 28 ?_
            refine pu 11 29 (tb 12 1) ?_
            refine pu 12 30 (tb 13 0) ?_
            refine done_ (done_of HT_.out (by kernel_rfl)) ?_
            have p531 : 0 ≤ ((ji9) : Int) := da
            have q531 : (ji9) < (x3_1.length : Int) := da
            obtain ⟨ad531, A531_0, c531_0, e531, hx531_0, hl531_0, hi531_0⟩ := at_L5 (Kd.S_reads' HO_3.out).2.2 (ji9) p531 q531
            obtain rfl : ad528 = ad531 := (by injection e531)
            obtain ⟨ce531, hce531, hMe531, hcc531⟩ := Kd.S_get HO_3.out [] (ji9) p531 (by first | exact q531 | exact da | (have e_ := (Kd.S_reads' HO_3.out).1; omega))
            obtain ⟨ve531_0, rfl, ge531_0⟩ := hMe531
            have hv531_0 := hcc531 0 _ rfl
            rw [Nat.add_zero, show ((Kd.slice 3 (Kd.int .i64))).sz = 1 from rfl, Nat.mul_one] at hv531_0
            replace hv531_0 := Option.some.inj (hv531_0.symm.trans hx531_0)
            rw [hv531_0] at ge531_0
            have HL531_0 := Aside0.mk (show Kd.R (Kd.int .i64) 3 _ _ _ _ (rd_L5 x3_1 (ji9)) from ge531_0)
            clear hv531_0 ge531_0
            have HX531_0 := Aside0.mk hx531_0
            clear hcc531 hce531
            have HR531_0 := Aside0.mk hi531_0
            have HC531_0 := Aside0.mk hl531_0
            clear hi531_0 hl531_0
            replace p531 := eq_true p531
            replace q531 := eq_true q531
            have e_ := Option.some.inj (HX528_0.out.symm.trans hx531_0)
            injection e_ with ea_ en_ ec_
            subst ec_
            subst ea_
            clear en_
            have p16 : 0 ≤ (1 : Int) := (by omega)
            have q16 : (1 : Int) < (((rd_L5 x3_1 (ji9)).length : Int) : Int) := da
            have qi16 : (1 < (rd_L5 x3_1 (ji9)).length) = True := eq_true (by omega)
            obtain ⟨go16, co16, eo16, gb16, gl16, cl16, HG16⟩ := Kd.R_form HL531_0.out (by omega)
            (first | cases eo16 | (injection eo16 with ea_ en_ ec_; (first | subst ea_ | (injection ea_ with ea_; subst ea_)); subst ec_; clear en_))
            have GB16 := Aside0.mk gb16
            have GG16 := Aside0.mk HG16
            clear gb16 gl16 HG16
            (first | simp only [add_plain] at hx529_0 | skip)
            obtain ⟨hx16_0, hf16_0⟩ := Kd.R_celln 0 HL531_0.out (1 : Int) p16 q16
            (try rw [show ((1 : Int)).toNat = 1 from rfl] at hx16_0)
            (try simp only [Nat.reduceMul, Nat.zero_mul, Nat.zero_add, Nat.reduceAdd] at hx16_0)
            (try rw [show ((1 : Int)).toNat = 1 from rfl] at hf16_0)
            (try simp only [Nat.reduceMul, Nat.zero_mul, Nat.zero_add, Nat.reduceAdd] at hf16_0)
            replace p16 := eq_true p16
            replace q16 := eq_true q16
            have hq23 : ((ji9) : Int) < (x3_1.length : Int) := (by have h_ : ((ji9) : Int) < ((x3_1.length : Int) : Int) := da; first | exact h_ | (have e_ := (Kd.S_reads' HO_3.out).1; omega) | simpa only [List.length_set, List.length_set] using h_)
            obtain ⟨oki23, ce23, hcl23, hM23, hcc23, hok23, hbk23⟩ := Kd.S_borrow HO_3.out [] ((ji9) : Int) (da) hq23
            obtain ⟨ve23_0, rfl, ge23_0⟩ := hM23
            have hv23 := hcc23 0 _ rfl
            rw [Nat.add_zero, show ((Kd.slice 3 (Kd.int .i64))).sz = 1 from rfl, Nat.mul_one] at hv23
            replace hv23 := Option.some.inj (hv23.symm.trans HX531_0.out)
            subst hv23
            clear hcc23 hcl23
            replace ge23_0 := (show Kd.R (Kd.int .i64) 3 _ _ _ _ (rd_L5 x3_1 (ji9)) from ge23_0)
            have HP23 := Kd.R_putg ge23_0 (1 : Int) (wrap64 (x10_1 + 1))
            try go_wp2_with (first | ((with_reducible refine gate_store (t := 3) (p := 37) rfl ?_); refine store_event (t := 3) (p := 37) (v := ?vo_w24) (w1 := (w22.setCell ⟨go16, 1, none⟩ (.int .i64 (wrap64 (x10_1 + 1))))) ?hg ?ho ?hn ?hr ?_; (case ho => rfl); (case hg => rfl); (case hn => rfl); (case hr => first | (go_simp; done) | (go_simp; rfl)); intro w24 hw; have hg : w22.grownBy w24 (some go16) := (by rw [hw]; exact HP23.2); have hz_ : Kd.R (Kd.int .i64) 3 w24 w.heap.size oki23 (.slice (some ⟨go16, 0, none⟩) (rd_L5 x3_1 (ji9)).length c528_0) y532 := (by rw [hw, Ny532.out]; exact HP23.1); have hp_ : Kd.S (Kd.slice 3 (Kd.int .i64)) 39 w24 w.heap.size (fun _ => True) (.slice (some ad528) x3_1.length co19) y534 := (by rw [Ny534.out]; exact hbk23 hg (fun k_ e_ => by injection e_ with e_; subst e_; exact ge23_0.1 _ rfl) (Kd.M_row hz_)); have hm_ := Kd.R_mono hz_ hok23; clear HP23 hbk23; have HL549 := Aside0.mk (hm_); have HC533 := Aside0.mk ((Kd.R_reads' hm_).2.1); replace HO_3 := Aside0.mk (hp_); replace HO_8 := Aside0.mk (Kd.R_over' (v := (.slice (some ⟨go16, 0, none⟩) (rd_L5 x3_1 (ji9)).length c528_0)) (by (with_reducible repeat (first | apply Kd.R_alloc | apply Kd.R_drewN | apply Kd.R_drew)); exact HO_8.out) (Kd.R_typed HL531_0.out) (by decide) hg); replace BK527 := Aside0.mk (blk_grown (g := gb527) (o := .cells #[.int .i64 ((rd_T28 t523 x10_1).f0), .int .i64 ((rd_T28 t523 x10_1).f1)] 28 (0, 0)) (bo gb527) hg (Kd.R_ne HL531_0.out BK527.out (by decide))); replace HB := Aside0.mk ((by rw [hw]; exact below_set (HB.out) GB16.out : Below w.heap.size w w24)); clear HL528_0 HL531_0; clear hg hw hp_ hz_ hm_ hok23))
            go_roundg k1
            case measure => have := HK1.out; omega
            case rel => exact ⟨(y534), (wrap64 (x10_1 + 1)), rs, H', ⟨by have := HK1.out; omega⟩, ⟨by (with_reducible repeat (first | apply Kd.S_alloc | apply Kd.S_drewN | apply Kd.S_drew)); exact HO_3.out⟩, ⟨by (with_reducible repeat (first | apply Kd.R_alloc | apply Kd.R_drewN | apply Kd.R_drew)); exact Kd.R_mono HO_8.out (fun _ hk => trivial)⟩, ⟨bl⟩⟩
           ·rw [if_neg c15] at H
            exact absurd H (by simp)
          ·rw [if_neg c14] at H
           have c14b0 : ((rd (rd_L5 x3_1 (ji9)) 2) == t530) = false := beq_eq_false_iff_ne.mpr c14
           have c14b1 : ((rd (rd_L5 x3_1 (ji9)) 2) != t530) = true := bne_iff_ne.mpr c14
           replace H := Option.bind_eq_some_iff.mp H
           obtain ⟨t535, A250, H⟩ := H
           replace H : (if x3_1.length < 5864062014805 then (impl_laps.l0 k1 (x3_1 ++ [(([x10_1, wrap64 (x10_1 + 1), t535] : List Int))]) t523 (t523.length : Int) (wrap64 (x10_1 + 1))) else (none)) = some r := H
           have A25 := Aside0.mk A250
           clear A250
           obtain ⟨y536, hy536⟩ : ∃ y_ : List Int, y_ = (([x10_1, wrap64 (x10_1 + 1), t535] : List Int)) := ⟨_, rfl⟩
           replace H : (if x3_1.length < 5864062014805 then (impl_laps.l0 k1 (x3_1 ++ [y536]) t523 (t523.length : Int) (wrap64 (x10_1 + 1))) else (none)) = some r := by first | (rw [hy536]; with_reducible exact H) | (have H2_ := (Option.bind_some _ _).symm.trans H; rw [hy536]; with_reducible exact H2_) | (have H2_ := (Option.bind_some _ _).symm.trans H; with_reducible exact H2_) | with_reducible exact H | (rw [hy536]; exact H) | exact H
           have Ny536 := Aside0.mk hy536
           clear hy536
           by_cases c26 : x3_1.length < 5864062014805
           ·rw [if_pos c26] at H
            have LMc26 := Aside0.mk c26
            clear c26
            obtain ⟨y539, hy539⟩ : ∃ y_ : List (List Int), y_ = (x3_1 ++ [y536]) := ⟨_, rfl⟩
            replace H : (impl_laps.l0 k1 y539 t523 (t523.length : Int) (wrap64 (x10_1 + 1))) = some r := by first | (rw [hy539]; with_reducible exact H) | (have H2_ := (Option.bind_some _ _).symm.trans H; rw [hy539]; with_reducible exact H2_) | (have H2_ := (Option.bind_some _ _).symm.trans H; with_reducible exact H2_) | with_reducible exact H | (rw [hy539]; exact H) | exact H
            have Ny539 := Aside0.mk hy539
            clear hy539
            have H' := Aside0.mk H
            clear H
            have p526 : 0 ≤ (x10_1 : Int) := da
            have q526 : x10_1 < (t523.length : Int) := da
            obtain ⟨ad526, e526, hx526_0, hx526_1⟩ := at_T28 (Kd.R_reads' HO_8.out).2.2 x10_1 p526 q526
            cases e526
            replace p526 := eq_true p526
            replace q526 := eq_true q526
            try go_wp2_with (first | ((with_reducible refine gate_dst (N := 5) rfl ?_); refine bx 5 #[.int .i64 0, .int .i64 0] 28 ?_; intro gb527 hg w27 hbox hb; have BK527 := Aside0.mk (hbox); have GW527 := Aside0.mk (bz hg); have GE527 := GW527; replace HO_3 := Aside0.mk (Kd.S_below (by (with_reducible repeat (first | apply Kd.S_alloc | apply Kd.S_drewN | apply Kd.S_drew)); exact HO_3.out) hb); replace HO_8 := Aside0.mk (Kd.R_below (Kd.R_elderB (by (with_reducible repeat (first | apply Kd.R_alloc | apply Kd.R_drewN | apply Kd.R_drew)); exact HO_8.out) gb527 (Nat.le_of_eq hg.symm)) hb); replace HB := kh hb; clear hb hbox hg; obtain ⟨hcz28_0, hcz28_1, hfz28_0, hfz28_1⟩ := b2 BK527; obtain ⟨Ao29, co29, eo29⟩ := Kd.S_slice HO_3.out; subst eo29))
            have n0_ : Aside0 (Kd.S (Kd.slice 3 (Kd.int .i64)) 39 ((w27.setCell ⟨gb527, 0, none⟩ (.int .i64 ((rd_T28 t523 x10_1).f0))).setCell ⟨gb527, 1, none⟩ (.int .i64 ((rd_T28 t523 x10_1).f1))) w.heap.size (fun _ => True) (.slice Ao29 x3_1.length co29) x3_1) := ⟨by (with_reducible repeat (first | apply Kd.S_alloc | apply Kd.S_drewN | apply Kd.S_drew)); exact Kd.S_mono (Kd.S_far (p := ⟨gb527, 1, none⟩) (Kd.S_far (p := ⟨gb527, 0, none⟩) (Kd.S_types HO_3.out BK527.out (by decide)) (fun _ hk => hk.2) (.int .i64 ((rd_T28 t523 x10_1).f0))) (fun _ hk => hk.2) (.int .i64 ((rd_T28 t523 x10_1).f1))) (fun _ hk => trivial)⟩
            have n1_ : Aside0 (Kd.R k28 28 ((w27.setCell ⟨gb527, 0, none⟩ (.int .i64 ((rd_T28 t523 x10_1).f0))).setCell ⟨gb527, 1, none⟩ (.int .i64 ((rd_T28 t523 x10_1).f1))) w.heap.size (fun k_ => k_ ≠ gb527) (.slice (some ad526) t523.length co4) t523) := ⟨by (with_reducible repeat (first | apply Kd.R_alloc | apply Kd.R_drewN | apply Kd.R_drew)); exact Kd.R_mono (Kd.R_far (p := ⟨gb527, 1, none⟩) (Kd.R_far (p := ⟨gb527, 0, none⟩) (Kd.R_mono HO_8.out (fun k_ hk => (⟨hk, hk.2⟩ : _ ∧ k_ ≠ gb527))) (fun _ hk => hk.2) (.int .i64 ((rd_T28 t523 x10_1).f0))) (fun _ hk => hk.2) (.int .i64 ((rd_T28 t523 x10_1).f1))) (fun _ hk => hk.1.2)⟩
            have n2_ : Aside0 (((w27.setCell ⟨gb527, 0, none⟩ (.int .i64 ((rd_T28 t523 x10_1).f0))).setCell ⟨gb527, 1, none⟩ (.int .i64 ((rd_T28 t523 x10_1).f1))).heap[gb527]? = some (.cells #[.int .i64 ((rd_T28 t523 x10_1).f0), .int .i64 ((rd_T28 t523 x10_1).f1)] 28 (0, 0))) := ⟨by (with_reducible repeat (first | refine blk_drewN ?_ _ | refine blk_drew ?_ | refine blk_alloc ?_ _)); refine blk_put (cs := #[.int .i64 ((rd_T28 t523 x10_1).f0), .int .i64 0]) ?_ 1 _ rfl; (with_reducible repeat (first | refine blk_drewN ?_ _ | refine blk_drew ?_ | refine blk_alloc ?_ _)); refine blk_put (cs := #[.int .i64 0, .int .i64 0]) ?_ 0 _ rfl; (with_reducible repeat (first | refine blk_drewN ?_ _ | refine blk_drew ?_ | refine blk_alloc ?_ _)); exact BK527.out⟩
            have n3_ : Aside0 (Below w.heap.size w ((w27.setCell ⟨gb527, 0, none⟩ (.int .i64 ((rd_T28 t523 x10_1).f0))).setCell ⟨gb527, 1, none⟩ (.int .i64 ((rd_T28 t523 x10_1).f1)))) := ⟨bl⟩
            (try clear HO_3)
            (try clear HO_8)
            (try clear BK527)
            (try clear HB)
            generalize ((w27.setCell ⟨gb527, 0, none⟩ (.int .i64 ((rd_T28 t523 x10_1).f0))).setCell ⟨gb527, 1, none⟩ (.int .i64 ((rd_T28 t523 x10_1).f1))) = w30 at n0_ n1_ n2_ n3_ ⊢
            have HO_3 := n0_
            have HO_8 := n1_
            have BK527 := n2_
            have HB := n3_
            clear n0_ n1_ n2_ n3_
            replace HO_3 := Aside0.mk (Kd.S_drew HO_3.out)
            replace HO_8 := Aside0.mk (Kd.R_drew HO_8.out)
            replace BK527 := Aside0.mk (blk_drew BK527.out)
            replace HB := Aside0.mk (below_drew1 HB.out)
            have p528 : 0 ≤ ((ji9) : Int) := da
            have q528 : (ji9) < (x3_1.length : Int) := da
            obtain ⟨ad528, A528_0, c528_0, e528, hx528_0, hl528_0, hi528_0⟩ := at_L5 (Kd.S_reads' HO_3.out).2.2 (ji9) p528 q528
            cases e528
            obtain ⟨ce528, hce528, hMe528, hcc528⟩ := Kd.S_get HO_3.out [] (ji9) p528 (by first | exact q528 | exact da | (have e_ := (Kd.S_reads' HO_3.out).1; omega))
            obtain ⟨ve528_0, rfl, ge528_0⟩ := hMe528
            have hv528_0 := hcc528 0 _ rfl
            rw [Nat.add_zero, show ((Kd.slice 3 (Kd.int .i64))).sz = 1 from rfl, Nat.mul_one] at hv528_0
            replace hv528_0 := Option.some.inj (hv528_0.symm.trans hx528_0)
            rw [hv528_0] at ge528_0
            have HL528_0 := Aside0.mk (show Kd.R (Kd.int .i64) 3 _ _ _ _ (rd_L5 x3_1 (ji9)) from ge528_0)
            clear hv528_0 ge528_0
            have HX528_0 := Aside0.mk hx528_0
            clear hcc528 hce528
            have HR528_0 := Aside0.mk hi528_0
            have HC528_0 := Aside0.mk hl528_0
            clear hi528_0 hl528_0
            replace p528 := eq_true p528
            replace q528 := eq_true q528
            have p529 : 0 ≤ (2 : Int) := (by omega)
            have q529 : 2 < ((rd_L5 x3_1 (ji9)).length : Int) := da
            obtain ⟨ad529, e529, hx529_0⟩ := Kd.at_int (by repeat (first | (with_reducible exact HR528_0.out) | (with_reducible refine Kd.C_alloc ?_ _) | (with_reducible refine Kd.C_drewN ?_ _) | (with_reducible refine Kd.C_drew ?_) | exact HR528_0.out)) 2 p529 q529
            cases e529
            (try simp only [show (2 : Int).toNat = 2 from rfl, Nat.reduceMul, Nat.reduceEqDiff, Go.Addr.add, ↓reduceIte] at hx529_0)
            have qi529 : (2 < (rd_L5 x3_1 (ji9)).length) = True := eq_true (by omega)
            (try rw [show ((2 : Int)).toNat = 2 from rfl] at hx529_0)
            replace p529 := eq_true p529
            replace q529 := eq_true q529
            refine start_ (n := 13) (S := fun w' => w'.cell? ⟨gb527, 0, none⟩ = some (.int .i64 ((rd_T28 t523 x10_1).f0)) ∧ w'.cell? ⟨gb527, 1, none⟩ = some (.int .i64 ((rd_T28 t523 x10_1).f1)) ∧ w'.cell? (ad528.add ((ji9)).toNat) = some (.slice (some ad529) (rd_L5 x3_1 (ji9)).length c528_0) ∧ w'.cell? ⟨ad529.block, ad529.off + 2, none⟩ = some (.int .i64 (rd (rd_L5 x3_1 (ji9)) 2))) (ds := []) (tb 0 13) (by kernel_rfl) rfl rfl ⟨(blk_cell BK527.out 0).trans rfl, (blk_cell BK527.out 1).trans rfl, hx528_0, hx529_0⟩ (fun hHeld => ?_); refine with_tabW impl_laps.tab6 impl_laps.bits6 (fun HT_ HW_ => ?_)
            generalize w30.drew = w31 at HO_3 HO_8 BK527 HB HL528_0 HR528_0 HX528_0 hx528_0 hx529_0 hHeld ⊢
            refine pu 0 18 (tb 1 12) ?_
            refine pu 1 19 (tb 2 11) ?_
            refine pu 2 20 (tb 3 10) ?_
            refine pu 3 21 (tb 4 9) ?_
            refine pu 4 22 (tb 5 8) ?_
            refine pu 5 23 (tb 6 7) ?_
            refine tk 6 24 (tb 7 6) (hy := by rintro w' ⟨s0, s1, s2, s3⟩; go_simp; with_reducible rfl) (h := ?_)
            refine pu 7 25 (tb 8 5) ?_
            refine tk 8 26 (tb 9 4) (hy := by rintro w' ⟨s0, s1, s2, s3⟩; go_simp; with_reducible rfl) (h := ?_)
            refine tk 9 27 (tb 10 3) (hy := by rintro w' ⟨s0, s1, s2, s3⟩; go_simp; with_reducible rfl) (h := ?_)
            refine on 10 28 (tb 11 2) (fun K hK => ?_)
            refine gs Try.func132 #[.agg #[.int .i64 ((rd_T28 t523 x10_1).f0), .int .i64 ((rd_T28 t523 x10_1).f1)]] ?_
            with_reducible refine (impl_sign.calls ((rd_T28 t523 x10_1).f0) ((rd_T28 t523 x10_1).f1) t530 _ A13.out).mono ?_
            rintro e w32 ⟨rfl, hb⟩
            have HS2_ := (hb.cell (World.block_lt_of_cell? _ _ (hHeld.2.2.1))).trans (hHeld.2.2.1)
            have HS3_ := (hb.cell (World.block_lt_of_cell? _ _ (hHeld.2.2.2))).trans (hHeld.2.2.2)
            refine ⟨_, rfl, ?_⟩
            replace HO_3 := Aside0.mk (Kd.S_below (by (with_reducible repeat (first | apply Kd.S_alloc | apply Kd.S_drewN | apply Kd.S_drew)); exact HO_3.out) hb)
            replace HO_8 := Aside0.mk (Kd.R_below (by (with_reducible repeat (first | apply Kd.R_alloc | apply Kd.R_drewN | apply Kd.R_drew)); exact HO_8.out) hb)
            replace HL528_0 := Aside0.mk (Kd.R_below (by (with_reducible repeat (first | apply Kd.R_alloc | apply Kd.R_drewN | apply Kd.R_drew)); exact HL528_0.out) hb)
            replace BK527 := kb BK527 hb
            replace HR528_0 := Aside0.mk (Kd.C_below (by repeat (first | (with_reducible exact HR528_0.out) | (with_reducible refine Kd.C_alloc ?_ _) | (with_reducible refine Kd.C_drewN ?_ _) | (with_reducible refine Kd.C_drew ?_) | exact HR528_0.out)) hb)
            replace HX528_0 := Aside0.mk (pw_cell_below hb HX528_0.out)
            replace HB := kh hb
            (try clear hb)
            (try clear hb2)
            (try clear hk)
            (try clear hi)
            refine hK.out _ _ ⟨(blk_cell BK527.out 0).trans rfl, (blk_cell BK527.out 1).trans rfl, HS2_, HS3_⟩ (fun hHeld => ?_)
            clear hK K
            refine nm 28 ?_
            refine pu 11 29 (tb 12 1) ?_
            refine pu 12 30 (tb 13 0) ?_
            refine done_ (done_of HT_.out (by kernel_rfl)) ?_
            obtain ⟨hcz33_0, hcz33_1, hfz33_0, hfz33_1⟩ := b2 BK527
            try go_wp2_with (first | ((with_reducible refine gate_callee (f := 132) rfl ?_); refine gl 43 Try.func132 #[.agg #[.int .i64 ((rd_T28 t523 x10_1).f0), .int .i64 ((rd_T28 t523 x10_1).f1)]] ?_; (with_reducible refine (impl_sign.calls ((rd_T28 t523 x10_1).f0) ((rd_T28 t523 x10_1).f1) t535 _ A25.out).mono ?_); rintro e w34 ⟨rfl, hb⟩; refine ⟨_, rfl, ?_⟩; replace HO_3 := Aside0.mk (Kd.S_below (by (with_reducible repeat (first | apply Kd.S_alloc | apply Kd.S_drewN | apply Kd.S_drew)); exact HO_3.out) hb); replace HO_8 := Aside0.mk (Kd.R_below (by (with_reducible repeat (first | apply Kd.R_alloc | apply Kd.R_drewN | apply Kd.R_drew)); exact HO_8.out) hb); replace HL528_0 := Aside0.mk (Kd.R_below (by (with_reducible repeat (first | apply Kd.R_alloc | apply Kd.R_drewN | apply Kd.R_drew)); exact HL528_0.out) hb); replace BK527 := kb BK527 hb; replace HR528_0 := Aside0.mk (Kd.C_below (by repeat (first | (with_reducible exact HR528_0.out) | (with_reducible refine Kd.C_alloc ?_ _) | (with_reducible refine Kd.C_drewN ?_ _) | (with_reducible refine Kd.C_drew ?_) | exact HR528_0.out)) hb); replace HX528_0 := Aside0.mk (pw_cell_below hb HX528_0.out); replace HB := kh hb; (try clear hb); (try clear hb2); (try clear hk); (try clear hi)) | ((with_reducible refine gate_dst (N := 44) rfl ?_); refine Kd.R_lit (Kd.int .i64) _ 3 ?hg (N := 44) ?hd (xs := ([x10_1, wrap64 (x10_1 + 1), t535] : List Int)) (inner := [.int .i64 x10_1, .int .i64 (wrap64 (x10_1 + 1)), .int .i64 t535]) (ok := fun _ => True) (okp := fun _ => True) ?hr ?hp (fun _ hk => hk) trivial (Below.refl _ _) (Nat.le_refl _) (by simp) ?_; (case hd => rfl); (case hg => rfl); (case hr => first | (go_simp; done) | (go_simp; rfl)); (case hp => exact (Reps.one (show Kd.M (Kd.int .i64) _ _ _ x10_1 [.int .i64 x10_1] from rfl) (Reps.one (show Kd.M (Kd.int .i64) _ _ _ (wrap64 (x10_1 + 1)) [.int .i64 (wrap64 (x10_1 + 1))] from rfl) (Reps.one (show Kd.M (Kd.int .i64) _ _ _ t535 [.int .i64 t535] from rfl) (Reps.none _ _))))); intro v537 w35 ho36 hb hg_ hnew_; clear hg_ hnew_; (first | rw [← Ny536.out] at ho36 | (simp only [Int.reduceToNat] at ho36; rw [← Ny536.out] at ho36)); have HO538 := Aside0.mk (Kd.R_lower (Kd.R_new' ho36 (Kd.R_lt (by (with_reducible repeat (first | apply Kd.R_alloc | apply Kd.R_drewN | apply Kd.R_drew)); exact HL528_0.out))) (below_size bl)); replace HO_3 := Aside0.mk (Kd.S_elder' (by (with_reducible repeat (first | apply Kd.S_alloc | apply Kd.S_drewN | apply Kd.S_drew)); exact HO_3.out) (Kd.R_base ho36) hb); replace HO_8 := Aside0.mk (Kd.R_below (by (with_reducible repeat (first | apply Kd.R_alloc | apply Kd.R_drewN | apply Kd.R_drew)); exact HO_8.out) hb); replace HL528_0 := Aside0.mk (Kd.R_elder' (by (with_reducible repeat (first | apply Kd.R_alloc | apply Kd.R_drewN | apply Kd.R_drew)); exact HL528_0.out) (Kd.R_base ho36) hb); replace BK527 := kb BK527 hb; replace HR528_0 := Aside0.mk (Kd.C_below (by repeat (first | (with_reducible exact HR528_0.out) | (with_reducible refine Kd.C_alloc ?_ _) | (with_reducible refine Kd.C_drewN ?_ _) | (with_reducible refine Kd.C_drew ?_) | exact HR528_0.out)) hb); replace HX528_0 := Aside0.mk (pw_cell_below hb HX528_0.out); replace HB := kh hb; clear hb ho36; obtain ⟨Ao38, co38, eo38⟩ := Kd.R_slice HO538.out; subst eo38) | ((with_reducible refine gate_builtin (b := .append) (xs := #[.tmp 38, .tmp 45]) rfl ?_); at_builtin; refine Kd.S_append (Kd.slice 3 (Kd.int .i64)) (w0 := w) w.heap.size rfl (.tmp 38) (.tmp 45) 103 39 (.slice none 0 0) 24 rfl Try.underlying103 info39 rfl (by decide) (by omega) (.slice (some ad528) x3_1.length co29) x3_1 y536 [.slice Ao38 y536.length co38] (fun _ => True) (fun k_ => some k_ = (.slice Ao38 y536.length co38 : Value).ownBlock) rfl rfl ?aP (fun k_ hk_ => ((Kd.R_mono (ok' := fun k_ => ((fun _ => True)) k_ ∧ some k_ ≠ (.slice (some ad528) x3_1.length co29 : Value).ownBlock) (Kd.R_apart' (HO538.out) (Kd.S_typed HO_3.out) (by decide)) (fun k_ hk => ⟨trivial, hk.2⟩))).1 k_ hk_.symm) ?aF ?aO ?aB ?aS ?aL ?_; (case aP => exact Kd.M_row (Kd.R_mono (Kd.R_tight rfl (Kd.R_mono (ok' := fun k_ => ((fun _ => True)) k_ ∧ some k_ ≠ (.slice (some ad528) x3_1.length co29 : Value).ownBlock) (Kd.R_apart' (HO538.out) (Kd.S_typed HO_3.out) (by decide)) (fun k_ hk => ⟨trivial, hk.2⟩))) (fun _ h_ => h_))); (case aB => exact bl); (case aF => exact (fun _ _ => trivial)); (case aO => exact (by (with_reducible repeat (first | apply Kd.S_alloc | apply Kd.S_drewN | apply Kd.S_drew)); exact Kd.S_mono HO_3.out (fun k_ hk => ⟨trivial, fun e_ => hk.2 e_⟩))); (case aS => exact (below_size bl)); (case aL => have := LMc26.out; omega); intro v540 w37 ho hb hg hat; rw [← Ny539.out] at ho; have HO541 := Aside0.mk (ho); replace HO_8 := Aside0.mk (Kd.R_over' (by (with_reducible repeat (first | apply Kd.R_alloc | apply Kd.R_drewN | apply Kd.R_drew)); exact HO_8.out) (Kd.S_typed (by (with_reducible repeat (first | apply Kd.S_alloc | apply Kd.S_drewN | apply Kd.S_drew)); exact HO_3.out)) (by decide) hg); replace BK527 := Aside0.mk (blk_grown (g := gb527) (o := .cells #[.int .i64 ((rd_T28 t523 x10_1).f0), .int .i64 ((rd_T28 t523 x10_1).f1)] 28 (0, 0)) (bo gb527) hg (Kd.S_ne HO_3.out BK527.out (by decide))); replace HL528_0 := Aside0.mk (Kd.R_after (ok := (fun k_ => some k_ ≠ (.slice Ao38 y536.length co38 : Value).ownBlock)) (by (with_reducible repeat (first | apply Kd.R_alloc | apply Kd.R_drewN | apply Kd.R_drew)); exact Kd.R_mono HL528_0.out (fun _ hk => ⟨hk.2, hk.1.2⟩)) hg hat); replace HB := Aside0.mk (hb); clear HO_3 HO538; clear ho hb hg hat))
            go_roundg k1
            case measure => have := HK1.out; omega
            case rel => exact ⟨(y539), (wrap64 (x10_1 + 1)), rs, H', ⟨by have := HK1.out; omega⟩, ⟨by (with_reducible repeat (first | apply Kd.S_alloc | apply Kd.S_drewN | apply Kd.S_drew)); exact HO541.out⟩, ⟨by (with_reducible repeat (first | apply Kd.R_alloc | apply Kd.R_drewN | apply Kd.R_drew)); exact Kd.R_mono HO_8.out (fun _ hk => trivial)⟩, ⟨bl⟩⟩
           ·rw [if_neg c26] at H
            exact absurd H (by simp)
         ·rw [if_neg c12] at H
          exact absurd H (by simp)
        ·rw [if_neg c11] at H
         exact absurd H (by simp)
       ·rw [if_neg c10] at H
        exact absurd H (by simp)
      ·rw [if_neg c8] at H
       have c8b0 : decide (0 ≤ (wrap64 ((x3_1.length : Int) - 1))) = false := decide_eq_false c8
       clear c8
       replace H := Option.bind_eq_some_iff.mp H
       obtain ⟨t542, A390, H⟩ := H
       replace H : (if x3_1.length < 5864062014805 then (impl_laps.l0 k1 (x3_1 ++ [(([x10_1, wrap64 (x10_1 + 1), t542] : List Int))]) t523 (t523.length : Int) (wrap64 (x10_1 + 1))) else (none)) = some r := H
       have A39 := Aside0.mk A390
       clear A390
       obtain ⟨y543, hy543⟩ : ∃ y_ : List Int, y_ = (([x10_1, wrap64 (x10_1 + 1), t542] : List Int)) := ⟨_, rfl⟩
       replace H : (if x3_1.length < 5864062014805 then (impl_laps.l0 k1 (x3_1 ++ [y543]) t523 (t523.length : Int) (wrap64 (x10_1 + 1))) else (none)) = some r := by first | (rw [hy543]; with_reducible exact H) | (have H2_ := (Option.bind_some _ _).symm.trans H; rw [hy543]; with_reducible exact H2_) | (have H2_ := (Option.bind_some _ _).symm.trans H; with_reducible exact H2_) | with_reducible exact H | (rw [hy543]; exact H) | exact H
       have Ny543 := Aside0.mk hy543
       clear hy543
       by_cases c40 : x3_1.length < 5864062014805
       ·rw [if_pos c40] at H
        have LMc40 := Aside0.mk c40
        clear c40
        obtain ⟨y546, hy546⟩ : ∃ y_ : List (List Int), y_ = (x3_1 ++ [y543]) := ⟨_, rfl⟩
        replace H : (impl_laps.l0 k1 y546 t523 (t523.length : Int) (wrap64 (x10_1 + 1))) = some r := by first | (rw [hy546]; with_reducible exact H) | (have H2_ := (Option.bind_some _ _).symm.trans H; rw [hy546]; with_reducible exact H2_) | (have H2_ := (Option.bind_some _ _).symm.trans H; with_reducible exact H2_) | with_reducible exact H | (rw [hy546]; exact H) | exact H
        have Ny546 := Aside0.mk hy546
        clear hy546
        have H' := Aside0.mk H
        clear H
        have p526 : 0 ≤ (x10_1 : Int) := da
        have q526 : x10_1 < (t523.length : Int) := da
        obtain ⟨ad526, e526, hx526_0, hx526_1⟩ := at_T28 (Kd.R_reads' HO_8.out).2.2 x10_1 p526 q526
        cases e526
        replace p526 := eq_true p526
        replace q526 := eq_true q526
        try go_wp2_with (first | ((with_reducible refine gate_dst (N := 5) rfl ?_); refine bx 5 #[.int .i64 0, .int .i64 0] 28 ?_; intro gb527 hg w41 hbox hb; have BK527 := Aside0.mk (hbox); have GW527 := Aside0.mk (bz hg); have GE527 := GW527; replace HO_3 := Aside0.mk (Kd.S_below (by (with_reducible repeat (first | apply Kd.S_alloc | apply Kd.S_drewN | apply Kd.S_drew)); exact HO_3.out) hb); replace HO_8 := Aside0.mk (Kd.R_below (Kd.R_elderB (by (with_reducible repeat (first | apply Kd.R_alloc | apply Kd.R_drewN | apply Kd.R_drew)); exact HO_8.out) gb527 (Nat.le_of_eq hg.symm)) hb); replace HB := kh hb; clear hb hbox hg; obtain ⟨hcz42_0, hcz42_1, hfz42_0, hfz42_1⟩ := b2 BK527; obtain ⟨Ao43, co43, eo43⟩ := Kd.S_slice HO_3.out; subst eo43))
        have n0_ : Aside0 (Kd.S (Kd.slice 3 (Kd.int .i64)) 39 ((w41.setCell ⟨gb527, 0, none⟩ (.int .i64 ((rd_T28 t523 x10_1).f0))).setCell ⟨gb527, 1, none⟩ (.int .i64 ((rd_T28 t523 x10_1).f1))) w.heap.size (fun _ => True) (.slice Ao43 x3_1.length co43) x3_1) := ⟨by (with_reducible repeat (first | apply Kd.S_alloc | apply Kd.S_drewN | apply Kd.S_drew)); exact Kd.S_mono (Kd.S_far (p := ⟨gb527, 1, none⟩) (Kd.S_far (p := ⟨gb527, 0, none⟩) (Kd.S_types HO_3.out BK527.out (by decide)) (fun _ hk => hk.2) (.int .i64 ((rd_T28 t523 x10_1).f0))) (fun _ hk => hk.2) (.int .i64 ((rd_T28 t523 x10_1).f1))) (fun _ hk => trivial)⟩
        have n1_ : Aside0 (Kd.R k28 28 ((w41.setCell ⟨gb527, 0, none⟩ (.int .i64 ((rd_T28 t523 x10_1).f0))).setCell ⟨gb527, 1, none⟩ (.int .i64 ((rd_T28 t523 x10_1).f1))) w.heap.size (fun k_ => k_ ≠ gb527) (.slice (some ad526) t523.length co4) t523) := ⟨by (with_reducible repeat (first | apply Kd.R_alloc | apply Kd.R_drewN | apply Kd.R_drew)); exact Kd.R_mono (Kd.R_far (p := ⟨gb527, 1, none⟩) (Kd.R_far (p := ⟨gb527, 0, none⟩) (Kd.R_mono HO_8.out (fun k_ hk => (⟨hk, hk.2⟩ : _ ∧ k_ ≠ gb527))) (fun _ hk => hk.2) (.int .i64 ((rd_T28 t523 x10_1).f0))) (fun _ hk => hk.2) (.int .i64 ((rd_T28 t523 x10_1).f1))) (fun _ hk => hk.1.2)⟩
        have n2_ : Aside0 (((w41.setCell ⟨gb527, 0, none⟩ (.int .i64 ((rd_T28 t523 x10_1).f0))).setCell ⟨gb527, 1, none⟩ (.int .i64 ((rd_T28 t523 x10_1).f1))).heap[gb527]? = some (.cells #[.int .i64 ((rd_T28 t523 x10_1).f0), .int .i64 ((rd_T28 t523 x10_1).f1)] 28 (0, 0))) := ⟨by (with_reducible repeat (first | refine blk_drewN ?_ _ | refine blk_drew ?_ | refine blk_alloc ?_ _)); refine blk_put (cs := #[.int .i64 ((rd_T28 t523 x10_1).f0), .int .i64 0]) ?_ 1 _ rfl; (with_reducible repeat (first | refine blk_drewN ?_ _ | refine blk_drew ?_ | refine blk_alloc ?_ _)); refine blk_put (cs := #[.int .i64 0, .int .i64 0]) ?_ 0 _ rfl; (with_reducible repeat (first | refine blk_drewN ?_ _ | refine blk_drew ?_ | refine blk_alloc ?_ _)); exact BK527.out⟩
        have n3_ : Aside0 (Below w.heap.size w ((w41.setCell ⟨gb527, 0, none⟩ (.int .i64 ((rd_T28 t523 x10_1).f0))).setCell ⟨gb527, 1, none⟩ (.int .i64 ((rd_T28 t523 x10_1).f1)))) := ⟨bl⟩
        (try clear HO_3)
        (try clear HO_8)
        (try clear BK527)
        (try clear HB)
        generalize ((w41.setCell ⟨gb527, 0, none⟩ (.int .i64 ((rd_T28 t523 x10_1).f0))).setCell ⟨gb527, 1, none⟩ (.int .i64 ((rd_T28 t523 x10_1).f1))) = w44 at n0_ n1_ n2_ n3_ ⊢
        have HO_3 := n0_
        have HO_8 := n1_
        have BK527 := n2_
        have HB := n3_
        clear n0_ n1_ n2_ n3_
        replace HO_3 := Aside0.mk (Kd.S_drew HO_3.out)
        replace HO_8 := Aside0.mk (Kd.R_drew HO_8.out)
        replace BK527 := Aside0.mk (blk_drew BK527.out)
        replace HB := Aside0.mk (below_drew1 HB.out)
        refine start_ (n := 13) (S := fun w' => True) (ds := []) (tb 0 13) (by kernel_rfl) rfl rfl trivial (fun hHeld => ?_); refine with_tabW impl_laps.tab6 impl_laps.bits6 (fun HT_ HW_ => ?_)
        generalize w44.drew = w45 at HO_3 HO_8 BK527 HB hHeld ⊢
        refine pu 0 18 (tb 1 12) ?_
        refine pu 1 19 (tb 2 11) ?_
        refine pu 2 20 (tb 3 10) ?_
        refine sk 3 21 (tb 4 9) ?_
        refine sk 4 22 (tb 5 8) ?_
        refine sk 5 23 (tb 6 7) ?_
        refine sk 6 24 (tb 7 6) ?_
        refine sk 7 25 (tb 8 5) ?_
        refine sk 8 26 (tb 9 4) ?_
        refine sk 9 27 (tb 10 3) ?_
        refine sk 10 28 (tb 11 2) ?_
        refine sk 11 29 (tb 12 1) ?_
        refine pu 12 30 (tb 13 0) ?_
        refine done_ (done_of HT_.out (by kernel_rfl)) ?_
        obtain ⟨hcz46_0, hcz46_1, hfz46_0, hfz46_1⟩ := b2 BK527
        try go_wp2_with (first | ((with_reducible refine gate_callee (f := 132) rfl ?_); refine gl 43 Try.func132 #[.agg #[.int .i64 ((rd_T28 t523 x10_1).f0), .int .i64 ((rd_T28 t523 x10_1).f1)]] ?_; (with_reducible refine (impl_sign.calls ((rd_T28 t523 x10_1).f0) ((rd_T28 t523 x10_1).f1) t542 _ A39.out).mono ?_); rintro e w47 ⟨rfl, hb⟩; refine ⟨_, rfl, ?_⟩; replace HO_3 := Aside0.mk (Kd.S_below (by (with_reducible repeat (first | apply Kd.S_alloc | apply Kd.S_drewN | apply Kd.S_drew)); exact HO_3.out) hb); replace HO_8 := Aside0.mk (Kd.R_below (by (with_reducible repeat (first | apply Kd.R_alloc | apply Kd.R_drewN | apply Kd.R_drew)); exact HO_8.out) hb); replace BK527 := kb BK527 hb; replace HB := kh hb; (try clear hb); (try clear hb2); (try clear hk); (try clear hi)) | ((with_reducible refine gate_dst (N := 44) rfl ?_); refine Kd.R_lit (Kd.int .i64) _ 3 ?hg (N := 44) ?hd (xs := ([x10_1, wrap64 (x10_1 + 1), t542] : List Int)) (inner := [.int .i64 x10_1, .int .i64 (wrap64 (x10_1 + 1)), .int .i64 t542]) (ok := fun _ => True) (okp := fun _ => True) ?hr ?hp (fun _ hk => hk) trivial (Below.refl _ _) (Nat.le_refl _) (by simp) ?_; (case hd => rfl); (case hg => rfl); (case hr => first | (go_simp; done) | (go_simp; rfl)); (case hp => exact (Reps.one (show Kd.M (Kd.int .i64) _ _ _ x10_1 [.int .i64 x10_1] from rfl) (Reps.one (show Kd.M (Kd.int .i64) _ _ _ (wrap64 (x10_1 + 1)) [.int .i64 (wrap64 (x10_1 + 1))] from rfl) (Reps.one (show Kd.M (Kd.int .i64) _ _ _ t542 [.int .i64 t542] from rfl) (Reps.none _ _))))); intro v544 w48 ho49 hb hg_ hnew_; clear hg_ hnew_; (first | rw [← Ny543.out] at ho49 | (simp only [Int.reduceToNat] at ho49; rw [← Ny543.out] at ho49)); have HO545 := Aside0.mk (Kd.R_lower ho49 (below_size bl)); replace HO_3 := Aside0.mk (Kd.S_elder' (by (with_reducible repeat (first | apply Kd.S_alloc | apply Kd.S_drewN | apply Kd.S_drew)); exact HO_3.out) (Kd.R_base ho49) hb); replace HO_8 := Aside0.mk (Kd.R_below (by (with_reducible repeat (first | apply Kd.R_alloc | apply Kd.R_drewN | apply Kd.R_drew)); exact HO_8.out) hb); replace BK527 := kb BK527 hb; replace HB := kh hb; clear hb ho49; obtain ⟨Ao51, co51, eo51⟩ := Kd.R_slice HO545.out; subst eo51) | ((with_reducible refine gate_builtin (b := .append) (xs := #[.tmp 38, .tmp 45]) rfl ?_); at_builtin; refine Kd.S_append (Kd.slice 3 (Kd.int .i64)) (w0 := w) w.heap.size rfl (.tmp 38) (.tmp 45) 103 39 (.slice none 0 0) 24 rfl Try.underlying103 info39 rfl (by decide) (by omega) (.slice Ao43 x3_1.length co43) x3_1 y543 [.slice Ao51 y543.length co51] (fun _ => True) (fun k_ => some k_ = (.slice Ao51 y543.length co51 : Value).ownBlock) rfl rfl ?aP (fun k_ hk_ => ((Kd.R_mono (ok' := fun k_ => ((fun _ => True)) k_ ∧ some k_ ≠ (.slice Ao43 x3_1.length co43 : Value).ownBlock) (Kd.R_apart' (HO545.out) (Kd.S_typed HO_3.out) (by decide)) (fun k_ hk => ⟨trivial, hk.2⟩))).1 k_ hk_.symm) ?aF ?aO ?aB ?aS ?aL ?_; (case aP => exact Kd.M_row (Kd.R_mono (Kd.R_tight rfl (Kd.R_mono (ok' := fun k_ => ((fun _ => True)) k_ ∧ some k_ ≠ (.slice Ao43 x3_1.length co43 : Value).ownBlock) (Kd.R_apart' (HO545.out) (Kd.S_typed HO_3.out) (by decide)) (fun k_ hk => ⟨trivial, hk.2⟩))) (fun _ h_ => h_))); (case aB => exact bl); (case aF => exact (fun _ _ => trivial)); (case aO => exact (by (with_reducible repeat (first | apply Kd.S_alloc | apply Kd.S_drewN | apply Kd.S_drew)); exact Kd.S_mono HO_3.out (fun k_ hk => ⟨trivial, fun e_ => hk.2 e_⟩))); (case aS => exact (below_size bl)); (case aL => have := LMc40.out; omega); intro v547 w50 ho hb hg hat; rw [← Ny546.out] at ho; have HO548 := Aside0.mk (ho); replace HO_8 := Aside0.mk (Kd.R_over' (by (with_reducible repeat (first | apply Kd.R_alloc | apply Kd.R_drewN | apply Kd.R_drew)); exact HO_8.out) (Kd.S_typed (by (with_reducible repeat (first | apply Kd.S_alloc | apply Kd.S_drewN | apply Kd.S_drew)); exact HO_3.out)) (by decide) hg); replace BK527 := Aside0.mk (blk_grown (g := gb527) (o := .cells #[.int .i64 ((rd_T28 t523 x10_1).f0), .int .i64 ((rd_T28 t523 x10_1).f1)] 28 (0, 0)) (bo gb527) hg (Kd.S_ne HO_3.out BK527.out (by decide))); replace HB := Aside0.mk (hb); clear HO_3 HO545; clear ho hb hg hat))
        go_roundg k1
        case measure => have := HK1.out; omega
        case rel => exact ⟨(y546), (wrap64 (x10_1 + 1)), rs, H', ⟨by have := HK1.out; omega⟩, ⟨by (with_reducible repeat (first | apply Kd.S_alloc | apply Kd.S_drewN | apply Kd.S_drew)); exact HO548.out⟩, ⟨by (with_reducible repeat (first | apply Kd.R_alloc | apply Kd.R_drewN | apply Kd.R_drew)); exact Kd.R_mono HO_8.out (fun _ hk => trivial)⟩, ⟨bl⟩⟩
       ·rw [if_neg c40] at H
        exact absurd H (by simp)
     ·rw [if_neg c7] at H
      exact absurd H (by simp)
    ·rw [if_neg c6] at H
     exact absurd H (by simp)
   ·rw [if_neg c5] at H
    have c5b0 : decide (x10_1 < (t523.length : Int)) = false := decide_eq_false c5
    clear c5
    obtain rfl := Option.some.inj H
    go_wp2
    go_ret
    exact ⟨_, rt, by (with_reducible repeat (first | apply Kd.S_alloc | apply Kd.S_drewN | apply Kd.S_drew)); exact HO_3.out, bl⟩

-- NOT PRINTED: function 120 (slices_IndexFunc_int_int)

-- NOT PRINTED: function 121 (impl_address_1)

end Go.Proofs.Ytmecnnnagallnaa.PFnExactItineraryOf
