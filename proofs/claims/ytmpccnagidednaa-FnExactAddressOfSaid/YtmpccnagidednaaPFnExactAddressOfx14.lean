-- Written by this session's program wip/pp (the kit's print tool with additions) 35421559b90ae4d0a3588c463048766b98c2df88dd9212a6774a882060cdf62d
import Derived.Test.YtmpccnagidednaaPFnExactAddressOfx0
import Derived.Test.YtmpccnagidednaaPFnExactAddressOfx13
namespace Go.Proofs.Ytmpccnagidednaa.PFnExactAddressOf
open Go.RowKit Go.Proofs.YtmpccnagidednaaW.PrintWords Go.Proofs.YtmpccnagidednaaW.PrintLast Go.Proofs.YtmpccnagidednaaW.PrintMore
attribute [local go_sem] max2_int min2_int max_two min_two max_three min_three max_four min_four   -- for this text's walks alone
set_option linter.unusedVariables false
set_option linter.unusedSimpArgs false

/-! ### impl_laps: function 159 -/
def impl_laps.l0 : Nat → List (List Int) → List (S33) → Int → Int → Option ((List (List Int)))
  | 0, _, _, _, _ => none
  | k + 1, x3, x8, x9, x10 => if x10 < x9 then (if 0 ≤ x10 then (if x10 < (x8.length : Int) then (if (wrap64 ((x3.length : Int) - 1)) ≥ 0 then (if 0 ≤ (wrap64 ((x3.length : Int) - 1)) then (if (wrap64 ((x3.length : Int) - 1)) < (x3.length : Int) then (if 2 < ((rd_L5 x3 (wrap64 ((x3.length : Int) - 1))).length : Int) then ((impl_sign.f ((rd_T33 x8 x10).f0) ((rd_T33 x8 x10).f1)).bind fun t389 => (if (rd (rd_L5 x3 (wrap64 ((x3.length : Int) - 1))) 2) = t389 then (if 1 < ((rd_L5 x3 (wrap64 ((x3.length : Int) - 1))).length : Int) then (impl_laps.l0 k (x3.set ((wrap64 ((x3.length : Int) - 1)) : Int).toNat ((rd_L5 x3 (wrap64 ((x3.length : Int) - 1))).set (1 : Int).toNat (wrap64 (x10 + 1)))) x8 x9 (wrap64 (x10 + 1))) else (none)) else ((impl_sign.f ((rd_T33 x8 x10).f0) ((rd_T33 x8 x10).f1)).bind fun t394 => (if x3.length < 5864062014805 then (impl_laps.l0 k (x3 ++ [(([x10, wrap64 (x10 + 1), t394] : List Int))]) x8 x9 (wrap64 (x10 + 1))) else (none))))) else (none)) else (none)) else (none)) else ((impl_sign.f ((rd_T33 x8 x10).f0) ((rd_T33 x8 x10).f1)).bind fun t401 => (if x3.length < 5864062014805 then (impl_laps.l0 k (x3 ++ [(([x10, wrap64 (x10 + 1), t401] : List Int))]) x8 x9 (wrap64 (x10 + 1))) else (none)))) else (none)) else (none)) else (some x3)
def impl_laps.f (k : Nat) (l0 : List (S91)) : Option ((List (List Int))) := (impl_slopes.f k l0).bind fun t382 => (impl_laps.l0 k ([] : List (List Int)) t382 (t382.length : Int) 0)
theorem impl_laps.mono_l : ∀ k, (∀ y0 y1 y2 y3, LeO (impl_laps.l0 k y0 y1 y2 y3) (impl_laps.l0 (k + 1) y0 y1 y2 y3))
  | 0 => fun _ _ _ _ r h => by simp [impl_laps.l0] at h
  | k + 1 => by
    have ih0 := impl_laps.mono_l k
    · intro y0 y1 y2 y3
      unfold impl_laps.l0
      repeat' first
      | (with_reducible exact ih0 _ _ _ _)
      | (with_reducible exact impl_slopes.mono _ _)
      | (with_reducible exact LeO.refl _)
      | (with_reducible exact LeO.none _)
      | (with_reducible refine LeO.ite ?_ ?_)
      | (with_reducible refine LeO.bind ?_ (fun _ => ?_))
      | exact ih0 _ _ _ _
      | exact impl_slopes.mono _ _
      | exact LeO.none _
      | refine LeO.ite ?_ ?_
      | refine LeO.bind ?_ (fun _ => ?_)
theorem impl_laps.mono : ∀ a0 k, LeO (impl_laps.f k a0) (impl_laps.f (k + 1) a0) := by
  intro a0 k
  have ih0 := impl_laps.mono_l k
  unfold impl_laps.f
  repeat' first
      | (with_reducible exact ih0 _ _ _ _)
      | (with_reducible exact impl_slopes.mono _ _)
      | (with_reducible exact LeO.refl _)
      | (with_reducible exact LeO.none _)
      | (with_reducible refine LeO.ite ?_ ?_)
      | (with_reducible refine LeO.bind ?_ (fun _ => ?_))
      | exact ih0 _ _ _ _
      | exact impl_slopes.mono _ _
      | exact LeO.none _
      | refine LeO.ite ?_ ?_
      | refine LeO.bind ?_ (fun _ => ?_)
def impl_laps.T6 : Bool × List (List Nat × List Nat) := (true, [([], []), ([0], [0]), ([1], [1]), ([2], [2]), ([2], [2]), ([3, 4, 2], [2, 3, 4]), ([5, 2], [2, 5]), ([6, 2], [2, 6]), ([7, 2], [2, 7]), ([2], [2]), ([9, 2, 2], [2, 9]), ([8, 10, 2], [2, 8, 10]), ([2, 11], [2, 11])])
def impl_laps.B6 : List Nat := [0, 1, 3, 7, 7, 31, 63, 127, 255, 7, 519, 2047, 4095]
theorem impl_laps.tab6 : rtab .any (opsOf Try.f159 6) = impl_laps.T6 := by kernel_rfl
theorem impl_laps.bits6 : waitsOk impl_laps.T6.2 impl_laps.B6 = true := by kernel_rfl
set_option maxHeartbeats 8000000 in
set_option maxRecDepth 100000 in
theorem impl_laps.calls (k : Nat) (A0 : Option Addr) (c0 : Nat) (l0 : List (S91)) (r : List (List Int)) (w : World) (hr0 : Kd.C k91 w A0 l0.length l0) (hc0 : l0.length ≤ c0) (h : impl_laps.f k l0 = some r) :
    Calls Try.prog 159 #[.slice A0 l0.length c0] w fun e w' => ∃ v0_ : Value, e = .returned (v0_) ∧ Kd.S (Kd.slice 3 (Kd.int .i64)) 22 w' w.heap.size (fun _ => True) v0_ r ∧ Below w.heap.size w w' := by
  have hu33 := Try.underlying33
  have HR0 := Aside0.mk hr0
  have HC0 := Aside0.mk hc0
  clear hr0 hc0
  have HB := Aside0.mk (Below.refl w.heap.size w)
  have H : ((impl_slopes.f k l0).bind fun t382 => (impl_laps.l0 k ([] : List (List Int)) t382 (t382.length : Int) 0)) = some r := h
  clear h
  replace H := Option.bind_eq_some_iff.mp H
  obtain ⟨t382, A20, H⟩ := H
  replace H : (impl_laps.l0 k ([] : List (List Int)) t382 (t382.length : Int) 0) = some r := H
  have A2 := Aside0.mk A20
  clear A20
  have H' := Aside0.mk H
  clear H
  go_enter Try.func159, Try.ntmps159
  go_wp2_with (first | ((with_reducible refine gate_callee (f := 155) rfl ?_); refine goesL_ (some 8) rfl rfl Try.func155 (by kernel_rfl) rfl #[.slice A0 l0.length c0] rfl (by (try simp only [List.map_toArray, List.map_cons, List.map_nil]); first | done | rfl | (simp only [List.length_drop, List.length_take]; rfl)) ?_; (with_reducible refine (impl_slopes.calls k _ _ l0 t382 _ ?side1 ?side2 A2.out).mono ?_); (case side1 => repeat (first | exact HR0.out | (with_reducible refine Kd.C_alloc ?_ _) | (with_reducible refine Kd.C_drewN ?_ _) | (with_reducible refine Kd.C_drew ?_))); (case side2 => exact HC0.out); rintro e w3 ⟨v383, rfl, ho0, hb⟩; refine ⟨_, rfl, ?_⟩; have HO384 := Aside0.mk (Kd.R_lower ho0 (below_size bl)); replace HB := Aside0.mk (bs hb); (try clear hb); (try clear hb2); (try clear hk); (try clear hi); (try clear ho0); obtain ⟨Ao4, co4, eo4⟩ := Kd.R_slice HO384.out; subst eo4))
  go_loopg [3, 10] k (fun kq v3 v10 w' => ∃ (x3_1 : List (List Int)) (x10_1 : Int), v10 = .int .i64 x10_1 ∧ Aside0 (impl_laps.l0 kq x3_1 t382 (t382.length : Int) x10_1 = some r) ∧ Aside0 (kq ≤ k) ∧ Aside0 (Kd.S (Kd.slice 3 (Kd.int .i64)) 22 w' w.heap.size (fun _ => True) v3 x3_1) ∧ Aside0 (Kd.R k33 33 w' w.heap.size (fun _ => True) (.slice Ao4 t382.length co4) t382) ∧ Aside0 (Below w.heap.size w w'))
  case atStart => exact ⟨(([] : List (List Int))), (0), (by first | rfl | (simp; done) | (simp [*]; done)), H', ⟨Nat.le_refl _⟩, ⟨by first | exact Kd.S_nil _ _ _ _ _ | exact Kd.N_nil _ _ _ _ _ | exact Kd.V_nil _ _ _ _ _ | exact Kd.Q_nil _ _ _ _ _ | exact Kd.R_nil _ _ _ _ _⟩, ⟨by (with_reducible repeat (first | apply Kd.R_alloc | apply Kd.R_drewN | apply Kd.R_drew)); exact HO384.out⟩, ⟨bl⟩⟩
  case round =>
    clear H'
    try clear c1
    try clear p2
    obtain ⟨x3_1, x10_1, rfl, HA, HK1, HO_3, HO_8, HB⟩ := hrel
    cases gk with
    | zero => exact absurd HA.out (by simp [impl_laps.l0])
    | succ k1 =>
      have H := HA.out
      clear HA
      simp only [impl_laps.l0] at H
      by_cases c5 : x10_1 < (t382.length : Int)
      · rw [if_pos c5] at H
        have c5b0 : decide (x10_1 < (t382.length : Int)) = true := decide_eq_true c5
        clear c5
        by_cases c6 : 0 ≤ x10_1
        · rw [if_pos c6] at H
          have c6b0 : decide (0 ≤ x10_1) = true := decide_eq_true c6
          clear c6
          by_cases c7 : x10_1 < (t382.length : Int)
          · rw [if_pos c7] at H
            have c7b0 : decide (x10_1 < (t382.length : Int)) = true := decide_eq_true c7
            clear c7
            by_cases c8 : (wrap64 ((x3_1.length : Int) - 1)) ≥ 0
            · rw [if_pos c8] at H
              have c8b0 : decide (0 ≤ (wrap64 ((x3_1.length : Int) - 1))) = true := decide_eq_true c8
              clear c8
              obtain ⟨ji9, hji9⟩ : ∃ j_ : Int, (wrap64 ((x3_1.length : Int) - 1)) = j_ := ⟨_, rfl⟩
              replace H : (if 0 ≤ (ji9) then (if (ji9) < (x3_1.length : Int) then (if 2 < ((rd_L5 x3_1 (ji9)).length : Int) then ((impl_sign.f ((rd_T33 t382 x10_1).f0) ((rd_T33 t382 x10_1).f1)).bind fun t389 => (if (rd (rd_L5 x3_1 (ji9)) 2) = t389 then (if 1 < ((rd_L5 x3_1 (ji9)).length : Int) then (impl_laps.l0 k1 (x3_1.set ((ji9) : Int).toNat ((rd_L5 x3_1 (ji9)).set (1 : Int).toNat (wrap64 (x10_1 + 1)))) t382 (t382.length : Int) (wrap64 (x10_1 + 1))) else (none)) else ((impl_sign.f ((rd_T33 t382 x10_1).f0) ((rd_T33 t382 x10_1).f1)).bind fun t394 => (if x3_1.length < 5864062014805 then (impl_laps.l0 k1 (x3_1 ++ [(([x10_1, wrap64 (x10_1 + 1), t394] : List Int))]) t382 (t382.length : Int) (wrap64 (x10_1 + 1))) else (none))))) else (none)) else (none)) else (none)) = some r := by first | (rw [hji9] at H; exact H) | (simp only [hji9] at H ⊢; exact H)
              (try rw [hji9] at c8b0)
              have hji9w : (IntKind.i64.wrap ((x3_1.length : Int) - 1)) = ji9 := (i64_w _).trans hji9
              by_cases c10 : 0 ≤ (ji9)
              · rw [if_pos c10] at H
                have c10b0 : decide (0 ≤ (ji9)) = true := decide_eq_true c10
                clear c10
                by_cases c11 : (ji9) < (x3_1.length : Int)
                · rw [if_pos c11] at H
                  have c11b0 : decide ((ji9) < (x3_1.length : Int)) = true := decide_eq_true c11
                  clear c11
                  by_cases c12 : 2 < ((rd_L5 x3_1 (ji9)).length : Int)
                  · rw [if_pos c12] at H
                    have c12b0 : decide (2 < ((rd_L5 x3_1 (ji9)).length : Int)) = true := decide_eq_true c12
                    have c12b1 : decide (2 < (rd_L5 x3_1 (ji9)).length) = true := decide_eq_true (by omega)
                    clear c12
                    replace H := Option.bind_eq_some_iff.mp H
                    obtain ⟨t389, A130, H⟩ := H
                    replace H : (if (rd (rd_L5 x3_1 (ji9)) 2) = t389 then (if 1 < ((rd_L5 x3_1 (ji9)).length : Int) then (impl_laps.l0 k1 (x3_1.set ((ji9) : Int).toNat ((rd_L5 x3_1 (ji9)).set (1 : Int).toNat (wrap64 (x10_1 + 1)))) t382 (t382.length : Int) (wrap64 (x10_1 + 1))) else (none)) else ((impl_sign.f ((rd_T33 t382 x10_1).f0) ((rd_T33 t382 x10_1).f1)).bind fun t394 => (if x3_1.length < 5864062014805 then (impl_laps.l0 k1 (x3_1 ++ [(([x10_1, wrap64 (x10_1 + 1), t394] : List Int))]) t382 (t382.length : Int) (wrap64 (x10_1 + 1))) else (none)))) = some r := H
                    have A13 := Aside0.mk A130
                    clear A130
                    by_cases c14 : (rd (rd_L5 x3_1 (ji9)) 2) = t389
                    · rw [if_pos c14] at H
                      have c14b0 : ((rd (rd_L5 x3_1 (ji9)) 2) == t389) = true := beq_iff_eq.mpr c14
                      have c14b1 : ((rd (rd_L5 x3_1 (ji9)) 2) != t389) = false := bne_eq_false_iff_eq.mpr c14
                      clear c14
                      by_cases c15 : 1 < ((rd_L5 x3_1 (ji9)).length : Int)
                      · rw [if_pos c15] at H
                        have c15b0 : decide (1 < ((rd_L5 x3_1 (ji9)).length : Int)) = true := decide_eq_true c15
                        have c15b1 : decide (1 < (rd_L5 x3_1 (ji9)).length) = true := decide_eq_true (by omega)
                        clear c15
                        obtain ⟨y391, hy391⟩ : ∃ y_ : List Int, y_ = ((rd_L5 x3_1 (ji9)).set (1 : Int).toNat (wrap64 (x10_1 + 1))) := ⟨_, rfl⟩
                        replace H : (impl_laps.l0 k1 (x3_1.set ((ji9) : Int).toNat y391) t382 (t382.length : Int) (wrap64 (x10_1 + 1))) = some r := by first | (rw [hy391]; with_reducible exact H) | (have H2_ := (Option.bind_some _ _).symm.trans H; rw [hy391]; with_reducible exact H2_) | (have H2_ := (Option.bind_some _ _).symm.trans H; with_reducible exact H2_) | with_reducible exact H | (rw [hy391]; exact H) | exact H
                        have Ny391 := Aside0.mk hy391
                        clear hy391
                        obtain ⟨y393, hy393⟩ : ∃ y_ : List (List Int), y_ = (x3_1.set ((ji9) : Int).toNat y391) := ⟨_, rfl⟩
                        replace H : (impl_laps.l0 k1 y393 t382 (t382.length : Int) (wrap64 (x10_1 + 1))) = some r := by first | (rw [hy393]; with_reducible exact H) | (have H2_ := (Option.bind_some _ _).symm.trans H; rw [hy393]; with_reducible exact H2_) | (have H2_ := (Option.bind_some _ _).symm.trans H; with_reducible exact H2_) | with_reducible exact H | (rw [hy393]; exact H) | exact H
                        have Ny393 := Aside0.mk hy393
                        clear hy393
                        have H' := Aside0.mk H
                        clear H
                        have p385 : 0 ≤ (x10_1 : Int) := of_decide_eq_true (by first | (with_reducible assumption) | assumption)
                        have q385 : x10_1 < (t382.length : Int) := of_decide_eq_true (by first | (with_reducible assumption) | assumption)
                        obtain ⟨ad385, e385, hx385_0, hx385_1⟩ := at_T33 (Kd.R_reads' HO_8.out).2.2 x10_1 p385 q385
                        cases e385
                        replace p385 := eq_true p385
                        replace q385 := eq_true q385
                        try go_wp2_with (first | ((with_reducible refine gate_dst (N := 5) rfl ?_); refine box_event ?hg (N := 5) ?hd (cs := #[.int .i64 0, .int .i64 0]) (t := 33) ?hr ?_; (case hd => rfl); (case hg => rfl); (case hr => first | (go_simp; done) | (go_simp; rfl)); intro gb386 hg w17 hbox hb; have BK386 := Aside0.mk (hbox); have GW386 := Aside0.mk (bz hg); have GE386 := GW386; replace HO_3 := Aside0.mk (Kd.S_below (by (with_reducible repeat (first | apply Kd.S_alloc | apply Kd.S_drewN | apply Kd.S_drew)); exact HO_3.out) hb); replace HO_8 := Aside0.mk (Kd.R_below (Kd.R_elderB (by (with_reducible repeat (first | apply Kd.R_alloc | apply Kd.R_drewN | apply Kd.R_drew)); exact HO_8.out) gb386 (Nat.le_of_eq hg.symm)) hb); replace HB := Aside0.mk (bs hb); clear hb hbox hg; have hcz18_0 : w17.cell? ⟨gb386, 0, none⟩ = some (.int .i64 0) := (blk_cell BK386.out 0).trans rfl; have hcz18_1 : w17.cell? ⟨gb386, 1, none⟩ = some (.int .i64 0) := (blk_cell BK386.out 1).trans rfl; have hfz18_0 := blk_frozen BK386.out 0; have hfz18_1 := blk_frozen BK386.out 1; obtain ⟨Ao19, co19, eo19⟩ := Kd.S_slice HO_3.out; subst eo19))
                        have n0_ : Aside0 (Kd.S (Kd.slice 3 (Kd.int .i64)) 22 ((w17.setCell ⟨gb386, 0, none⟩ (.int .i64 ((rd_T33 t382 x10_1).f0))).setCell ⟨gb386, 1, none⟩ (.int .i64 ((rd_T33 t382 x10_1).f1))) w.heap.size (fun _ => True) (.slice Ao19 x3_1.length co19) x3_1) := ⟨by (with_reducible repeat (first | apply Kd.S_alloc | apply Kd.S_drewN | apply Kd.S_drew)); exact Kd.S_mono (Kd.S_far (p := ⟨gb386, 1, none⟩) (Kd.S_far (p := ⟨gb386, 0, none⟩) (Kd.S_types HO_3.out BK386.out (by decide)) (fun _ hk => hk.2) (.int .i64 ((rd_T33 t382 x10_1).f0))) (fun _ hk => hk.2) (.int .i64 ((rd_T33 t382 x10_1).f1))) (fun _ hk => trivial)⟩
                        have n1_ : Aside0 (Kd.R k33 33 ((w17.setCell ⟨gb386, 0, none⟩ (.int .i64 ((rd_T33 t382 x10_1).f0))).setCell ⟨gb386, 1, none⟩ (.int .i64 ((rd_T33 t382 x10_1).f1))) w.heap.size (fun k_ => k_ ≠ gb386) (.slice (some ad385) t382.length co4) t382) := ⟨by (with_reducible repeat (first | apply Kd.R_alloc | apply Kd.R_drewN | apply Kd.R_drew)); exact Kd.R_mono (Kd.R_far (p := ⟨gb386, 1, none⟩) (Kd.R_far (p := ⟨gb386, 0, none⟩) (Kd.R_mono HO_8.out (fun k_ hk => (⟨hk, hk.2⟩ : _ ∧ k_ ≠ gb386))) (fun _ hk => hk.2) (.int .i64 ((rd_T33 t382 x10_1).f0))) (fun _ hk => hk.2) (.int .i64 ((rd_T33 t382 x10_1).f1))) (fun _ hk => hk.1.2)⟩
                        have n2_ : Aside0 (((w17.setCell ⟨gb386, 0, none⟩ (.int .i64 ((rd_T33 t382 x10_1).f0))).setCell ⟨gb386, 1, none⟩ (.int .i64 ((rd_T33 t382 x10_1).f1))).heap[gb386]? = some (.cells #[.int .i64 ((rd_T33 t382 x10_1).f0), .int .i64 ((rd_T33 t382 x10_1).f1)] 33 (0, 0))) := ⟨by (with_reducible repeat (first | refine blk_drewN ?_ _ | refine blk_drew ?_ | refine blk_alloc ?_ _)); refine blk_put (cs := #[.int .i64 ((rd_T33 t382 x10_1).f0), .int .i64 0]) ?_ 1 _ rfl; (with_reducible repeat (first | refine blk_drewN ?_ _ | refine blk_drew ?_ | refine blk_alloc ?_ _)); refine blk_put (cs := #[.int .i64 0, .int .i64 0]) ?_ 0 _ rfl; (with_reducible repeat (first | refine blk_drewN ?_ _ | refine blk_drew ?_ | refine blk_alloc ?_ _)); exact BK386.out⟩
                        have n3_ : Aside0 (Below w.heap.size w ((w17.setCell ⟨gb386, 0, none⟩ (.int .i64 ((rd_T33 t382 x10_1).f0))).setCell ⟨gb386, 1, none⟩ (.int .i64 ((rd_T33 t382 x10_1).f1)))) := ⟨bl⟩
                        (try clear HO_3)
                        (try clear HO_8)
                        (try clear BK386)
                        (try clear HB)
                        generalize ((w17.setCell ⟨gb386, 0, none⟩ (.int .i64 ((rd_T33 t382 x10_1).f0))).setCell ⟨gb386, 1, none⟩ (.int .i64 ((rd_T33 t382 x10_1).f1))) = w20 at n0_ n1_ n2_ n3_ ⊢
                        have HO_3 := n0_
                        have HO_8 := n1_
                        have BK386 := n2_
                        have HB := n3_
                        clear n0_ n1_ n2_ n3_
                        replace HO_3 := Aside0.mk (Kd.S_drew HO_3.out)
                        replace HO_8 := Aside0.mk (Kd.R_drew HO_8.out)
                        replace BK386 := Aside0.mk (blk_drew BK386.out)
                        replace HB := Aside0.mk (below_drew1 HB.out)
                        have p387 : 0 ≤ ((ji9) : Int) := of_decide_eq_true (by first | (with_reducible assumption) | assumption)
                        have q387 : (ji9) < (x3_1.length : Int) := of_decide_eq_true (by first | (with_reducible assumption) | assumption)
                        obtain ⟨ad387, A387_0, c387_0, e387, hx387_0, hl387_0, hi387_0⟩ := at_L5 (Kd.S_reads' HO_3.out).2.2 (ji9) p387 q387
                        cases e387
                        obtain ⟨ce387, hce387, hMe387, hcc387⟩ := Kd.S_get HO_3.out [] (ji9) p387 (by first | exact q387 | exact of_decide_eq_true (by first | (with_reducible assumption) | assumption) | (have e_ := (Kd.S_reads' HO_3.out).1; omega))
                        obtain ⟨ve387_0, rfl, ge387_0⟩ := hMe387
                        have hv387_0 := hcc387 0 _ rfl
                        rw [Nat.add_zero, show ((Kd.slice 3 (Kd.int .i64))).sz = 1 from rfl, Nat.mul_one] at hv387_0
                        replace hv387_0 := Option.some.inj (hv387_0.symm.trans hx387_0)
                        rw [hv387_0] at ge387_0
                        have HL387_0 := Aside0.mk (show Kd.R (Kd.int .i64) 3 _ _ _ _ (rd_L5 x3_1 (ji9)) from ge387_0)
                        clear hv387_0 ge387_0
                        have HX387_0 := Aside0.mk hx387_0
                        clear hcc387 hce387
                        have HR387_0 := Aside0.mk hi387_0
                        have HC387_0 := Aside0.mk hl387_0
                        clear hi387_0 hl387_0
                        replace p387 := eq_true p387
                        replace q387 := eq_true q387
                        have p388 : 0 ≤ (2 : Int) := (by omega)
                        have q388 : 2 < ((rd_L5 x3_1 (ji9)).length : Int) := of_decide_eq_true (by first | (with_reducible assumption) | assumption)
                        obtain ⟨ad388, e388, hx388_0⟩ := Kd.at_int (by repeat (first | (with_reducible exact HR387_0.out) | (with_reducible refine Kd.C_alloc ?_ _) | (with_reducible refine Kd.C_drewN ?_ _) | (with_reducible refine Kd.C_drew ?_) | exact HR387_0.out)) 2 p388 q388
                        cases e388
                        (try simp only [show (2 : Int).toNat = 2 from rfl, Nat.reduceMul, Nat.reduceEqDiff, Go.Addr.add, ↓reduceIte] at hx388_0)
                        have qi388 : (2 < (rd_L5 x3_1 (ji9)).length) = True := eq_true (by omega)
                        (try rw [show ((2 : Int)).toNat = 2 from rfl] at hx388_0)
                        replace p388 := eq_true p388
                        replace q388 := eq_true q388
                        refine start_ (n := 13) (S := fun w' => w'.cell? ⟨gb386, 0, none⟩ = some (.int .i64 ((rd_T33 t382 x10_1).f0)) ∧ w'.cell? ⟨gb386, 1, none⟩ = some (.int .i64 ((rd_T33 t382 x10_1).f1)) ∧ w'.cell? (ad387.add ((ji9)).toNat) = some (.slice (some ad388) (rd_L5 x3_1 (ji9)).length c387_0) ∧ w'.cell? ⟨ad388.block, ad388.off + 2, none⟩ = some (.int .i64 (rd (rd_L5 x3_1 (ji9)) 2))) (ds := []) #[false, false, false, false, false, false, false, false, false, false, false, false, false] (by kernel_rfl) rfl rfl ⟨(blk_cell BK386.out 0).trans rfl, (blk_cell BK386.out 1).trans rfl, hx387_0, hx388_0⟩ (fun hHeld => ?_); refine with_tabW impl_laps.tab6 impl_laps.bits6 (fun HT_ HW_ => ?_)
                        generalize w20.drew = w21 at HO_3 HO_8 BK386 HB HL387_0 HR387_0 HX387_0 hx387_0 hx388_0 hHeld ⊢
                        refine pu 0 18 #[true, false, false, false, false, false, false, false, false, false, false, false, false] ?_
                        refine pu 1 19 #[true, true, false, false, false, false, false, false, false, false, false, false, false] ?_
                        refine pu 2 20 #[true, true, true, false, false, false, false, false, false, false, false, false, false] ?_
                        refine pu 3 21 #[true, true, true, true, false, false, false, false, false, false, false, false, false] ?_
                        refine pu 4 22 #[true, true, true, true, true, false, false, false, false, false, false, false, false] ?_
                        refine pu 5 23 #[true, true, true, true, true, true, false, false, false, false, false, false, false] ?_
                        refine take_ (i := 6) (N := some 24) (v := ?_) (a' := ?_) #[true, true, true, true, true, true, true, false, false, false, false, false, false] rfl rfl (take_ofW HT_.out HW_.out (by kernel_rfl)) (fun _ _ _ h => h) (Or.inl ⟨by rfl, ?_⟩) hHeld ?_ ?_
                        rotate_left
                        · rintro w' ⟨s0, s1, s2, s3⟩
                          go_simp
                          with_reducible rfl
                        rotate_left
                        · simp only [Act.put, List.setIfInBounds_toArray, List.set_cons_zero, List.set_cons_succ, i64_w, i32_w]
                          rfl
                        refine pu 7 25 #[true, true, true, true, true, true, true, true, false, false, false, false, false] ?_
                        refine take_ (i := 8) (N := some 26) (v := ?_) (a' := ?_) #[true, true, true, true, true, true, true, true, true, false, false, false, false] rfl rfl (take_ofW HT_.out HW_.out (by kernel_rfl)) (fun _ _ _ h => h) (Or.inl ⟨by rfl, ?_⟩) hHeld ?_ ?_
                        rotate_left
                        · rintro w' ⟨s0, s1, s2, s3⟩
                          go_simp
                          with_reducible rfl
                        rotate_left
                        · simp only [Act.put, List.setIfInBounds_toArray, List.set_cons_zero, List.set_cons_succ, i64_w, i32_w]
                          rfl
                        refine take_ (i := 9) (N := some 27) (v := ?_) (a' := ?_) #[true, true, true, true, true, true, true, true, true, true, false, false, false] rfl rfl (take_ofW HT_.out HW_.out (by kernel_rfl)) (fun _ _ _ h => h) (Or.inl ⟨by rfl, ?_⟩) hHeld ?_ ?_
                        rotate_left
                        · rintro w' ⟨s0, s1, s2, s3⟩
                          go_simp
                          with_reducible rfl
                        rotate_left
                        · simp only [Act.put, List.setIfInBounds_toArray, List.set_cons_zero, List.set_cons_succ, i64_w, i32_w]
                          rfl
                        refine one_ (i := 10) (N := some 28) #[true, true, true, true, true, true, true, true, true, true, true, false, false] rfl rfl (one_of HT_.out (by kernel_rfl)) (by decide) (fun K hK => ?_)
                        refine goes_ Try.func175 (by kernel_rfl) rfl #[.agg #[.int .i64 ((rd_T33 t382 x10_1).f0), .int .i64 ((rd_T33 t382 x10_1).f1)]] (by rfl) rfl rfl (by (try simp only [List.map_toArray, List.map_cons, List.map_nil]); first | done | rfl | (simp only [List.length_drop, List.length_take]; rfl)) ?_
                        with_reducible refine (impl_sign.calls ((rd_T33 t382 x10_1).f0) ((rd_T33 t382 x10_1).f1) t389 _ A13.out).mono ?_
                        rintro e w22 ⟨rfl, hb⟩
                        have HS2_ := (hb.cell (World.block_lt_of_cell? _ _ (hHeld.2.2.1))).trans (hHeld.2.2.1)
                        have HS3_ := (hb.cell (World.block_lt_of_cell? _ _ (hHeld.2.2.2))).trans (hHeld.2.2.2)
                        refine ⟨_, rfl, ?_⟩
                        replace HO_3 := Aside0.mk (Kd.S_below (by (with_reducible repeat (first | apply Kd.S_alloc | apply Kd.S_drewN | apply Kd.S_drew)); exact HO_3.out) hb)
                        replace HO_8 := Aside0.mk (Kd.R_below (by (with_reducible repeat (first | apply Kd.R_alloc | apply Kd.R_drewN | apply Kd.R_drew)); exact HO_8.out) hb)
                        replace HL387_0 := Aside0.mk (Kd.R_below (by (with_reducible repeat (first | apply Kd.R_alloc | apply Kd.R_drewN | apply Kd.R_drew)); exact HL387_0.out) hb)
                        replace BK386 := Aside0.mk (bb gb386 hb)
                        replace HR387_0 := Aside0.mk (Kd.C_below (by repeat (first | (with_reducible exact HR387_0.out) | (with_reducible refine Kd.C_alloc ?_ _) | (with_reducible refine Kd.C_drewN ?_ _) | (with_reducible refine Kd.C_drew ?_) | exact HR387_0.out)) hb)
                        replace HX387_0 := Aside0.mk (pw_cell_below hb HX387_0.out)
                        replace HB := Aside0.mk (bs hb)
                        (try clear hb)
                        (try clear hb2)
                        (try clear hk)
                        (try clear hi)
                        refine hK.out _ _ ⟨(blk_cell BK386.out 0).trans rfl, (blk_cell BK386.out 1).trans rfl, HS2_, HS3_⟩ (fun hHeld => ?_)
                        clear hK K
                        refine norm_ (a' := ?_) ?_ ?_
                        rotate_left
                        · show Act.put _ (some 28) _ = _
                          simp only [Act.put, List.setIfInBounds_toArray, List.set_cons_zero, List.set_cons_succ, i64_w, i32_w]
                          rfl
                        refine pu 11 29 #[true, true, true, true, true, true, true, true, true, true, true, true, false] ?_
                        refine pu 12 30 #[true, true, true, true, true, true, true, true, true, true, true, true, true] ?_
                        refine done_ (done_of HT_.out (by kernel_rfl)) ?_
                        have p390 : 0 ≤ ((ji9) : Int) := of_decide_eq_true (by first | (with_reducible assumption) | assumption)
                        have q390 : (ji9) < (x3_1.length : Int) := of_decide_eq_true (by first | (with_reducible assumption) | assumption)
                        obtain ⟨ad390, A390_0, c390_0, e390, hx390_0, hl390_0, hi390_0⟩ := at_L5 (Kd.S_reads' HO_3.out).2.2 (ji9) p390 q390
                        obtain rfl : ad387 = ad390 := (by injection e390)
                        obtain ⟨ce390, hce390, hMe390, hcc390⟩ := Kd.S_get HO_3.out [] (ji9) p390 (by first | exact q390 | exact of_decide_eq_true (by first | (with_reducible assumption) | assumption) | (have e_ := (Kd.S_reads' HO_3.out).1; omega))
                        obtain ⟨ve390_0, rfl, ge390_0⟩ := hMe390
                        have hv390_0 := hcc390 0 _ rfl
                        rw [Nat.add_zero, show ((Kd.slice 3 (Kd.int .i64))).sz = 1 from rfl, Nat.mul_one] at hv390_0
                        replace hv390_0 := Option.some.inj (hv390_0.symm.trans hx390_0)
                        rw [hv390_0] at ge390_0
                        have HL390_0 := Aside0.mk (show Kd.R (Kd.int .i64) 3 _ _ _ _ (rd_L5 x3_1 (ji9)) from ge390_0)
                        clear hv390_0 ge390_0
                        have HX390_0 := Aside0.mk hx390_0
                        clear hcc390 hce390
                        have HR390_0 := Aside0.mk hi390_0
                        have HC390_0 := Aside0.mk hl390_0
                        clear hi390_0 hl390_0
                        replace p390 := eq_true p390
                        replace q390 := eq_true q390
                        have e_ := Option.some.inj (HX387_0.out.symm.trans hx390_0)
                        injection e_ with ea_ en_ ec_
                        subst ec_
                        subst ea_
                        clear en_
                        have p16 : 0 ≤ (1 : Int) := (by omega)
                        have q16 : (1 : Int) < (((rd_L5 x3_1 (ji9)).length : Int) : Int) := of_decide_eq_true (by first | (with_reducible assumption) | assumption)
                        have qi16 : (1 < (rd_L5 x3_1 (ji9)).length) = True := eq_true (by omega)
                        obtain ⟨go16, co16, eo16, gb16, gl16, cl16, HG16⟩ := Kd.R_form HL390_0.out (by omega)
                        (first | cases eo16 | (injection eo16 with ea_ en_ ec_; (first | subst ea_ | (injection ea_ with ea_; subst ea_)); subst ec_; clear en_))
                        have GB16 := Aside0.mk gb16
                        have GG16 := Aside0.mk HG16
                        clear gb16 gl16 HG16
                        (first | simp only [add_plain] at hx388_0 | skip)
                        obtain ⟨hx16_0, hf16_0⟩ := Kd.R_celln 0 HL390_0.out (1 : Int) p16 q16
                        (try rw [show ((1 : Int)).toNat = 1 from rfl] at hx16_0)
                        (try simp only [Nat.reduceMul, Nat.zero_mul, Nat.zero_add, Nat.reduceAdd] at hx16_0)
                        (try rw [show ((1 : Int)).toNat = 1 from rfl] at hf16_0)
                        (try simp only [Nat.reduceMul, Nat.zero_mul, Nat.zero_add, Nat.reduceAdd] at hf16_0)
                        replace p16 := eq_true p16
                        replace q16 := eq_true q16
                        have hq23 : ((ji9) : Int) < (x3_1.length : Int) := (by have h_ : ((ji9) : Int) < ((x3_1.length : Int) : Int) := of_decide_eq_true (by first | (with_reducible assumption) | assumption); first | exact h_ | (have e_ := (Kd.S_reads' HO_3.out).1; omega) | simpa only [List.length_set, List.length_set] using h_)
                        obtain ⟨oki23, ce23, hcl23, hM23, hcc23, hok23, hbk23⟩ := Kd.S_borrow HO_3.out [] ((ji9) : Int) (of_decide_eq_true (by first | (with_reducible assumption) | assumption)) hq23
                        obtain ⟨ve23_0, rfl, ge23_0⟩ := hM23
                        have hv23 := hcc23 0 _ rfl
                        rw [Nat.add_zero, show ((Kd.slice 3 (Kd.int .i64))).sz = 1 from rfl, Nat.mul_one] at hv23
                        replace hv23 := Option.some.inj (hv23.symm.trans HX390_0.out)
                        subst hv23
                        clear hcc23 hcl23
                        replace ge23_0 := (show Kd.R (Kd.int .i64) 3 _ _ _ _ (rd_L5 x3_1 (ji9)) from ge23_0)
                        have HP23 := Kd.R_putg ge23_0 (1 : Int) (wrap64 (x10_1 + 1))
                        try go_wp2_with (first | ((with_reducible refine gate_store (t := 3) (p := 37) rfl ?_); refine store_event (t := 3) (p := 37) (v := ?vo_w24) (w1 := (w22.setCell ⟨go16, 1, none⟩ (.int .i64 (wrap64 (x10_1 + 1))))) ?hg ?ho ?hn ?hr ?_; (case ho => rfl); (case hg => rfl); (case hn => rfl); (case hr => first | (go_simp; done) | (go_simp; rfl)); intro w24 hw; have hg : w22.grownBy w24 (some go16) := (by rw [hw]; exact HP23.2); have hz_ : Kd.R (Kd.int .i64) 3 w24 w.heap.size oki23 (.slice (some ⟨go16, 0, none⟩) (rd_L5 x3_1 (ji9)).length c387_0) y391 := (by rw [hw, Ny391.out]; exact HP23.1); have hp_ : Kd.S (Kd.slice 3 (Kd.int .i64)) 22 w24 w.heap.size (fun _ => True) (.slice (some ad387) x3_1.length co19) y393 := (by rw [Ny393.out]; exact hbk23 hg (fun k_ e_ => by injection e_ with e_; subst e_; exact ge23_0.1 _ rfl) (Kd.M_row hz_)); have hm_ := Kd.R_mono hz_ hok23; clear HP23 hbk23; have HL408 := Aside0.mk (hm_); have HC392 := Aside0.mk ((Kd.R_reads' hm_).2.1); replace HO_3 := Aside0.mk (hp_); replace HO_8 := Aside0.mk (Kd.R_over' (v := (.slice (some ⟨go16, 0, none⟩) (rd_L5 x3_1 (ji9)).length c387_0)) (by (with_reducible repeat (first | apply Kd.R_alloc | apply Kd.R_drewN | apply Kd.R_drew)); exact HO_8.out) (Kd.R_typed HL390_0.out) (by decide) hg); replace BK386 := Aside0.mk (blk_grown (g := gb386) (o := .cells #[.int .i64 ((rd_T33 t382 x10_1).f0), .int .i64 ((rd_T33 t382 x10_1).f1)] 33 (0, 0)) (bo gb386) hg (Kd.R_ne HL390_0.out BK386.out (by decide))); replace HB := Aside0.mk ((by rw [hw]; exact below_set (HB.out) GB16.out : Below w.heap.size w w24)); clear HL387_0 HL390_0; clear hg hw hp_ hz_ hm_ hok23))
                        go_roundg k1
                        case measure => have := HK1.out; omega
                        case rel => exact ⟨(y393), (wrap64 (x10_1 + 1)), (by first | rfl | (simp; done) | (simp [*]; done)), H', ⟨by have := HK1.out; omega⟩, ⟨by (with_reducible repeat (first | apply Kd.S_alloc | apply Kd.S_drewN | apply Kd.S_drew)); exact HO_3.out⟩, ⟨by (with_reducible repeat (first | apply Kd.R_alloc | apply Kd.R_drewN | apply Kd.R_drew)); exact Kd.R_mono HO_8.out (fun _ hk => trivial)⟩, ⟨bl⟩⟩
                      · rw [if_neg c15] at H
                        exact absurd H (by simp)
                    · rw [if_neg c14] at H
                      have c14b0 : ((rd (rd_L5 x3_1 (ji9)) 2) == t389) = false := beq_eq_false_iff_ne.mpr c14
                      have c14b1 : ((rd (rd_L5 x3_1 (ji9)) 2) != t389) = true := bne_iff_ne.mpr c14
                      replace H := Option.bind_eq_some_iff.mp H
                      obtain ⟨t394, A250, H⟩ := H
                      replace H : (if x3_1.length < 5864062014805 then (impl_laps.l0 k1 (x3_1 ++ [(([x10_1, wrap64 (x10_1 + 1), t394] : List Int))]) t382 (t382.length : Int) (wrap64 (x10_1 + 1))) else (none)) = some r := H
                      have A25 := Aside0.mk A250
                      clear A250
                      obtain ⟨y395, hy395⟩ : ∃ y_ : List Int, y_ = (([x10_1, wrap64 (x10_1 + 1), t394] : List Int)) := ⟨_, rfl⟩
                      replace H : (if x3_1.length < 5864062014805 then (impl_laps.l0 k1 (x3_1 ++ [y395]) t382 (t382.length : Int) (wrap64 (x10_1 + 1))) else (none)) = some r := by first | (rw [hy395]; with_reducible exact H) | (have H2_ := (Option.bind_some _ _).symm.trans H; rw [hy395]; with_reducible exact H2_) | (have H2_ := (Option.bind_some _ _).symm.trans H; with_reducible exact H2_) | with_reducible exact H | (rw [hy395]; exact H) | exact H
                      have Ny395 := Aside0.mk hy395
                      clear hy395
                      by_cases c26 : x3_1.length < 5864062014805
                      · rw [if_pos c26] at H
                        have LMc26 := Aside0.mk c26
                        clear c26
                        obtain ⟨y398, hy398⟩ : ∃ y_ : List (List Int), y_ = (x3_1 ++ [y395]) := ⟨_, rfl⟩
                        replace H : (impl_laps.l0 k1 y398 t382 (t382.length : Int) (wrap64 (x10_1 + 1))) = some r := by first | (rw [hy398]; with_reducible exact H) | (have H2_ := (Option.bind_some _ _).symm.trans H; rw [hy398]; with_reducible exact H2_) | (have H2_ := (Option.bind_some _ _).symm.trans H; with_reducible exact H2_) | with_reducible exact H | (rw [hy398]; exact H) | exact H
                        have Ny398 := Aside0.mk hy398
                        clear hy398
                        have H' := Aside0.mk H
                        clear H
                        have p385 : 0 ≤ (x10_1 : Int) := of_decide_eq_true (by first | (with_reducible assumption) | assumption)
                        have q385 : x10_1 < (t382.length : Int) := of_decide_eq_true (by first | (with_reducible assumption) | assumption)
                        obtain ⟨ad385, e385, hx385_0, hx385_1⟩ := at_T33 (Kd.R_reads' HO_8.out).2.2 x10_1 p385 q385
                        cases e385
                        replace p385 := eq_true p385
                        replace q385 := eq_true q385
                        try go_wp2_with (first | ((with_reducible refine gate_dst (N := 5) rfl ?_); refine box_event ?hg (N := 5) ?hd (cs := #[.int .i64 0, .int .i64 0]) (t := 33) ?hr ?_; (case hd => rfl); (case hg => rfl); (case hr => first | (go_simp; done) | (go_simp; rfl)); intro gb386 hg w27 hbox hb; have BK386 := Aside0.mk (hbox); have GW386 := Aside0.mk (bz hg); have GE386 := GW386; replace HO_3 := Aside0.mk (Kd.S_below (by (with_reducible repeat (first | apply Kd.S_alloc | apply Kd.S_drewN | apply Kd.S_drew)); exact HO_3.out) hb); replace HO_8 := Aside0.mk (Kd.R_below (Kd.R_elderB (by (with_reducible repeat (first | apply Kd.R_alloc | apply Kd.R_drewN | apply Kd.R_drew)); exact HO_8.out) gb386 (Nat.le_of_eq hg.symm)) hb); replace HB := Aside0.mk (bs hb); clear hb hbox hg; have hcz28_0 : w27.cell? ⟨gb386, 0, none⟩ = some (.int .i64 0) := (blk_cell BK386.out 0).trans rfl; have hcz28_1 : w27.cell? ⟨gb386, 1, none⟩ = some (.int .i64 0) := (blk_cell BK386.out 1).trans rfl; have hfz28_0 := blk_frozen BK386.out 0; have hfz28_1 := blk_frozen BK386.out 1; obtain ⟨Ao29, co29, eo29⟩ := Kd.S_slice HO_3.out; subst eo29))
                        have n0_ : Aside0 (Kd.S (Kd.slice 3 (Kd.int .i64)) 22 ((w27.setCell ⟨gb386, 0, none⟩ (.int .i64 ((rd_T33 t382 x10_1).f0))).setCell ⟨gb386, 1, none⟩ (.int .i64 ((rd_T33 t382 x10_1).f1))) w.heap.size (fun _ => True) (.slice Ao29 x3_1.length co29) x3_1) := ⟨by (with_reducible repeat (first | apply Kd.S_alloc | apply Kd.S_drewN | apply Kd.S_drew)); exact Kd.S_mono (Kd.S_far (p := ⟨gb386, 1, none⟩) (Kd.S_far (p := ⟨gb386, 0, none⟩) (Kd.S_types HO_3.out BK386.out (by decide)) (fun _ hk => hk.2) (.int .i64 ((rd_T33 t382 x10_1).f0))) (fun _ hk => hk.2) (.int .i64 ((rd_T33 t382 x10_1).f1))) (fun _ hk => trivial)⟩
                        have n1_ : Aside0 (Kd.R k33 33 ((w27.setCell ⟨gb386, 0, none⟩ (.int .i64 ((rd_T33 t382 x10_1).f0))).setCell ⟨gb386, 1, none⟩ (.int .i64 ((rd_T33 t382 x10_1).f1))) w.heap.size (fun k_ => k_ ≠ gb386) (.slice (some ad385) t382.length co4) t382) := ⟨by (with_reducible repeat (first | apply Kd.R_alloc | apply Kd.R_drewN | apply Kd.R_drew)); exact Kd.R_mono (Kd.R_far (p := ⟨gb386, 1, none⟩) (Kd.R_far (p := ⟨gb386, 0, none⟩) (Kd.R_mono HO_8.out (fun k_ hk => (⟨hk, hk.2⟩ : _ ∧ k_ ≠ gb386))) (fun _ hk => hk.2) (.int .i64 ((rd_T33 t382 x10_1).f0))) (fun _ hk => hk.2) (.int .i64 ((rd_T33 t382 x10_1).f1))) (fun _ hk => hk.1.2)⟩
                        have n2_ : Aside0 (((w27.setCell ⟨gb386, 0, none⟩ (.int .i64 ((rd_T33 t382 x10_1).f0))).setCell ⟨gb386, 1, none⟩ (.int .i64 ((rd_T33 t382 x10_1).f1))).heap[gb386]? = some (.cells #[.int .i64 ((rd_T33 t382 x10_1).f0), .int .i64 ((rd_T33 t382 x10_1).f1)] 33 (0, 0))) := ⟨by (with_reducible repeat (first | refine blk_drewN ?_ _ | refine blk_drew ?_ | refine blk_alloc ?_ _)); refine blk_put (cs := #[.int .i64 ((rd_T33 t382 x10_1).f0), .int .i64 0]) ?_ 1 _ rfl; (with_reducible repeat (first | refine blk_drewN ?_ _ | refine blk_drew ?_ | refine blk_alloc ?_ _)); refine blk_put (cs := #[.int .i64 0, .int .i64 0]) ?_ 0 _ rfl; (with_reducible repeat (first | refine blk_drewN ?_ _ | refine blk_drew ?_ | refine blk_alloc ?_ _)); exact BK386.out⟩
                        have n3_ : Aside0 (Below w.heap.size w ((w27.setCell ⟨gb386, 0, none⟩ (.int .i64 ((rd_T33 t382 x10_1).f0))).setCell ⟨gb386, 1, none⟩ (.int .i64 ((rd_T33 t382 x10_1).f1)))) := ⟨bl⟩
                        (try clear HO_3)
                        (try clear HO_8)
                        (try clear BK386)
                        (try clear HB)
                        generalize ((w27.setCell ⟨gb386, 0, none⟩ (.int .i64 ((rd_T33 t382 x10_1).f0))).setCell ⟨gb386, 1, none⟩ (.int .i64 ((rd_T33 t382 x10_1).f1))) = w30 at n0_ n1_ n2_ n3_ ⊢
                        have HO_3 := n0_
                        have HO_8 := n1_
                        have BK386 := n2_
                        have HB := n3_
                        clear n0_ n1_ n2_ n3_
                        replace HO_3 := Aside0.mk (Kd.S_drew HO_3.out)
                        replace HO_8 := Aside0.mk (Kd.R_drew HO_8.out)
                        replace BK386 := Aside0.mk (blk_drew BK386.out)
                        replace HB := Aside0.mk (below_drew1 HB.out)
                        have p387 : 0 ≤ ((ji9) : Int) := of_decide_eq_true (by first | (with_reducible assumption) | assumption)
                        have q387 : (ji9) < (x3_1.length : Int) := of_decide_eq_true (by first | (with_reducible assumption) | assumption)
                        obtain ⟨ad387, A387_0, c387_0, e387, hx387_0, hl387_0, hi387_0⟩ := at_L5 (Kd.S_reads' HO_3.out).2.2 (ji9) p387 q387
                        cases e387
                        obtain ⟨ce387, hce387, hMe387, hcc387⟩ := Kd.S_get HO_3.out [] (ji9) p387 (by first | exact q387 | exact of_decide_eq_true (by first | (with_reducible assumption) | assumption) | (have e_ := (Kd.S_reads' HO_3.out).1; omega))
                        obtain ⟨ve387_0, rfl, ge387_0⟩ := hMe387
                        have hv387_0 := hcc387 0 _ rfl
                        rw [Nat.add_zero, show ((Kd.slice 3 (Kd.int .i64))).sz = 1 from rfl, Nat.mul_one] at hv387_0
                        replace hv387_0 := Option.some.inj (hv387_0.symm.trans hx387_0)
                        rw [hv387_0] at ge387_0
                        have HL387_0 := Aside0.mk (show Kd.R (Kd.int .i64) 3 _ _ _ _ (rd_L5 x3_1 (ji9)) from ge387_0)
                        clear hv387_0 ge387_0
                        have HX387_0 := Aside0.mk hx387_0
                        clear hcc387 hce387
                        have HR387_0 := Aside0.mk hi387_0
                        have HC387_0 := Aside0.mk hl387_0
                        clear hi387_0 hl387_0
                        replace p387 := eq_true p387
                        replace q387 := eq_true q387
                        have p388 : 0 ≤ (2 : Int) := (by omega)
                        have q388 : 2 < ((rd_L5 x3_1 (ji9)).length : Int) := of_decide_eq_true (by first | (with_reducible assumption) | assumption)
                        obtain ⟨ad388, e388, hx388_0⟩ := Kd.at_int (by repeat (first | (with_reducible exact HR387_0.out) | (with_reducible refine Kd.C_alloc ?_ _) | (with_reducible refine Kd.C_drewN ?_ _) | (with_reducible refine Kd.C_drew ?_) | exact HR387_0.out)) 2 p388 q388
                        cases e388
                        (try simp only [show (2 : Int).toNat = 2 from rfl, Nat.reduceMul, Nat.reduceEqDiff, Go.Addr.add, ↓reduceIte] at hx388_0)
                        have qi388 : (2 < (rd_L5 x3_1 (ji9)).length) = True := eq_true (by omega)
                        (try rw [show ((2 : Int)).toNat = 2 from rfl] at hx388_0)
                        replace p388 := eq_true p388
                        replace q388 := eq_true q388
                        refine start_ (n := 13) (S := fun w' => w'.cell? ⟨gb386, 0, none⟩ = some (.int .i64 ((rd_T33 t382 x10_1).f0)) ∧ w'.cell? ⟨gb386, 1, none⟩ = some (.int .i64 ((rd_T33 t382 x10_1).f1)) ∧ w'.cell? (ad387.add ((ji9)).toNat) = some (.slice (some ad388) (rd_L5 x3_1 (ji9)).length c387_0) ∧ w'.cell? ⟨ad388.block, ad388.off + 2, none⟩ = some (.int .i64 (rd (rd_L5 x3_1 (ji9)) 2))) (ds := []) #[false, false, false, false, false, false, false, false, false, false, false, false, false] (by kernel_rfl) rfl rfl ⟨(blk_cell BK386.out 0).trans rfl, (blk_cell BK386.out 1).trans rfl, hx387_0, hx388_0⟩ (fun hHeld => ?_); refine with_tabW impl_laps.tab6 impl_laps.bits6 (fun HT_ HW_ => ?_)
                        generalize w30.drew = w31 at HO_3 HO_8 BK386 HB HL387_0 HR387_0 HX387_0 hx387_0 hx388_0 hHeld ⊢
                        refine pu 0 18 #[true, false, false, false, false, false, false, false, false, false, false, false, false] ?_
                        refine pu 1 19 #[true, true, false, false, false, false, false, false, false, false, false, false, false] ?_
                        refine pu 2 20 #[true, true, true, false, false, false, false, false, false, false, false, false, false] ?_
                        refine pu 3 21 #[true, true, true, true, false, false, false, false, false, false, false, false, false] ?_
                        refine pu 4 22 #[true, true, true, true, true, false, false, false, false, false, false, false, false] ?_
                        refine pu 5 23 #[true, true, true, true, true, true, false, false, false, false, false, false, false] ?_
                        refine take_ (i := 6) (N := some 24) (v := ?_) (a' := ?_) #[true, true, true, true, true, true, true, false, false, false, false, false, false] rfl rfl (take_ofW HT_.out HW_.out (by kernel_rfl)) (fun _ _ _ h => h) (Or.inl ⟨by rfl, ?_⟩) hHeld ?_ ?_
                        rotate_left
                        · rintro w' ⟨s0, s1, s2, s3⟩
                          go_simp
                          with_reducible rfl
                        rotate_left
                        · simp only [Act.put, List.setIfInBounds_toArray, List.set_cons_zero, List.set_cons_succ, i64_w, i32_w]
                          rfl
                        refine pu 7 25 #[true, true, true, true, true, true, true, true, false, false, false, false, false] ?_
                        refine take_ (i := 8) (N := some 26) (v := ?_) (a' := ?_) #[true, true, true, true, true, true, true, true, true, false, false, false, false] rfl rfl (take_ofW HT_.out HW_.out (by kernel_rfl)) (fun _ _ _ h => h) (Or.inl ⟨by rfl, ?_⟩) hHeld ?_ ?_
                        rotate_left
                        · rintro w' ⟨s0, s1, s2, s3⟩
                          go_simp
                          with_reducible rfl
                        rotate_left
                        · simp only [Act.put, List.setIfInBounds_toArray, List.set_cons_zero, List.set_cons_succ, i64_w, i32_w]
                          rfl
                        refine take_ (i := 9) (N := some 27) (v := ?_) (a' := ?_) #[true, true, true, true, true, true, true, true, true, true, false, false, false] rfl rfl (take_ofW HT_.out HW_.out (by kernel_rfl)) (fun _ _ _ h => h) (Or.inl ⟨by rfl, ?_⟩) hHeld ?_ ?_
                        rotate_left
                        · rintro w' ⟨s0, s1, s2, s3⟩
                          go_simp
                          with_reducible rfl
                        rotate_left
                        · simp only [Act.put, List.setIfInBounds_toArray, List.set_cons_zero, List.set_cons_succ, i64_w, i32_w]
                          rfl
                        refine one_ (i := 10) (N := some 28) #[true, true, true, true, true, true, true, true, true, true, true, false, false] rfl rfl (one_of HT_.out (by kernel_rfl)) (by decide) (fun K hK => ?_)
                        refine goes_ Try.func175 (by kernel_rfl) rfl #[.agg #[.int .i64 ((rd_T33 t382 x10_1).f0), .int .i64 ((rd_T33 t382 x10_1).f1)]] (by rfl) rfl rfl (by (try simp only [List.map_toArray, List.map_cons, List.map_nil]); first | done | rfl | (simp only [List.length_drop, List.length_take]; rfl)) ?_
                        with_reducible refine (impl_sign.calls ((rd_T33 t382 x10_1).f0) ((rd_T33 t382 x10_1).f1) t389 _ A13.out).mono ?_
                        rintro e w32 ⟨rfl, hb⟩
                        have HS2_ := (hb.cell (World.block_lt_of_cell? _ _ (hHeld.2.2.1))).trans (hHeld.2.2.1)
                        have HS3_ := (hb.cell (World.block_lt_of_cell? _ _ (hHeld.2.2.2))).trans (hHeld.2.2.2)
                        refine ⟨_, rfl, ?_⟩
                        replace HO_3 := Aside0.mk (Kd.S_below (by (with_reducible repeat (first | apply Kd.S_alloc | apply Kd.S_drewN | apply Kd.S_drew)); exact HO_3.out) hb)
                        replace HO_8 := Aside0.mk (Kd.R_below (by (with_reducible repeat (first | apply Kd.R_alloc | apply Kd.R_drewN | apply Kd.R_drew)); exact HO_8.out) hb)
                        replace HL387_0 := Aside0.mk (Kd.R_below (by (with_reducible repeat (first | apply Kd.R_alloc | apply Kd.R_drewN | apply Kd.R_drew)); exact HL387_0.out) hb)
                        replace BK386 := Aside0.mk (bb gb386 hb)
                        replace HR387_0 := Aside0.mk (Kd.C_below (by repeat (first | (with_reducible exact HR387_0.out) | (with_reducible refine Kd.C_alloc ?_ _) | (with_reducible refine Kd.C_drewN ?_ _) | (with_reducible refine Kd.C_drew ?_) | exact HR387_0.out)) hb)
                        replace HX387_0 := Aside0.mk (pw_cell_below hb HX387_0.out)
                        replace HB := Aside0.mk (bs hb)
                        (try clear hb)
                        (try clear hb2)
                        (try clear hk)
                        (try clear hi)
                        refine hK.out _ _ ⟨(blk_cell BK386.out 0).trans rfl, (blk_cell BK386.out 1).trans rfl, HS2_, HS3_⟩ (fun hHeld => ?_)
                        clear hK K
                        refine norm_ (a' := ?_) ?_ ?_
                        rotate_left
                        · show Act.put _ (some 28) _ = _
                          simp only [Act.put, List.setIfInBounds_toArray, List.set_cons_zero, List.set_cons_succ, i64_w, i32_w]
                          rfl
                        refine pu 11 29 #[true, true, true, true, true, true, true, true, true, true, true, true, false] ?_
                        refine pu 12 30 #[true, true, true, true, true, true, true, true, true, true, true, true, true] ?_
                        refine done_ (done_of HT_.out (by kernel_rfl)) ?_
                        have hcz33_0 : w32.cell? ⟨gb386, 0, none⟩ = some (.int .i64 ((rd_T33 t382 x10_1).f0)) := (blk_cell BK386.out 0).trans rfl
                        have hcz33_1 : w32.cell? ⟨gb386, 1, none⟩ = some (.int .i64 ((rd_T33 t382 x10_1).f1)) := (blk_cell BK386.out 1).trans rfl
                        have hfz33_0 := blk_frozen BK386.out 0
                        have hfz33_1 := blk_frozen BK386.out 1
                        try go_wp2_with (first | ((with_reducible refine gate_callee (f := 175) rfl ?_); refine goesL_ (some 43) rfl rfl Try.func175 (by kernel_rfl) rfl #[.agg #[.int .i64 ((rd_T33 t382 x10_1).f0), .int .i64 ((rd_T33 t382 x10_1).f1)]] rfl (by (try simp only [List.map_toArray, List.map_cons, List.map_nil]); first | done | rfl | (simp only [List.length_drop, List.length_take]; rfl)) ?_; (with_reducible refine (impl_sign.calls ((rd_T33 t382 x10_1).f0) ((rd_T33 t382 x10_1).f1) t394 _ A25.out).mono ?_); rintro e w34 ⟨rfl, hb⟩; refine ⟨_, rfl, ?_⟩; replace HO_3 := Aside0.mk (Kd.S_below (by (with_reducible repeat (first | apply Kd.S_alloc | apply Kd.S_drewN | apply Kd.S_drew)); exact HO_3.out) hb); replace HO_8 := Aside0.mk (Kd.R_below (by (with_reducible repeat (first | apply Kd.R_alloc | apply Kd.R_drewN | apply Kd.R_drew)); exact HO_8.out) hb); replace HL387_0 := Aside0.mk (Kd.R_below (by (with_reducible repeat (first | apply Kd.R_alloc | apply Kd.R_drewN | apply Kd.R_drew)); exact HL387_0.out) hb); replace BK386 := Aside0.mk (bb gb386 hb); replace HR387_0 := Aside0.mk (Kd.C_below (by repeat (first | (with_reducible exact HR387_0.out) | (with_reducible refine Kd.C_alloc ?_ _) | (with_reducible refine Kd.C_drewN ?_ _) | (with_reducible refine Kd.C_drew ?_) | exact HR387_0.out)) hb); replace HX387_0 := Aside0.mk (pw_cell_below hb HX387_0.out); replace HB := Aside0.mk (bs hb); (try clear hb); (try clear hb2); (try clear hk); (try clear hi)) | ((with_reducible refine gate_dst (N := 44) rfl ?_); refine Kd.R_lit (Kd.int .i64) _ 3 ?hg (N := 44) ?hd (xs := ([x10_1, wrap64 (x10_1 + 1), t394] : List Int)) (inner := [.int .i64 x10_1, .int .i64 (wrap64 (x10_1 + 1)), .int .i64 t394]) (ok := fun _ => True) (okp := fun _ => True) ?hr ?hp (fun _ hk => hk) trivial (Below.refl _ _) (Nat.le_refl _) (by simp) ?_; (case hd => rfl); (case hg => rfl); (case hr => first | (go_simp; done) | (go_simp; rfl)); (case hp => exact (Reps.one (show Kd.M (Kd.int .i64) _ _ _ x10_1 [.int .i64 x10_1] from rfl) (Reps.one (show Kd.M (Kd.int .i64) _ _ _ (wrap64 (x10_1 + 1)) [.int .i64 (wrap64 (x10_1 + 1))] from rfl) (Reps.one (show Kd.M (Kd.int .i64) _ _ _ t394 [.int .i64 t394] from rfl) (Reps.none _ _))))); intro v396 w35 ho36 hb hg_ hnew_; clear hg_ hnew_; (first | rw [← Ny395.out] at ho36 | (simp only [Int.reduceToNat] at ho36; rw [← Ny395.out] at ho36)); have HO397 := Aside0.mk (Kd.R_lower (Kd.R_new' ho36 (Kd.R_lt (by (with_reducible repeat (first | apply Kd.R_alloc | apply Kd.R_drewN | apply Kd.R_drew)); exact HL387_0.out))) (below_size bl)); replace HO_3 := Aside0.mk (Kd.S_elder' (by (with_reducible repeat (first | apply Kd.S_alloc | apply Kd.S_drewN | apply Kd.S_drew)); exact HO_3.out) (Kd.R_base ho36) hb); replace HO_8 := Aside0.mk (Kd.R_below (by (with_reducible repeat (first | apply Kd.R_alloc | apply Kd.R_drewN | apply Kd.R_drew)); exact HO_8.out) hb); replace HL387_0 := Aside0.mk (Kd.R_elder' (by (with_reducible repeat (first | apply Kd.R_alloc | apply Kd.R_drewN | apply Kd.R_drew)); exact HL387_0.out) (Kd.R_base ho36) hb); replace BK386 := Aside0.mk (bb gb386 hb); replace HR387_0 := Aside0.mk (Kd.C_below (by repeat (first | (with_reducible exact HR387_0.out) | (with_reducible refine Kd.C_alloc ?_ _) | (with_reducible refine Kd.C_drewN ?_ _) | (with_reducible refine Kd.C_drew ?_) | exact HR387_0.out)) hb); replace HX387_0 := Aside0.mk (pw_cell_below hb HX387_0.out); replace HB := Aside0.mk (bs hb); clear hb ho36; obtain ⟨Ao38, co38, eo38⟩ := Kd.R_slice HO397.out; subst eo38) | ((with_reducible refine gate_builtin (b := .append) (xs := #[.tmp 38, .tmp 45]) rfl ?_); at_builtin; refine Kd.S_append (Kd.slice 3 (Kd.int .i64)) (w0 := w) w.heap.size rfl (.tmp 38) (.tmp 45) 136 22 (.slice none 0 0) 24 rfl Try.underlying136 info22 rfl (by decide) (by omega) (.slice (some ad387) x3_1.length co29) x3_1 y395 [.slice Ao38 y395.length co38] (fun _ => True) (fun k_ => some k_ = (.slice Ao38 y395.length co38 : Value).ownBlock) rfl rfl ?aP (fun k_ hk_ => ((Kd.R_mono (ok' := fun k_ => ((fun _ => True)) k_ ∧ some k_ ≠ (.slice (some ad387) x3_1.length co29 : Value).ownBlock) (Kd.R_apart' (HO397.out) (Kd.S_typed HO_3.out) (by decide)) (fun k_ hk => ⟨trivial, hk.2⟩))).1 k_ hk_.symm) ?aF ?aO ?aB ?aS ?aL ?_; (case aP => exact Kd.M_row (Kd.R_mono (Kd.R_tight rfl (Kd.R_mono (ok' := fun k_ => ((fun _ => True)) k_ ∧ some k_ ≠ (.slice (some ad387) x3_1.length co29 : Value).ownBlock) (Kd.R_apart' (HO397.out) (Kd.S_typed HO_3.out) (by decide)) (fun k_ hk => ⟨trivial, hk.2⟩))) (fun _ h_ => h_))); (case aB => exact bl); (case aF => exact (fun _ _ => trivial)); (case aO => exact (by (with_reducible repeat (first | apply Kd.S_alloc | apply Kd.S_drewN | apply Kd.S_drew)); exact Kd.S_mono HO_3.out (fun k_ hk => ⟨trivial, fun e_ => hk.2 e_⟩))); (case aS => exact (below_size bl)); (case aL => have := LMc26.out; omega); intro v399 w37 ho hb hg hat; rw [← Ny398.out] at ho; have HO400 := Aside0.mk (ho); replace HO_8 := Aside0.mk (Kd.R_over' (by (with_reducible repeat (first | apply Kd.R_alloc | apply Kd.R_drewN | apply Kd.R_drew)); exact HO_8.out) (Kd.S_typed (by (with_reducible repeat (first | apply Kd.S_alloc | apply Kd.S_drewN | apply Kd.S_drew)); exact HO_3.out)) (by decide) hg); replace BK386 := Aside0.mk (blk_grown (g := gb386) (o := .cells #[.int .i64 ((rd_T33 t382 x10_1).f0), .int .i64 ((rd_T33 t382 x10_1).f1)] 33 (0, 0)) (bo gb386) hg (Kd.S_ne HO_3.out BK386.out (by decide))); replace HL387_0 := Aside0.mk (Kd.R_after (ok := (fun k_ => some k_ ≠ (.slice Ao38 y395.length co38 : Value).ownBlock)) (by (with_reducible repeat (first | apply Kd.R_alloc | apply Kd.R_drewN | apply Kd.R_drew)); exact Kd.R_mono HL387_0.out (fun _ hk => ⟨hk.2, hk.1.2⟩)) hg hat); replace HB := Aside0.mk (hb); clear HO_3 HO397; clear ho hb hg hat))
                        go_roundg k1
                        case measure => have := HK1.out; omega
                        case rel => exact ⟨(y398), (wrap64 (x10_1 + 1)), (by first | rfl | (simp; done) | (simp [*]; done)), H', ⟨by have := HK1.out; omega⟩, ⟨by (with_reducible repeat (first | apply Kd.S_alloc | apply Kd.S_drewN | apply Kd.S_drew)); exact HO400.out⟩, ⟨by (with_reducible repeat (first | apply Kd.R_alloc | apply Kd.R_drewN | apply Kd.R_drew)); exact Kd.R_mono HO_8.out (fun _ hk => trivial)⟩, ⟨bl⟩⟩
                      · rw [if_neg c26] at H
                        exact absurd H (by simp)
                  · rw [if_neg c12] at H
                    exact absurd H (by simp)
                · rw [if_neg c11] at H
                  exact absurd H (by simp)
              · rw [if_neg c10] at H
                exact absurd H (by simp)
            · rw [if_neg c8] at H
              have c8b0 : decide (0 ≤ (wrap64 ((x3_1.length : Int) - 1))) = false := decide_eq_false c8
              clear c8
              replace H := Option.bind_eq_some_iff.mp H
              obtain ⟨t401, A390, H⟩ := H
              replace H : (if x3_1.length < 5864062014805 then (impl_laps.l0 k1 (x3_1 ++ [(([x10_1, wrap64 (x10_1 + 1), t401] : List Int))]) t382 (t382.length : Int) (wrap64 (x10_1 + 1))) else (none)) = some r := H
              have A39 := Aside0.mk A390
              clear A390
              obtain ⟨y402, hy402⟩ : ∃ y_ : List Int, y_ = (([x10_1, wrap64 (x10_1 + 1), t401] : List Int)) := ⟨_, rfl⟩
              replace H : (if x3_1.length < 5864062014805 then (impl_laps.l0 k1 (x3_1 ++ [y402]) t382 (t382.length : Int) (wrap64 (x10_1 + 1))) else (none)) = some r := by first | (rw [hy402]; with_reducible exact H) | (have H2_ := (Option.bind_some _ _).symm.trans H; rw [hy402]; with_reducible exact H2_) | (have H2_ := (Option.bind_some _ _).symm.trans H; with_reducible exact H2_) | with_reducible exact H | (rw [hy402]; exact H) | exact H
              have Ny402 := Aside0.mk hy402
              clear hy402
              by_cases c40 : x3_1.length < 5864062014805
              · rw [if_pos c40] at H
                have LMc40 := Aside0.mk c40
                clear c40
                obtain ⟨y405, hy405⟩ : ∃ y_ : List (List Int), y_ = (x3_1 ++ [y402]) := ⟨_, rfl⟩
                replace H : (impl_laps.l0 k1 y405 t382 (t382.length : Int) (wrap64 (x10_1 + 1))) = some r := by first | (rw [hy405]; with_reducible exact H) | (have H2_ := (Option.bind_some _ _).symm.trans H; rw [hy405]; with_reducible exact H2_) | (have H2_ := (Option.bind_some _ _).symm.trans H; with_reducible exact H2_) | with_reducible exact H | (rw [hy405]; exact H) | exact H
                have Ny405 := Aside0.mk hy405
                clear hy405
                have H' := Aside0.mk H
                clear H
                have p385 : 0 ≤ (x10_1 : Int) := of_decide_eq_true (by first | (with_reducible assumption) | assumption)
                have q385 : x10_1 < (t382.length : Int) := of_decide_eq_true (by first | (with_reducible assumption) | assumption)
                obtain ⟨ad385, e385, hx385_0, hx385_1⟩ := at_T33 (Kd.R_reads' HO_8.out).2.2 x10_1 p385 q385
                cases e385
                replace p385 := eq_true p385
                replace q385 := eq_true q385
                try go_wp2_with (first | ((with_reducible refine gate_dst (N := 5) rfl ?_); refine box_event ?hg (N := 5) ?hd (cs := #[.int .i64 0, .int .i64 0]) (t := 33) ?hr ?_; (case hd => rfl); (case hg => rfl); (case hr => first | (go_simp; done) | (go_simp; rfl)); intro gb386 hg w41 hbox hb; have BK386 := Aside0.mk (hbox); have GW386 := Aside0.mk (bz hg); have GE386 := GW386; replace HO_3 := Aside0.mk (Kd.S_below (by (with_reducible repeat (first | apply Kd.S_alloc | apply Kd.S_drewN | apply Kd.S_drew)); exact HO_3.out) hb); replace HO_8 := Aside0.mk (Kd.R_below (Kd.R_elderB (by (with_reducible repeat (first | apply Kd.R_alloc | apply Kd.R_drewN | apply Kd.R_drew)); exact HO_8.out) gb386 (Nat.le_of_eq hg.symm)) hb); replace HB := Aside0.mk (bs hb); clear hb hbox hg; have hcz42_0 : w41.cell? ⟨gb386, 0, none⟩ = some (.int .i64 0) := (blk_cell BK386.out 0).trans rfl; have hcz42_1 : w41.cell? ⟨gb386, 1, none⟩ = some (.int .i64 0) := (blk_cell BK386.out 1).trans rfl; have hfz42_0 := blk_frozen BK386.out 0; have hfz42_1 := blk_frozen BK386.out 1; obtain ⟨Ao43, co43, eo43⟩ := Kd.S_slice HO_3.out; subst eo43))
                have n0_ : Aside0 (Kd.S (Kd.slice 3 (Kd.int .i64)) 22 ((w41.setCell ⟨gb386, 0, none⟩ (.int .i64 ((rd_T33 t382 x10_1).f0))).setCell ⟨gb386, 1, none⟩ (.int .i64 ((rd_T33 t382 x10_1).f1))) w.heap.size (fun _ => True) (.slice Ao43 x3_1.length co43) x3_1) := ⟨by (with_reducible repeat (first | apply Kd.S_alloc | apply Kd.S_drewN | apply Kd.S_drew)); exact Kd.S_mono (Kd.S_far (p := ⟨gb386, 1, none⟩) (Kd.S_far (p := ⟨gb386, 0, none⟩) (Kd.S_types HO_3.out BK386.out (by decide)) (fun _ hk => hk.2) (.int .i64 ((rd_T33 t382 x10_1).f0))) (fun _ hk => hk.2) (.int .i64 ((rd_T33 t382 x10_1).f1))) (fun _ hk => trivial)⟩
                have n1_ : Aside0 (Kd.R k33 33 ((w41.setCell ⟨gb386, 0, none⟩ (.int .i64 ((rd_T33 t382 x10_1).f0))).setCell ⟨gb386, 1, none⟩ (.int .i64 ((rd_T33 t382 x10_1).f1))) w.heap.size (fun k_ => k_ ≠ gb386) (.slice (some ad385) t382.length co4) t382) := ⟨by (with_reducible repeat (first | apply Kd.R_alloc | apply Kd.R_drewN | apply Kd.R_drew)); exact Kd.R_mono (Kd.R_far (p := ⟨gb386, 1, none⟩) (Kd.R_far (p := ⟨gb386, 0, none⟩) (Kd.R_mono HO_8.out (fun k_ hk => (⟨hk, hk.2⟩ : _ ∧ k_ ≠ gb386))) (fun _ hk => hk.2) (.int .i64 ((rd_T33 t382 x10_1).f0))) (fun _ hk => hk.2) (.int .i64 ((rd_T33 t382 x10_1).f1))) (fun _ hk => hk.1.2)⟩
                have n2_ : Aside0 (((w41.setCell ⟨gb386, 0, none⟩ (.int .i64 ((rd_T33 t382 x10_1).f0))).setCell ⟨gb386, 1, none⟩ (.int .i64 ((rd_T33 t382 x10_1).f1))).heap[gb386]? = some (.cells #[.int .i64 ((rd_T33 t382 x10_1).f0), .int .i64 ((rd_T33 t382 x10_1).f1)] 33 (0, 0))) := ⟨by (with_reducible repeat (first | refine blk_drewN ?_ _ | refine blk_drew ?_ | refine blk_alloc ?_ _)); refine blk_put (cs := #[.int .i64 ((rd_T33 t382 x10_1).f0), .int .i64 0]) ?_ 1 _ rfl; (with_reducible repeat (first | refine blk_drewN ?_ _ | refine blk_drew ?_ | refine blk_alloc ?_ _)); refine blk_put (cs := #[.int .i64 0, .int .i64 0]) ?_ 0 _ rfl; (with_reducible repeat (first | refine blk_drewN ?_ _ | refine blk_drew ?_ | refine blk_alloc ?_ _)); exact BK386.out⟩
                have n3_ : Aside0 (Below w.heap.size w ((w41.setCell ⟨gb386, 0, none⟩ (.int .i64 ((rd_T33 t382 x10_1).f0))).setCell ⟨gb386, 1, none⟩ (.int .i64 ((rd_T33 t382 x10_1).f1)))) := ⟨bl⟩
                (try clear HO_3)
                (try clear HO_8)
                (try clear BK386)
                (try clear HB)
                generalize ((w41.setCell ⟨gb386, 0, none⟩ (.int .i64 ((rd_T33 t382 x10_1).f0))).setCell ⟨gb386, 1, none⟩ (.int .i64 ((rd_T33 t382 x10_1).f1))) = w44 at n0_ n1_ n2_ n3_ ⊢
                have HO_3 := n0_
                have HO_8 := n1_
                have BK386 := n2_
                have HB := n3_
                clear n0_ n1_ n2_ n3_
                replace HO_3 := Aside0.mk (Kd.S_drew HO_3.out)
                replace HO_8 := Aside0.mk (Kd.R_drew HO_8.out)
                replace BK386 := Aside0.mk (blk_drew BK386.out)
                replace HB := Aside0.mk (below_drew1 HB.out)
                refine start_ (n := 13) (S := fun w' => True) (ds := []) #[false, false, false, false, false, false, false, false, false, false, false, false, false] (by kernel_rfl) rfl rfl trivial (fun hHeld => ?_); refine with_tabW impl_laps.tab6 impl_laps.bits6 (fun HT_ HW_ => ?_)
                generalize w44.drew = w45 at HO_3 HO_8 BK386 HB hHeld ⊢
                refine pu 0 18 #[true, false, false, false, false, false, false, false, false, false, false, false, false] ?_
                refine pu 1 19 #[true, true, false, false, false, false, false, false, false, false, false, false, false] ?_
                refine pu 2 20 #[true, true, true, false, false, false, false, false, false, false, false, false, false] ?_
                refine pure_ (i := 3) (N := some 21) (v := undef) (a' := ?_) #[true, true, true, true, false, false, false, false, false, false, false, false, false] rfl rfl (any_of HT_.out (by kernel_rfl)) (fun _ _ _ h => h) (Or.inr ⟨by rfl, rfl⟩) ?_ ?_
                rotate_left
                · simp only [Act.put, List.setIfInBounds_toArray, List.set_cons_zero, List.set_cons_succ, i64_w, i32_w]
                  rfl
                refine pure_ (i := 4) (N := some 22) (v := undef) (a' := ?_) #[true, true, true, true, true, false, false, false, false, false, false, false, false] rfl rfl (any_of HT_.out (by kernel_rfl)) (fun _ _ _ h => h) (Or.inr ⟨by rfl, rfl⟩) ?_ ?_
                rotate_left
                · simp only [Act.put, List.setIfInBounds_toArray, List.set_cons_zero, List.set_cons_succ, i64_w, i32_w]
                  rfl
                refine pure_ (i := 5) (N := some 23) (v := undef) (a' := ?_) #[true, true, true, true, true, true, false, false, false, false, false, false, false] rfl rfl (any_of HT_.out (by kernel_rfl)) (fun _ _ _ h => h) (Or.inr ⟨by rfl, rfl⟩) ?_ ?_
                rotate_left
                · simp only [Act.put, List.setIfInBounds_toArray, List.set_cons_zero, List.set_cons_succ, i64_w, i32_w]
                  rfl
                refine pure_ (i := 6) (N := some 24) (v := undef) (a' := ?_) #[true, true, true, true, true, true, true, false, false, false, false, false, false] rfl rfl (any_of HT_.out (by kernel_rfl)) (fun _ _ _ h => h) (Or.inr ⟨by rfl, rfl⟩) ?_ ?_
                rotate_left
                · simp only [Act.put, List.setIfInBounds_toArray, List.set_cons_zero, List.set_cons_succ, i64_w, i32_w]
                  rfl
                refine pure_ (i := 7) (N := some 25) (v := undef) (a' := ?_) #[true, true, true, true, true, true, true, true, false, false, false, false, false] rfl rfl (any_of HT_.out (by kernel_rfl)) (fun _ _ _ h => h) (Or.inr ⟨by rfl, rfl⟩) ?_ ?_
                rotate_left
                · simp only [Act.put, List.setIfInBounds_toArray, List.set_cons_zero, List.set_cons_succ, i64_w, i32_w]
                  rfl
                refine pure_ (i := 8) (N := some 26) (v := undef) (a' := ?_) #[true, true, true, true, true, true, true, true, true, false, false, false, false] rfl rfl (any_of HT_.out (by kernel_rfl)) (fun _ _ _ h => h) (Or.inr ⟨by rfl, rfl⟩) ?_ ?_
                rotate_left
                · simp only [Act.put, List.setIfInBounds_toArray, List.set_cons_zero, List.set_cons_succ, i64_w, i32_w]
                  rfl
                refine pure_ (i := 9) (N := some 27) (v := undef) (a' := ?_) #[true, true, true, true, true, true, true, true, true, true, false, false, false] rfl rfl (any_of HT_.out (by kernel_rfl)) (fun _ _ _ h => h) (Or.inr ⟨by rfl, rfl⟩) ?_ ?_
                rotate_left
                · simp only [Act.put, List.setIfInBounds_toArray, List.set_cons_zero, List.set_cons_succ, i64_w, i32_w]
                  rfl
                refine pure_ (i := 10) (N := some 28) (v := undef) (a' := ?_) #[true, true, true, true, true, true, true, true, true, true, true, false, false] rfl rfl (any_of HT_.out (by kernel_rfl)) (fun _ _ _ h => h) (Or.inr ⟨by rfl, rfl⟩) ?_ ?_
                rotate_left
                · simp only [Act.put, List.setIfInBounds_toArray, List.set_cons_zero, List.set_cons_succ, i64_w, i32_w]
                  rfl
                refine pure_ (i := 11) (N := some 29) (v := undef) (a' := ?_) #[true, true, true, true, true, true, true, true, true, true, true, true, false] rfl rfl (any_of HT_.out (by kernel_rfl)) (fun _ _ _ h => h) (Or.inr ⟨by rfl, rfl⟩) ?_ ?_
                rotate_left
                · simp only [Act.put, List.setIfInBounds_toArray, List.set_cons_zero, List.set_cons_succ, i64_w, i32_w]
                  rfl
                refine pu 12 30 #[true, true, true, true, true, true, true, true, true, true, true, true, true] ?_
                refine done_ (done_of HT_.out (by kernel_rfl)) ?_
                have hcz46_0 : w45.cell? ⟨gb386, 0, none⟩ = some (.int .i64 ((rd_T33 t382 x10_1).f0)) := (blk_cell BK386.out 0).trans rfl
                have hcz46_1 : w45.cell? ⟨gb386, 1, none⟩ = some (.int .i64 ((rd_T33 t382 x10_1).f1)) := (blk_cell BK386.out 1).trans rfl
                have hfz46_0 := blk_frozen BK386.out 0
                have hfz46_1 := blk_frozen BK386.out 1
                try go_wp2_with (first | ((with_reducible refine gate_callee (f := 175) rfl ?_); refine goesL_ (some 43) rfl rfl Try.func175 (by kernel_rfl) rfl #[.agg #[.int .i64 ((rd_T33 t382 x10_1).f0), .int .i64 ((rd_T33 t382 x10_1).f1)]] rfl (by (try simp only [List.map_toArray, List.map_cons, List.map_nil]); first | done | rfl | (simp only [List.length_drop, List.length_take]; rfl)) ?_; (with_reducible refine (impl_sign.calls ((rd_T33 t382 x10_1).f0) ((rd_T33 t382 x10_1).f1) t401 _ A39.out).mono ?_); rintro e w47 ⟨rfl, hb⟩; refine ⟨_, rfl, ?_⟩; replace HO_3 := Aside0.mk (Kd.S_below (by (with_reducible repeat (first | apply Kd.S_alloc | apply Kd.S_drewN | apply Kd.S_drew)); exact HO_3.out) hb); replace HO_8 := Aside0.mk (Kd.R_below (by (with_reducible repeat (first | apply Kd.R_alloc | apply Kd.R_drewN | apply Kd.R_drew)); exact HO_8.out) hb); replace BK386 := Aside0.mk (bb gb386 hb); replace HB := Aside0.mk (bs hb); (try clear hb); (try clear hb2); (try clear hk); (try clear hi)) | ((with_reducible refine gate_dst (N := 44) rfl ?_); refine Kd.R_lit (Kd.int .i64) _ 3 ?hg (N := 44) ?hd (xs := ([x10_1, wrap64 (x10_1 + 1), t401] : List Int)) (inner := [.int .i64 x10_1, .int .i64 (wrap64 (x10_1 + 1)), .int .i64 t401]) (ok := fun _ => True) (okp := fun _ => True) ?hr ?hp (fun _ hk => hk) trivial (Below.refl _ _) (Nat.le_refl _) (by simp) ?_; (case hd => rfl); (case hg => rfl); (case hr => first | (go_simp; done) | (go_simp; rfl)); (case hp => exact (Reps.one (show Kd.M (Kd.int .i64) _ _ _ x10_1 [.int .i64 x10_1] from rfl) (Reps.one (show Kd.M (Kd.int .i64) _ _ _ (wrap64 (x10_1 + 1)) [.int .i64 (wrap64 (x10_1 + 1))] from rfl) (Reps.one (show Kd.M (Kd.int .i64) _ _ _ t401 [.int .i64 t401] from rfl) (Reps.none _ _))))); intro v403 w48 ho49 hb hg_ hnew_; clear hg_ hnew_; (first | rw [← Ny402.out] at ho49 | (simp only [Int.reduceToNat] at ho49; rw [← Ny402.out] at ho49)); have HO404 := Aside0.mk (Kd.R_lower ho49 (below_size bl)); replace HO_3 := Aside0.mk (Kd.S_elder' (by (with_reducible repeat (first | apply Kd.S_alloc | apply Kd.S_drewN | apply Kd.S_drew)); exact HO_3.out) (Kd.R_base ho49) hb); replace HO_8 := Aside0.mk (Kd.R_below (by (with_reducible repeat (first | apply Kd.R_alloc | apply Kd.R_drewN | apply Kd.R_drew)); exact HO_8.out) hb); replace BK386 := Aside0.mk (bb gb386 hb); replace HB := Aside0.mk (bs hb); clear hb ho49; obtain ⟨Ao51, co51, eo51⟩ := Kd.R_slice HO404.out; subst eo51) | ((with_reducible refine gate_builtin (b := .append) (xs := #[.tmp 38, .tmp 45]) rfl ?_); at_builtin; refine Kd.S_append (Kd.slice 3 (Kd.int .i64)) (w0 := w) w.heap.size rfl (.tmp 38) (.tmp 45) 136 22 (.slice none 0 0) 24 rfl Try.underlying136 info22 rfl (by decide) (by omega) (.slice Ao43 x3_1.length co43) x3_1 y402 [.slice Ao51 y402.length co51] (fun _ => True) (fun k_ => some k_ = (.slice Ao51 y402.length co51 : Value).ownBlock) rfl rfl ?aP (fun k_ hk_ => ((Kd.R_mono (ok' := fun k_ => ((fun _ => True)) k_ ∧ some k_ ≠ (.slice Ao43 x3_1.length co43 : Value).ownBlock) (Kd.R_apart' (HO404.out) (Kd.S_typed HO_3.out) (by decide)) (fun k_ hk => ⟨trivial, hk.2⟩))).1 k_ hk_.symm) ?aF ?aO ?aB ?aS ?aL ?_; (case aP => exact Kd.M_row (Kd.R_mono (Kd.R_tight rfl (Kd.R_mono (ok' := fun k_ => ((fun _ => True)) k_ ∧ some k_ ≠ (.slice Ao43 x3_1.length co43 : Value).ownBlock) (Kd.R_apart' (HO404.out) (Kd.S_typed HO_3.out) (by decide)) (fun k_ hk => ⟨trivial, hk.2⟩))) (fun _ h_ => h_))); (case aB => exact bl); (case aF => exact (fun _ _ => trivial)); (case aO => exact (by (with_reducible repeat (first | apply Kd.S_alloc | apply Kd.S_drewN | apply Kd.S_drew)); exact Kd.S_mono HO_3.out (fun k_ hk => ⟨trivial, fun e_ => hk.2 e_⟩))); (case aS => exact (below_size bl)); (case aL => have := LMc40.out; omega); intro v406 w50 ho hb hg hat; rw [← Ny405.out] at ho; have HO407 := Aside0.mk (ho); replace HO_8 := Aside0.mk (Kd.R_over' (by (with_reducible repeat (first | apply Kd.R_alloc | apply Kd.R_drewN | apply Kd.R_drew)); exact HO_8.out) (Kd.S_typed (by (with_reducible repeat (first | apply Kd.S_alloc | apply Kd.S_drewN | apply Kd.S_drew)); exact HO_3.out)) (by decide) hg); replace BK386 := Aside0.mk (blk_grown (g := gb386) (o := .cells #[.int .i64 ((rd_T33 t382 x10_1).f0), .int .i64 ((rd_T33 t382 x10_1).f1)] 33 (0, 0)) (bo gb386) hg (Kd.S_ne HO_3.out BK386.out (by decide))); replace HB := Aside0.mk (hb); clear HO_3 HO404; clear ho hb hg hat))
                go_roundg k1
                case measure => have := HK1.out; omega
                case rel => exact ⟨(y405), (wrap64 (x10_1 + 1)), (by first | rfl | (simp; done) | (simp [*]; done)), H', ⟨by have := HK1.out; omega⟩, ⟨by (with_reducible repeat (first | apply Kd.S_alloc | apply Kd.S_drewN | apply Kd.S_drew)); exact HO407.out⟩, ⟨by (with_reducible repeat (first | apply Kd.R_alloc | apply Kd.R_drewN | apply Kd.R_drew)); exact Kd.R_mono HO_8.out (fun _ hk => trivial)⟩, ⟨bl⟩⟩
              · rw [if_neg c40] at H
                exact absurd H (by simp)
          · rw [if_neg c7] at H
            exact absurd H (by simp)
        · rw [if_neg c6] at H
          exact absurd H (by simp)
      · rw [if_neg c5] at H
        have c5b0 : decide (x10_1 < (t382.length : Int)) = false := decide_eq_false c5
        clear c5
        obtain rfl := Option.some.inj H
        go_wp2
        go_ret
        exact ⟨_, by first | rfl | (simp [errW_none, errW_some] <;> rfl) | (simp [*, errW_none, errW_some] <;> rfl), by (with_reducible repeat (first | apply Kd.S_alloc | apply Kd.S_drewN | apply Kd.S_drew)); exact HO_3.out, bl⟩

-- NOT PRINTED: function 160 (impl_address_1)

end Go.Proofs.Ytmpccnagidednaa.PFnExactAddressOf
