-- Written by this session's program wip/pp (the kit's print tool with additions) 35421559b90ae4d0a3588c463048766b98c2df88dd9212a6774a882060cdf62d
import Derived.Test.YtmpccnagidednaaPFnExactAddressOfx0
import Derived.Test.YtmpccnagidednaaPFnExactAddressOfx3
import Derived.Test.YtmpccnagidednaaPFnExactAddressOfx4
import Derived.Test.YtmpccnagidednaaPFnExactAddressOfx5
namespace Go.Proofs.Ytmpccnagidednaa.PFnExactAddressOf
open Go.RowKit Go.Proofs.YtmpccnagidednaaW.PrintWords Go.Proofs.YtmpccnagidednaaW.PrintLast Go.Proofs.YtmpccnagidednaaW.PrintMore
attribute [local go_sem] max2_int min2_int max_two min_two max_three min_three max_four min_four   -- for this text's walks alone
set_option linter.unusedVariables false
set_option linter.unusedSimpArgs false

/-! ### spec_imSlopes: function 154 -/
def spec_imSlopes.l0 : Nat → List (S91) → List (S33) → Int → Option ((List (S33)))
  | 0, _, _, _ => none
  | k + 1, x0, x3, x4 => if x4 < (x0.length : Int) then (if 0 ≤ (wrap64 (x4 - 1)) then (if (wrap64 (x4 - 1)) < (x0.length : Int) then (if 0 ≤ x4 then ((spec_imSlope.f k ((rd_T91 x0 (wrap64 (x4 - 1))).f0.f0) ((rd_T91 x0 (wrap64 (x4 - 1))).f0.f1) ((rd_T91 x0 (wrap64 (x4 - 1))).f1.f0) ((rd_T91 x0 (wrap64 (x4 - 1))).f1.f1) ((rd_T91 x0 x4).f0.f0) ((rd_T91 x0 x4).f0.f1) ((rd_T91 x0 x4).f1.f0) ((rd_T91 x0 x4).f1.f1)).bind fun bt196 => (if x3.length < 8796093022208 then (spec_imSlopes.l0 k x0 (x3 ++ [(⟨bt196.1, bt196.2⟩ : S33)]) (wrap64 (x4 + 1))) else (none))) else (none)) else (none)) else (none)) else (some x3)
def spec_imSlopes.f (k : Nat) (l0 : List (S91)) : Option ((List (S33))) := spec_imSlopes.l0 k l0 ([] : List (S33)) 1
theorem spec_imSlopes.mono_l : ∀ k, (∀ y0 y1 y2, LeO (spec_imSlopes.l0 k y0 y1 y2) (spec_imSlopes.l0 (k + 1) y0 y1 y2))
  | 0 => fun _ _ _ r h => by simp [spec_imSlopes.l0] at h
  | k + 1 => by
    have ih0 := spec_imSlopes.mono_l k
    · intro y0 y1 y2
      unfold spec_imSlopes.l0
      repeat' first
      | (with_reducible exact ih0 _ _ _)
      | (with_reducible exact spec_imSlope.mono _ _ _ _ _ _ _ _ _)
      | (with_reducible exact LeO.refl _)
      | (with_reducible exact LeO.none _)
      | (with_reducible refine LeO.ite ?_ ?_)
      | (with_reducible refine LeO.bind ?_ (fun _ => ?_))
      | exact ih0 _ _ _
      | exact spec_imSlope.mono _ _ _ _ _ _ _ _ _
      | exact LeO.none _
      | refine LeO.ite ?_ ?_
      | refine LeO.bind ?_ (fun _ => ?_)
theorem spec_imSlopes.mono : ∀ a0 k, LeO (spec_imSlopes.f k a0) (spec_imSlopes.f (k + 1) a0) := by
  intro a0 k
  have ih0 := spec_imSlopes.mono_l k
  unfold spec_imSlopes.f
  repeat' first
      | (with_reducible exact ih0 _ _ _)
      | (with_reducible exact spec_imSlope.mono _ _ _ _ _ _ _ _ _)
      | (with_reducible exact LeO.refl _)
      | (with_reducible exact LeO.none _)
      | (with_reducible refine LeO.ite ?_ ?_)
      | (with_reducible refine LeO.bind ?_ (fun _ => ?_))
      | exact ih0 _ _ _
      | exact spec_imSlope.mono _ _ _ _ _ _ _ _ _
      | exact LeO.none _
      | refine LeO.ite ?_ ?_
      | refine LeO.bind ?_ (fun _ => ?_)
def spec_imSlopes.T5 : Bool × List (List Nat × List Nat) := (true, [([], []), ([], []), ([], []), ([2], [2]), ([1, 3], [1, 3]), ([4], [4]), ([], []), ([], []), ([6, 7], [6, 7]), ([8], [8]), ([5, 9], [5, 9]), ([10], [10]), ([0, 11, 10], [0, 11]), ([12, 12, 0, 1, 2, 3, 4, 5, 6, 7, 8, 9, 10, 11, 12], [0, 12])])
def spec_imSlopes.B5 : List Nat := [0, 0, 0, 4, 14, 30, 0, 0, 192, 448, 1022, 2046, 4095, 8191]
theorem spec_imSlopes.tab5 : rtab .any (opsOf Try.f154 5) = spec_imSlopes.T5 := by kernel_rfl
theorem spec_imSlopes.bits5 : waitsOk spec_imSlopes.T5.2 spec_imSlopes.B5 = true := by kernel_rfl
set_option maxHeartbeats 8000000 in
set_option maxRecDepth 100000 in
theorem spec_imSlopes.calls (k : Nat) (A0 : Option Addr) (c0 : Nat) (l0 : List (S91)) (r : List (S33)) (w : World) (hr0 : Kd.C k91 w A0 l0.length l0) (hc0 : l0.length ≤ c0) (h : spec_imSlopes.f k l0 = some r) :
    Calls Try.prog 154 #[.slice A0 l0.length c0] w fun e w' => ∃ v0_ : Value, e = .returned (v0_) ∧ Kd.R k33 33 w' w.heap.size (fun _ => True) v0_ r ∧ Below w.heap.size w w' := by
  have hu91 := Try.underlying91
  have HR0 := Aside0.mk hr0
  have HC0 := Aside0.mk hc0
  clear hr0 hc0
  have HB := Aside0.mk (Below.refl w.heap.size w)
  have H : (spec_imSlopes.l0 k l0 ([] : List (S33)) 1) = some r := h
  clear h
  have H' := Aside0.mk H
  clear H
  go_enter Try.func154, Try.ntmps154
  go_wp2
  go_loopg [3, 4] k (fun kq v3 v4 w' => ∃ (x3_1 : List (S33)) (x4_1 : Int), v4 = .int .i64 x4_1 ∧ Aside0 (spec_imSlopes.l0 kq l0 x3_1 x4_1 = some r) ∧ Aside0 (kq ≤ k) ∧ Aside0 (Kd.R k33 33 w' w.heap.size (fun _ => True) v3 x3_1) ∧ Aside0 (Below w.heap.size w w'))
  case atStart => exact ⟨(([] : List (S33))), (1), (by first | rfl | (simp; done) | (simp [*]; done)), H', ⟨Nat.le_refl _⟩, ⟨by first | exact Kd.R_nil _ _ _ _ _ | exact Kd.N_nil _ _ _ _ _ | exact Kd.V_nil _ _ _ _ _ | exact Kd.Q_nil _ _ _ _ _ | exact Kd.S_nil _ _ _ _ _⟩, ⟨bl⟩⟩
  case round =>
    clear H'
    try clear c1
    obtain ⟨x3_1, x4_1, rfl, HA, HK1, HO_3, HB⟩ := hrel
    cases gk with
    | zero => exact absurd HA.out (by simp [spec_imSlopes.l0])
    | succ k1 =>
      have H := HA.out
      clear HA
      simp only [spec_imSlopes.l0] at H
      by_cases c2 : x4_1 < (l0.length : Int)
      · rw [if_pos c2] at H
        have c2b0 : decide (x4_1 < (l0.length : Int)) = true := decide_eq_true c2
        clear c2
        obtain ⟨ji3, hji3⟩ : ∃ j_ : Int, (wrap64 (x4_1 - 1)) = j_ := ⟨_, rfl⟩
        replace H : (if 0 ≤ (ji3) then (if (ji3) < (l0.length : Int) then (if 0 ≤ x4_1 then ((spec_imSlope.f k1 ((rd_T91 l0 (ji3)).f0.f0) ((rd_T91 l0 (ji3)).f0.f1) ((rd_T91 l0 (ji3)).f1.f0) ((rd_T91 l0 (ji3)).f1.f1) ((rd_T91 l0 x4_1).f0.f0) ((rd_T91 l0 x4_1).f0.f1) ((rd_T91 l0 x4_1).f1.f0) ((rd_T91 l0 x4_1).f1.f1)).bind fun bt196 => (if x3_1.length < 8796093022208 then (spec_imSlopes.l0 k1 l0 (x3_1 ++ [(⟨bt196.1, bt196.2⟩ : S33)]) (wrap64 (x4_1 + 1))) else (none))) else (none)) else (none)) else (none)) = some r := by first | (rw [hji3] at H; exact H) | (simp only [hji3] at H ⊢; exact H)
        have hji3w : (IntKind.i64.wrap (x4_1 - 1)) = ji3 := (i64_w _).trans hji3
        by_cases c4 : 0 ≤ (ji3)
        · rw [if_pos c4] at H
          have c4b0 : decide (0 ≤ (ji3)) = true := decide_eq_true c4
          clear c4
          by_cases c5 : (ji3) < (l0.length : Int)
          · rw [if_pos c5] at H
            have c5b0 : decide ((ji3) < (l0.length : Int)) = true := decide_eq_true c5
            clear c5
            by_cases c6 : 0 ≤ x4_1
            · rw [if_pos c6] at H
              have c6b0 : decide (0 ≤ x4_1) = true := decide_eq_true c6
              clear c6
              replace H := Option.bind_eq_some_iff.mp H
              obtain ⟨⟨t196, t197⟩, A70, H⟩ := H
              replace H : (if x3_1.length < 8796093022208 then (spec_imSlopes.l0 k1 l0 (x3_1 ++ [(⟨t196, t197⟩ : S33)]) (wrap64 (x4_1 + 1))) else (none)) = some r := H
              have A7 := Aside0.mk A70
              clear A70
              by_cases c8 : x3_1.length < 8796093022208
              · rw [if_pos c8] at H
                have LMc8 := Aside0.mk c8
                clear c8
                obtain ⟨y198, hy198⟩ : ∃ y_ : List (S33), y_ = (x3_1 ++ [(⟨t196, t197⟩ : S33)]) := ⟨_, rfl⟩
                replace H : (spec_imSlopes.l0 k1 l0 y198 (wrap64 (x4_1 + 1))) = some r := by first | (rw [hy198]; with_reducible exact H) | (have H2_ := (Option.bind_some _ _).symm.trans H; rw [hy198]; with_reducible exact H2_) | (have H2_ := (Option.bind_some _ _).symm.trans H; with_reducible exact H2_) | with_reducible exact H | (rw [hy198]; exact H) | exact H
                have Ny198 := Aside0.mk hy198
                clear hy198
                have H' := Aside0.mk H
                clear H
                try go_wp2
                replace HO_3 := Aside0.mk (Kd.R_drew HO_3.out)
                replace HB := Aside0.mk (below_drew1 HB.out)
                have p194 : 0 ≤ ((ji3) : Int) := of_decide_eq_true (by first | (with_reducible assumption) | assumption)
                have q194 : (ji3) < (l0.length : Int) := of_decide_eq_true (by first | (with_reducible assumption) | assumption)
                obtain ⟨ad194, e194, hx194_0, hx194_1, hx194_2, hx194_3⟩ := at_T91 HR0.out (ji3) p194 q194
                have hw194_3 := hx194_3
                have hw194_2 := hx194_2
                have hw194_1 := hx194_1
                have hw194_0 := hx194_0
                cases e194
                replace hx194_0 := (HB.out.cell (World.block_lt_of_cell? w _ hx194_0)).trans hx194_0
                replace hx194_1 := (HB.out.cell (World.block_lt_of_cell? w _ hx194_1)).trans hx194_1
                replace hx194_2 := (HB.out.cell (World.block_lt_of_cell? w _ hx194_2)).trans hx194_2
                replace hx194_3 := (HB.out.cell (World.block_lt_of_cell? w _ hx194_3)).trans hx194_3
                replace p194 := eq_true p194
                replace q194 := eq_true q194
                have p195 : 0 ≤ (x4_1 : Int) := of_decide_eq_true (by first | (with_reducible assumption) | assumption)
                have q195 : x4_1 < (l0.length : Int) := of_decide_eq_true (by first | (with_reducible assumption) | assumption)
                obtain ⟨ad195, e195, hx195_0, hx195_1, hx195_2, hx195_3⟩ := at_T91 HR0.out x4_1 p195 q195
                have hw195_3 := hx195_3
                have hw195_2 := hx195_2
                have hw195_1 := hx195_1
                have hw195_0 := hx195_0
                obtain rfl : ad194 = ad195 := (by injection e195)
                replace hx195_0 := (HB.out.cell (World.block_lt_of_cell? w _ hx195_0)).trans hx195_0
                replace hx195_1 := (HB.out.cell (World.block_lt_of_cell? w _ hx195_1)).trans hx195_1
                replace hx195_2 := (HB.out.cell (World.block_lt_of_cell? w _ hx195_2)).trans hx195_2
                replace hx195_3 := (HB.out.cell (World.block_lt_of_cell? w _ hx195_3)).trans hx195_3
                replace p195 := eq_true p195
                replace q195 := eq_true q195
                refine start_ (n := 14) (S := fun w' => w'.cell? (ad194.add (((ji3)).toNat * 4)) = some (.int .i64 ((rd_T91 l0 (ji3)).f0.f0)) ∧ w'.cell? ⟨(ad194.add (((ji3)).toNat * 4)).block, (ad194.add (((ji3)).toNat * 4)).off + 1, none⟩ = some (.int .i64 ((rd_T91 l0 (ji3)).f0.f1)) ∧ w'.cell? ⟨(ad194.add (((ji3)).toNat * 4)).block, (ad194.add (((ji3)).toNat * 4)).off + 2, none⟩ = some (.int .i64 ((rd_T91 l0 (ji3)).f1.f0)) ∧ w'.cell? ⟨(ad194.add (((ji3)).toNat * 4)).block, (ad194.add (((ji3)).toNat * 4)).off + 3, none⟩ = some (.int .i64 ((rd_T91 l0 (ji3)).f1.f1)) ∧ w'.cell? (ad194.add ((x4_1).toNat * 4)) = some (.int .i64 ((rd_T91 l0 x4_1).f0.f0)) ∧ w'.cell? ⟨(ad194.add ((x4_1).toNat * 4)).block, (ad194.add ((x4_1).toNat * 4)).off + 1, none⟩ = some (.int .i64 ((rd_T91 l0 x4_1).f0.f1)) ∧ w'.cell? ⟨(ad194.add ((x4_1).toNat * 4)).block, (ad194.add ((x4_1).toNat * 4)).off + 2, none⟩ = some (.int .i64 ((rd_T91 l0 x4_1).f1.f0)) ∧ w'.cell? ⟨(ad194.add ((x4_1).toNat * 4)).block, (ad194.add ((x4_1).toNat * 4)).off + 3, none⟩ = some (.int .i64 ((rd_T91 l0 x4_1).f1.f1))) (ds := []) #[false, false, false, false, false, false, false, false, false, false, false, false, false, false] (by kernel_rfl) rfl rfl ⟨((HB.out.cell (World.block_lt_of_cell? w _ hw194_0)).trans hw194_0), ((HB.out.cell (World.block_lt_of_cell? w _ hw194_1)).trans hw194_1), ((HB.out.cell (World.block_lt_of_cell? w _ hw194_2)).trans hw194_2), ((HB.out.cell (World.block_lt_of_cell? w _ hw194_3)).trans hw194_3), ((HB.out.cell (World.block_lt_of_cell? w _ hw195_0)).trans hw195_0), ((HB.out.cell (World.block_lt_of_cell? w _ hw195_1)).trans hw195_1), ((HB.out.cell (World.block_lt_of_cell? w _ hw195_2)).trans hw195_2), ((HB.out.cell (World.block_lt_of_cell? w _ hw195_3)).trans hw195_3)⟩ (fun hHeld => ?_); refine with_tabW spec_imSlopes.tab5 spec_imSlopes.bits5 (fun HT_ HW_ => ?_)
                generalize wr.drew = w9 at HO_3 HB hx194_0 hx194_1 hx194_2 hx194_3 hx195_0 hx195_1 hx195_2 hx195_3 hHeld ⊢
                refine pu 0 11 #[true, false, false, false, false, false, false, false, false, false, false, false, false, false] ?_
                refine pu 1 12 #[true, true, false, false, false, false, false, false, false, false, false, false, false, false] ?_
                refine pu 2 13 #[true, true, true, false, false, false, false, false, false, false, false, false, false, false] ?_
                refine pu 3 14 #[true, true, true, true, false, false, false, false, false, false, false, false, false, false] ?_
                refine pu 4 15 #[true, true, true, true, true, false, false, false, false, false, false, false, false, false] ?_
                refine pu 6 17 #[true, true, true, true, true, false, true, false, false, false, false, false, false, false] ?_
                refine pu 7 18 #[true, true, true, true, true, false, true, true, false, false, false, false, false, false] ?_
                refine pu 8 19 #[true, true, true, true, true, false, true, true, true, false, false, false, false, false] ?_
                refine take_ (i := 5) (N := some 16) (v := ?_) (a' := ?_) #[true, true, true, true, true, true, true, true, true, false, false, false, false, false] rfl rfl (take_ofW HT_.out HW_.out (by kernel_rfl)) (fun _ _ _ h => h) (Or.inl ⟨by rfl, ?_⟩) hHeld ?_ ?_
                rotate_left
                · rintro w' ⟨s0, s1, s2, s3, s4, s5, s6, s7⟩
                  go_simp
                  with_reducible rfl
                rotate_left
                · simp only [Act.put, List.setIfInBounds_toArray, List.set_cons_zero, List.set_cons_succ, i64_w, i32_w]
                  rfl
                refine take_ (i := 9) (N := some 20) (v := ?_) (a' := ?_) #[true, true, true, true, true, true, true, true, true, true, false, false, false, false] rfl rfl (take_ofW HT_.out HW_.out (by kernel_rfl)) (fun _ _ _ h => h) (Or.inl ⟨by rfl, ?_⟩) hHeld ?_ ?_
                rotate_left
                · rintro w' ⟨s0, s1, s2, s3, s4, s5, s6, s7⟩
                  go_simp
                  with_reducible rfl
                rotate_left
                · simp only [Act.put, List.setIfInBounds_toArray, List.set_cons_zero, List.set_cons_succ, i64_w, i32_w]
                  rfl
                refine one_ (i := 10) (N := some 21) #[true, true, true, true, true, true, true, true, true, true, true, false, false, false] rfl rfl (one_of HT_.out (by kernel_rfl)) (by decide) (fun K hK => ?_)
                refine goes_ Try.func173 (by kernel_rfl) rfl #[.agg #[.int .i64 ((rd_T91 l0 (ji3)).f0.f0), .int .i64 ((rd_T91 l0 (ji3)).f0.f1), .int .i64 ((rd_T91 l0 (ji3)).f1.f0), .int .i64 ((rd_T91 l0 (ji3)).f1.f1)], .agg #[.int .i64 ((rd_T91 l0 x4_1).f0.f0), .int .i64 ((rd_T91 l0 x4_1).f0.f1), .int .i64 ((rd_T91 l0 x4_1).f1.f0), .int .i64 ((rd_T91 l0 x4_1).f1.f1)]] (by rfl) rfl rfl (by (try simp only [List.map_toArray, List.map_cons, List.map_nil]); first | done | (simp only [hji3]; rfl) | rfl | (simp only [List.length_drop, List.length_take]; rfl)) ?_
                with_reducible refine (spec_imSlope.calls k1 ((rd_T91 l0 (ji3)).f0.f0) ((rd_T91 l0 (ji3)).f0.f1) ((rd_T91 l0 (ji3)).f1.f0) ((rd_T91 l0 (ji3)).f1.f1) ((rd_T91 l0 x4_1).f0.f0) ((rd_T91 l0 x4_1).f0.f1) ((rd_T91 l0 x4_1).f1.f0) ((rd_T91 l0 x4_1).f1.f1) t196 t197 _ A7.out).mono ?_
                rintro e w10 ⟨rfl, hb⟩
                refine ⟨_, rfl, ?_⟩
                replace HO_3 := Aside0.mk (Kd.R_below (by (with_reducible repeat (first | apply Kd.R_alloc | apply Kd.R_drewN | apply Kd.R_drew)); exact HO_3.out) hb)
                replace HB := Aside0.mk (bs hb)
                (try clear hb)
                (try clear hb2)
                (try clear hk)
                (try clear hi)
                refine hK.out _ _ ⟨((HB.out.cell (World.block_lt_of_cell? w _ hw194_0)).trans hw194_0), ((HB.out.cell (World.block_lt_of_cell? w _ hw194_1)).trans hw194_1), ((HB.out.cell (World.block_lt_of_cell? w _ hw194_2)).trans hw194_2), ((HB.out.cell (World.block_lt_of_cell? w _ hw194_3)).trans hw194_3), ((HB.out.cell (World.block_lt_of_cell? w _ hw195_0)).trans hw195_0), ((HB.out.cell (World.block_lt_of_cell? w _ hw195_1)).trans hw195_1), ((HB.out.cell (World.block_lt_of_cell? w _ hw195_2)).trans hw195_2), ((HB.out.cell (World.block_lt_of_cell? w _ hw195_3)).trans hw195_3)⟩ (fun hHeld => ?_)
                clear hK K
                refine norm_ (a' := ?_) ?_ ?_
                rotate_left
                · show Act.put _ (some 21) _ = _
                  simp only [Act.put, List.setIfInBounds_toArray, List.set_cons_zero, List.set_cons_succ, i64_w, i32_w]
                  rfl
                refine one_ (i := 11) (N := some 22) #[true, true, true, true, true, true, true, true, true, true, true, true, false, false] rfl rfl (one_of HT_.out (by kernel_rfl)) (by decide) (fun K hK => ?_)
                refine value_ (w1 := ?_) (v := ?_) (by rfl) rfl ?_ ?_
                rotate_left 2
                · go_simp
                  constructor
                  · rfl
                  · rfl
                refine hK.out _ _ ⟨(World.cell?_alloc_lt _ _ _ (World.block_lt_of_cell? _ _ (((HB.out.cell (World.block_lt_of_cell? w _ hw194_0)).trans hw194_0)))).trans (((HB.out.cell (World.block_lt_of_cell? w _ hw194_0)).trans hw194_0)), (World.cell?_alloc_lt _ _ _ (World.block_lt_of_cell? _ _ (((HB.out.cell (World.block_lt_of_cell? w _ hw194_1)).trans hw194_1)))).trans (((HB.out.cell (World.block_lt_of_cell? w _ hw194_1)).trans hw194_1)), (World.cell?_alloc_lt _ _ _ (World.block_lt_of_cell? _ _ (((HB.out.cell (World.block_lt_of_cell? w _ hw194_2)).trans hw194_2)))).trans (((HB.out.cell (World.block_lt_of_cell? w _ hw194_2)).trans hw194_2)), (World.cell?_alloc_lt _ _ _ (World.block_lt_of_cell? _ _ (((HB.out.cell (World.block_lt_of_cell? w _ hw194_3)).trans hw194_3)))).trans (((HB.out.cell (World.block_lt_of_cell? w _ hw194_3)).trans hw194_3)), (World.cell?_alloc_lt _ _ _ (World.block_lt_of_cell? _ _ (((HB.out.cell (World.block_lt_of_cell? w _ hw195_0)).trans hw195_0)))).trans (((HB.out.cell (World.block_lt_of_cell? w _ hw195_0)).trans hw195_0)), (World.cell?_alloc_lt _ _ _ (World.block_lt_of_cell? _ _ (((HB.out.cell (World.block_lt_of_cell? w _ hw195_1)).trans hw195_1)))).trans (((HB.out.cell (World.block_lt_of_cell? w _ hw195_1)).trans hw195_1)), (World.cell?_alloc_lt _ _ _ (World.block_lt_of_cell? _ _ (((HB.out.cell (World.block_lt_of_cell? w _ hw195_2)).trans hw195_2)))).trans (((HB.out.cell (World.block_lt_of_cell? w _ hw195_2)).trans hw195_2)), (World.cell?_alloc_lt _ _ _ (World.block_lt_of_cell? _ _ (((HB.out.cell (World.block_lt_of_cell? w _ hw195_3)).trans hw195_3)))).trans (((HB.out.cell (World.block_lt_of_cell? w _ hw195_3)).trans hw195_3))⟩ (fun hHeld => ?_)
                clear hK K
                refine norm_ (a' := ?_) ?_ ?_
                rotate_left
                · show Act.put _ (some 22) _ = _
                  simp only [Act.put, List.setIfInBounds_toArray, List.set_cons_zero, List.set_cons_succ, i64_w, i32_w]
                  rfl
                refine one_ (i := 12) (N := some 23) #[true, true, true, true, true, true, true, true, true, true, true, true, true, false] rfl rfl (one_of HT_.out (by kernel_rfl)) (by decide) (fun K hK => ?_)
                refine Kd.R_append_step k33 (w0 := w) w.heap.size (by rfl) (.tmp 11) (.tmp 22) 52 33 (.agg #[(.int .i64 0), (.int .i64 0)]) 16 rfl Try.underlying52 info33 rfl (by decide) (by omega) u3 x3_1 (⟨t196, t197⟩ : S33) [.int .i64 t196, .int .i64 t197] (fun _ => True) (fun _ => False) rfl rfl ?aP (fun _ hk => hk.elim) ?aF ?aO ?aB ?aS ?aL ?_
                (case aP => exact k33_mkM _ _ _ (⟨t196, t197⟩ : S33))
                (case aB => exact bl)
                (case aF => exact (fun _ _ => trivial))
                (case aO => exact (by (with_reducible repeat (first | apply Kd.R_alloc | apply Kd.R_drewN | apply Kd.R_drew)); exact HO_3.out))
                (case aS => exact (below_size bl))
                (case aL => have := LMc8.out; omega)
                intro v199 w11 ho hb hg hat
                rw [← Ny198.out] at ho
                have HO200 := Aside0.mk (ho)
                replace HB := Aside0.mk (hb)
                clear HO_3
                clear ho hb hg hat
                refine hK.out _ _ ⟨((HB.out.cell (World.block_lt_of_cell? w _ hw194_0)).trans hw194_0), ((HB.out.cell (World.block_lt_of_cell? w _ hw194_1)).trans hw194_1), ((HB.out.cell (World.block_lt_of_cell? w _ hw194_2)).trans hw194_2), ((HB.out.cell (World.block_lt_of_cell? w _ hw194_3)).trans hw194_3), ((HB.out.cell (World.block_lt_of_cell? w _ hw195_0)).trans hw195_0), ((HB.out.cell (World.block_lt_of_cell? w _ hw195_1)).trans hw195_1), ((HB.out.cell (World.block_lt_of_cell? w _ hw195_2)).trans hw195_2), ((HB.out.cell (World.block_lt_of_cell? w _ hw195_3)).trans hw195_3)⟩ (fun hHeld => ?_)
                clear hK K
                refine norm_ (a' := ?_) ?_ ?_
                rotate_left
                · show Act.put _ (some 23) _ = _
                  simp only [Act.put, List.setIfInBounds_toArray, List.set_cons_zero, List.set_cons_succ, i64_w, i32_w]
                  rfl
                refine pu 13 3 #[true, true, true, true, true, true, true, true, true, true, true, true, true, true] ?_
                refine done_ (done_of HT_.out (by kernel_rfl)) ?_
                try go_wp2
                go_roundg k1
                case measure => have := HK1.out; omega
                case rel => exact ⟨(y198), (wrap64 (x4_1 + 1)), (by first | rfl | (simp; done) | (simp [*]; done)), H', ⟨by have := HK1.out; omega⟩, ⟨by (with_reducible repeat (first | apply Kd.R_alloc | apply Kd.R_drewN | apply Kd.R_drew)); exact HO200.out⟩, ⟨bl⟩⟩
              · rw [if_neg c8] at H
                exact absurd H (by simp)
            · rw [if_neg c6] at H
              exact absurd H (by simp)
          · rw [if_neg c5] at H
            exact absurd H (by simp)
        · rw [if_neg c4] at H
          exact absurd H (by simp)
      · rw [if_neg c2] at H
        have c2b0 : decide (x4_1 < (l0.length : Int)) = false := decide_eq_false c2
        clear c2
        obtain rfl := Option.some.inj H
        go_wp2
        go_ret
        exact ⟨_, by first | rfl | (simp [errW_none, errW_some] <;> rfl) | (simp [*, errW_none, errW_some] <;> rfl), by (with_reducible repeat (first | apply Kd.R_alloc | apply Kd.R_drewN | apply Kd.R_drew)); exact HO_3.out, bl⟩

/-! ### spec_woMap: function 106 -/
def spec_woMap.l0 : Nat → List (S33) → Int → Int → Option (Bool)
  | 0, _, _, _ => none
  | k + 1, x9, x10, x11 => if x11 < x10 then (if 0 ≤ x11 then (if x11 < (x9.length : Int) then (if ((rd_T33 x9 x11).f0) = 0 then (some false) else (spec_woMap.l0 k x9 x10 (wrap64 (x11 + 1)))) else (none)) else (none)) else (some true)
def spec_woMap.f (k : Nat) (l0 : List (S91)) : Option (Bool) := (spec_imGood.f k l0).bind fun t201 => (if t201 = true then ((spec_imSlopes.f k l0).bind fun t202 => (spec_woMap.l0 k t202 (t202.length : Int) 0)) else (some false))
theorem spec_woMap.mono_l : ∀ k, (∀ y0 y1 y2, LeO (spec_woMap.l0 k y0 y1 y2) (spec_woMap.l0 (k + 1) y0 y1 y2))
  | 0 => fun _ _ _ r h => by simp [spec_woMap.l0] at h
  | k + 1 => by
    have ih0 := spec_woMap.mono_l k
    · intro y0 y1 y2
      unfold spec_woMap.l0
      repeat' first
      | (with_reducible exact ih0 _ _ _)
      | (with_reducible exact spec_imGood.mono _ _)
      | (with_reducible exact spec_imSlopes.mono _ _)
      | (with_reducible exact LeO.refl _)
      | (with_reducible exact LeO.none _)
      | (with_reducible refine LeO.ite ?_ ?_)
      | (with_reducible refine LeO.bind ?_ (fun _ => ?_))
      | exact ih0 _ _ _
      | exact spec_imGood.mono _ _
      | exact spec_imSlopes.mono _ _
      | exact LeO.none _
      | refine LeO.ite ?_ ?_
      | refine LeO.bind ?_ (fun _ => ?_)
theorem spec_woMap.mono : ∀ a0 k, LeO (spec_woMap.f k a0) (spec_woMap.f (k + 1) a0) := by
  intro a0 k
  have ih0 := spec_woMap.mono_l k
  unfold spec_woMap.f
  repeat' first
      | (with_reducible exact ih0 _ _ _)
      | (with_reducible exact spec_imGood.mono _ _)
      | (with_reducible exact spec_imSlopes.mono _ _)
      | (with_reducible exact LeO.refl _)
      | (with_reducible exact LeO.none _)
      | (with_reducible refine LeO.ite ?_ ?_)
      | (with_reducible refine LeO.bind ?_ (fun _ => ?_))
      | exact ih0 _ _ _
      | exact spec_imGood.mono _ _
      | exact spec_imSlopes.mono _ _
      | exact LeO.none _
      | refine LeO.ite ?_ ?_
      | refine LeO.bind ?_ (fun _ => ?_)
set_option maxHeartbeats 8000000 in
set_option maxRecDepth 100000 in
theorem spec_woMap.calls (k : Nat) (A0 : Option Addr) (c0 : Nat) (l0 : List (S91)) (r : Bool) (w : World) (hr0 : Kd.C k91 w A0 l0.length l0) (hc0 : l0.length ≤ c0) (h : spec_woMap.f k l0 = some r) :
    Calls Try.prog 106 #[.slice A0 l0.length c0] w fun e w' => e = .returned (.bool r) ∧ Below w.heap.size w w' := by
  have hu33 := Try.underlying33
  have HR0 := Aside0.mk hr0
  have HC0 := Aside0.mk hc0
  clear hr0 hc0
  have HB := Aside0.mk (Below.refl w.heap.size w)
  have H : ((spec_imGood.f k l0).bind fun t201 => (if t201 = true then ((spec_imSlopes.f k l0).bind fun t202 => (spec_woMap.l0 k t202 (t202.length : Int) 0)) else (some false))) = some r := h
  clear h
  replace H := Option.bind_eq_some_iff.mp H
  obtain ⟨t201, A20, H⟩ := H
  replace H : (if t201 = true then ((spec_imSlopes.f k l0).bind fun t202 => (spec_woMap.l0 k t202 (t202.length : Int) 0)) else (some false)) = some r := H
  have A2 := Aside0.mk A20
  clear A20
  by_cases c3 : t201 = true
  · subst c3
    have H1 : ((spec_imSlopes.f k l0).bind fun t202 => (spec_woMap.l0 k t202 (t202.length : Int) 0)) = some r := by rw [if_pos rfl] at H; exact H
    clear H
    have H := H1
    clear H1
    replace H := Option.bind_eq_some_iff.mp H
    obtain ⟨t202, A40, H⟩ := H
    replace H : (spec_woMap.l0 k t202 (t202.length : Int) 0) = some r := H
    have A4 := Aside0.mk A40
    clear A40
    have H' := Aside0.mk H
    clear H
    go_enter Try.func106, Try.ntmps106
    go_wp2_with (first | ((with_reducible refine gate_callee (f := 153) rfl ?_); refine goesL_ (some 6) rfl rfl Try.func153 (by kernel_rfl) rfl #[.slice A0 l0.length c0] rfl (by (try simp only [List.map_toArray, List.map_cons, List.map_nil]); first | done | rfl | (simp only [List.length_drop, List.length_take]; rfl)) ?_; (with_reducible refine (spec_imGood.calls k _ _ l0 true _ ?side1 ?side2 A2.out).mono ?_); (case side1 => repeat (first | exact HR0.out | (with_reducible refine Kd.C_alloc ?_ _) | (with_reducible refine Kd.C_drewN ?_ _) | (with_reducible refine Kd.C_drew ?_))); (case side2 => exact HC0.out); rintro e w5 ⟨rfl, hb⟩; refine ⟨_, rfl, ?_⟩; replace HB := Aside0.mk (bs hb); (try clear hb); (try clear hb2); (try clear hk); (try clear hi)) | ((with_reducible refine gate_callee (f := 154) rfl ?_); refine goesL_ (some 9) rfl rfl Try.func154 (by kernel_rfl) rfl #[.slice A0 l0.length c0] rfl (by (try simp only [List.map_toArray, List.map_cons, List.map_nil]); first | done | rfl | (simp only [List.length_drop, List.length_take]; rfl)) ?_; (with_reducible refine (spec_imSlopes.calls k _ _ l0 t202 _ ?side1 ?side2 A4.out).mono ?_); (case side1 => repeat (first | exact (Kd.C_below HR0.out HB.out) | (with_reducible refine Kd.C_alloc ?_ _) | (with_reducible refine Kd.C_drewN ?_ _) | (with_reducible refine Kd.C_drew ?_))); (case side2 => exact HC0.out); rintro e w6 ⟨v203, rfl, ho0, hb⟩; refine ⟨_, rfl, ?_⟩; have HO204 := Aside0.mk (Kd.R_lower ho0 (below_size bl)); replace HB := Aside0.mk (bs hb); (try clear hb); (try clear hb2); (try clear hk); (try clear hi); (try clear ho0); obtain ⟨Ao7, co7, eo7⟩ := Kd.R_slice HO204.out; subst eo7))
    go_loopg [11] k (fun kq v11 w' => ∃ (x11_1 : Int), v11 = .int .i64 x11_1 ∧ Aside0 (spec_woMap.l0 kq t202 (t202.length : Int) x11_1 = some r) ∧ Aside0 (kq ≤ k) ∧ Aside0 (Kd.R k33 33 w' w.heap.size (fun _ => True) (.slice Ao7 t202.length co7) t202) ∧ Aside0 (Below w.heap.size w w'))
    case atStart => exact ⟨(0), (by first | rfl | (simp; done) | (simp [*]; done)), H', ⟨Nat.le_refl _⟩, ⟨by (with_reducible repeat (first | apply Kd.R_alloc | apply Kd.R_drewN | apply Kd.R_drew)); exact HO204.out⟩, ⟨bl⟩⟩
    case round =>
      clear H'
      try clear c1
      try clear p2
      try clear c3
      obtain ⟨x11_1, rfl, HA, HK1, HO_9, HB⟩ := hrel
      cases gk with
      | zero => exact absurd HA.out (by simp [spec_woMap.l0])
      | succ k1 =>
        have H := HA.out
        clear HA
        simp only [spec_woMap.l0] at H
        by_cases c8 : x11_1 < (t202.length : Int)
        · rw [if_pos c8] at H
          have c8b0 : decide (x11_1 < (t202.length : Int)) = true := decide_eq_true c8
          clear c8
          by_cases c9 : 0 ≤ x11_1
          · rw [if_pos c9] at H
            have c9b0 : decide (0 ≤ x11_1) = true := decide_eq_true c9
            clear c9
            by_cases c10 : x11_1 < (t202.length : Int)
            · rw [if_pos c10] at H
              have c10b0 : decide (x11_1 < (t202.length : Int)) = true := decide_eq_true c10
              clear c10
              by_cases c11 : ((rd_T33 t202 x11_1).f0) = 0
              · rw [if_pos c11] at H
                have c11b0 : (((rd_T33 t202 x11_1).f0) == 0) = true := beq_iff_eq.mpr c11
                have c11b1 : (((rd_T33 t202 x11_1).f0) != 0) = false := bne_eq_false_iff_eq.mpr c11
                clear c11
                obtain rfl := Option.some.inj H
                have p205 : 0 ≤ (x11_1 : Int) := of_decide_eq_true (by first | (with_reducible assumption) | assumption)
                have q205 : x11_1 < (t202.length : Int) := of_decide_eq_true (by first | (with_reducible assumption) | assumption)
                obtain ⟨ad205, e205, hx205_0, hx205_1⟩ := at_T33 (Kd.R_reads' HO_9.out).2.2 x11_1 p205 q205
                cases e205
                replace p205 := eq_true p205
                replace q205 := eq_true q205
                go_wp2_with (first | ((with_reducible refine gate_dst (N := 4) rfl ?_); refine box_event ?hg (N := 4) ?hd (cs := #[.int .i64 0, .int .i64 0]) (t := 33) ?hr ?_; (case hd => rfl); (case hg => rfl); (case hr => first | (go_simp; done) | (go_simp; rfl)); intro gb206 hg w12 hbox hb; have BK206 := Aside0.mk (hbox); have GW206 := Aside0.mk (bz hg); have GE206 := GW206; replace HO_9 := Aside0.mk (Kd.R_below (Kd.R_elderB (by (with_reducible repeat (first | apply Kd.R_alloc | apply Kd.R_drewN | apply Kd.R_drew)); exact HO_9.out) gb206 (Nat.le_of_eq hg.symm)) hb); replace HB := Aside0.mk (bs hb); clear hb hbox hg; have hcz13_0 : w12.cell? ⟨gb206, 0, none⟩ = some (.int .i64 0) := (blk_cell BK206.out 0).trans rfl; have hcz13_1 : w12.cell? ⟨gb206, 1, none⟩ = some (.int .i64 0) := (blk_cell BK206.out 1).trans rfl; have hfz13_0 := blk_frozen BK206.out 0; have hfz13_1 := blk_frozen BK206.out 1))
                go_ret
                exact ⟨by first | rfl | (simp [errW_none, errW_some] <;> rfl) | (simp [*, errW_none, errW_some] <;> rfl), bl⟩
              · rw [if_neg c11] at H
                have c11b0 : (((rd_T33 t202 x11_1).f0) == 0) = false := beq_eq_false_iff_ne.mpr c11
                have c11b1 : (((rd_T33 t202 x11_1).f0) != 0) = true := bne_iff_ne.mpr c11
                have H' := Aside0.mk H
                clear H
                have p205 : 0 ≤ (x11_1 : Int) := of_decide_eq_true (by first | (with_reducible assumption) | assumption)
                have q205 : x11_1 < (t202.length : Int) := of_decide_eq_true (by first | (with_reducible assumption) | assumption)
                obtain ⟨ad205, e205, hx205_0, hx205_1⟩ := at_T33 (Kd.R_reads' HO_9.out).2.2 x11_1 p205 q205
                cases e205
                replace p205 := eq_true p205
                replace q205 := eq_true q205
                go_wp2_with (first | ((with_reducible refine gate_dst (N := 4) rfl ?_); refine box_event ?hg (N := 4) ?hd (cs := #[.int .i64 0, .int .i64 0]) (t := 33) ?hr ?_; (case hd => rfl); (case hg => rfl); (case hr => first | (go_simp; done) | (go_simp; rfl)); intro gb206 hg w14 hbox hb; have BK206 := Aside0.mk (hbox); have GW206 := Aside0.mk (bz hg); have GE206 := GW206; replace HO_9 := Aside0.mk (Kd.R_below (Kd.R_elderB (by (with_reducible repeat (first | apply Kd.R_alloc | apply Kd.R_drewN | apply Kd.R_drew)); exact HO_9.out) gb206 (Nat.le_of_eq hg.symm)) hb); replace HB := Aside0.mk (bs hb); clear hb hbox hg; have hcz15_0 : w14.cell? ⟨gb206, 0, none⟩ = some (.int .i64 0) := (blk_cell BK206.out 0).trans rfl; have hcz15_1 : w14.cell? ⟨gb206, 1, none⟩ = some (.int .i64 0) := (blk_cell BK206.out 1).trans rfl; have hfz15_0 := blk_frozen BK206.out 0; have hfz15_1 := blk_frozen BK206.out 1))
                go_roundg k1
                case measure => have := HK1.out; omega
                case rel => exact ⟨(wrap64 (x11_1 + 1)), (by first | rfl | (simp; done) | (simp [*]; done)), H', ⟨by have := HK1.out; omega⟩, ⟨by (with_reducible repeat (first | apply Kd.R_alloc | apply Kd.R_drewN | apply Kd.R_drew)); exact Kd.R_mono (Kd.R_far (p := ⟨gb206, 1, none⟩) (Kd.R_far (p := ⟨gb206, 0, none⟩) (Kd.R_mono HO_9.out (fun k_ hk => (⟨hk, hk.2⟩ : _ ∧ k_ ≠ gb206))) (fun _ hk => hk.2) (.int .i64 ((rd_T33 t202 x11_1).f0))) (fun _ hk => hk.2) (.int .i64 ((rd_T33 t202 x11_1).f1))) (fun _ hk => trivial)⟩, ⟨bl⟩⟩
            · rw [if_neg c10] at H
              exact absurd H (by simp)
          · rw [if_neg c9] at H
            exact absurd H (by simp)
        · rw [if_neg c8] at H
          have c8b0 : decide (x11_1 < (t202.length : Int)) = false := decide_eq_false c8
          clear c8
          obtain rfl := Option.some.inj H
          go_wp2
          go_ret
          exact ⟨by first | rfl | (simp [errW_none, errW_some] <;> rfl) | (simp [*, errW_none, errW_some] <;> rfl), bl⟩
  · replace c3 := Bool.eq_false_iff.mpr c3
    subst c3
    have H1 : (some false) = some r := by rw [if_neg (show ¬ (false = true) by decide)] at H; exact H
    clear H
    have H := H1
    clear H1
    obtain rfl := Option.some.inj H
    go_enter Try.func106, Try.ntmps106
    go_wp2_with (first | ((with_reducible refine gate_callee (f := 153) rfl ?_); refine goesL_ (some 6) rfl rfl Try.func153 (by kernel_rfl) rfl #[.slice A0 l0.length c0] rfl (by (try simp only [List.map_toArray, List.map_cons, List.map_nil]); first | done | rfl | (simp only [List.length_drop, List.length_take]; rfl)) ?_; (with_reducible refine (spec_imGood.calls k _ _ l0 false _ ?side1 ?side2 A2.out).mono ?_); (case side1 => repeat (first | exact HR0.out | (with_reducible refine Kd.C_alloc ?_ _) | (with_reducible refine Kd.C_drewN ?_ _) | (with_reducible refine Kd.C_drew ?_))); (case side2 => exact HC0.out); rintro e w16 ⟨rfl, hb⟩; refine ⟨_, rfl, ?_⟩; replace HB := Aside0.mk (bs hb); (try clear hb); (try clear hb2); (try clear hk); (try clear hi)))
    go_ret
    exact ⟨by first | rfl | (simp [errW_none, errW_some] <;> rfl) | (simp [*, errW_none, errW_some] <;> rfl), bl⟩

/-! ### spec_imLaps: function 157 -/
def spec_imLaps.l0 : Nat → List (List Int) → List (S33) → Int → Int → Option ((List (List Int)))
  | 0, _, _, _, _ => none
  | k + 1, x3, x9, x10, x11 => if x11 < x10 then (if 0 ≤ x11 then (if x11 < (x9.length : Int) then ((spec_l1Sign.f ((rd_T33 x9 x11).f0)).bind fun t212 => (if (x3.length : Int) > 0 then (if 0 ≤ (wrap64 ((x3.length : Int) - 1)) then (if (wrap64 ((x3.length : Int) - 1)) < (x3.length : Int) then (if 2 < ((rd_L5 x3 (wrap64 ((x3.length : Int) - 1))).length : Int) then (if (rd (rd_L5 x3 (wrap64 ((x3.length : Int) - 1))) 2) = t212 then (if 1 < ((rd_L5 x3 (wrap64 ((x3.length : Int) - 1))).length : Int) then (spec_imLaps.l0 k (x3.set ((wrap64 ((x3.length : Int) - 1)) : Int).toNat ((rd_L5 x3 (wrap64 ((x3.length : Int) - 1))).set (1 : Int).toNat (wrap64 (x11 + 1)))) x9 x10 (wrap64 (x11 + 1))) else (none)) else (if x3.length < 5864062014805 then (spec_imLaps.l0 k (x3 ++ [(([x11, wrap64 (x11 + 1), t212] : List Int))]) x9 x10 (wrap64 (x11 + 1))) else (none))) else (none)) else (none)) else (none)) else (if x3.length < 5864062014805 then (spec_imLaps.l0 k (x3 ++ [(([x11, wrap64 (x11 + 1), t212] : List Int))]) x9 x10 (wrap64 (x11 + 1))) else (none)))) else (none)) else (none)) else (some x3)
def spec_imLaps.f (k : Nat) (l0 : List (S91)) : Option ((List (List Int))) := (spec_imSlopes.f k l0).bind fun t207 => (spec_imLaps.l0 k ([] : List (List Int)) t207 (t207.length : Int) 0)
theorem spec_imLaps.mono_l : ∀ k, (∀ y0 y1 y2 y3, LeO (spec_imLaps.l0 k y0 y1 y2 y3) (spec_imLaps.l0 (k + 1) y0 y1 y2 y3))
  | 0 => fun _ _ _ _ r h => by simp [spec_imLaps.l0] at h
  | k + 1 => by
    have ih0 := spec_imLaps.mono_l k
    · intro y0 y1 y2 y3
      unfold spec_imLaps.l0
      repeat' first
      | (with_reducible exact ih0 _ _ _ _)
      | (with_reducible exact spec_imSlopes.mono _ _)
      | (with_reducible exact LeO.refl _)
      | (with_reducible exact LeO.none _)
      | (with_reducible refine LeO.ite ?_ ?_)
      | (with_reducible refine LeO.bind ?_ (fun _ => ?_))
      | exact ih0 _ _ _ _
      | exact spec_imSlopes.mono _ _
      | exact LeO.none _
      | refine LeO.ite ?_ ?_
      | refine LeO.bind ?_ (fun _ => ?_)
theorem spec_imLaps.mono : ∀ a0 k, LeO (spec_imLaps.f k a0) (spec_imLaps.f (k + 1) a0) := by
  intro a0 k
  have ih0 := spec_imLaps.mono_l k
  unfold spec_imLaps.f
  repeat' first
      | (with_reducible exact ih0 _ _ _ _)
      | (with_reducible exact spec_imSlopes.mono _ _)
      | (with_reducible exact LeO.refl _)
      | (with_reducible exact LeO.none _)
      | (with_reducible refine LeO.ite ?_ ?_)
      | (with_reducible refine LeO.bind ?_ (fun _ => ?_))
      | exact ih0 _ _ _ _
      | exact spec_imSlopes.mono _ _
      | exact LeO.none _
      | refine LeO.ite ?_ ?_
      | refine LeO.bind ?_ (fun _ => ?_)
set_option maxHeartbeats 8000000 in
set_option maxRecDepth 100000 in
theorem spec_imLaps.calls (k : Nat) (A0 : Option Addr) (c0 : Nat) (l0 : List (S91)) (r : List (List Int)) (w : World) (hr0 : Kd.C k91 w A0 l0.length l0) (hc0 : l0.length ≤ c0) (h : spec_imLaps.f k l0 = some r) :
    Calls Try.prog 157 #[.slice A0 l0.length c0] w fun e w' => ∃ v0_ : Value, e = .returned (v0_) ∧ Kd.S (Kd.slice 3 (Kd.int .i64)) 22 w' w.heap.size (fun _ => True) v0_ r ∧ Below w.heap.size w w' := by
  have hu33 := Try.underlying33
  have HR0 := Aside0.mk hr0
  have HC0 := Aside0.mk hc0
  clear hr0 hc0
  have HB := Aside0.mk (Below.refl w.heap.size w)
  have H : ((spec_imSlopes.f k l0).bind fun t207 => (spec_imLaps.l0 k ([] : List (List Int)) t207 (t207.length : Int) 0)) = some r := h
  clear h
  replace H := Option.bind_eq_some_iff.mp H
  obtain ⟨t207, A20, H⟩ := H
  replace H : (spec_imLaps.l0 k ([] : List (List Int)) t207 (t207.length : Int) 0) = some r := H
  have A2 := Aside0.mk A20
  clear A20
  have H' := Aside0.mk H
  clear H
  go_enter Try.func157, Try.ntmps157
  go_wp2_with (first | ((with_reducible refine gate_callee (f := 154) rfl ?_); refine goesL_ (some 9) rfl rfl Try.func154 (by kernel_rfl) rfl #[.slice A0 l0.length c0] rfl (by (try simp only [List.map_toArray, List.map_cons, List.map_nil]); first | done | rfl | (simp only [List.length_drop, List.length_take]; rfl)) ?_; (with_reducible refine (spec_imSlopes.calls k _ _ l0 t207 _ ?side1 ?side2 A2.out).mono ?_); (case side1 => repeat (first | exact HR0.out | (with_reducible refine Kd.C_alloc ?_ _) | (with_reducible refine Kd.C_drewN ?_ _) | (with_reducible refine Kd.C_drew ?_))); (case side2 => exact HC0.out); rintro e w3 ⟨v208, rfl, ho0, hb⟩; refine ⟨_, rfl, ?_⟩; have HO209 := Aside0.mk (Kd.R_lower ho0 (below_size bl)); replace HB := Aside0.mk (bs hb); (try clear hb); (try clear hb2); (try clear hk); (try clear hi); (try clear ho0); obtain ⟨Ao4, co4, eo4⟩ := Kd.R_slice HO209.out; subst eo4))
  go_loopg [3, 11] k (fun kq v3 v11 w' => ∃ (x3_1 : List (List Int)) (x11_1 : Int), v11 = .int .i64 x11_1 ∧ Aside0 (spec_imLaps.l0 kq x3_1 t207 (t207.length : Int) x11_1 = some r) ∧ Aside0 (kq ≤ k) ∧ Aside0 (Kd.S (Kd.slice 3 (Kd.int .i64)) 22 w' w.heap.size (fun _ => True) v3 x3_1) ∧ Aside0 (Kd.R k33 33 w' w.heap.size (fun _ => True) (.slice Ao4 t207.length co4) t207) ∧ Aside0 (Below w.heap.size w w'))
  case atStart => exact ⟨(([] : List (List Int))), (0), (by first | rfl | (simp; done) | (simp [*]; done)), H', ⟨Nat.le_refl _⟩, ⟨by first | exact Kd.S_nil _ _ _ _ _ | exact Kd.N_nil _ _ _ _ _ | exact Kd.V_nil _ _ _ _ _ | exact Kd.Q_nil _ _ _ _ _ | exact Kd.R_nil _ _ _ _ _⟩, ⟨by (with_reducible repeat (first | apply Kd.R_alloc | apply Kd.R_drewN | apply Kd.R_drew)); exact HO209.out⟩, ⟨bl⟩⟩
  case round =>
    clear H'
    try clear c1
    try clear p2
    obtain ⟨x3_1, x11_1, rfl, HA, HK1, HO_3, HO_9, HB⟩ := hrel
    cases gk with
    | zero => exact absurd HA.out (by simp [spec_imLaps.l0])
    | succ k1 =>
      have H := HA.out
      clear HA
      simp only [spec_imLaps.l0] at H
      by_cases c5 : x11_1 < (t207.length : Int)
      · rw [if_pos c5] at H
        have c5b0 : decide (x11_1 < (t207.length : Int)) = true := decide_eq_true c5
        clear c5
        by_cases c6 : 0 ≤ x11_1
        · rw [if_pos c6] at H
          have c6b0 : decide (0 ≤ x11_1) = true := decide_eq_true c6
          clear c6
          by_cases c7 : x11_1 < (t207.length : Int)
          · rw [if_pos c7] at H
            have c7b0 : decide (x11_1 < (t207.length : Int)) = true := decide_eq_true c7
            clear c7
            replace H := Option.bind_eq_some_iff.mp H
            obtain ⟨t212, A80, H⟩ := H
            replace H : (if (x3_1.length : Int) > 0 then (if 0 ≤ (wrap64 ((x3_1.length : Int) - 1)) then (if (wrap64 ((x3_1.length : Int) - 1)) < (x3_1.length : Int) then (if 2 < ((rd_L5 x3_1 (wrap64 ((x3_1.length : Int) - 1))).length : Int) then (if (rd (rd_L5 x3_1 (wrap64 ((x3_1.length : Int) - 1))) 2) = t212 then (if 1 < ((rd_L5 x3_1 (wrap64 ((x3_1.length : Int) - 1))).length : Int) then (spec_imLaps.l0 k1 (x3_1.set ((wrap64 ((x3_1.length : Int) - 1)) : Int).toNat ((rd_L5 x3_1 (wrap64 ((x3_1.length : Int) - 1))).set (1 : Int).toNat (wrap64 (x11_1 + 1)))) t207 (t207.length : Int) (wrap64 (x11_1 + 1))) else (none)) else (if x3_1.length < 5864062014805 then (spec_imLaps.l0 k1 (x3_1 ++ [(([x11_1, wrap64 (x11_1 + 1), t212] : List Int))]) t207 (t207.length : Int) (wrap64 (x11_1 + 1))) else (none))) else (none)) else (none)) else (none)) else (if x3_1.length < 5864062014805 then (spec_imLaps.l0 k1 (x3_1 ++ [(([x11_1, wrap64 (x11_1 + 1), t212] : List Int))]) t207 (t207.length : Int) (wrap64 (x11_1 + 1))) else (none))) = some r := H
            have A8 := Aside0.mk A80
            clear A80
            by_cases c9 : (x3_1.length : Int) > 0
            · rw [if_pos c9] at H
              have c9b0 : decide (0 < (x3_1.length : Int)) = true := decide_eq_true c9
              have c9b1 : decide (0 < x3_1.length) = true := decide_eq_true (by omega)
              clear c9
              obtain ⟨ji10, hji10⟩ : ∃ j_ : Int, (wrap64 ((x3_1.length : Int) - 1)) = j_ := ⟨_, rfl⟩
              replace H : (if 0 ≤ (ji10) then (if (ji10) < (x3_1.length : Int) then (if 2 < ((rd_L5 x3_1 (ji10)).length : Int) then (if (rd (rd_L5 x3_1 (ji10)) 2) = t212 then (if 1 < ((rd_L5 x3_1 (ji10)).length : Int) then (spec_imLaps.l0 k1 (x3_1.set ((ji10) : Int).toNat ((rd_L5 x3_1 (ji10)).set (1 : Int).toNat (wrap64 (x11_1 + 1)))) t207 (t207.length : Int) (wrap64 (x11_1 + 1))) else (none)) else (if x3_1.length < 5864062014805 then (spec_imLaps.l0 k1 (x3_1 ++ [(([x11_1, wrap64 (x11_1 + 1), t212] : List Int))]) t207 (t207.length : Int) (wrap64 (x11_1 + 1))) else (none))) else (none)) else (none)) else (none)) = some r := by first | (rw [hji10] at H; exact H) | (simp only [hji10] at H ⊢; exact H)
              (try rw [hji10] at A8)
              have hji10w : (IntKind.i64.wrap ((x3_1.length : Int) - 1)) = ji10 := (i64_w _).trans hji10
              by_cases c11 : 0 ≤ (ji10)
              · rw [if_pos c11] at H
                have c11b0 : decide (0 ≤ (ji10)) = true := decide_eq_true c11
                clear c11
                by_cases c12 : (ji10) < (x3_1.length : Int)
                · rw [if_pos c12] at H
                  have c12b0 : decide ((ji10) < (x3_1.length : Int)) = true := decide_eq_true c12
                  clear c12
                  by_cases c13 : 2 < ((rd_L5 x3_1 (ji10)).length : Int)
                  · rw [if_pos c13] at H
                    have c13b0 : decide (2 < ((rd_L5 x3_1 (ji10)).length : Int)) = true := decide_eq_true c13
                    have c13b1 : decide (2 < (rd_L5 x3_1 (ji10)).length) = true := decide_eq_true (by omega)
                    clear c13
                    by_cases c14 : (rd (rd_L5 x3_1 (ji10)) 2) = t212
                    · rw [if_pos c14] at H
                      have c14b0 : ((rd (rd_L5 x3_1 (ji10)) 2) == t212) = true := beq_iff_eq.mpr c14
                      have c14b1 : ((rd (rd_L5 x3_1 (ji10)) 2) != t212) = false := bne_eq_false_iff_eq.mpr c14
                      clear c14
                      by_cases c15 : 1 < ((rd_L5 x3_1 (ji10)).length : Int)
                      · rw [if_pos c15] at H
                        have c15b0 : decide (1 < ((rd_L5 x3_1 (ji10)).length : Int)) = true := decide_eq_true c15
                        have c15b1 : decide (1 < (rd_L5 x3_1 (ji10)).length) = true := decide_eq_true (by omega)
                        clear c15
                        obtain ⟨y216, hy216⟩ : ∃ y_ : List Int, y_ = ((rd_L5 x3_1 (ji10)).set (1 : Int).toNat (wrap64 (x11_1 + 1))) := ⟨_, rfl⟩
                        replace H : (spec_imLaps.l0 k1 (x3_1.set ((ji10) : Int).toNat y216) t207 (t207.length : Int) (wrap64 (x11_1 + 1))) = some r := by first | (rw [hy216]; with_reducible exact H) | (have H2_ := (Option.bind_some _ _).symm.trans H; rw [hy216]; with_reducible exact H2_) | (have H2_ := (Option.bind_some _ _).symm.trans H; with_reducible exact H2_) | with_reducible exact H | (rw [hy216]; exact H) | exact H
                        have Ny216 := Aside0.mk hy216
                        clear hy216
                        obtain ⟨y218, hy218⟩ : ∃ y_ : List (List Int), y_ = (x3_1.set ((ji10) : Int).toNat y216) := ⟨_, rfl⟩
                        replace H : (spec_imLaps.l0 k1 y218 t207 (t207.length : Int) (wrap64 (x11_1 + 1))) = some r := by first | (rw [hy218]; with_reducible exact H) | (have H2_ := (Option.bind_some _ _).symm.trans H; rw [hy218]; with_reducible exact H2_) | (have H2_ := (Option.bind_some _ _).symm.trans H; with_reducible exact H2_) | with_reducible exact H | (rw [hy218]; exact H) | exact H
                        have Ny218 := Aside0.mk hy218
                        clear hy218
                        have H' := Aside0.mk H
                        clear H
                        have p210 : 0 ≤ (x11_1 : Int) := of_decide_eq_true (by first | (with_reducible assumption) | assumption)
                        have q210 : x11_1 < (t207.length : Int) := of_decide_eq_true (by first | (with_reducible assumption) | assumption)
                        obtain ⟨ad210, e210, hx210_0, hx210_1⟩ := at_T33 (Kd.R_reads' HO_9.out).2.2 x11_1 p210 q210
                        cases e210
                        replace p210 := eq_true p210
                        replace q210 := eq_true q210
                        go_wp2_with (first | ((with_reducible refine gate_dst (N := 5) rfl ?_); refine box_event ?hg (N := 5) ?hd (cs := #[.int .i64 0, .int .i64 0]) (t := 33) ?hr ?_; (case hd => rfl); (case hg => rfl); (case hr => first | (go_simp; done) | (go_simp; rfl)); intro gb211 hg w17 hbox hb; have BK211 := Aside0.mk (hbox); have GW211 := Aside0.mk (bz hg); have GE211 := GW211; replace HO_3 := Aside0.mk (Kd.S_below (by (with_reducible repeat (first | apply Kd.S_alloc | apply Kd.S_drewN | apply Kd.S_drew)); exact HO_3.out) hb); replace HO_9 := Aside0.mk (Kd.R_below (Kd.R_elderB (by (with_reducible repeat (first | apply Kd.R_alloc | apply Kd.R_drewN | apply Kd.R_drew)); exact HO_9.out) gb211 (Nat.le_of_eq hg.symm)) hb); replace HB := Aside0.mk (bs hb); clear hb hbox hg; have hcz18_0 : w17.cell? ⟨gb211, 0, none⟩ = some (.int .i64 0) := (blk_cell BK211.out 0).trans rfl; have hcz18_1 : w17.cell? ⟨gb211, 1, none⟩ = some (.int .i64 0) := (blk_cell BK211.out 1).trans rfl; have hfz18_0 := blk_frozen BK211.out 0; have hfz18_1 := blk_frozen BK211.out 1) | ((with_reducible refine gate_store (t := 33) (p := 5) rfl ?_); refine store_event (t := 33) (p := 5) (v := ?vo_w19) (w1 := ((w17.setCell ⟨gb211, 0, none⟩ (.int .i64 ((rd_T33 t207 x11_1).f0))).setCell ⟨gb211, 1, none⟩ (.int .i64 ((rd_T33 t207 x11_1).f1)))) ?hg ?ho ?hn ?hr ?_; (case ho => rfl); (case hg => rfl); (case hn => rfl); (case hr => first | (go_simp; done) | (go_simp; rfl)); intro w19 hw; have n0_ : Aside0 (Kd.S (Kd.slice 3 (Kd.int .i64)) 22 w19 w.heap.size (fun _ => True) u3 x3_1) := ⟨(by rw [hw]; exact (by (with_reducible repeat (first | apply Kd.S_alloc | apply Kd.S_drewN | apply Kd.S_drew)); exact Kd.S_mono (Kd.S_far (p := ⟨gb211, 1, none⟩) (Kd.S_far (p := ⟨gb211, 0, none⟩) (Kd.S_types HO_3.out BK211.out (by decide)) (fun _ hk => hk.2) (.int .i64 ((rd_T33 t207 x11_1).f0))) (fun _ hk => hk.2) (.int .i64 ((rd_T33 t207 x11_1).f1))) (fun _ hk => trivial)))⟩; have n1_ : Aside0 (Kd.R k33 33 w19 w.heap.size (fun k_ => k_ ≠ gb211) (.slice (some ad210) t207.length co4) t207) := ⟨(by rw [hw]; exact (by (with_reducible repeat (first | apply Kd.R_alloc | apply Kd.R_drewN | apply Kd.R_drew)); exact Kd.R_mono (Kd.R_far (p := ⟨gb211, 1, none⟩) (Kd.R_far (p := ⟨gb211, 0, none⟩) (Kd.R_mono HO_9.out (fun k_ hk => (⟨hk, hk.2⟩ : _ ∧ k_ ≠ gb211))) (fun _ hk => hk.2) (.int .i64 ((rd_T33 t207 x11_1).f0))) (fun _ hk => hk.2) (.int .i64 ((rd_T33 t207 x11_1).f1))) (fun _ hk => hk.1.2)))⟩; have n2_ : Aside0 (w19.heap[gb211]? = some (.cells #[.int .i64 ((rd_T33 t207 x11_1).f0), .int .i64 ((rd_T33 t207 x11_1).f1)] 33 (0, 0))) := ⟨(by rw [hw]; exact (by (with_reducible repeat (first | refine blk_drewN ?_ _ | refine blk_drew ?_ | refine blk_alloc ?_ _)); refine blk_put (cs := #[.int .i64 ((rd_T33 t207 x11_1).f0), .int .i64 0]) ?_ 1 _ rfl; (with_reducible repeat (first | refine blk_drewN ?_ _ | refine blk_drew ?_ | refine blk_alloc ?_ _)); refine blk_put (cs := #[.int .i64 0, .int .i64 0]) ?_ 0 _ rfl; (with_reducible repeat (first | refine blk_drewN ?_ _ | refine blk_drew ?_ | refine blk_alloc ?_ _)); exact BK211.out))⟩; have n3_ : Aside0 (Below w.heap.size w w19) := ⟨(by rw [hw]; exact bl)⟩; clear hw; clear HO_3; clear HO_9; clear BK211; clear HB; have HO_3 := n0_; have HO_9 := n1_; have BK211 := n2_; have HB := n3_; clear n0_ n1_ n2_ n3_; have hcz20_0 : w19.cell? ⟨gb211, 0, none⟩ = some (.int .i64 ((rd_T33 t207 x11_1).f0)) := (blk_cell BK211.out 0).trans rfl; have hcz20_1 : w19.cell? ⟨gb211, 1, none⟩ = some (.int .i64 ((rd_T33 t207 x11_1).f1)) := (blk_cell BK211.out 1).trans rfl; have hfz20_0 := blk_frozen BK211.out 0; have hfz20_1 := blk_frozen BK211.out 1) | ((with_reducible refine gate_callee (f := 166) rfl ?_); refine goesL_ (some 18) rfl rfl Try.func166 (by kernel_rfl) rfl #[.int .i64 ((rd_T33 t207 x11_1).f0)] rfl (by (try simp only [List.map_toArray, List.map_cons, List.map_nil]); first | done | rfl | (simp only [List.length_drop, List.length_take]; rfl)) ?_; (with_reducible refine (spec_l1Sign.calls ((rd_T33 t207 x11_1).f0) t212 _ A8.out).mono ?_); rintro e w' ⟨rfl, ⟨nd, rfl⟩⟩; refine ⟨_, rfl, ?_⟩; (try (rw [drewN_self w19]; generalize hq_ : World.drewN w19 _ = w19; have n0_ : Aside0 (Kd.S (Kd.slice 3 (Kd.int .i64)) 22 w19 w.heap.size (fun _ => True) u3 x3_1) := ⟨by rw [← hq_]; exact (by (with_reducible repeat (first | apply Kd.S_alloc | apply Kd.S_drewN | apply Kd.S_drew)); exact HO_3.out)⟩; have n1_ : Aside0 (Kd.R k33 33 w19 w.heap.size (fun k_ => k_ ≠ gb211) (.slice (some ad210) t207.length co4) t207) := ⟨by rw [← hq_]; exact (by (with_reducible repeat (first | apply Kd.R_alloc | apply Kd.R_drewN | apply Kd.R_drew)); exact HO_9.out)⟩; have n2_ : Aside0 (w19.heap[gb211]? = some (.cells #[.int .i64 ((rd_T33 t207 x11_1).f0), .int .i64 ((rd_T33 t207 x11_1).f1)] 33 (0, 0))) := ⟨by rw [← hq_]; exact (bo gb211)⟩; have n3_ : Aside0 (Below w.heap.size w w19) := ⟨by rw [← hq_]; exact bl⟩; clear HO_3 HO_9 BK211 HB hq_; have HO_3 := n0_; have HO_9 := n1_; have BK211 := n2_; have HB := n3_; clear n0_ n1_ n2_ n3_)); obtain ⟨Ao21, co21, eo21⟩ := Kd.S_slice HO_3.out; subst eo21; have p213 : 0 ≤ ((ji10) : Int) := of_decide_eq_true (by first | (with_reducible assumption) | assumption); have q213 : (ji10) < (x3_1.length : Int) := of_decide_eq_true (by first | (with_reducible assumption) | assumption); obtain ⟨ad213, A213_0, c213_0, e213, hx213_0, hl213_0, hi213_0⟩ := at_L5 (Kd.S_reads' HO_3.out).2.2 (ji10) p213 q213; cases e213; obtain ⟨ce213, hce213, hMe213, hcc213⟩ := Kd.S_get HO_3.out [] (ji10) p213 (by first | exact q213 | exact of_decide_eq_true (by first | (with_reducible assumption) | assumption) | (have e_ := (Kd.S_reads' HO_3.out).1; omega)); obtain ⟨ve213_0, rfl, ge213_0⟩ := hMe213; have hv213_0 := hcc213 0 _ rfl; rw [Nat.add_zero, show ((Kd.slice 3 (Kd.int .i64))).sz = 1 from rfl, Nat.mul_one] at hv213_0; replace hv213_0 := Option.some.inj (hv213_0.symm.trans hx213_0); rw [hv213_0] at ge213_0; have HL213_0 := Aside0.mk (show Kd.R (Kd.int .i64) 3 _ _ _ _ (rd_L5 x3_1 (ji10)) from ge213_0); clear hv213_0 ge213_0; have HX213_0 := Aside0.mk hx213_0; clear hcc213 hce213; have HR213_0 := Aside0.mk hi213_0; have HC213_0 := Aside0.mk hl213_0; clear hi213_0 hl213_0; replace p213 := eq_true p213; replace q213 := eq_true q213; have p214 : 0 ≤ (2 : Int) := (by omega); have q214 : 2 < ((rd_L5 x3_1 (ji10)).length : Int) := of_decide_eq_true (by first | (with_reducible assumption) | assumption); obtain ⟨ad214, e214, hx214_0⟩ := Kd.at_int (by repeat (first | (with_reducible exact HR213_0.out) | (with_reducible refine Kd.C_alloc ?_ _) | (with_reducible refine Kd.C_drewN ?_ _) | (with_reducible refine Kd.C_drew ?_) | exact HR213_0.out)) 2 p214 q214; cases e214; (try simp only [show (2 : Int).toNat = 2 from rfl, Nat.reduceMul, Nat.reduceEqDiff, Go.Addr.add, ↓reduceIte] at hx214_0); have qi214 : (2 < (rd_L5 x3_1 (ji10)).length) = True := eq_true (by omega); (try rw [show ((2 : Int)).toNat = 2 from rfl] at hx214_0); replace p214 := eq_true p214; replace q214 := eq_true q214; have p215 : 0 ≤ ((ji10) : Int) := of_decide_eq_true (by first | (with_reducible assumption) | assumption); have q215 : (ji10) < (x3_1.length : Int) := of_decide_eq_true (by first | (with_reducible assumption) | assumption); obtain ⟨ad215, A215_0, c215_0, e215, hx215_0, hl215_0, hi215_0⟩ := at_L5 (Kd.S_reads' HO_3.out).2.2 (ji10) p215 q215; obtain rfl : ad213 = ad215 := (by injection e215); obtain ⟨ce215, hce215, hMe215, hcc215⟩ := Kd.S_get HO_3.out [] (ji10) p215 (by first | exact q215 | exact of_decide_eq_true (by first | (with_reducible assumption) | assumption) | (have e_ := (Kd.S_reads' HO_3.out).1; omega)); obtain ⟨ve215_0, rfl, ge215_0⟩ := hMe215; have hv215_0 := hcc215 0 _ rfl; rw [Nat.add_zero, show ((Kd.slice 3 (Kd.int .i64))).sz = 1 from rfl, Nat.mul_one] at hv215_0; replace hv215_0 := Option.some.inj (hv215_0.symm.trans hx215_0); rw [hv215_0] at ge215_0; have HL215_0 := Aside0.mk (show Kd.R (Kd.int .i64) 3 _ _ _ _ (rd_L5 x3_1 (ji10)) from ge215_0); clear hv215_0 ge215_0; have HX215_0 := Aside0.mk hx215_0; clear hcc215 hce215; have HR215_0 := Aside0.mk hi215_0; have HC215_0 := Aside0.mk hl215_0; clear hi215_0 hl215_0; replace p215 := eq_true p215; replace q215 := eq_true q215; have ea_ := Option.some.inj (hx213_0.symm.trans hx215_0); injection ea_ with ea_ en_ ec_; subst ea_; subst ec_; clear en_; have p16 : 0 ≤ (1 : Int) := (by omega); have q16 : (1 : Int) < (((rd_L5 x3_1 (ji10)).length : Int) : Int) := of_decide_eq_true (by first | (with_reducible assumption) | assumption); have qi16 : (1 < (rd_L5 x3_1 (ji10)).length) = True := eq_true (by omega); obtain ⟨go16, co16, eo16, gb16, gl16, cl16, HG16⟩ := Kd.R_form HL215_0.out (by omega); (first | cases eo16 | (injection eo16 with ea_ en_ ec_; (first | subst ea_ | (injection ea_ with ea_; subst ea_)); subst ec_; clear en_)); have GB16 := Aside0.mk gb16; have GG16 := Aside0.mk HG16; clear gb16 gl16 HG16; (first | simp only [add_plain] at hx214_0 | skip); obtain ⟨hx16_0, hf16_0⟩ := Kd.R_celln 0 HL215_0.out (1 : Int) p16 q16; (try rw [show ((1 : Int)).toNat = 1 from rfl] at hx16_0); (try simp only [Nat.reduceMul, Nat.zero_mul, Nat.zero_add, Nat.reduceAdd] at hx16_0); (try rw [show ((1 : Int)).toNat = 1 from rfl] at hf16_0); (try simp only [Nat.reduceMul, Nat.zero_mul, Nat.zero_add, Nat.reduceAdd] at hf16_0); replace p16 := eq_true p16; replace q16 := eq_true q16; have hq22 : ((ji10) : Int) < (x3_1.length : Int) := (by have h_ : ((ji10) : Int) < ((x3_1.length : Int) : Int) := of_decide_eq_true (by first | (with_reducible assumption) | assumption); first | exact h_ | (have e_ := (Kd.S_reads' HO_3.out).1; omega) | simpa only [List.length_set, List.length_set] using h_); obtain ⟨oki22, ce22, hcl22, hM22, hcc22, hok22, hbk22⟩ := Kd.S_borrow HO_3.out [] ((ji10) : Int) (of_decide_eq_true (by first | (with_reducible assumption) | assumption)) hq22; obtain ⟨ve22_0, rfl, ge22_0⟩ := hM22; have hv22 := hcc22 0 _ rfl; rw [Nat.add_zero, show ((Kd.slice 3 (Kd.int .i64))).sz = 1 from rfl, Nat.mul_one] at hv22; replace hv22 := Option.some.inj (hv22.symm.trans HX215_0.out); subst hv22; clear hcc22 hcl22; replace ge22_0 := (show Kd.R (Kd.int .i64) 3 _ _ _ _ (rd_L5 x3_1 (ji10)) from ge22_0); have HP22 := Kd.R_putg ge22_0 (1 : Int) (wrap64 (x11_1 + 1))) | ((with_reducible refine gate_store (t := 3) (p := 41) rfl ?_); refine store_event (t := 3) (p := 41) (v := ?vo_w23) (w1 := (w19.setCell ⟨go16, 1, none⟩ (.int .i64 (wrap64 (x11_1 + 1))))) ?hg ?ho ?hn ?hr ?_; (case ho => rfl); (case hg => rfl); (case hn => rfl); (case hr => first | (go_simp; done) | (go_simp; rfl)); intro w23 hw; have hg : w19.grownBy w23 (some go16) := (by rw [hw]; exact HP22.2); have hz_ : Kd.R (Kd.int .i64) 3 w23 w.heap.size oki22 (.slice (some ⟨go16, 0, none⟩) (rd_L5 x3_1 (ji10)).length c213_0) y216 := (by rw [hw, Ny216.out]; exact HP22.1); have hp_ : Kd.S (Kd.slice 3 (Kd.int .i64)) 22 w23 w.heap.size (fun _ => True) (.slice (some ad213) x3_1.length co21) y218 := (by rw [Ny218.out]; exact hbk22 hg (fun k_ e_ => by injection e_ with e_; subst e_; exact ge22_0.1 _ rfl) (Kd.M_row hz_)); have hm_ := Kd.R_mono hz_ hok22; clear HP22 hbk22; have HL231 := Aside0.mk (hm_); have HC217 := Aside0.mk ((Kd.R_reads' hm_).2.1); replace HO_3 := Aside0.mk (hp_); replace HO_9 := Aside0.mk (Kd.R_over' (v := (.slice (some ⟨go16, 0, none⟩) (rd_L5 x3_1 (ji10)).length c213_0)) (by (with_reducible repeat (first | apply Kd.R_alloc | apply Kd.R_drewN | apply Kd.R_drew)); exact HO_9.out) (Kd.R_typed HL215_0.out) (by decide) hg); replace BK211 := Aside0.mk (blk_grown (g := gb211) (o := .cells #[.int .i64 ((rd_T33 t207 x11_1).f0), .int .i64 ((rd_T33 t207 x11_1).f1)] 33 (0, 0)) (bo gb211) hg (Kd.R_ne HL215_0.out BK211.out (by decide))); replace HB := Aside0.mk ((by rw [hw]; exact below_set (HB.out) GB16.out : Below w.heap.size w w23)); clear HL213_0 HL215_0; clear hg hw hp_ hz_ hm_ hok22))
                        go_roundg k1
                        case measure => have := HK1.out; omega
                        case rel => exact ⟨(y218), (wrap64 (x11_1 + 1)), (by first | rfl | (simp; done) | (simp [*]; done)), H', ⟨by have := HK1.out; omega⟩, ⟨by (with_reducible repeat (first | apply Kd.S_alloc | apply Kd.S_drewN | apply Kd.S_drew)); exact HO_3.out⟩, ⟨by (with_reducible repeat (first | apply Kd.R_alloc | apply Kd.R_drewN | apply Kd.R_drew)); exact Kd.R_mono HO_9.out (fun _ hk => trivial)⟩, ⟨bl⟩⟩
                      · rw [if_neg c15] at H
                        exact absurd H (by simp)
                    · rw [if_neg c14] at H
                      have c14b0 : ((rd (rd_L5 x3_1 (ji10)) 2) == t212) = false := beq_eq_false_iff_ne.mpr c14
                      have c14b1 : ((rd (rd_L5 x3_1 (ji10)) 2) != t212) = true := bne_iff_ne.mpr c14
                      obtain ⟨y219, hy219⟩ : ∃ y_ : List Int, y_ = (([x11_1, wrap64 (x11_1 + 1), t212] : List Int)) := ⟨_, rfl⟩
                      replace H : (if x3_1.length < 5864062014805 then (spec_imLaps.l0 k1 (x3_1 ++ [y219]) t207 (t207.length : Int) (wrap64 (x11_1 + 1))) else (none)) = some r := by first | (rw [hy219]; with_reducible exact H) | (have H2_ := (Option.bind_some _ _).symm.trans H; rw [hy219]; with_reducible exact H2_) | (have H2_ := (Option.bind_some _ _).symm.trans H; with_reducible exact H2_) | with_reducible exact H | (rw [hy219]; exact H) | exact H
                      have Ny219 := Aside0.mk hy219
                      clear hy219
                      by_cases c24 : x3_1.length < 5864062014805
                      · rw [if_pos c24] at H
                        have LMc24 := Aside0.mk c24
                        clear c24
                        obtain ⟨y222, hy222⟩ : ∃ y_ : List (List Int), y_ = (x3_1 ++ [y219]) := ⟨_, rfl⟩
                        replace H : (spec_imLaps.l0 k1 y222 t207 (t207.length : Int) (wrap64 (x11_1 + 1))) = some r := by first | (rw [hy222]; with_reducible exact H) | (have H2_ := (Option.bind_some _ _).symm.trans H; rw [hy222]; with_reducible exact H2_) | (have H2_ := (Option.bind_some _ _).symm.trans H; with_reducible exact H2_) | with_reducible exact H | (rw [hy222]; exact H) | exact H
                        have Ny222 := Aside0.mk hy222
                        clear hy222
                        have H' := Aside0.mk H
                        clear H
                        have p210 : 0 ≤ (x11_1 : Int) := of_decide_eq_true (by first | (with_reducible assumption) | assumption)
                        have q210 : x11_1 < (t207.length : Int) := of_decide_eq_true (by first | (with_reducible assumption) | assumption)
                        obtain ⟨ad210, e210, hx210_0, hx210_1⟩ := at_T33 (Kd.R_reads' HO_9.out).2.2 x11_1 p210 q210
                        cases e210
                        replace p210 := eq_true p210
                        replace q210 := eq_true q210
                        go_wp2_with (first | ((with_reducible refine gate_dst (N := 5) rfl ?_); refine box_event ?hg (N := 5) ?hd (cs := #[.int .i64 0, .int .i64 0]) (t := 33) ?hr ?_; (case hd => rfl); (case hg => rfl); (case hr => first | (go_simp; done) | (go_simp; rfl)); intro gb211 hg w25 hbox hb; have BK211 := Aside0.mk (hbox); have GW211 := Aside0.mk (bz hg); have GE211 := GW211; replace HO_3 := Aside0.mk (Kd.S_below (by (with_reducible repeat (first | apply Kd.S_alloc | apply Kd.S_drewN | apply Kd.S_drew)); exact HO_3.out) hb); replace HO_9 := Aside0.mk (Kd.R_below (Kd.R_elderB (by (with_reducible repeat (first | apply Kd.R_alloc | apply Kd.R_drewN | apply Kd.R_drew)); exact HO_9.out) gb211 (Nat.le_of_eq hg.symm)) hb); replace HB := Aside0.mk (bs hb); clear hb hbox hg; have hcz26_0 : w25.cell? ⟨gb211, 0, none⟩ = some (.int .i64 0) := (blk_cell BK211.out 0).trans rfl; have hcz26_1 : w25.cell? ⟨gb211, 1, none⟩ = some (.int .i64 0) := (blk_cell BK211.out 1).trans rfl; have hfz26_0 := blk_frozen BK211.out 0; have hfz26_1 := blk_frozen BK211.out 1) | ((with_reducible refine gate_store (t := 33) (p := 5) rfl ?_); refine store_event (t := 33) (p := 5) (v := ?vo_w27) (w1 := ((w25.setCell ⟨gb211, 0, none⟩ (.int .i64 ((rd_T33 t207 x11_1).f0))).setCell ⟨gb211, 1, none⟩ (.int .i64 ((rd_T33 t207 x11_1).f1)))) ?hg ?ho ?hn ?hr ?_; (case ho => rfl); (case hg => rfl); (case hn => rfl); (case hr => first | (go_simp; done) | (go_simp; rfl)); intro w27 hw; have n0_ : Aside0 (Kd.S (Kd.slice 3 (Kd.int .i64)) 22 w27 w.heap.size (fun _ => True) u3 x3_1) := ⟨(by rw [hw]; exact (by (with_reducible repeat (first | apply Kd.S_alloc | apply Kd.S_drewN | apply Kd.S_drew)); exact Kd.S_mono (Kd.S_far (p := ⟨gb211, 1, none⟩) (Kd.S_far (p := ⟨gb211, 0, none⟩) (Kd.S_types HO_3.out BK211.out (by decide)) (fun _ hk => hk.2) (.int .i64 ((rd_T33 t207 x11_1).f0))) (fun _ hk => hk.2) (.int .i64 ((rd_T33 t207 x11_1).f1))) (fun _ hk => trivial)))⟩; have n1_ : Aside0 (Kd.R k33 33 w27 w.heap.size (fun k_ => k_ ≠ gb211) (.slice (some ad210) t207.length co4) t207) := ⟨(by rw [hw]; exact (by (with_reducible repeat (first | apply Kd.R_alloc | apply Kd.R_drewN | apply Kd.R_drew)); exact Kd.R_mono (Kd.R_far (p := ⟨gb211, 1, none⟩) (Kd.R_far (p := ⟨gb211, 0, none⟩) (Kd.R_mono HO_9.out (fun k_ hk => (⟨hk, hk.2⟩ : _ ∧ k_ ≠ gb211))) (fun _ hk => hk.2) (.int .i64 ((rd_T33 t207 x11_1).f0))) (fun _ hk => hk.2) (.int .i64 ((rd_T33 t207 x11_1).f1))) (fun _ hk => hk.1.2)))⟩; have n2_ : Aside0 (w27.heap[gb211]? = some (.cells #[.int .i64 ((rd_T33 t207 x11_1).f0), .int .i64 ((rd_T33 t207 x11_1).f1)] 33 (0, 0))) := ⟨(by rw [hw]; exact (by (with_reducible repeat (first | refine blk_drewN ?_ _ | refine blk_drew ?_ | refine blk_alloc ?_ _)); refine blk_put (cs := #[.int .i64 ((rd_T33 t207 x11_1).f0), .int .i64 0]) ?_ 1 _ rfl; (with_reducible repeat (first | refine blk_drewN ?_ _ | refine blk_drew ?_ | refine blk_alloc ?_ _)); refine blk_put (cs := #[.int .i64 0, .int .i64 0]) ?_ 0 _ rfl; (with_reducible repeat (first | refine blk_drewN ?_ _ | refine blk_drew ?_ | refine blk_alloc ?_ _)); exact BK211.out))⟩; have n3_ : Aside0 (Below w.heap.size w w27) := ⟨(by rw [hw]; exact bl)⟩; clear hw; clear HO_3; clear HO_9; clear BK211; clear HB; have HO_3 := n0_; have HO_9 := n1_; have BK211 := n2_; have HB := n3_; clear n0_ n1_ n2_ n3_; have hcz28_0 : w27.cell? ⟨gb211, 0, none⟩ = some (.int .i64 ((rd_T33 t207 x11_1).f0)) := (blk_cell BK211.out 0).trans rfl; have hcz28_1 : w27.cell? ⟨gb211, 1, none⟩ = some (.int .i64 ((rd_T33 t207 x11_1).f1)) := (blk_cell BK211.out 1).trans rfl; have hfz28_0 := blk_frozen BK211.out 0; have hfz28_1 := blk_frozen BK211.out 1) | ((with_reducible refine gate_callee (f := 166) rfl ?_); refine goesL_ (some 18) rfl rfl Try.func166 (by kernel_rfl) rfl #[.int .i64 ((rd_T33 t207 x11_1).f0)] rfl (by (try simp only [List.map_toArray, List.map_cons, List.map_nil]); first | done | rfl | (simp only [List.length_drop, List.length_take]; rfl)) ?_; (with_reducible refine (spec_l1Sign.calls ((rd_T33 t207 x11_1).f0) t212 _ A8.out).mono ?_); rintro e w' ⟨rfl, ⟨nd, rfl⟩⟩; refine ⟨_, rfl, ?_⟩; obtain ⟨Ao29, co29, eo29⟩ := Kd.S_slice HO_3.out; subst eo29; have p213 : 0 ≤ ((ji10) : Int) := of_decide_eq_true (by first | (with_reducible assumption) | assumption); have q213 : (ji10) < (x3_1.length : Int) := of_decide_eq_true (by first | (with_reducible assumption) | assumption); obtain ⟨ad213, A213_0, c213_0, e213, hx213_0, hl213_0, hi213_0⟩ := at_L5 (Kd.S_reads' HO_3.out).2.2 (ji10) p213 q213; cases e213; obtain ⟨ce213, hce213, hMe213, hcc213⟩ := Kd.S_get HO_3.out [] (ji10) p213 (by first | exact q213 | exact of_decide_eq_true (by first | (with_reducible assumption) | assumption) | (have e_ := (Kd.S_reads' HO_3.out).1; omega)); obtain ⟨ve213_0, rfl, ge213_0⟩ := hMe213; have hv213_0 := hcc213 0 _ rfl; rw [Nat.add_zero, show ((Kd.slice 3 (Kd.int .i64))).sz = 1 from rfl, Nat.mul_one] at hv213_0; replace hv213_0 := Option.some.inj (hv213_0.symm.trans hx213_0); rw [hv213_0] at ge213_0; have HL213_0 := Aside0.mk (show Kd.R (Kd.int .i64) 3 _ _ _ _ (rd_L5 x3_1 (ji10)) from ge213_0); clear hv213_0 ge213_0; have HX213_0 := Aside0.mk hx213_0; clear hcc213 hce213; have HR213_0 := Aside0.mk hi213_0; have HC213_0 := Aside0.mk hl213_0; clear hi213_0 hl213_0; replace p213 := eq_true p213; replace q213 := eq_true q213; have p214 : 0 ≤ (2 : Int) := (by omega); have q214 : 2 < ((rd_L5 x3_1 (ji10)).length : Int) := of_decide_eq_true (by first | (with_reducible assumption) | assumption); obtain ⟨ad214, e214, hx214_0⟩ := Kd.at_int (by repeat (first | (with_reducible exact HR213_0.out) | (with_reducible refine Kd.C_alloc ?_ _) | (with_reducible refine Kd.C_drewN ?_ _) | (with_reducible refine Kd.C_drew ?_) | exact HR213_0.out)) 2 p214 q214; cases e214; (try simp only [show (2 : Int).toNat = 2 from rfl, Nat.reduceMul, Nat.reduceEqDiff, Go.Addr.add, ↓reduceIte] at hx214_0); have qi214 : (2 < (rd_L5 x3_1 (ji10)).length) = True := eq_true (by omega); (try rw [show ((2 : Int)).toNat = 2 from rfl] at hx214_0); replace p214 := eq_true p214; replace q214 := eq_true q214) | ((with_reducible refine gate_dst (N := 47) rfl ?_); refine Kd.R_lit (Kd.int .i64) _ 3 ?hg (N := 47) ?hd (xs := ([x11_1, wrap64 (x11_1 + 1), t212] : List Int)) (inner := [.int .i64 x11_1, .int .i64 (wrap64 (x11_1 + 1)), .int .i64 t212]) (ok := fun _ => True) (okp := fun _ => True) ?hr ?hp (fun _ hk => hk) trivial (Below.refl _ _) (Nat.le_refl _) (by simp) ?_; (case hd => rfl); (case hg => rfl); (case hr => first | (go_simp; done) | (go_simp; rfl)); (case hp => exact (Reps.one (show Kd.M (Kd.int .i64) _ _ _ x11_1 [.int .i64 x11_1] from rfl) (Reps.one (show Kd.M (Kd.int .i64) _ _ _ (wrap64 (x11_1 + 1)) [.int .i64 (wrap64 (x11_1 + 1))] from rfl) (Reps.one (show Kd.M (Kd.int .i64) _ _ _ t212 [.int .i64 t212] from rfl) (Reps.none _ _))))); intro v220 w30 ho31 hb hg_ hnew_; clear hg_ hnew_; (first | rw [← Ny219.out] at ho31 | (simp only [Int.reduceToNat] at ho31; rw [← Ny219.out] at ho31)); have HO221 := Aside0.mk (Kd.R_lower (Kd.R_new' ho31 (Kd.R_lt (by (with_reducible repeat (first | apply Kd.R_alloc | apply Kd.R_drewN | apply Kd.R_drew)); exact HL213_0.out))) (below_size bl)); replace HO_3 := Aside0.mk (Kd.S_elder' (by (with_reducible repeat (first | apply Kd.S_alloc | apply Kd.S_drewN | apply Kd.S_drew)); exact HO_3.out) (Kd.R_base ho31) hb); replace HO_9 := Aside0.mk (Kd.R_below (by (with_reducible repeat (first | apply Kd.R_alloc | apply Kd.R_drewN | apply Kd.R_drew)); exact HO_9.out) hb); replace HL213_0 := Aside0.mk (Kd.R_elder' (by (with_reducible repeat (first | apply Kd.R_alloc | apply Kd.R_drewN | apply Kd.R_drew)); exact HL213_0.out) (Kd.R_base ho31) hb); replace BK211 := Aside0.mk (bb gb211 hb); replace HR213_0 := Aside0.mk (Kd.C_below (by repeat (first | (with_reducible exact HR213_0.out) | (with_reducible refine Kd.C_alloc ?_ _) | (with_reducible refine Kd.C_drewN ?_ _) | (with_reducible refine Kd.C_drew ?_) | exact HR213_0.out)) hb); replace HX213_0 := Aside0.mk (pw_cell_below hb HX213_0.out); replace HB := Aside0.mk (bs hb); clear hb ho31; obtain ⟨Ao33, co33, eo33⟩ := Kd.R_slice HO221.out; subst eo33) | ((with_reducible refine gate_builtin (b := .append) (xs := #[.tmp 42, .tmp 48]) rfl ?_); at_builtin; refine Kd.S_append (Kd.slice 3 (Kd.int .i64)) (w0 := w) w.heap.size rfl (.tmp 42) (.tmp 48) 136 22 (.slice none 0 0) 24 rfl Try.underlying136 info22 rfl (by decide) (by omega) (.slice (some ad213) x3_1.length co29) x3_1 y219 [.slice Ao33 y219.length co33] (fun _ => True) (fun k_ => some k_ = (.slice Ao33 y219.length co33 : Value).ownBlock) rfl rfl ?aP (fun k_ hk_ => ((Kd.R_mono (ok' := fun k_ => ((fun _ => True)) k_ ∧ some k_ ≠ (.slice (some ad213) x3_1.length co29 : Value).ownBlock) (Kd.R_apart' (HO221.out) (Kd.S_typed HO_3.out) (by decide)) (fun k_ hk => ⟨trivial, hk.2⟩))).1 k_ hk_.symm) ?aF ?aO ?aB ?aS ?aL ?_; (case aP => exact Kd.M_row (Kd.R_mono (Kd.R_tight rfl (Kd.R_mono (ok' := fun k_ => ((fun _ => True)) k_ ∧ some k_ ≠ (.slice (some ad213) x3_1.length co29 : Value).ownBlock) (Kd.R_apart' (HO221.out) (Kd.S_typed HO_3.out) (by decide)) (fun k_ hk => ⟨trivial, hk.2⟩))) (fun _ h_ => h_))); (case aB => exact bl); (case aF => exact (fun _ _ => trivial)); (case aO => exact (by (with_reducible repeat (first | apply Kd.S_alloc | apply Kd.S_drewN | apply Kd.S_drew)); exact Kd.S_mono HO_3.out (fun k_ hk => ⟨trivial, fun e_ => hk.2 e_⟩))); (case aS => exact (below_size bl)); (case aL => have := LMc24.out; omega); intro v223 w32 ho hb hg hat; rw [← Ny222.out] at ho; have HO224 := Aside0.mk (ho); replace HO_9 := Aside0.mk (Kd.R_over' (by (with_reducible repeat (first | apply Kd.R_alloc | apply Kd.R_drewN | apply Kd.R_drew)); exact HO_9.out) (Kd.S_typed (by (with_reducible repeat (first | apply Kd.S_alloc | apply Kd.S_drewN | apply Kd.S_drew)); exact HO_3.out)) (by decide) hg); replace BK211 := Aside0.mk (blk_grown (g := gb211) (o := .cells #[.int .i64 ((rd_T33 t207 x11_1).f0), .int .i64 ((rd_T33 t207 x11_1).f1)] 33 (0, 0)) (bo gb211) hg (Kd.S_ne HO_3.out BK211.out (by decide))); replace HL213_0 := Aside0.mk (Kd.R_after (ok := (fun k_ => some k_ ≠ (.slice Ao33 y219.length co33 : Value).ownBlock)) (by (with_reducible repeat (first | apply Kd.R_alloc | apply Kd.R_drewN | apply Kd.R_drew)); exact Kd.R_mono HL213_0.out (fun _ hk => ⟨hk.2, hk.1.2⟩)) hg hat); replace HB := Aside0.mk (hb); clear HO_3 HO221; clear ho hb hg hat))
                        go_roundg k1
                        case measure => have := HK1.out; omega
                        case rel => exact ⟨(y222), (wrap64 (x11_1 + 1)), (by first | rfl | (simp; done) | (simp [*]; done)), H', ⟨by have := HK1.out; omega⟩, ⟨by (with_reducible repeat (first | apply Kd.S_alloc | apply Kd.S_drewN | apply Kd.S_drew)); exact HO224.out⟩, ⟨by (with_reducible repeat (first | apply Kd.R_alloc | apply Kd.R_drewN | apply Kd.R_drew)); exact Kd.R_mono HO_9.out (fun _ hk => trivial)⟩, ⟨bl⟩⟩
                      · rw [if_neg c24] at H
                        exact absurd H (by simp)
                  · rw [if_neg c13] at H
                    exact absurd H (by simp)
                · rw [if_neg c12] at H
                  exact absurd H (by simp)
              · rw [if_neg c11] at H
                exact absurd H (by simp)
            · rw [if_neg c9] at H
              have c9b0 : decide (0 < (x3_1.length : Int)) = false := decide_eq_false c9
              have c9b1 : decide (0 < x3_1.length) = false := decide_eq_false (by omega)
              clear c9
              obtain ⟨y225, hy225⟩ : ∃ y_ : List Int, y_ = (([x11_1, wrap64 (x11_1 + 1), t212] : List Int)) := ⟨_, rfl⟩
              replace H : (if x3_1.length < 5864062014805 then (spec_imLaps.l0 k1 (x3_1 ++ [y225]) t207 (t207.length : Int) (wrap64 (x11_1 + 1))) else (none)) = some r := by first | (rw [hy225]; with_reducible exact H) | (have H2_ := (Option.bind_some _ _).symm.trans H; rw [hy225]; with_reducible exact H2_) | (have H2_ := (Option.bind_some _ _).symm.trans H; with_reducible exact H2_) | with_reducible exact H | (rw [hy225]; exact H) | exact H
              have Ny225 := Aside0.mk hy225
              clear hy225
              by_cases c34 : x3_1.length < 5864062014805
              · rw [if_pos c34] at H
                have LMc34 := Aside0.mk c34
                clear c34
                obtain ⟨y228, hy228⟩ : ∃ y_ : List (List Int), y_ = (x3_1 ++ [y225]) := ⟨_, rfl⟩
                replace H : (spec_imLaps.l0 k1 y228 t207 (t207.length : Int) (wrap64 (x11_1 + 1))) = some r := by first | (rw [hy228]; with_reducible exact H) | (have H2_ := (Option.bind_some _ _).symm.trans H; rw [hy228]; with_reducible exact H2_) | (have H2_ := (Option.bind_some _ _).symm.trans H; with_reducible exact H2_) | with_reducible exact H | (rw [hy228]; exact H) | exact H
                have Ny228 := Aside0.mk hy228
                clear hy228
                have H' := Aside0.mk H
                clear H
                have p210 : 0 ≤ (x11_1 : Int) := of_decide_eq_true (by first | (with_reducible assumption) | assumption)
                have q210 : x11_1 < (t207.length : Int) := of_decide_eq_true (by first | (with_reducible assumption) | assumption)
                obtain ⟨ad210, e210, hx210_0, hx210_1⟩ := at_T33 (Kd.R_reads' HO_9.out).2.2 x11_1 p210 q210
                cases e210
                replace p210 := eq_true p210
                replace q210 := eq_true q210
                go_wp2_with (first | ((with_reducible refine gate_dst (N := 5) rfl ?_); refine box_event ?hg (N := 5) ?hd (cs := #[.int .i64 0, .int .i64 0]) (t := 33) ?hr ?_; (case hd => rfl); (case hg => rfl); (case hr => first | (go_simp; done) | (go_simp; rfl)); intro gb211 hg w35 hbox hb; have BK211 := Aside0.mk (hbox); have GW211 := Aside0.mk (bz hg); have GE211 := GW211; replace HO_3 := Aside0.mk (Kd.S_below (by (with_reducible repeat (first | apply Kd.S_alloc | apply Kd.S_drewN | apply Kd.S_drew)); exact HO_3.out) hb); replace HO_9 := Aside0.mk (Kd.R_below (Kd.R_elderB (by (with_reducible repeat (first | apply Kd.R_alloc | apply Kd.R_drewN | apply Kd.R_drew)); exact HO_9.out) gb211 (Nat.le_of_eq hg.symm)) hb); replace HB := Aside0.mk (bs hb); clear hb hbox hg; have hcz36_0 : w35.cell? ⟨gb211, 0, none⟩ = some (.int .i64 0) := (blk_cell BK211.out 0).trans rfl; have hcz36_1 : w35.cell? ⟨gb211, 1, none⟩ = some (.int .i64 0) := (blk_cell BK211.out 1).trans rfl; have hfz36_0 := blk_frozen BK211.out 0; have hfz36_1 := blk_frozen BK211.out 1) | ((with_reducible refine gate_callee (f := 166) rfl ?_); refine goesL_ (some 18) rfl rfl Try.func166 (by kernel_rfl) rfl #[.int .i64 ((rd_T33 t207 x11_1).f0)] rfl (by (try simp only [List.map_toArray, List.map_cons, List.map_nil]); first | done | rfl | (simp only [List.length_drop, List.length_take]; rfl)) ?_; (with_reducible refine (spec_l1Sign.calls ((rd_T33 t207 x11_1).f0) t212 _ A8.out).mono ?_); rintro e w' ⟨rfl, ⟨nd, rfl⟩⟩; refine ⟨_, rfl, ?_⟩; obtain ⟨Ao37, co37, eo37⟩ := Kd.S_slice HO_3.out; subst eo37) | ((with_reducible refine gate_dst (N := 47) rfl ?_); refine Kd.R_lit (Kd.int .i64) _ 3 ?hg (N := 47) ?hd (xs := ([x11_1, wrap64 (x11_1 + 1), t212] : List Int)) (inner := [.int .i64 x11_1, .int .i64 (wrap64 (x11_1 + 1)), .int .i64 t212]) (ok := fun _ => True) (okp := fun _ => True) ?hr ?hp (fun _ hk => hk) trivial (Below.refl _ _) (Nat.le_refl _) (by simp) ?_; (case hd => rfl); (case hg => rfl); (case hr => first | (go_simp; done) | (go_simp; rfl)); (case hp => exact (Reps.one (show Kd.M (Kd.int .i64) _ _ _ x11_1 [.int .i64 x11_1] from rfl) (Reps.one (show Kd.M (Kd.int .i64) _ _ _ (wrap64 (x11_1 + 1)) [.int .i64 (wrap64 (x11_1 + 1))] from rfl) (Reps.one (show Kd.M (Kd.int .i64) _ _ _ t212 [.int .i64 t212] from rfl) (Reps.none _ _))))); intro v226 w38 ho39 hb hg_ hnew_; clear hg_ hnew_; (first | rw [← Ny225.out] at ho39 | (simp only [Int.reduceToNat] at ho39; rw [← Ny225.out] at ho39)); have HO227 := Aside0.mk (Kd.R_lower ho39 (below_size bl)); replace HO_3 := Aside0.mk (Kd.S_elder' (by (with_reducible repeat (first | apply Kd.S_alloc | apply Kd.S_drewN | apply Kd.S_drew)); exact (Kd.S_mono (Kd.S_far (p := ⟨gb211, 1, none⟩) (Kd.S_far (p := ⟨gb211, 0, none⟩) (Kd.S_types HO_3.out BK211.out (by decide)) (fun _ hk => hk.2) (.int .i64 ((rd_T33 t207 x11_1).f0))) (fun _ hk => hk.2) (.int .i64 ((rd_T33 t207 x11_1).f1))) (fun _ h_ => h_.1))) (Kd.R_base ho39) hb); replace HO_9 := Aside0.mk (Kd.R_below (by (with_reducible repeat (first | apply Kd.R_alloc | apply Kd.R_drewN | apply Kd.R_drew)); exact (Kd.R_mono (Kd.R_far (p := ⟨gb211, 1, none⟩) (Kd.R_far (p := ⟨gb211, 0, none⟩) (Kd.R_mono HO_9.out (fun k_ hk => (⟨hk, hk.2⟩ : _ ∧ k_ ≠ gb211))) (fun _ hk => hk.2) (.int .i64 ((rd_T33 t207 x11_1).f0))) (fun _ hk => hk.2) (.int .i64 ((rd_T33 t207 x11_1).f1))) (fun _ h_ => h_.1))) hb); replace BK211 := Aside0.mk (blk_below (g := gb211) (o := .cells #[.int .i64 ((rd_T33 t207 x11_1).f0), .int .i64 ((rd_T33 t207 x11_1).f1)] 33 (0, 0)) (by (with_reducible repeat (first | refine blk_drewN ?_ _ | refine blk_drew ?_ | refine blk_alloc ?_ _)); refine blk_put (cs := #[.int .i64 ((rd_T33 t207 x11_1).f0), .int .i64 0]) ?_ 1 _ rfl; (with_reducible repeat (first | refine blk_drewN ?_ _ | refine blk_drew ?_ | refine blk_alloc ?_ _)); refine blk_put (cs := #[.int .i64 0, .int .i64 0]) ?_ 0 _ rfl; (with_reducible repeat (first | refine blk_drewN ?_ _ | refine blk_drew ?_ | refine blk_alloc ?_ _)); exact BK211.out) hb); replace HB := Aside0.mk (bs hb); clear hb ho39; obtain ⟨Ao41, co41, eo41⟩ := Kd.R_slice HO227.out; subst eo41) | ((with_reducible refine gate_builtin (b := .append) (xs := #[.tmp 42, .tmp 48]) rfl ?_); at_builtin; refine Kd.S_append (Kd.slice 3 (Kd.int .i64)) (w0 := w) w.heap.size rfl (.tmp 42) (.tmp 48) 136 22 (.slice none 0 0) 24 rfl Try.underlying136 info22 rfl (by decide) (by omega) (.slice Ao37 x3_1.length co37) x3_1 y225 [.slice Ao41 y225.length co41] (fun _ => True) (fun k_ => some k_ = (.slice Ao41 y225.length co41 : Value).ownBlock) rfl rfl ?aP (fun k_ hk_ => ((Kd.R_mono (ok' := fun k_ => ((fun _ => True)) k_ ∧ some k_ ≠ (.slice Ao37 x3_1.length co37 : Value).ownBlock) (Kd.R_apart' (HO227.out) (Kd.S_typed HO_3.out) (by decide)) (fun k_ hk => ⟨trivial, hk.2⟩))).1 k_ hk_.symm) ?aF ?aO ?aB ?aS ?aL ?_; (case aP => exact Kd.M_row (Kd.R_mono (Kd.R_tight rfl (Kd.R_mono (ok' := fun k_ => ((fun _ => True)) k_ ∧ some k_ ≠ (.slice Ao37 x3_1.length co37 : Value).ownBlock) (Kd.R_apart' (HO227.out) (Kd.S_typed HO_3.out) (by decide)) (fun k_ hk => ⟨trivial, hk.2⟩))) (fun _ h_ => h_))); (case aB => exact bl); (case aF => exact (fun _ _ => trivial)); (case aO => exact (by (with_reducible repeat (first | apply Kd.S_alloc | apply Kd.S_drewN | apply Kd.S_drew)); exact Kd.S_mono HO_3.out (fun k_ hk => ⟨trivial, fun e_ => hk.2 e_⟩))); (case aS => exact (below_size bl)); (case aL => have := LMc34.out; omega); intro v229 w40 ho hb hg hat; rw [← Ny228.out] at ho; have HO230 := Aside0.mk (ho); replace HO_9 := Aside0.mk (Kd.R_over' (by (with_reducible repeat (first | apply Kd.R_alloc | apply Kd.R_drewN | apply Kd.R_drew)); exact HO_9.out) (Kd.S_typed (by (with_reducible repeat (first | apply Kd.S_alloc | apply Kd.S_drewN | apply Kd.S_drew)); exact HO_3.out)) (by decide) hg); replace BK211 := Aside0.mk (blk_grown (g := gb211) (o := .cells #[.int .i64 ((rd_T33 t207 x11_1).f0), .int .i64 ((rd_T33 t207 x11_1).f1)] 33 (0, 0)) (bo gb211) hg (Kd.S_ne HO_3.out BK211.out (by decide))); replace HB := Aside0.mk (hb); clear HO_3 HO227; clear ho hb hg hat))
                go_roundg k1
                case measure => have := HK1.out; omega
                case rel => exact ⟨(y228), (wrap64 (x11_1 + 1)), (by first | rfl | (simp; done) | (simp [*]; done)), H', ⟨by have := HK1.out; omega⟩, ⟨by (with_reducible repeat (first | apply Kd.S_alloc | apply Kd.S_drewN | apply Kd.S_drew)); exact HO230.out⟩, ⟨by (with_reducible repeat (first | apply Kd.R_alloc | apply Kd.R_drewN | apply Kd.R_drew)); exact Kd.R_mono HO_9.out (fun _ hk => trivial)⟩, ⟨bl⟩⟩
              · rw [if_neg c34] at H
                exact absurd H (by simp)
          · rw [if_neg c7] at H
            exact absurd H (by simp)
        · rw [if_neg c6] at H
          exact absurd H (by simp)
      · rw [if_neg c5] at H
        have c5b0 : decide (x11_1 < (t207.length : Int)) = false := decide_eq_false c5
        clear c5
        obtain rfl := Option.some.inj H
        go_wp2
        go_ret
        exact ⟨_, by first | rfl | (simp [errW_none, errW_some] <;> rfl) | (simp [*, errW_none, errW_some] <;> rfl), by (with_reducible repeat (first | apply Kd.S_alloc | apply Kd.S_drewN | apply Kd.S_drew)); exact HO_3.out, bl⟩

end Go.Proofs.Ytmpccnagidednaa.PFnExactAddressOf
