-- Written by this session's program wip/pp (the kit's print tool with additions) 35421559b90ae4d0a3588c463048766b98c2df88dd9212a6774a882060cdf62d
import Derived.Test.YtmecnnnagallnaaPFnExactLeastSlopex0
import Derived.Test.YtmecnnnagallnaaPFnExactLeastSlopex7
namespace Go.Proofs.Ytmecnnnagallnaa.PFnExactLeastSlope
open Go.RowKit Go.Proofs.YtmecnnnagallnaaW.PrintWords Go.Proofs.YtmecnnnagallnaaW.PrintLast Go.Proofs.YtmecnnnagallnaaW.PrintMore
attribute [local go_sem] max2_int min2_int max_two min_two max_three min_three max_four min_four   -- for this text's walks alone
set_option linter.unusedVariables false
set_option linter.unusedSimpArgs false

/-! ### impl_isRising: function 92 -/
def impl_isRising.l0 : Nat → List (S28) → Int → Option (Bool)
 | 0, _, _ => none
 | k + 1, x0, x3 => if x3 < (x0.length : Int) then (if 0 ≤ (wrap64 (x3 - 1)) then (if (wrap64 (x3 - 1)) < (x0.length : Int) then (if 0 ≤ x3 then ((impl_less.f ((rd_T28 x0 (wrap64 (x3 - 1))).f0) ((rd_T28 x0 (wrap64 (x3 - 1))).f1) ((rd_T28 x0 x3).f0) ((rd_T28 x0 x3).f1)).bind fun t241 => (if t241 = true then (impl_isRising.l0 k x0 (wrap64 (x3 + 1))) else (some false))) else (none)) else (none)) else (none)) else (some true)
def impl_isRising.f (k : Nat) (l0 : List (S28)) : Option (Bool) := impl_isRising.l0 k l0 1
def impl_isRising.T4 : Bool × List (List Nat × List Nat) := (true, [([], []), ([], []), ([1], [1]), ([0, 2], [0, 2]), ([3], [3]), ([], []), ([], []), ([5, 6], [5, 6]), ([7], [7]), ([4, 8], [4, 8]), ([9], [9])])
def impl_isRising.B4 : List Nat := [0, 0, 2, 7, 15, 0, 0, 96, 224, 511, 1023]
theorem impl_isRising.tab4 : rtab .any (opsOf Try.f92 4) = impl_isRising.T4 := by kernel_rfl
theorem impl_isRising.bits4 : waitsOk impl_isRising.T4.2 impl_isRising.B4 = true := by kernel_rfl
set_option maxHeartbeats 8000000 in
set_option maxRecDepth 100000 in
theorem impl_isRising.calls (k : Nat) (A0 : Option Addr) (c0 : Nat) (l0 : List (S28)) (r : Bool) (w : World) (hr0 : Kd.C k28 w A0 l0.length l0) (hc0 : l0.length ≤ c0) (h : impl_isRising.f k l0 = some r) :
  Calls Try.prog 92 #[.slice A0 l0.length c0] w fun e w' => e = .returned (.bool r) ∧ Below w.heap.size w w' := by
 have hu28 := Try.underlying28
 have HR0 := Aside0.mk hr0
 have HC0 := Aside0.mk hc0
 clear hr0 hc0
 have HB := Aside0.mk (Below.refl w.heap.size w)
 have H : (impl_isRising.l0 k l0 1) = some r := h
 clear h
 have H' := Aside0.mk H
 clear H
 go_enter Try.func92, Try.ntmps92
 go_wp2
 go_loopg [3] k (fun kq v3 w' => ∃ (x3_1 : Int), v3 = .int .i64 x3_1 ∧ Aside0 (impl_isRising.l0 kq l0 x3_1 = some r) ∧ Aside0 (kq ≤ k) ∧ Aside0 (Below w.heap.size w w'))
 case atStart => exact ⟨(1), (by first | rfl | (simp; done) | (simp [*]; done)), H', ⟨Nat.le_refl _⟩, ⟨bl⟩⟩
 case round =>
  clear H'
  obtain ⟨x3_1, rfl, HA, HK1, HB⟩ := hrel
  cases gk with
  | zero => exact absurd HA.out (by simp [impl_isRising.l0])
  | succ k1 =>
   have H := HA.out
   clear HA
   simp only [impl_isRising.l0] at H
   by_cases c2 : x3_1 < (l0.length : Int)
   ·rw [if_pos c2] at H
    have c2b0 : decide (x3_1 < (l0.length : Int)) = true := decide_eq_true c2
    clear c2
    obtain ⟨ji3, hji3⟩ : ∃ j_ : Int, (wrap64 (x3_1 - 1)) = j_ := ⟨_, rfl⟩
    replace H : (if 0 ≤ (ji3) then (if (ji3) < (l0.length : Int) then (if 0 ≤ x3_1 then ((impl_less.f ((rd_T28 l0 (ji3)).f0) ((rd_T28 l0 (ji3)).f1) ((rd_T28 l0 x3_1).f0) ((rd_T28 l0 x3_1).f1)).bind fun t241 => (if t241 = true then (impl_isRising.l0 k1 l0 (wrap64 (x3_1 + 1))) else (some false))) else (none)) else (none)) else (none)) = some r := by first | (rw [hji3] at H; exact H) | (simp only [hji3] at H ⊢; exact H)
    have hji3w : (IntKind.i64.wrap (x3_1 - 1)) = ji3 := (i64_w _).trans hji3
    by_cases c4 : 0 ≤ (ji3)
    ·rw [if_pos c4] at H
     have c4b0 : decide (0 ≤ (ji3)) = true := decide_eq_true c4
     clear c4
     by_cases c5 : (ji3) < (l0.length : Int)
     ·rw [if_pos c5] at H
      have c5b0 : decide ((ji3) < (l0.length : Int)) = true := decide_eq_true c5
      clear c5
      by_cases c6 : 0 ≤ x3_1
      ·rw [if_pos c6] at H
       have c6b0 : decide (0 ≤ x3_1) = true := decide_eq_true c6
       clear c6
       replace H := Option.bind_eq_some_iff.mp H
       obtain ⟨t241, A70, H⟩ := H
       replace H : (if t241 = true then (impl_isRising.l0 k1 l0 (wrap64 (x3_1 + 1))) else (some false)) = some r := H
       have A7 := Aside0.mk A70
       clear A70
       by_cases c8 : t241 = true
       ·subst c8
        have H1 : (impl_isRising.l0 k1 l0 (wrap64 (x3_1 + 1))) = some r := by rw [if_pos rfl] at H; exact H
        clear H
        have H := H1
        clear H1
        have H' := Aside0.mk H
        clear H
        try go_wp2
        replace HB := Aside0.mk (below_drew1 HB.out)
        have p239 : 0 ≤ ((ji3) : Int) := da
        have q239 : (ji3) < (l0.length : Int) := da
        obtain ⟨ad239, e239, hx239_0, hx239_1⟩ := at_T28 HR0.out (ji3) p239 q239
        have hw239_1 := hx239_1
        have hw239_0 := hx239_0
        cases e239
        replace hx239_0 := (hc HB hx239_0 :)
        replace hx239_1 := (hc HB hx239_1 :)
        replace p239 := eq_true p239
        replace q239 := eq_true q239
        have p240 : 0 ≤ (x3_1 : Int) := da
        have q240 : x3_1 < (l0.length : Int) := da
        obtain ⟨ad240, e240, hx240_0, hx240_1⟩ := at_T28 HR0.out x3_1 p240 q240
        have hw240_1 := hx240_1
        have hw240_0 := hx240_0
        obtain rfl : ad239 = ad240 := (by injection e240)
        replace hx240_0 := (hc HB hx240_0 :)
        replace hx240_1 := (hc HB hx240_1 :)
        replace p240 := eq_true p240
        replace q240 := eq_true q240
        refine start_ (n := 11) (S := fun w' => w'.cell? (ad239.add (((ji3)).toNat * 2)) = some (.int .i64 ((rd_T28 l0 (ji3)).f0)) ∧ w'.cell? ⟨(ad239.add (((ji3)).toNat * 2)).block, (ad239.add (((ji3)).toNat * 2)).off + 1, none⟩ = some (.int .i64 ((rd_T28 l0 (ji3)).f1)) ∧ w'.cell? (ad239.add ((x3_1).toNat * 2)) = some (.int .i64 ((rd_T28 l0 x3_1).f0)) ∧ w'.cell? ⟨(ad239.add ((x3_1).toNat * 2)).block, (ad239.add ((x3_1).toNat * 2)).off + 1, none⟩ = some (.int .i64 ((rd_T28 l0 x3_1).f1))) (ds := []) (tb 0 11) (by kernel_rfl) rfl rfl ⟨(hc HB hw239_0 :), (hc HB hw239_1 :), (hc HB hw240_0 :), (hc HB hw240_1 :)⟩ (fun hHeld => ?_); refine with_tabW impl_isRising.tab4 impl_isRising.bits4 (fun HT_ HW_ => ?_)
        generalize wr.drew = w9 at HB hx239_0 hx239_1 hx240_0 hx240_1 hHeld ⊢
        refine pu 0 10 (tb 1 10) ?_
        refine pu 1 11 (tb 2 9) ?_
        refine pu 2 12 (tb 3 8) ?_
        refine pu 3 13 (tb 4 7) ?_
        refine pu 5 15 #[true, true, true, true, false, true, false, false, false, false, false] ?_
        refine pu 6 16 #[true, true, true, true, false, true, true, false, false, false, false] ?_
        refine pu 7 17 #[true, true, true, true, false, true, true, true, false, false, false] ?_
        refine tk 4 14 (tb 8 3) (hy := by rintro w' ⟨s0, s1, s2, s3⟩; go_simp; with_reducible rfl) (h := ?_)
        refine tk 8 18 (tb 9 2) (hy := by rintro w' ⟨s0, s1, s2, s3⟩; go_simp; with_reducible rfl) (h := ?_)
        refine on 9 19 (tb 10 1) (fun K hK => ?_)
        refine goes_ Try.func95 (by kernel_rfl) rfl #[.agg #[.int .i64 ((rd_T28 l0 (ji3)).f0), .int .i64 ((rd_T28 l0 (ji3)).f1)], .agg #[.int .i64 ((rd_T28 l0 x3_1).f0), .int .i64 ((rd_T28 l0 x3_1).f1)]] (by rfl) rfl rfl (by (try simp only [List.map_toArray, List.map_cons, List.map_nil]); first | done | (simp only [hji3]; rfl) | rfl | (simp only [List.length_drop, List.length_take]; rfl)) ?_
        with_reducible refine (impl_less.calls ((rd_T28 l0 (ji3)).f0) ((rd_T28 l0 (ji3)).f1) ((rd_T28 l0 x3_1).f0) ((rd_T28 l0 x3_1).f1) true _ A7.out).mono ?_
        rintro e w10 ⟨rfl, hb⟩
        refine ⟨_, rfl, ?_⟩
        replace HB := Aside0.mk (bs hb)
        (try clear hb)
        (try clear hb2)
        (try clear hk)
        (try clear hi)
        refine hK.out _ _ ⟨(hc HB hw239_0 :), (hc HB hw239_1 :), (hc HB hw240_0 :), (hc HB hw240_1 :)⟩ (fun hHeld => ?_)
        clear hK K
        refine nm 19 ?_
        refine pu 10 20 (tb 11 0) ?_
        refine done_ (done_of HT_.out (by kernel_rfl)) ?_
        try go_wp2
        go_roundg k1
        case measure => have := HK1.out; omega
        case rel => exact ⟨(wrap64 (x3_1 + 1)), (by first | rfl | (simp; done) | (simp [*]; done)), H', ⟨by have := HK1.out; omega⟩, ⟨bl⟩⟩
       ·replace c8 := Bool.eq_false_iff.mpr c8
        subst c8
        have H1 : (some false) = some r := by rw [if_neg (show ¬ (false = true) by decide)] at H; exact H
        clear H
        have H := H1
        clear H1
        obtain rfl := Option.some.inj H
        try go_wp2
        replace HB := Aside0.mk (below_drew1 HB.out)
        have p239 : 0 ≤ ((ji3) : Int) := da
        have q239 : (ji3) < (l0.length : Int) := da
        obtain ⟨ad239, e239, hx239_0, hx239_1⟩ := at_T28 HR0.out (ji3) p239 q239
        have hw239_1 := hx239_1
        have hw239_0 := hx239_0
        cases e239
        replace hx239_0 := (hc HB hx239_0 :)
        replace hx239_1 := (hc HB hx239_1 :)
        replace p239 := eq_true p239
        replace q239 := eq_true q239
        have p240 : 0 ≤ (x3_1 : Int) := da
        have q240 : x3_1 < (l0.length : Int) := da
        obtain ⟨ad240, e240, hx240_0, hx240_1⟩ := at_T28 HR0.out x3_1 p240 q240
        have hw240_1 := hx240_1
        have hw240_0 := hx240_0
        obtain rfl : ad239 = ad240 := (by injection e240)
        replace hx240_0 := (hc HB hx240_0 :)
        replace hx240_1 := (hc HB hx240_1 :)
        replace p240 := eq_true p240
        replace q240 := eq_true q240
        refine start_ (n := 11) (S := fun w' => w'.cell? (ad239.add (((ji3)).toNat * 2)) = some (.int .i64 ((rd_T28 l0 (ji3)).f0)) ∧ w'.cell? ⟨(ad239.add (((ji3)).toNat * 2)).block, (ad239.add (((ji3)).toNat * 2)).off + 1, none⟩ = some (.int .i64 ((rd_T28 l0 (ji3)).f1)) ∧ w'.cell? (ad239.add ((x3_1).toNat * 2)) = some (.int .i64 ((rd_T28 l0 x3_1).f0)) ∧ w'.cell? ⟨(ad239.add ((x3_1).toNat * 2)).block, (ad239.add ((x3_1).toNat * 2)).off + 1, none⟩ = some (.int .i64 ((rd_T28 l0 x3_1).f1))) (ds := []) (tb 0 11) (by kernel_rfl) rfl rfl ⟨(hc HB hw239_0 :), (hc HB hw239_1 :), (hc HB hw240_0 :), (hc HB hw240_1 :)⟩ (fun hHeld => ?_); refine with_tabW impl_isRising.tab4 impl_isRising.bits4 (fun HT_ HW_ => ?_)
        generalize wr.drew = w11 at HB hx239_0 hx239_1 hx240_0 hx240_1 hHeld ⊢
        refine pu 0 10 (tb 1 10) ?_
        refine pu 1 11 (tb 2 9) ?_
        refine pu 2 12 (tb 3 8) ?_
        refine pu 3 13 (tb 4 7) ?_
        refine pu 5 15 #[true, true, true, true, false, true, false, false, false, false, false] ?_
        refine pu 6 16 #[true, true, true, true, false, true, true, false, false, false, false] ?_
        refine pu 7 17 #[true, true, true, true, false, true, true, true, false, false, false] ?_
        refine tk 4 14 (tb 8 3) (hy := by rintro w' ⟨s0, s1, s2, s3⟩; go_simp; with_reducible rfl) (h := ?_)
        refine tk 8 18 (tb 9 2) (hy := by rintro w' ⟨s0, s1, s2, s3⟩; go_simp; with_reducible rfl) (h := ?_)
        refine on 9 19 (tb 10 1) (fun K hK => ?_)
        refine goes_ Try.func95 (by kernel_rfl) rfl #[.agg #[.int .i64 ((rd_T28 l0 (ji3)).f0), .int .i64 ((rd_T28 l0 (ji3)).f1)], .agg #[.int .i64 ((rd_T28 l0 x3_1).f0), .int .i64 ((rd_T28 l0 x3_1).f1)]] (by rfl) rfl rfl (by (try simp only [List.map_toArray, List.map_cons, List.map_nil]); first | done | (simp only [hji3]; rfl) | rfl | (simp only [List.length_drop, List.length_take]; rfl)) ?_
        with_reducible refine (impl_less.calls ((rd_T28 l0 (ji3)).f0) ((rd_T28 l0 (ji3)).f1) ((rd_T28 l0 x3_1).f0) ((rd_T28 l0 x3_1).f1) false _ A7.out).mono ?_
        rintro e w12 ⟨rfl, hb⟩
        refine ⟨_, rfl, ?_⟩
        replace HB := Aside0.mk (bs hb)
        (try clear hb)
        (try clear hb2)
        (try clear hk)
        (try clear hi)
        refine hK.out _ _ ⟨(hc HB hw239_0 :), (hc HB hw239_1 :), (hc HB hw240_0 :), (hc HB hw240_1 :)⟩ (fun hHeld => ?_)
        clear hK K
        refine nm 19 ?_
        refine pu 10 20 (tb 11 0) ?_
        refine done_ (done_of HT_.out (by kernel_rfl)) ?_
        try go_wp2
        go_ret
        exact ⟨by first | rfl | (simp [errW_none, errW_some] <;> rfl) | (simp only [← hji3]; first | rfl | (simp [errW_none, errW_some] <;> rfl)) | (simp [*, errW_none, errW_some] <;> rfl), bl⟩
      ·rw [if_neg c6] at H
       exact absurd H (by simp)
     ·rw [if_neg c5] at H
      exact absurd H (by simp)
    ·rw [if_neg c4] at H
     exact absurd H (by simp)
   ·rw [if_neg c2] at H
    have c2b0 : decide (x3_1 < (l0.length : Int)) = false := decide_eq_false c2
    clear c2
    obtain rfl := Option.some.inj H
    go_wp2
    go_ret
    exact ⟨by first | rfl | (simp [errW_none, errW_some] <;> rfl) | (simp [*, errW_none, errW_some] <;> rfl), bl⟩

/-! ### impl_xsOf: function 93 -/
def impl_xsOf.l0 : Nat → List (S28) → List (S68) → Int → Int → Option ((List (S28)))
 | 0, _, _, _, _ => none
 | k + 1, x3, x6, x7, x8 => if x8 < x7 then (if 0 ≤ x8 then (if x8 < (x6.length : Int) then (if x3.length < 8796093022208 then (impl_xsOf.l0 k (x3 ++ [(⟨(rd_T68 x6 x8).f0.f0, (rd_T68 x6 x8).f0.f1⟩ : S28)]) x6 x7 (wrap64 (x8 + 1))) else (none)) else (none)) else (none)) else (some x3)
def impl_xsOf.f (k : Nat) (l0 : List (S68)) : Option ((List (S28))) := impl_xsOf.l0 k ([] : List (S28)) l0 (l0.length : Int) 0
set_option maxHeartbeats 8000000 in
set_option maxRecDepth 100000 in
theorem impl_xsOf.calls (k : Nat) (A0 : Option Addr) (c0 : Nat) (l0 : List (S68)) (r : List (S28)) (w : World) (hr0 : Kd.C k68 w A0 l0.length l0) (hc0 : l0.length ≤ c0) (h : impl_xsOf.f k l0 = some r) :
  Calls Try.prog 93 #[.slice A0 l0.length c0] w fun e w' => ∃ v0_ : Value, e = .returned (v0_) ∧ Kd.R k28 28 w' w.heap.size (fun _ => True) v0_ r ∧ Below w.heap.size w w' := by
 have hu68 := Try.underlying68
 have hu28 := Try.underlying28
 have HR0 := Aside0.mk hr0
 have HC0 := Aside0.mk hc0
 clear hr0 hc0
 have HB := Aside0.mk (Below.refl w.heap.size w)
 have H : (impl_xsOf.l0 k ([] : List (S28)) l0 (l0.length : Int) 0) = some r := h
 clear h
 have H' := Aside0.mk H
 clear H
 go_enter Try.func93, Try.ntmps93
 go_wp2
 go_loopg [3, 8] k (fun kq v3 v8 w' => ∃ (x3_1 : List (S28)) (x8_1 : Int), v8 = .int .i64 x8_1 ∧ Aside0 (impl_xsOf.l0 kq x3_1 l0 (l0.length : Int) x8_1 = some r) ∧ Aside0 (kq ≤ k) ∧ Aside0 (Kd.R k28 28 w' w.heap.size (fun _ => True) v3 x3_1) ∧ Aside0 (Below w.heap.size w w'))
 case atStart => exact ⟨(([] : List (S28))), (0), (by first | rfl | (simp; done) | (simp [*]; done)), H', ⟨Nat.le_refl _⟩, ⟨by first | exact Kd.R_nil _ _ _ _ _ | exact Kd.N_nil _ _ _ _ _ | exact Kd.V_nil _ _ _ _ _ | exact Kd.Q_nil _ _ _ _ _ | exact Kd.S_nil _ _ _ _ _⟩, ⟨bl⟩⟩
 case round =>
  clear H'
  obtain ⟨x3_1, x8_1, rfl, HA, HK1, HO_3, HB⟩ := hrel
  cases gk with
  | zero => exact absurd HA.out (by simp [impl_xsOf.l0])
  | succ k1 =>
   have H := HA.out
   clear HA
   simp only [impl_xsOf.l0] at H
   by_cases c2 : x8_1 < (l0.length : Int)
   ·rw [if_pos c2] at H
    have c2b0 : decide (x8_1 < (l0.length : Int)) = true := decide_eq_true c2
    clear c2
    by_cases c3 : 0 ≤ x8_1
    ·rw [if_pos c3] at H
     have c3b0 : decide (0 ≤ x8_1) = true := decide_eq_true c3
     clear c3
     by_cases c4 : x8_1 < (l0.length : Int)
     ·rw [if_pos c4] at H
      have c4b0 : decide (x8_1 < (l0.length : Int)) = true := decide_eq_true c4
      clear c4
      by_cases c5 : x3_1.length < 8796093022208
      ·rw [if_pos c5] at H
       have LMc5 := Aside0.mk c5
       clear c5
       obtain ⟨y244, hy244⟩ : ∃ y_ : List (S28), y_ = (x3_1 ++ [(⟨(rd_T68 l0 x8_1).f0.f0, (rd_T68 l0 x8_1).f0.f1⟩ : S28)]) := ⟨_, rfl⟩
       replace H : (impl_xsOf.l0 k1 y244 l0 (l0.length : Int) (wrap64 (x8_1 + 1))) = some r := by first | (rw [hy244]; with_reducible exact H) | (have H2_ := (Option.bind_some _ _).symm.trans H; rw [hy244]; with_reducible exact H2_) | (have H2_ := (Option.bind_some _ _).symm.trans H; with_reducible exact H2_) | with_reducible exact H | (rw [hy244]; exact H) | exact H
       have Ny244 := Aside0.mk hy244
       clear hy244
       have H' := Aside0.mk H
       clear H
       have p242 : 0 ≤ (x8_1 : Int) := da
       have q242 : x8_1 < (l0.length : Int) := da
       obtain ⟨ad242, e242, hx242_0, hx242_1, hx242_2, hx242_3⟩ := at_T68 HR0.out x8_1 p242 q242
       cases e242
       replace hx242_0 := (hc HB hx242_0 :)
       replace hx242_1 := (hc HB hx242_1 :)
       replace hx242_2 := (hc HB hx242_2 :)
       replace hx242_3 := (hc HB hx242_3 :)
       replace p242 := eq_true p242
       replace q242 := eq_true q242
       go_wp2_with (first | ((with_reducible refine gate_dst (N := 5) rfl ?_); refine bx 5 #[.int .i64 0, .int .i64 0, .int .i64 0, .int .i64 0] 68 ?_; intro gb243 hg w6 hbox hb; have BK243 := Aside0.mk (hbox); have GW243 := Aside0.mk (bz hg); have GE243 := GW243; replace HO_3 := Aside0.mk (Kd.R_below (by (with_reducible repeat (first | apply Kd.R_alloc | apply Kd.R_drewN | apply Kd.R_drew)); exact HO_3.out) hb); replace HB := Aside0.mk (bs hb); clear hb hbox hg; have hcz7_0 : w6.cell? ⟨gb243, 0, none⟩ = some (.int .i64 0) := (blk_cell BK243.out 0).trans rfl; have hcz7_1 : w6.cell? ⟨gb243, 1, none⟩ = some (.int .i64 0) := (blk_cell BK243.out 1).trans rfl; have hcz7_2 : w6.cell? ⟨gb243, 2, none⟩ = some (.int .i64 0) := (blk_cell BK243.out 2).trans rfl; have hcz7_3 : w6.cell? ⟨gb243, 3, none⟩ = some (.int .i64 0) := (blk_cell BK243.out 3).trans rfl; have hfz7_0 := blk_frozen BK243.out 0; have hfz7_1 := blk_frozen BK243.out 1; have hfz7_2 := blk_frozen BK243.out 2; have hfz7_3 := blk_frozen BK243.out 3) | ((with_reducible refine gate_builtin (b := .append) (xs := #[.tmp 12, .tmp 15]) rfl ?_); at_builtin; refine Kd.R_append k28 (w0 := w) w.heap.size rfl (.tmp 12) (.tmp 15) 64 28 (.agg #[(.int .i64 0), (.int .i64 0)]) 16 rfl Try.underlying64 info28 rfl (by decide) (by omega) u3 x3_1 (⟨(rd_T68 l0 x8_1).f0.f0, (rd_T68 l0 x8_1).f0.f1⟩ : S28) [.int .i64 ((rd_T68 l0 x8_1).f0.f0), .int .i64 ((rd_T68 l0 x8_1).f0.f1)] (fun _ => True) (fun _ => False) rfl (by first | (go_simp; done) | (go_simp; rfl)) ?aP (fun _ hk => hk.elim) ?aF ?aO ?aB ?aS ?aL ?_; (case aP => exact k28_mkM _ _ _ (⟨(rd_T68 l0 x8_1).f0.f0, (rd_T68 l0 x8_1).f0.f1⟩ : S28)); (case aB => exact bl); (case aF => exact (fun _ _ => trivial)); (case aO => exact (by (with_reducible repeat (first | apply Kd.R_alloc | apply Kd.R_drewN | apply Kd.R_drew)); exact Kd.R_mono (Kd.R_far (p := ⟨gb243, 3, none⟩) (Kd.R_far (p := ⟨gb243, 2, none⟩) (Kd.R_far (p := ⟨gb243, 1, none⟩) (Kd.R_far (p := ⟨gb243, 0, none⟩) (Kd.R_types HO_3.out BK243.out (by decide)) (fun _ hk => hk.2) (.int .i64 ((rd_T68 l0 x8_1).f0.f0))) (fun _ hk => hk.2) (.int .i64 ((rd_T68 l0 x8_1).f0.f1))) (fun _ hk => hk.2) (.int .i64 ((rd_T68 l0 x8_1).f1.f0))) (fun _ hk => hk.2) (.int .i64 ((rd_T68 l0 x8_1).f1.f1))) (fun _ hk => trivial))); (case aS => exact (below_size bl)); (case aL => have := LMc5.out; omega); intro v245 w8 ho hb hg hat; rw [← Ny244.out] at ho; have HO246 := Aside0.mk (ho); replace BK243 := Aside0.mk (blk_grown (g := gb243) (o := .cells #[.int .i64 ((rd_T68 l0 x8_1).f0.f0), .int .i64 ((rd_T68 l0 x8_1).f0.f1), .int .i64 ((rd_T68 l0 x8_1).f1.f0), .int .i64 ((rd_T68 l0 x8_1).f1.f1)] 68 (0, 0)) (by (with_reducible repeat (first | refine blk_drewN ?_ _ | refine blk_drew ?_ | refine blk_alloc ?_ _)); refine blk_put (cs := #[.int .i64 ((rd_T68 l0 x8_1).f0.f0), .int .i64 ((rd_T68 l0 x8_1).f0.f1), .int .i64 ((rd_T68 l0 x8_1).f1.f0), .int .i64 0]) ?_ 3 _ rfl; (with_reducible repeat (first | refine blk_drewN ?_ _ | refine blk_drew ?_ | refine blk_alloc ?_ _)); refine blk_put (cs := #[.int .i64 ((rd_T68 l0 x8_1).f0.f0), .int .i64 ((rd_T68 l0 x8_1).f0.f1), .int .i64 0, .int .i64 0]) ?_ 2 _ rfl; (with_reducible repeat (first | refine blk_drewN ?_ _ | refine blk_drew ?_ | refine blk_alloc ?_ _)); refine blk_put (cs := #[.int .i64 ((rd_T68 l0 x8_1).f0.f0), .int .i64 0, .int .i64 0, .int .i64 0]) ?_ 1 _ rfl; (with_reducible repeat (first | refine blk_drewN ?_ _ | refine blk_drew ?_ | refine blk_alloc ?_ _)); refine blk_put (cs := #[.int .i64 0, .int .i64 0, .int .i64 0, .int .i64 0]) ?_ 0 _ rfl; (with_reducible repeat (first | refine blk_drewN ?_ _ | refine blk_drew ?_ | refine blk_alloc ?_ _)); exact BK243.out) hg (Kd.R_ne HO_3.out BK243.out (by decide))); replace HB := Aside0.mk (hb); clear HO_3; clear ho hb hg hat))
       go_roundg k1
       case measure => have := HK1.out; omega
       case rel => exact ⟨(y244), (wrap64 (x8_1 + 1)), (by first | rfl | (simp; done) | (simp [*]; done)), H', ⟨by have := HK1.out; omega⟩, ⟨by (with_reducible repeat (first | apply Kd.R_alloc | apply Kd.R_drewN | apply Kd.R_drew)); exact HO246.out⟩, ⟨bl⟩⟩
      ·rw [if_neg c5] at H
       exact absurd H (by simp)
     ·rw [if_neg c4] at H
      exact absurd H (by simp)
    ·rw [if_neg c3] at H
     exact absurd H (by simp)
   ·rw [if_neg c2] at H
    have c2b0 : decide (x8_1 < (l0.length : Int)) = false := decide_eq_false c2
    clear c2
    obtain rfl := Option.some.inj H
    go_wp2
    go_ret
    exact ⟨_, by first | rfl | (simp [errW_none, errW_some] <;> rfl) | (simp [*, errW_none, errW_some] <;> rfl), by (with_reducible repeat (first | apply Kd.R_alloc | apply Kd.R_drewN | apply Kd.R_drew)); exact HO_3.out, bl⟩

/-! ### slices_IndexFunc__impl_isMap_1: function 118 -/
def slices_IndexFunc__impl_isMap_1.l0 : Nat → List (S68) → Int → Int → Option (Int)
 | 0, _, _, _ => none
 | k + 1, x0, x7, x8 => if x8 < x7 then (if 0 ≤ x8 then (if x8 < (x0.length : Int) then ((impl_isMap_1.f k ((rd_T68 x0 x8).f0.f0) ((rd_T68 x0 x8).f0.f1) ((rd_T68 x0 x8).f1.f0) ((rd_T68 x0 x8).f1.f1)).bind fun t248 => (if t248 = true then (some x8) else (slices_IndexFunc__impl_isMap_1.l0 k x0 x7 (wrap64 (x8 + 1))))) else (none)) else (none)) else (some (-1))
def slices_IndexFunc__impl_isMap_1.f (k : Nat) (l0 : List (S68))  : Option (Int) := slices_IndexFunc__impl_isMap_1.l0 k l0 (l0.length : Int) 0
set_option maxHeartbeats 8000000 in
set_option maxRecDepth 100000 in
theorem slices_IndexFunc__impl_isMap_1.calls (k : Nat) (A0 : Option Addr) (c0 : Nat) (l0 : List (S68))  (r : Int) (w : World) (hr0 : Kd.C k68 w A0 l0.length l0) (hc0 : l0.length ≤ c0) (h : slices_IndexFunc__impl_isMap_1.f k l0 = some r) :
  Calls Try.prog 118 #[.slice A0 l0.length c0, .func (.func 88) #[] #[]] w fun e w' => e = .returned (.int .i64 r) ∧ Below w.heap.size w w' := by
 have hu68 := Try.underlying68
 have HR0 := Aside0.mk hr0
 have HC0 := Aside0.mk hc0
 clear hr0 hc0
 have HB := Aside0.mk (Below.refl w.heap.size w)
 have H : (slices_IndexFunc__impl_isMap_1.l0 k l0 (l0.length : Int) 0) = some r := h
 clear h
 have H' := Aside0.mk H
 clear H
 go_enter Try.func118, Try.ntmps118
 go_wp2
 go_loopg [8] k (fun kq v8 w' => ∃ (x8_1 : Int), v8 = .int .i64 x8_1 ∧ Aside0 (slices_IndexFunc__impl_isMap_1.l0 kq l0 (l0.length : Int) x8_1 = some r) ∧ Aside0 (kq ≤ k) ∧ Aside0 (Below w.heap.size w w'))
 case atStart => exact ⟨(0), (by first | rfl | (simp; done) | (simp [*]; done)), H', ⟨Nat.le_refl _⟩, ⟨bl⟩⟩
 case round =>
  clear H'
  try clear p2
  obtain ⟨x8_1, rfl, HA, HK1, HB⟩ := hrel
  cases gk with
  | zero => exact absurd HA.out (by simp [slices_IndexFunc__impl_isMap_1.l0])
  | succ k1 =>
   have H := HA.out
   clear HA
   simp only [slices_IndexFunc__impl_isMap_1.l0] at H
   by_cases c3 : x8_1 < (l0.length : Int)
   ·rw [if_pos c3] at H
    have c3b0 : decide (x8_1 < (l0.length : Int)) = true := decide_eq_true c3
    clear c3
    by_cases c4 : 0 ≤ x8_1
    ·rw [if_pos c4] at H
     have c4b0 : decide (0 ≤ x8_1) = true := decide_eq_true c4
     clear c4
     by_cases c5 : x8_1 < (l0.length : Int)
     ·rw [if_pos c5] at H
      have c5b0 : decide (x8_1 < (l0.length : Int)) = true := decide_eq_true c5
      clear c5
      replace H := Option.bind_eq_some_iff.mp H
      obtain ⟨t248, A60, H⟩ := H
      replace H : (if t248 = true then (some x8_1) else (slices_IndexFunc__impl_isMap_1.l0 k1 l0 (l0.length : Int) (wrap64 (x8_1 + 1)))) = some r := H
      have A6 := Aside0.mk A60
      clear A60
      by_cases c7 : t248 = true
      ·subst c7
       have H1 : (some x8_1) = some r := by rw [if_pos rfl] at H; exact H
       clear H
       have H := H1
       clear H1
       obtain rfl := Option.some.inj H
       have p247 : 0 ≤ (x8_1 : Int) := da
       have q247 : x8_1 < (l0.length : Int) := da
       obtain ⟨ad247, e247, hx247_0, hx247_1, hx247_2, hx247_3⟩ := at_T68 HR0.out x8_1 p247 q247
       cases e247
       replace hx247_0 := (hc HB hx247_0 :)
       replace hx247_1 := (hc HB hx247_1 :)
       replace hx247_2 := (hc HB hx247_2 :)
       replace hx247_3 := (hc HB hx247_3 :)
       replace p247 := eq_true p247
       replace q247 := eq_true q247
       go_wp2_with (first | ((with_reducible refine gate_value (t := 11) rfl ?_); refine goesV_ (t := 11) (f := 88) rfl (some 16) rfl rfl Try.func88 (by kernel_rfl) rfl #[.agg #[.int .i64 ((rd_T68 l0 x8_1).f0.f0), .int .i64 ((rd_T68 l0 x8_1).f0.f1), .int .i64 ((rd_T68 l0 x8_1).f1.f0), .int .i64 ((rd_T68 l0 x8_1).f1.f1)]] rfl (by (try simp only [List.map_toArray, List.map_cons, List.map_nil]); first | done | rfl | (simp only [List.length_drop, List.length_take]; rfl)) ?_; (with_reducible refine (impl_isMap_1.calls k1 ((rd_T68 l0 x8_1).f0.f0) ((rd_T68 l0 x8_1).f0.f1) ((rd_T68 l0 x8_1).f1.f0) ((rd_T68 l0 x8_1).f1.f1) true _ A6.out).mono ?_); rintro e w8 ⟨rfl, hb⟩; refine ⟨_, rfl, ?_⟩; replace HB := Aside0.mk (bs hb); (try clear hb); (try clear hb2); (try clear hk); (try clear hi)))
       go_ret
       exact ⟨by first | rfl | (simp [errW_none, errW_some] <;> rfl) | (simp [*, errW_none, errW_some] <;> rfl), bl⟩
      ·replace c7 := Bool.eq_false_iff.mpr c7
       subst c7
       have H1 : (slices_IndexFunc__impl_isMap_1.l0 k1 l0 (l0.length : Int) (wrap64 (x8_1 + 1))) = some r := by rw [if_neg (show ¬ (false = true) by decide)] at H; exact H
       clear H
       have H := H1
       clear H1
       have H' := Aside0.mk H
       clear H
       have p247 : 0 ≤ (x8_1 : Int) := da
       have q247 : x8_1 < (l0.length : Int) := da
       obtain ⟨ad247, e247, hx247_0, hx247_1, hx247_2, hx247_3⟩ := at_T68 HR0.out x8_1 p247 q247
       cases e247
       replace hx247_0 := (hc HB hx247_0 :)
       replace hx247_1 := (hc HB hx247_1 :)
       replace hx247_2 := (hc HB hx247_2 :)
       replace hx247_3 := (hc HB hx247_3 :)
       replace p247 := eq_true p247
       replace q247 := eq_true q247
       go_wp2_with (first | ((with_reducible refine gate_value (t := 11) rfl ?_); refine goesV_ (t := 11) (f := 88) rfl (some 16) rfl rfl Try.func88 (by kernel_rfl) rfl #[.agg #[.int .i64 ((rd_T68 l0 x8_1).f0.f0), .int .i64 ((rd_T68 l0 x8_1).f0.f1), .int .i64 ((rd_T68 l0 x8_1).f1.f0), .int .i64 ((rd_T68 l0 x8_1).f1.f1)]] rfl (by (try simp only [List.map_toArray, List.map_cons, List.map_nil]); first | done | rfl | (simp only [List.length_drop, List.length_take]; rfl)) ?_; (with_reducible refine (impl_isMap_1.calls k1 ((rd_T68 l0 x8_1).f0.f0) ((rd_T68 l0 x8_1).f0.f1) ((rd_T68 l0 x8_1).f1.f0) ((rd_T68 l0 x8_1).f1.f1) false _ A6.out).mono ?_); rintro e w9 ⟨rfl, hb⟩; refine ⟨_, rfl, ?_⟩; replace HB := Aside0.mk (bs hb); (try clear hb); (try clear hb2); (try clear hk); (try clear hi)))
       go_roundg k1
       case measure => have := HK1.out; omega
       case rel => exact ⟨(wrap64 (x8_1 + 1)), (by first | rfl | (simp; done) | (simp [*]; done)), H', ⟨by have := HK1.out; omega⟩, ⟨bl⟩⟩
     ·rw [if_neg c5] at H
      exact absurd H (by simp)
    ·rw [if_neg c4] at H
     exact absurd H (by simp)
   ·rw [if_neg c3] at H
    have c3b0 : decide (x8_1 < (l0.length : Int)) = false := decide_eq_false c3
    clear c3
    obtain rfl := Option.some.inj H
    go_wp2
    go_ret
    exact ⟨by first | rfl | (simp [errW_none, errW_some] <;> rfl) | (simp [*, errW_none, errW_some] <;> rfl), bl⟩

/-! ### slices_ContainsFunc__impl_isMap_1: function 87 -/
def slices_ContainsFunc__impl_isMap_1.f (k : Nat) (l0 : List (S68))  : Option (Bool) := (slices_IndexFunc__impl_isMap_1.f k l0).bind fun t249 => (some (decide (t249 ≥ 0)))
set_option maxHeartbeats 8000000 in
set_option maxRecDepth 100000 in
theorem slices_ContainsFunc__impl_isMap_1.calls (k : Nat) (A0 : Option Addr) (c0 : Nat) (l0 : List (S68))  (r : Bool) (w : World) (hr0 : Kd.C k68 w A0 l0.length l0) (hc0 : l0.length ≤ c0) (h : slices_ContainsFunc__impl_isMap_1.f k l0 = some r) :
  Calls Try.prog 87 #[.slice A0 l0.length c0, .func (.func 88) #[] #[]] w fun e w' => e = .returned (.bool r) ∧ Below w.heap.size w w' := by
 have HR0 := Aside0.mk hr0
 have HC0 := Aside0.mk hc0
 clear hr0 hc0
 have HB := Aside0.mk (Below.refl w.heap.size w)
 have H : ((slices_IndexFunc__impl_isMap_1.f k l0).bind fun t249 => (some (decide (t249 ≥ 0)))) = some r := h
 clear h
 replace H := Option.bind_eq_some_iff.mp H
 obtain ⟨t249, A30, H⟩ := H
 replace H : (some (decide (t249 ≥ 0))) = some r := H
 have A3 := Aside0.mk A30
 clear A30
 obtain rfl := Option.some.inj H
 go_enter Try.func87, Try.ntmps87
 go_wp2_with (first | ((with_reducible refine gate_callee (f := 118) rfl ?_); refine gl 7 Try.func118 #[.slice A0 l0.length c0, .func (.func 88) #[] #[]] ?_; (with_reducible refine (slices_IndexFunc__impl_isMap_1.calls k _ _ l0  t249 _ ?side1 ?side2 A3.out).mono ?_); (case side1 => repeat (first | exact HR0.out | (with_reducible refine Kd.C_alloc ?_ _) | (with_reducible refine Kd.C_drewN ?_ _) | (with_reducible refine Kd.C_drew ?_))); (case side2 => exact HC0.out); rintro e w4 ⟨rfl, hb⟩; refine ⟨_, rfl, ?_⟩; replace HB := Aside0.mk (bs hb); (try clear hb); (try clear hb2); (try clear hk); (try clear hi)))
 go_ret
 exact ⟨by first | rfl | (simp [errW_none, errW_some] <;> rfl) | (simp [*, errW_none, errW_some] <;> rfl), bl⟩

end Go.Proofs.Ytmecnnnagallnaa.PFnExactLeastSlope
