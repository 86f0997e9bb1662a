-- Written by this session's program wip/pp (the kit's print tool with additions) 35421559b90ae4d0a3588c463048766b98c2df88dd9212a6774a882060cdf62d
import Derived.Test.YtmecnnnagallnaaPFnExactItineraryOfx0
import Derived.Test.YtmecnnnagallnaaPFnExactItineraryOfx10
import Derived.Test.YtmecnnnagallnaaPFnExactItineraryOfx11
import Derived.Test.YtmecnnnagallnaaPFnExactItineraryOfx16
import Derived.Test.YtmecnnnagallnaaPFnExactItineraryOfx17
import Derived.Test.YtmecnnnagallnaaPFnExactItineraryOfx18
namespace Go.Proofs.Ytmecnnnagallnaa.PFnExactItineraryOf
open Go.RowKit Go.Proofs.YtmecnnnagallnaaW.PrintWords Go.Proofs.YtmecnnnagallnaaW.PrintLast Go.Proofs.YtmecnnnagallnaaW.PrintMore
attribute [local go_sem] max2_int min2_int max_two min_two max_three min_three max_four min_four   -- for this text's walks alone
set_option linter.unusedVariables false
set_option linter.unusedSimpArgs false

/-! ### impl_address_1_with: function 121 -/
def impl_address_1_with.f (l0 : List Int) (l1 : List (List (S68))) (l2 : List (S28)) : Option (Bool) := if 0 < (l1.length : Int) then (if 1 < (l0.length : Int) then (if 0 ≤ (rd l0 1) then (if (rd l0 1) < ((rd_L6 l1 0).length : Int) then (if 0 < (l2.length : Int) then ((impl_less.f ((rd_T68 (rd_L6 l1 0) (rd l0 1)).f0.f0) ((rd_T68 (rd_L6 l1 0) (rd l0 1)).f0.f1) ((rd_T28 l2 0).f0) ((rd_T28 l2 0).f1)).bind fun t554 => (some (!t554))) else (none)) else (none)) else (none)) else (none)) else (none)
def impl_address_1_with.T1 : Bool × List (List Nat × List Nat) := (true, [([], []), ([], []), ([1], [1]), ([2], [2]), ([0, 3], [0, 3]), ([4], [4]), ([5], [5]), ([], []), ([6, 7], [6, 7]), ([8], [8]), ([9, 8, 0, 1, 2, 3, 4, 5, 6, 7, 8, 9], [9])])
def impl_address_1_with.B1 : List Nat := [0, 0, 2, 6, 15, 31, 63, 0, 255, 511, 1023]
theorem impl_address_1_with.tab1 : rtab .any (opsOf Try.f121 1) = impl_address_1_with.T1 := by kernel_rfl
theorem impl_address_1_with.bits1 : waitsOk impl_address_1_with.T1.2 impl_address_1_with.B1 = true := by kernel_rfl
set_option maxHeartbeats 8000000 in
set_option maxRecDepth 100000 in
theorem impl_address_1_with.calls (A0 : Option Addr) (c0 : Nat) (l0 : List Int) (A1 : Option Addr) (c1 : Nat) (l1 : List (List (S68))) (A2 : Option Addr) (c2 : Nat) (l2 : List (S28)) (r : Bool) (w : World) (hr0 : Kd.C (Kd.int .i64) w A0 l0.length l0) (hc0 : l0.length ≤ c0) (hr1 : Kd.C (Kd.slice 68 k68) w A1 l1.length l1) (hc1 : l1.length ≤ c1) (hr2 : Kd.C k28 w A2 l2.length l2) (hc2 : l2.length ≤ c2) (h : impl_address_1_with.f l0 l1 l2 = some r) :
  Calls Try.prog 121 #[.slice A0 l0.length c0, .pointer A1, .pointer A2] w fun e w' => e = .returned (.bool r) ∧ Below w.heap.size w w' := by
 have hu28 := Try.underlying28
 have HR0 := Aside0.mk hr0
 have HC0 := Aside0.mk hc0
 clear hr0 hc0
 have HR1 := Aside0.mk hr1
 have HC1 := Aside0.mk hc1
 clear hr1 hc1
 have HR2 := Aside0.mk hr2
 have HC2 := Aside0.mk hc2
 clear hr2 hc2
 have HB := Aside0.mk (Below.refl w.heap.size w)
 have H : (if 0 < (l1.length : Int) then (if 1 < (l0.length : Int) then (if 0 ≤ (rd l0 1) then (if (rd l0 1) < ((rd_L6 l1 0).length : Int) then (if 0 < (l2.length : Int) then ((impl_less.f ((rd_T68 (rd_L6 l1 0) (rd l0 1)).f0.f0) ((rd_T68 (rd_L6 l1 0) (rd l0 1)).f0.f1) ((rd_T28 l2 0).f0) ((rd_T28 l2 0).f1)).bind fun t554 => (some (!t554))) else (none)) else (none)) else (none)) else (none)) else (none)) = some r := h
 clear h
 by_cases c4 : 0 < (l1.length : Int)
 ·rw [if_pos c4] at H
  have c4b0 : decide (0 < (l1.length : Int)) = true := decide_eq_true c4
  have c4b1 : decide (0 < l1.length) = true := decide_eq_true (by omega)
  clear c4
  by_cases c5 : 1 < (l0.length : Int)
  ·rw [if_pos c5] at H
   have c5b0 : decide (1 < (l0.length : Int)) = true := decide_eq_true c5
   have c5b1 : decide (1 < l0.length) = true := decide_eq_true (by omega)
   clear c5
   by_cases c6 : 0 ≤ (rd l0 1)
   ·rw [if_pos c6] at H
    have c6b0 : decide (0 ≤ (rd l0 1)) = true := decide_eq_true c6
    clear c6
    by_cases c7 : (rd l0 1) < ((rd_L6 l1 0).length : Int)
    ·rw [if_pos c7] at H
     have c7b0 : decide ((rd l0 1) < ((rd_L6 l1 0).length : Int)) = true := decide_eq_true c7
     clear c7
     by_cases c8 : 0 < (l2.length : Int)
     ·rw [if_pos c8] at H
      have c8b0 : decide (0 < (l2.length : Int)) = true := decide_eq_true c8
      have c8b1 : decide (0 < l2.length) = true := decide_eq_true (by omega)
      clear c8
      replace H := Option.bind_eq_some_iff.mp H
      obtain ⟨t554, A90, H⟩ := H
      replace H : (some (!t554)) = some r := H
      have A9 := Aside0.mk A90
      clear A90
      obtain rfl := Option.some.inj H
      go_enter Try.func121, Try.ntmps121
      try go_wp2
      replace HB := Aside0.mk (below_drew1 HB.out)
      have p550 : 0 ≤ (0 : Int) := (by omega)
      have q550 : 0 < (l1.length : Int) := da
      obtain ⟨ad550, A550_0, c550_0, e550, hx550_0, hl550_0, hi550_0⟩ := at_L6 HR1.out 0 p550 q550
      have hw550_0 := hx550_0
      (try rw [show ((0 : Int)).toNat = 0 from rfl] at hw550_0)
      (try rw [show 0 * 1 = 0 from rfl] at hw550_0)
      (try rw [Addr.add_zero'] at hw550_0)
      cases e550
      have qi550 : (0 < l1.length) = True := eq_true (by omega)
      (try rw [show ((0 : Int)).toNat = 0 from rfl] at hx550_0)
      (try rw [Addr.add_zero'] at hx550_0)
      replace hx550_0 := (hc HB hx550_0 :)
      have HR550_0 := Aside0.mk hi550_0
      have HC550_0 := Aside0.mk hl550_0
      clear hi550_0 hl550_0
      replace p550 := eq_true p550
      replace q550 := eq_true q550
      have p551 : 0 ≤ (1 : Int) := (by omega)
      have q551 : 1 < (l0.length : Int) := da
      obtain ⟨ad551, e551, hx551_0⟩ := Kd.at_int HR0.out 1 p551 q551
      have hw551_0 := hx551_0
      (try rw [show ((1 : Int)).toNat = 1 from rfl] at hw551_0)
      (try rw [show 1 * 1 = 1 from rfl] at hw551_0)
      (try simp only [Nat.reduceMul, Nat.reduceEqDiff, Go.Addr.add, ↓reduceIte] at hw551_0)
      cases e551
      (try simp only [show (1 : Int).toNat = 1 from rfl, Nat.reduceMul, Nat.reduceEqDiff, Go.Addr.add, ↓reduceIte] at hx551_0)
      have qi551 : (1 < l0.length) = True := eq_true (by omega)
      (try rw [show ((1 : Int)).toNat = 1 from rfl] at hx551_0)
      replace hx551_0 := (hc HB hx551_0 :)
      replace p551 := eq_true p551
      replace q551 := eq_true q551
      have p552 : 0 ≤ ((rd l0 1) : Int) := da
      have q552 : (rd l0 1) < ((rd_L6 l1 0).length : Int) := da
      obtain ⟨ad552, e552, hx552_0, hx552_1, hx552_2, hx552_3⟩ := at_T68 HR550_0.out (rd l0 1) p552 q552
      have hw552_3 := hx552_3
      have hw552_2 := hx552_2
      have hw552_1 := hx552_1
      have hw552_0 := hx552_0
      cases e552
      replace hx552_0 := (hc HB hx552_0 :)
      replace hx552_1 := (hc HB hx552_1 :)
      replace hx552_2 := (hc HB hx552_2 :)
      replace hx552_3 := (hc HB hx552_3 :)
      replace p552 := eq_true p552
      replace q552 := eq_true q552
      have p553 : 0 ≤ (0 : Int) := (by omega)
      have q553 : 0 < (l2.length : Int) := da
      obtain ⟨ad553, e553, hx553_0, hx553_1⟩ := at_T28 HR2.out 0 p553 q553
      have hw553_1 := hx553_1
      (try rw [show ((0 : Int)).toNat = 0 from rfl] at hw553_1)
      (try rw [show 0 * 2 = 0 from rfl] at hw553_1)
      (try rw [Addr.add_zero'] at hw553_1)
      have hw553_0 := hx553_0
      (try rw [show ((0 : Int)).toNat = 0 from rfl] at hw553_0)
      (try rw [show 0 * 2 = 0 from rfl] at hw553_0)
      (try rw [Addr.add_zero'] at hw553_0)
      cases e553
      have qi553 : (0 < l2.length) = True := eq_true (by omega)
      (try rw [show ((0 : Int)).toNat = 0 from rfl] at hx553_0)
      (try rw [show 0 * 2 = 0 from rfl] at hx553_0)
      (try rw [Addr.add_zero'] at hx553_0)
      (try rw [show ((0 : Int)).toNat = 0 from rfl] at hx553_1)
      (try rw [show 0 * 2 = 0 from rfl] at hx553_1)
      (try rw [Addr.add_zero'] at hx553_1)
      replace hx553_0 := (hc HB hx553_0 :)
      replace hx553_1 := (hc HB hx553_1 :)
      replace p553 := eq_true p553
      replace q553 := eq_true q553
      refine start_ (n := 11) (S := fun w' => w'.cell? ad550 = some (.slice (some ad552) (rd_L6 l1 0).length c550_0) ∧ w'.cell? ⟨ad551.block, ad551.off + 1, none⟩ = some (.int .i64 (rd l0 1)) ∧ w'.cell? (ad552.add (((rd l0 1)).toNat * 4)) = some (.int .i64 ((rd_T68 (rd_L6 l1 0) (rd l0 1)).f0.f0)) ∧ w'.cell? ⟨(ad552.add (((rd l0 1)).toNat * 4)).block, (ad552.add (((rd l0 1)).toNat * 4)).off + 1, none⟩ = some (.int .i64 ((rd_T68 (rd_L6 l1 0) (rd l0 1)).f0.f1)) ∧ w'.cell? ⟨(ad552.add (((rd l0 1)).toNat * 4)).block, (ad552.add (((rd l0 1)).toNat * 4)).off + 2, none⟩ = some (.int .i64 ((rd_T68 (rd_L6 l1 0) (rd l0 1)).f1.f0)) ∧ w'.cell? ⟨(ad552.add (((rd l0 1)).toNat * 4)).block, (ad552.add (((rd l0 1)).toNat * 4)).off + 3, none⟩ = some (.int .i64 ((rd_T68 (rd_L6 l1 0) (rd l0 1)).f1.f1)) ∧ w'.cell? ad553 = some (.int .i64 ((rd_T28 l2 0).f0)) ∧ w'.cell? ⟨ad553.block, ad553.off + 1, none⟩ = some (.int .i64 ((rd_T28 l2 0).f1))) (ds := []) (tb 0 11) (by kernel_rfl) rfl rfl ⟨(hc HB hw550_0 :), (hc HB hw551_0 :), (hc HB hw552_0 :), (hc HB hw552_1 :), (hc HB hw552_2 :), (hc HB hw552_3 :), (hc HB hw553_0 :), (hc HB hw553_1 :)⟩ (fun hHeld => ?_); refine with_tabW impl_address_1_with.tab1 impl_address_1_with.bits1 (fun HT_ HW_ => ?_)
      generalize w.drew = w10 at HB HR550_0 hx550_0 hx551_0 hx552_0 hx552_1 hx552_2 hx552_3 hx553_0 hx553_1 hHeld ⊢
      refine pu 1 6 #[false, true, false, false, false, false, false, false, false, false, false] ?_
      refine pu 2 7 #[false, true, true, false, false, false, false, false, false, false, false] ?_
      refine tk 0 5 (tb 3 8) (hy := by rintro w' ⟨s0, s1, s2, s3, s4, s5, s6, s7⟩; go_simp; with_reducible rfl) (h := ?_)
      refine tk 3 8 (tb 4 7) (hy := by rintro w' ⟨s0, s1, s2, s3, s4, s5, s6, s7⟩; go_simp; with_reducible rfl) (h := ?_)
      refine pu 4 9 (tb 5 6) ?_
      refine pu 5 10 (tb 6 5) ?_
      refine tk 6 11 (tb 7 4) (hy := by rintro w' ⟨s0, s1, s2, s3, s4, s5, s6, s7⟩; go_simp; with_reducible rfl) (h := ?_)
      refine tk 7 12 (tb 8 3) (hy := by rintro w' ⟨s0, s1, s2, s3, s4, s5, s6, s7⟩; go_simp; with_reducible rfl) (h := ?_)
      refine on 8 13 (tb 9 2) (fun K hK => ?_)
      refine gs Try.func95 #[.agg #[.int .i64 ((rd_T68 (rd_L6 l1 0) (rd l0 1)).f0.f0), .int .i64 ((rd_T68 (rd_L6 l1 0) (rd l0 1)).f0.f1)], .agg #[.int .i64 ((rd_T28 l2 0).f0), .int .i64 ((rd_T28 l2 0).f1)]] ?_
      with_reducible refine (impl_less.calls ((rd_T68 (rd_L6 l1 0) (rd l0 1)).f0.f0) ((rd_T68 (rd_L6 l1 0) (rd l0 1)).f0.f1) ((rd_T28 l2 0).f0) ((rd_T28 l2 0).f1) t554 _ A9.out).mono ?_
      rintro e w11 ⟨rfl, hb⟩
      refine ⟨_, rfl, ?_⟩
      replace HB := kh hb
      (try clear hb)
      (try clear hb2)
      (try clear hk)
      (try clear hi)
      refine hK.out _ _ ⟨(hc HB hw550_0 :), (hc HB hw551_0 :), (hc HB hw552_0 :), (hc HB hw552_1 :), (hc HB hw552_2 :), (hc HB hw552_3 :), (hc HB hw553_0 :), (hc HB hw553_1 :)⟩ (fun hHeld => ?_)
      clear hK K
      refine nm 13 ?_
      refine pu 9 14 (tb 10 1) ?_
      refine pu 10 4 (tb 11 0) ?_
      refine done_ (done_of HT_.out (by kernel_rfl)) ?_
      try go_wp2
      go_ret
      exact ⟨rt, bl⟩
     ·rw [if_neg c8] at H
      exact absurd H (by simp)
    ·rw [if_neg c7] at H
     exact absurd H (by simp)
   ·rw [if_neg c6] at H
    exact absurd H (by simp)
  ·rw [if_neg c5] at H
   exact absurd H (by simp)
 ·rw [if_neg c4] at H
  exact absurd H (by simp)

/-! ### slices_IndexFunc__impl_address_1: function 120 -/
def slices_IndexFunc__impl_address_1.l0 : Nat → List (List Int) → Int → Int → List (List (S68)) → List (S28) → Option (Int)
 | 0, _, _, _, _, _ => none
 | k + 1, x0, x7, x8, x502, x503 => if x8 < x7 then (if 0 ≤ x8 then (if x8 < (x0.length : Int) then ((impl_address_1_with.f (rd_L5 x0 x8) x502 x503).bind fun t556 => (if t556 = true then (some x8) else (slices_IndexFunc__impl_address_1.l0 k x0 x7 (wrap64 (x8 + 1)) x502 x503))) else (none)) else (none)) else (some (-1))
def slices_IndexFunc__impl_address_1.f (k : Nat) (l0 : List (List Int))  (l2 : List (List (S68))) (l3 : List (S28)) : Option (Int) := slices_IndexFunc__impl_address_1.l0 k l0 (l0.length : Int) 0 l2 l3
set_option maxHeartbeats 8000000 in
set_option maxRecDepth 100000 in
theorem slices_IndexFunc__impl_address_1.calls (k : Nat) (A0 : Option Addr) (c0 : Nat) (l0 : List (List Int))  (A2 : Option Addr) (c2 : Nat) (l2 : List (List (S68))) (A3 : Option Addr) (c3 : Nat) (l3 : List (S28)) (r : Int) (w : World) (hr0 : Kd.C (Kd.slice 3 (Kd.int .i64)) w A0 l0.length l0) (hc0 : l0.length ≤ c0) (hr2 : Kd.C (Kd.slice 68 k68) w A2 l2.length l2) (hc2 : l2.length ≤ c2) (hr3 : Kd.C k28 w A3 l3.length l3) (hc3 : l3.length ≤ c3) (h : slices_IndexFunc__impl_address_1.f k l0 l2 l3 = some r) :
  Calls Try.prog 120 #[.slice A0 l0.length c0, .func (.func 121) #[] #[.pointer A2, .pointer A3]] w fun e w' => e = .returned (.int .i64 r) ∧ Below w.heap.size w w' := by
 have HR0 := Aside0.mk hr0
 have HC0 := Aside0.mk hc0
 clear hr0 hc0
 have HR2 := Aside0.mk hr2
 have HC2 := Aside0.mk hc2
 clear hr2 hc2
 have HR3 := Aside0.mk hr3
 have HC3 := Aside0.mk hc3
 clear hr3 hc3
 have HB := Aside0.mk (Below.refl w.heap.size w)
 have H : (slices_IndexFunc__impl_address_1.l0 k l0 (l0.length : Int) 0 l2 l3) = some r := h
 clear h
 have H' := Aside0.mk H
 clear H
 go_enter Try.func120, Try.ntmps120
 go_wp2
 go_loopg [8] k (fun kq v8 w' => ∃ (x8_1 : Int), v8 = .int .i64 x8_1 ∧ Aside0 (slices_IndexFunc__impl_address_1.l0 kq l0 (l0.length : Int) x8_1 l2 l3 = some r) ∧ Aside0 (kq ≤ k) ∧ Aside0 (Below w.heap.size w w'))
 case atStart => exact ⟨(0), rs, H', ⟨Nat.le_refl _⟩, ⟨bl⟩⟩
 case round =>
  clear H'
  try clear c2
  try clear p2
  try clear c3
  obtain ⟨x8_1, rfl, HA, HK1, HB⟩ := hrel
  cases gk with
  | zero => exact absurd HA.out (by simp [slices_IndexFunc__impl_address_1.l0])
  | succ k1 =>
   have H := HA.out
   clear HA
   simp only [slices_IndexFunc__impl_address_1.l0] at H
   by_cases c5 : x8_1 < (l0.length : Int)
   ·rw [if_pos c5] at H
    have c5b0 : decide (x8_1 < (l0.length : Int)) = true := decide_eq_true c5
    clear c5
    by_cases c6 : 0 ≤ x8_1
    ·rw [if_pos c6] at H
     have c6b0 : decide (0 ≤ x8_1) = true := decide_eq_true c6
     clear c6
     by_cases c7 : x8_1 < (l0.length : Int)
     ·rw [if_pos c7] at H
      have c7b0 : decide (x8_1 < (l0.length : Int)) = true := decide_eq_true c7
      clear c7
      replace H := Option.bind_eq_some_iff.mp H
      obtain ⟨t556, A80, H⟩ := H
      replace H : (if t556 = true then (some x8_1) else (slices_IndexFunc__impl_address_1.l0 k1 l0 (l0.length : Int) (wrap64 (x8_1 + 1)) l2 l3)) = some r := H
      have A8 := Aside0.mk A80
      clear A80
      by_cases c9 : t556 = true
      ·subst c9
       have H1 : (some x8_1) = some r := by rw [if_pos rfl] at H; exact H
       clear H
       have H := H1
       clear H1
       obtain rfl := Option.some.inj H
       have p555 : 0 ≤ (x8_1 : Int) := da
       have q555 : x8_1 < (l0.length : Int) := da
       obtain ⟨ad555, A555_0, c555_0, e555, hx555_0, hl555_0, hi555_0⟩ := at_L5 HR0.out x8_1 p555 q555
       cases e555
       replace hx555_0 := (hc HB hx555_0 :)
       have HR555_0 := Aside0.mk hi555_0
       have HC555_0 := Aside0.mk hl555_0
       clear hi555_0 hl555_0
       replace p555 := eq_true p555
       replace q555 := eq_true q555
       go_wp2_with (first | ((with_reducible refine gate_value (t := 11) rfl ?_); refine goesV_ (t := 11) (f := 121) rfl (some 16) rfl rfl Try.func121 (by kernel_rfl) rfl #[.slice A555_0 (rd_L5 l0 x8_1).length c555_0, .pointer A2, .pointer A3] rfl (by (try simp only [List.map_toArray, List.map_cons, List.map_nil]); first | done | rfl | (simp only [List.length_drop, List.length_take]; rfl)) ?_; (with_reducible refine (impl_address_1_with.calls _ _ (rd_L5 l0 x8_1) _ c2 l2 _ c3 l3 true _ ?side1 ?side2 ?side3 ?side4 ?side5 ?side6 A8.out).mono ?_); (case side1 => repeat (first | exact (Kd.C_below HR555_0.out HB.out) | (with_reducible refine Kd.C_alloc ?_ _) | (with_reducible refine Kd.C_drewN ?_ _) | (with_reducible refine Kd.C_drew ?_))); (case side2 => exact HC555_0.out); (case side3 => repeat (first | exact (Kd.C_below HR2.out HB.out) | (with_reducible refine Kd.C_alloc ?_ _) | (with_reducible refine Kd.C_drewN ?_ _) | (with_reducible refine Kd.C_drew ?_))); (case side4 => exact HC2.out); (case side5 => repeat (first | exact (Kd.C_below HR3.out HB.out) | (with_reducible refine Kd.C_alloc ?_ _) | (with_reducible refine Kd.C_drewN ?_ _) | (with_reducible refine Kd.C_drew ?_))); (case side6 => exact HC3.out); rintro e w10 ⟨rfl, hb⟩; refine ⟨_, rfl, ?_⟩; replace HB := kh hb; (try clear hb); (try clear hb2); (try clear hk); (try clear hi)))
       go_ret
       exact ⟨rt, bl⟩
      ·replace c9 := Bool.eq_false_iff.mpr c9
       subst c9
       have H1 : (slices_IndexFunc__impl_address_1.l0 k1 l0 (l0.length : Int) (wrap64 (x8_1 + 1)) l2 l3) = some r := by rw [if_neg (show ¬ (false = true) by decide)] at H; exact H
       clear H
       have H := H1
       clear H1
       have H' := Aside0.mk H
       clear H
       have p555 : 0 ≤ (x8_1 : Int) := da
       have q555 : x8_1 < (l0.length : Int) := da
       obtain ⟨ad555, A555_0, c555_0, e555, hx555_0, hl555_0, hi555_0⟩ := at_L5 HR0.out x8_1 p555 q555
       cases e555
       replace hx555_0 := (hc HB hx555_0 :)
       have HR555_0 := Aside0.mk hi555_0
       have HC555_0 := Aside0.mk hl555_0
       clear hi555_0 hl555_0
       replace p555 := eq_true p555
       replace q555 := eq_true q555
       go_wp2_with (first | ((with_reducible refine gate_value (t := 11) rfl ?_); refine goesV_ (t := 11) (f := 121) rfl (some 16) rfl rfl Try.func121 (by kernel_rfl) rfl #[.slice A555_0 (rd_L5 l0 x8_1).length c555_0, .pointer A2, .pointer A3] rfl (by (try simp only [List.map_toArray, List.map_cons, List.map_nil]); first | done | rfl | (simp only [List.length_drop, List.length_take]; rfl)) ?_; (with_reducible refine (impl_address_1_with.calls _ _ (rd_L5 l0 x8_1) _ c2 l2 _ c3 l3 false _ ?side1 ?side2 ?side3 ?side4 ?side5 ?side6 A8.out).mono ?_); (case side1 => repeat (first | exact (Kd.C_below HR555_0.out HB.out) | (with_reducible refine Kd.C_alloc ?_ _) | (with_reducible refine Kd.C_drewN ?_ _) | (with_reducible refine Kd.C_drew ?_))); (case side2 => exact HC555_0.out); (case side3 => repeat (first | exact (Kd.C_below HR2.out HB.out) | (with_reducible refine Kd.C_alloc ?_ _) | (with_reducible refine Kd.C_drewN ?_ _) | (with_reducible refine Kd.C_drew ?_))); (case side4 => exact HC2.out); (case side5 => repeat (first | exact (Kd.C_below HR3.out HB.out) | (with_reducible refine Kd.C_alloc ?_ _) | (with_reducible refine Kd.C_drewN ?_ _) | (with_reducible refine Kd.C_drew ?_))); (case side6 => exact HC3.out); rintro e w11 ⟨rfl, hb⟩; refine ⟨_, rfl, ?_⟩; replace HB := kh hb; (try clear hb); (try clear hb2); (try clear hk); (try clear hi)))
       go_roundg k1
       case measure => have := HK1.out; omega
       case rel => exact ⟨(wrap64 (x8_1 + 1)), rs, H', ⟨by have := HK1.out; omega⟩, ⟨bl⟩⟩
     ·rw [if_neg c7] at H
      exact absurd H (by simp)
    ·rw [if_neg c6] at H
     exact absurd H (by simp)
   ·rw [if_neg c5] at H
    have c5b0 : decide (x8_1 < (l0.length : Int)) = false := decide_eq_false c5
    clear c5
    obtain rfl := Option.some.inj H
    go_wp2
    go_ret
    exact ⟨rt, bl⟩

/-! ### impl_address: function 81 -/
def impl_address.f (k : Nat) (l0 : List (S68)) (a1_0 : Int) (a1_1 : Int) : Option (Int) := (impl_laps.f k l0).bind fun t559 => ((slices_IndexFunc__impl_address_1.f k t559 [l0] [(⟨a1_0, a1_1⟩ : S28)]).bind fun t562 => (some t562))
set_option maxHeartbeats 8000000 in
set_option maxRecDepth 100000 in
theorem impl_address.calls (k : Nat) (A0 : Option Addr) (c0 : Nat) (l0 : List (S68)) (a1_0 : Int) (a1_1 : Int) (r : Int) (w : World) (hr0 : Kd.C k68 w A0 l0.length l0) (hc0 : l0.length ≤ c0) (h : impl_address.f k l0 a1_0 a1_1 = some r) :
  Calls Try.prog 81 #[.slice A0 l0.length c0, .agg #[.int .i64 a1_0, .int .i64 a1_1]] w fun e w' => e = .returned (.int .i64 r) ∧ Below w.heap.size w w' := by
 have hu28 := Try.underlying28
 have HR0 := Aside0.mk hr0
 have HC0 := Aside0.mk hc0
 clear hr0 hc0
 have HB := Aside0.mk (Below.refl w.heap.size w)
 have H : ((impl_laps.f k l0).bind fun t559 => ((slices_IndexFunc__impl_address_1.f k t559 [l0] [(⟨a1_0, a1_1⟩ : S28)]).bind fun t562 => (some t562))) = some r := h
 clear h
 replace H := Option.bind_eq_some_iff.mp H
 obtain ⟨t559, A30, H⟩ := H
 replace H : ((slices_IndexFunc__impl_address_1.f k t559 [l0] [(⟨a1_0, a1_1⟩ : S28)]).bind fun t562 => (some t562)) = some r := H
 have A3 := Aside0.mk A30
 clear A30
 replace H := Option.bind_eq_some_iff.mp H
 obtain ⟨t562, A40, H⟩ := H
 replace H : (some t562) = some r := H
 have A4 := Aside0.mk A40
 clear A40
 obtain rfl := Option.some.inj H
 go_enter Try.func81, Try.ntmps81
 go_wp2_with (first | ((with_reducible refine gate_dst (N := 2) rfl ?_); refine bx 2 #[.slice A0 l0.length c0] 31 ?_; intro gb557 hg w5 hbox hb; have BK557 := Aside0.mk (hbox); have GW557 := Aside0.mk (bz hg); have GE557 := GW557; replace HB := kh hb; clear hb hbox hg) | ((with_reducible refine gate_dst (N := 3) rfl ?_); refine bx 3 #[.int .i64 a1_0, .int .i64 a1_1] 28 ?_; intro gb558 hg w6 hbox hb; have BK558 := Aside0.mk (hbox); have GW558 := Aside0.mk (bz hg); have GE558 := GW558; have NB557_558 := Aside0.mk (bn gb557 hg); have NB558_557 := sy NB557_558; replace BK557 := kb BK557 hb; replace HB := kh hb; clear hb hbox hg; have hnb7 := NB557_558.out; have hnc7 := NB558_557.out; obtain ⟨hcz8_0, hfz8_0⟩ := b1 BK557) | ((with_reducible refine gate_callee (f := 111) rfl ?_); refine gl 6 Try.func111 #[.slice A0 l0.length c0] ?_; (with_reducible refine (impl_laps.calls k _ _ l0 t559 _ ?side1 ?side2 A3.out).mono ?_); (case side1 => repeat (first | exact (Kd.C_below HR0.out HB.out) | (with_reducible refine Kd.C_alloc ?_ _) | (with_reducible refine Kd.C_drewN ?_ _) | (with_reducible refine Kd.C_drew ?_))); (case side2 => exact HC0.out); rintro e w9 ⟨v560, rfl, ho0, hb⟩; refine ⟨_, rfl, ?_⟩; have HO561 := Aside0.mk (Kd.S_lower ho0 (below_size bl)); replace BK557 := kb BK557 hb; replace BK558 := kb BK558 hb; replace HB := kh hb; (try clear hb); (try clear hb2); (try clear hk); (try clear hi); (try clear ho0); obtain ⟨Ao10, co10, eo10⟩ := Kd.S_slice HO561.out; subst eo10) | ((with_reducible refine gate_callee (f := 120) rfl ?_); refine gl 8 Try.func120 #[.slice Ao10 t559.length co10, .func (.func 121) #[] #[.pointer (some ⟨gb557, 0, none⟩), .pointer (some ⟨gb558, 0, none⟩)]] ?_; (with_reducible refine (slices_IndexFunc__impl_address_1.calls k _ _ t559  _ 1 [l0] _ 1 [(⟨a1_0, a1_1⟩ : S28)] t562 _ ?side1 ?side2 ?side3 ?side4 ?side5 ?side6 A4.out).mono ?_); (case side1 => repeat (first | exact (Kd.S_reads' HO561.out).2.2 | (with_reducible refine Kd.C_alloc ?_ _) | (with_reducible refine Kd.C_drewN ?_ _) | (with_reducible refine Kd.C_drew ?_))); (case side2 => exact (Kd.S_reads' HO561.out).2.1); (case side3 => exact capC (t := 31) (d := (Kd.slice 68 k68)) (cs := [.slice A0 l0.length c0]) (x := l0) (bo gb557) (⟨_, _, rfl, (by exact HC0.out), (by repeat (first | exact (Kd.C_below HR0.out HB.out) | (with_reducible refine Kd.C_alloc ?_ _) | (with_reducible refine Kd.C_drewN ?_ _) | (with_reducible refine Kd.C_drew ?_)))⟩)); (case side4 => exact Nat.le_refl _); (case side5 => exact capC (t := 28) (d := k28) (cs := [.int .i64 a1_0, .int .i64 a1_1]) (x := (⟨a1_0, a1_1⟩ : S28)) (bo gb558) (k28_mk _ _)); (case side6 => exact Nat.le_refl _); rintro e w11 ⟨rfl, hb⟩; refine ⟨_, rfl, ?_⟩; replace HO561 := Aside0.mk (Kd.S_below (by (with_reducible repeat (first | apply Kd.S_alloc | apply Kd.S_drewN | apply Kd.S_drew)); exact HO561.out) hb); replace BK557 := kb BK557 hb; replace BK558 := kb BK558 hb; replace HB := kh hb; (try clear hb); (try clear hb2); (try clear hk); (try clear hi)))
 go_ret
 exact ⟨rt, bl⟩

/-! ### impl_ItineraryOf: function 41 -/
mutual
def impl_ItineraryOf.j0 : Nat → List (S68) → Int → Bool → Int → Int → Option (List Int × Bool)
 | 0, _, _, _, _, _ => none
 | k + 1, x0, x2, x24, x564000, x564001 => if x24 = true then (some (([] : List Int), false)) else ((impl_orbit.f k x0 x564000 x564001 (wrap64 (x2 - 1))).bind fun t567 => (if (t567.length : Int) < x2 then (some (([] : List Int), false)) else (impl_ItineraryOf.l0 k x0 ([] : List Int) t567 (t567.length : Int) 0)))
def impl_ItineraryOf.l0 : Nat → List (S68) → List Int → List (S28) → Int → Int → Option (List Int × Bool)
 | 0, _, _, _, _, _ => none
 | k + 1, x0, x9, x34, x35, x36 => if x36 < x35 then (if 0 ≤ x36 then (if x36 < (x34.length : Int) then ((impl_address.f k x0 ((rd_T28 x34 x36).f0) ((rd_T28 x34 x36).f1)).bind fun t572 => (if x9.length < 17592186044416 then (impl_ItineraryOf.l0 k x0 (x9 ++ [t572]) x34 x35 (wrap64 (x36 + 1))) else (none))) else (none)) else (none)) else (some (x9, true))
end
def impl_ItineraryOf.f (k : Nat) (l0 : List (S68)) (a1_0 : Int) (a1_1 : Int) (a2 : Int) : Option (List Int × Bool) := (impl_isLapMap.f k l0).bind fun t564 => (if t564 = true then ((impl_isUnit.f k a1_0 a1_1).bind fun t565 => (if t565 = true then ((impl_within.f a2 1 20).bind fun t566 => (impl_ItineraryOf.j0 k l0 a2 (!t566) a1_0 a1_1)) else (impl_ItineraryOf.j0 k l0 a2 true a1_0 a1_1))) else (impl_ItineraryOf.j0 k l0 a2 true a1_0 a1_1))
set_option maxHeartbeats 8000000 in
set_option maxRecDepth 100000 in
theorem impl_ItineraryOf.calls (k : Nat) (A0 : Option Addr) (c0 : Nat) (l0 : List (S68)) (a1_0 : Int) (a1_1 : Int) (a2 : Int) (r1 : List Int) (r2 : Bool) (w : World) (hr0 : Kd.C k68 w A0 l0.length l0) (hc0 : l0.length ≤ c0) (h : impl_ItineraryOf.f k l0 a1_0 a1_1 a2 = some (r1, r2)) :
  Calls Try.prog 41 #[.slice A0 l0.length c0, .agg #[.int .i64 a1_0, .int .i64 a1_1], .int .i64 a2] w fun e w' => ∃ v0_ : Value, e = .returned (.tuple #[v0_, .bool r2]) ∧ Kd.R (Kd.int .i64) 3 w' w.heap.size (fun _ => True) v0_ r1 ∧ Below w.heap.size w w' := by
 have hu28 := Try.underlying28
 have HR0 := Aside0.mk hr0
 have HC0 := Aside0.mk hc0
 clear hr0 hc0
 have HB := Aside0.mk (Below.refl w.heap.size w)
 have H : ((impl_isLapMap.f k l0).bind fun t564 => (if t564 = true then ((impl_isUnit.f k a1_0 a1_1).bind fun t565 => (if t565 = true then ((impl_within.f a2 1 20).bind fun t566 => (impl_ItineraryOf.j0 k l0 a2 (!t566) a1_0 a1_1)) else (impl_ItineraryOf.j0 k l0 a2 true a1_0 a1_1))) else (impl_ItineraryOf.j0 k l0 a2 true a1_0 a1_1))) = some (r1, r2) := h
 clear h
 have HC4 := Aside0.mk H
 clear H
 go_enter Try.func41, Try.ntmps41
 go_upto_region 1 with (first | ((with_reducible refine gate_dst (N := 4) rfl ?_); refine bx 4 #[.int .i64 a1_0, .int .i64 a1_1] 28 ?_; intro gb563 hg w5 hbox hb; have BK563 := Aside0.mk (hbox); have GW563 := Aside0.mk (bz hg); have GE563 := GW563; replace HB := kh hb; clear hb hbox hg))
 (try simp only [Act.put, List.setIfInBounds_toArray, List.set_cons_zero, List.set_cons_succ])
 go_cut [24] (fun v24 wc => ∃ (kq : Nat) (x24_3 : Bool), v24 = .bool x24_3 ∧ Aside0 (impl_ItineraryOf.j0 kq l0 a2 x24_3 a1_0 a1_1 = some (r1, r2)) ∧ Aside0 (kq ≤ k) ∧ Aside0 (wc.heap[gb563]? = some (.cells #[.int .i64 a1_0, .int .i64 a1_1] 28 (0, 0))) ∧ Aside0 (Below w.heap.size w wc))
 case first =>
  have H := HC4.out
  clear HC4
  replace H := Option.bind_eq_some_iff.mp H
  obtain ⟨t564, A60, H⟩ := H
  replace H : (if t564 = true then ((impl_isUnit.f k a1_0 a1_1).bind fun t565 => (if t565 = true then ((impl_within.f a2 1 20).bind fun t566 => (impl_ItineraryOf.j0 k l0 a2 (!t566) a1_0 a1_1)) else (impl_ItineraryOf.j0 k l0 a2 true a1_0 a1_1))) else (impl_ItineraryOf.j0 k l0 a2 true a1_0 a1_1)) = some (r1, r2) := H
  have A6 := Aside0.mk A60
  clear A60
  by_cases c7 : t564 = true
  ·subst c7
   have H1 : ((impl_isUnit.f k a1_0 a1_1).bind fun t565 => (if t565 = true then ((impl_within.f a2 1 20).bind fun t566 => (impl_ItineraryOf.j0 k l0 a2 (!t566) a1_0 a1_1)) else (impl_ItineraryOf.j0 k l0 a2 true a1_0 a1_1))) = some (r1, r2) := by rw [if_pos rfl] at H; exact H
   clear H
   have H := H1
   clear H1
   replace H := Option.bind_eq_some_iff.mp H
   obtain ⟨t565, A80, H⟩ := H
   replace H : (if t565 = true then ((impl_within.f a2 1 20).bind fun t566 => (impl_ItineraryOf.j0 k l0 a2 (!t566) a1_0 a1_1)) else (impl_ItineraryOf.j0 k l0 a2 true a1_0 a1_1)) = some (r1, r2) := H
   have A8 := Aside0.mk A80
   clear A80
   by_cases c9 : t565 = true
   ·subst c9
    have H1 : ((impl_within.f a2 1 20).bind fun t566 => (impl_ItineraryOf.j0 k l0 a2 (!t566) a1_0 a1_1)) = some (r1, r2) := by rw [if_pos rfl] at H; exact H
    clear H
    have H := H1
    clear H1
    replace H := Option.bind_eq_some_iff.mp H
    obtain ⟨t566, A100, H⟩ := H
    replace H : (impl_ItineraryOf.j0 k l0 a2 (!t566) a1_0 a1_1) = some (r1, r2) := H
    have A10 := Aside0.mk A100
    clear A100
    have H' := Aside0.mk H
    clear H
    go_wp2_with (first | ((with_reducible refine gate_callee (f := 62) rfl ?_); refine gl 13 Try.func62 #[.slice A0 l0.length c0] ?_; (with_reducible refine (impl_isLapMap.calls k _ _ l0 true _ ?side1 ?side2 A6.out).mono ?_); (case side1 => repeat (first | exact (Kd.C_below HR0.out HB.out) | (with_reducible refine Kd.C_alloc ?_ _) | (with_reducible refine Kd.C_drewN ?_ _) | (with_reducible refine Kd.C_drew ?_))); (case side2 => exact HC0.out); rintro e w11 ⟨rfl, hb⟩; refine ⟨_, rfl, ?_⟩; replace BK563 := kb BK563 hb; replace HB := kh hb; (try clear hb); (try clear hb2); (try clear hk); (try clear hi); obtain ⟨hcz12_0, hcz12_1, hfz12_0, hfz12_1⟩ := b2 BK563) | (go_at_call 71; (with_reducible refine (impl_isUnit.calls k a1_0 a1_1 true _ A8.out).mono ?_); rintro e w13 ⟨rfl, hb⟩; replace BK563 := kb BK563 hb; replace HB := kh hb; (try clear hb); (try clear hb2); (try clear hk); (try clear hi)) | (go_at_call 72; (with_reducible refine (impl_within.calls a2 1 20 t566 _ A10.out).mono ?_); rintro e w' ⟨rfl, ⟨nd, rfl⟩⟩))
    go_meet
    case rel => exact ⟨_, (!t566), rs, H', ⟨by first | omega | exact Nat.le_refl _⟩, ⟨by (with_reducible repeat (first | refine blk_drewN ?_ _ | refine blk_drew ?_ | refine blk_alloc ?_ _)); exact BK563.out⟩, ⟨bl⟩⟩
   ·replace c9 := Bool.eq_false_iff.mpr c9
    subst c9
    have H1 : (impl_ItineraryOf.j0 k l0 a2 true a1_0 a1_1) = some (r1, r2) := by rw [if_neg (show ¬ (false = true) by decide)] at H; exact H
    clear H
    have H := H1
    clear H1
    have H' := Aside0.mk H
    clear H
    go_wp2_with (first | ((with_reducible refine gate_callee (f := 62) rfl ?_); refine gl 13 Try.func62 #[.slice A0 l0.length c0] ?_; (with_reducible refine (impl_isLapMap.calls k _ _ l0 true _ ?side1 ?side2 A6.out).mono ?_); (case side1 => repeat (first | exact (Kd.C_below HR0.out HB.out) | (with_reducible refine Kd.C_alloc ?_ _) | (with_reducible refine Kd.C_drewN ?_ _) | (with_reducible refine Kd.C_drew ?_))); (case side2 => exact HC0.out); rintro e w14 ⟨rfl, hb⟩; refine ⟨_, rfl, ?_⟩; replace BK563 := kb BK563 hb; replace HB := kh hb; (try clear hb); (try clear hb2); (try clear hk); (try clear hi); obtain ⟨hcz15_0, hcz15_1, hfz15_0, hfz15_1⟩ := b2 BK563) | (go_at_call 71; (with_reducible refine (impl_isUnit.calls k a1_0 a1_1 false _ A8.out).mono ?_); rintro e w16 ⟨rfl, hb⟩; replace BK563 := kb BK563 hb; replace HB := kh hb; (try clear hb); (try clear hb2); (try clear hk); (try clear hi)))
    go_meet
    case rel => exact ⟨_, (true), rs, H', ⟨by first | omega | exact Nat.le_refl _⟩, ⟨by (with_reducible repeat (first | refine blk_drewN ?_ _ | refine blk_drew ?_ | refine blk_alloc ?_ _)); exact BK563.out⟩, ⟨bl⟩⟩
  ·replace c7 := Bool.eq_false_iff.mpr c7
   subst c7
   have H1 : (impl_ItineraryOf.j0 k l0 a2 true a1_0 a1_1) = some (r1, r2) := by rw [if_neg (show ¬ (false = true) by decide)] at H; exact H
   clear H
   have H := H1
   clear H1
   have H' := Aside0.mk H
   clear H
   go_wp2_with (first | ((with_reducible refine gate_callee (f := 62) rfl ?_); refine gl 13 Try.func62 #[.slice A0 l0.length c0] ?_; (with_reducible refine (impl_isLapMap.calls k _ _ l0 false _ ?side1 ?side2 A6.out).mono ?_); (case side1 => repeat (first | exact (Kd.C_below HR0.out HB.out) | (with_reducible refine Kd.C_alloc ?_ _) | (with_reducible refine Kd.C_drewN ?_ _) | (with_reducible refine Kd.C_drew ?_))); (case side2 => exact HC0.out); rintro e w17 ⟨rfl, hb⟩; refine ⟨_, rfl, ?_⟩; replace BK563 := kb BK563 hb; replace HB := kh hb; (try clear hb); (try clear hb2); (try clear hk); (try clear hi)))
   go_meet
   case rel => exact ⟨_, (true), rs, H', ⟨by first | omega | exact Nat.le_refl _⟩, ⟨by (with_reducible repeat (first | refine blk_drewN ?_ _ | refine blk_drew ?_ | refine blk_alloc ?_ _)); exact BK563.out⟩, ⟨bl⟩⟩
 case rest =>
  clear HC4
  try clear p2
  try clear c4
  try clear c6
  try clear c7
  try clear c9
  try clear hcz12_0
  try clear hcz12_1
  try clear hcz15_0
  try clear hcz15_1
  try clear hfz12_0
  try clear hfz12_1
  try clear hfz15_0
  try clear hfz15_1
  obtain ⟨kq, x24_3, rfl, HA, HJ3, BK563, HB⟩ := hcut
  cases kq with
  | zero => exact absurd HA.out (by simp [impl_ItineraryOf.j0])
  | succ kj3 =>
   have H := HA.out
   clear HA
   simp only [impl_ItineraryOf.j0] at H
   by_cases c18 : x24_3 = true
   ·subst c18
    have H1 : (some (([] : List Int), false)) = some (r1, r2) := by rw [if_pos rfl] at H; exact H
    clear H
    have H := H1
    clear H1
    simp only [Option.some.injEq, Prod.mk.injEq] at H
    obtain ⟨rfl, rfl⟩ := H
    go_wp2
    go_ret2
    exact ⟨_, rt, by first | exact Kd.R_nil _ _ _ _ _ | exact Kd.N_nil _ _ _ _ _ | exact Kd.V_nil _ _ _ _ _ | exact Kd.Q_nil _ _ _ _ _ | exact Kd.S_nil _ _ _ _ _, bl⟩
   ·replace c18 := Bool.eq_false_iff.mpr c18
    subst c18
    have H1 : ((impl_orbit.f kj3 l0 a1_0 a1_1 (wrap64 (a2 - 1))).bind fun t567 => (if (t567.length : Int) < a2 then (some (([] : List Int), false)) else (impl_ItineraryOf.l0 kj3 l0 ([] : List Int) t567 (t567.length : Int) 0))) = some (r1, r2) := by rw [if_neg (show ¬ (false = true) by decide)] at H; exact H
    clear H
    have H := H1
    clear H1
    replace H := Option.bind_eq_some_iff.mp H
    obtain ⟨t567, A190, H⟩ := H
    replace H : (if (t567.length : Int) < a2 then (some (([] : List Int), false)) else (impl_ItineraryOf.l0 kj3 l0 ([] : List Int) t567 (t567.length : Int) 0)) = some (r1, r2) := H
    have A19 := Aside0.mk A190
    clear A190
    by_cases c20 : (t567.length : Int) < a2
    ·rw [if_pos c20] at H
     have c20b0 : decide ((t567.length : Int) < a2) = true := decide_eq_true c20
     clear c20
     simp only [Option.some.injEq, Prod.mk.injEq] at H
     obtain ⟨rfl, rfl⟩ := H
     obtain ⟨hcz21_0, hcz21_1, hfz21_0, hfz21_1⟩ := b2 BK563
     go_wp2_with (first | ((with_reducible refine gate_callee (f := 73) rfl ?_); refine gl 29 Try.func73 #[.slice A0 l0.length c0, .agg #[.int .i64 a1_0, .int .i64 a1_1], .int .i64 (wrap64 (a2 - 1))] ?_; (with_reducible refine (impl_orbit.calls kj3 _ _ l0 a1_0 a1_1 (wrap64 (a2 - 1)) t567 _ ?side1 ?side2 A19.out).mono ?_); (case side1 => repeat (first | exact (Kd.C_below HR0.out HB.out) | (with_reducible refine Kd.C_alloc ?_ _) | (with_reducible refine Kd.C_drewN ?_ _) | (with_reducible refine Kd.C_drew ?_))); (case side2 => exact HC0.out); rintro e w22 ⟨v568, rfl, ho0, hb⟩; refine ⟨_, rfl, ?_⟩; have HO569 := Aside0.mk (Kd.R_lower (Kd.R_newB ho0 (g := gb563) (o := .cells #[.int .i64 a1_0, .int .i64 a1_1] 28 (0, 0)) (bo gb563)) (below_size bl)); replace BK563 := kb BK563 hb; replace HB := kh hb; (try clear hb); (try clear hb2); (try clear hk); (try clear hi); (try clear ho0); obtain ⟨Ao23, co23, eo23⟩ := Kd.R_slice HO569.out; subst eo23))
     go_ret2
     exact ⟨_, rt, by first | exact Kd.R_nil _ _ _ _ _ | exact Kd.N_nil _ _ _ _ _ | exact Kd.V_nil _ _ _ _ _ | exact Kd.Q_nil _ _ _ _ _ | exact Kd.S_nil _ _ _ _ _, bl⟩
    ·rw [if_neg c20] at H
     have c20b0 : decide ((t567.length : Int) < a2) = false := decide_eq_false c20
     clear c20
     have H' := Aside0.mk H
     clear H
     obtain ⟨hcz24_0, hcz24_1, hfz24_0, hfz24_1⟩ := b2 BK563
     go_wp2_with (first | ((with_reducible refine gate_callee (f := 73) rfl ?_); refine gl 29 Try.func73 #[.slice A0 l0.length c0, .agg #[.int .i64 a1_0, .int .i64 a1_1], .int .i64 (wrap64 (a2 - 1))] ?_; (with_reducible refine (impl_orbit.calls kj3 _ _ l0 a1_0 a1_1 (wrap64 (a2 - 1)) t567 _ ?side1 ?side2 A19.out).mono ?_); (case side1 => repeat (first | exact (Kd.C_below HR0.out HB.out) | (with_reducible refine Kd.C_alloc ?_ _) | (with_reducible refine Kd.C_drewN ?_ _) | (with_reducible refine Kd.C_drew ?_))); (case side2 => exact HC0.out); rintro e w25 ⟨v568, rfl, ho0, hb⟩; refine ⟨_, rfl, ?_⟩; have HO569 := Aside0.mk (Kd.R_lower (Kd.R_newB ho0 (g := gb563) (o := .cells #[.int .i64 a1_0, .int .i64 a1_1] 28 (0, 0)) (bo gb563)) (below_size bl)); replace BK563 := kb BK563 hb; replace HB := kh hb; (try clear hb); (try clear hb2); (try clear hk); (try clear hi); (try clear ho0); obtain ⟨Ao26, co26, eo26⟩ := Kd.R_slice HO569.out; subst eo26))
     go_loopg [9, 36] kj3 (fun kq v9 v36 w' => ∃ (x9_2 : List Int) (x36_2 : Int), v36 = .int .i64 x36_2 ∧ Aside0 (impl_ItineraryOf.l0 kq l0 x9_2 t567 (t567.length : Int) x36_2 = some (r1, r2)) ∧ Aside0 (kq ≤ kj3) ∧ Aside0 (Kd.R (Kd.int .i64) 3 w' w.heap.size (fun _ => True) v9 x9_2) ∧ Aside0 (Kd.R k28 28 w' w.heap.size (fun k_ => k_ ≠ gb563) (.slice Ao26 t567.length co26) t567) ∧ Aside0 (w'.heap[gb563]? = some (.cells #[.int .i64 a1_0, .int .i64 a1_1] 28 (0, 0))) ∧ Aside0 (Below w.heap.size w w'))
     case atStart => exact ⟨(([] : List Int)), (0), rs, H', ⟨Nat.le_refl _⟩, ⟨by first | exact Kd.R_nil _ _ _ _ _ | exact Kd.N_nil _ _ _ _ _ | exact Kd.V_nil _ _ _ _ _ | exact Kd.Q_nil _ _ _ _ _ | exact Kd.S_nil _ _ _ _ _⟩, ⟨by (with_reducible repeat (first | apply Kd.R_alloc | apply Kd.R_drewN | apply Kd.R_drew)); exact Kd.R_mono HO569.out (fun _ hk => hk.2)⟩, ⟨by (with_reducible repeat (first | refine blk_drewN ?_ _ | refine blk_drew ?_ | refine blk_alloc ?_ _)); exact BK563.out⟩, ⟨bl⟩⟩
     case round =>
      clear H'
      try clear c1
      try clear c2
      try clear p2
      try clear c4
      try clear c6
      try clear p6
      try clear c7
      try clear c9
      try clear c18
      try clear c20
      try clear c20b0
      try clear hcz12_0
      try clear hcz12_1
      try clear hcz15_0
      try clear hcz15_1
      try clear hcz21_0
      try clear hcz21_1
      try clear hcz24_0
      try clear hcz24_1
      try clear hfz12_0
      try clear hfz12_1
      try clear hfz15_0
      try clear hfz15_1
      try clear hfz21_0
      try clear hfz21_1
      try clear hfz24_0
      try clear hfz24_1
      try clear p2
      obtain ⟨x9_2, x36_2, rfl, HA, HK2, HO_9, HO_34, BK563, HB⟩ := hrel
      cases gk with
      | zero => exact absurd HA.out (by simp [impl_ItineraryOf.l0])
      | succ k2 =>
       have H := HA.out
       clear HA
       simp only [impl_ItineraryOf.l0] at H
       by_cases c27 : x36_2 < (t567.length : Int)
       ·rw [if_pos c27] at H
        have c27b0 : decide (x36_2 < (t567.length : Int)) = true := decide_eq_true c27
        clear c27
        by_cases c28 : 0 ≤ x36_2
        ·rw [if_pos c28] at H
         have c28b0 : decide (0 ≤ x36_2) = true := decide_eq_true c28
         clear c28
         by_cases c29 : x36_2 < (t567.length : Int)
         ·rw [if_pos c29] at H
          have c29b0 : decide (x36_2 < (t567.length : Int)) = true := decide_eq_true c29
          clear c29
          replace H := Option.bind_eq_some_iff.mp H
          obtain ⟨t572, A300, H⟩ := H
          replace H : (if x9_2.length < 17592186044416 then (impl_ItineraryOf.l0 k2 l0 (x9_2 ++ [t572]) t567 (t567.length : Int) (wrap64 (x36_2 + 1))) else (none)) = some (r1, r2) := H
          have A30 := Aside0.mk A300
          clear A300
          by_cases c31 : x9_2.length < 17592186044416
          ·rw [if_pos c31] at H
           have LMc31 := Aside0.mk c31
           clear c31
           obtain ⟨y573, hy573⟩ : ∃ y_ : List Int, y_ = (x9_2 ++ [t572]) := ⟨_, rfl⟩
           replace H : (impl_ItineraryOf.l0 k2 l0 y573 t567 (t567.length : Int) (wrap64 (x36_2 + 1))) = some (r1, r2) := by first | (rw [hy573]; with_reducible exact H) | (have H2_ := (Option.bind_some _ _).symm.trans H; rw [hy573]; with_reducible exact H2_) | (have H2_ := (Option.bind_some _ _).symm.trans H; with_reducible exact H2_) | with_reducible exact H | (rw [hy573]; exact H) | exact H
           have Ny573 := Aside0.mk hy573
           clear hy573
           have H' := Aside0.mk H
           clear H
           have p570 : 0 ≤ (x36_2 : Int) := da
           have q570 : x36_2 < (t567.length : Int) := da
           obtain ⟨ad570, e570, hx570_0, hx570_1⟩ := at_T28 (Kd.R_reads' HO_34.out).2.2 x36_2 p570 q570
           cases e570
           replace p570 := eq_true p570
           replace q570 := eq_true q570
           go_wp2_with (first | ((with_reducible refine gate_dst (N := 11) rfl ?_); refine bx 11 #[.int .i64 0, .int .i64 0] 28 ?_; intro gb571 hg w32 hbox hb; have BK571 := Aside0.mk (hbox); have GW571 := Aside0.mk (bz hg); have GE571 := GW571; have NB563_571 := Aside0.mk (bn gb563 hg); have NB571_563 := sy NB563_571; replace HO_9 := Aside0.mk (Kd.R_below (by (with_reducible repeat (first | apply Kd.R_alloc | apply Kd.R_drewN | apply Kd.R_drew)); exact HO_9.out) hb); replace HO_34 := Aside0.mk (Kd.R_below (Kd.R_elderB (by (with_reducible repeat (first | apply Kd.R_alloc | apply Kd.R_drewN | apply Kd.R_drew)); exact HO_34.out) gb571 (Nat.le_of_eq hg.symm)) hb); replace BK563 := kb BK563 hb; replace HB := kh hb; clear hb hbox hg; have hnb33 := NB571_563.out; have hnc33 := NB563_571.out; obtain ⟨hcz34_0, hcz34_1, hfz34_0, hfz34_1⟩ := b2 BK571) | ((with_reducible refine gate_callee (f := 81) rfl ?_); refine gl 43 Try.func81 #[.slice A0 l0.length c0, .agg #[.int .i64 ((rd_T28 t567 x36_2).f0), .int .i64 ((rd_T28 t567 x36_2).f1)]] ?_; (with_reducible refine (impl_address.calls k2 _ _ l0 ((rd_T28 t567 x36_2).f0) ((rd_T28 t567 x36_2).f1) t572 _ ?side1 ?side2 A30.out).mono ?_); (case side1 => exact Kd.C_below HR0.out bl); (case side2 => exact HC0.out); rintro e w35 ⟨rfl, hb⟩; refine ⟨_, rfl, ?_⟩; replace HO_9 := Aside0.mk (Kd.R_below (by (with_reducible repeat (first | apply Kd.R_alloc | apply Kd.R_drewN | apply Kd.R_drew)); exact (Kd.R_mono (Kd.R_far (p := ⟨gb571, 1, none⟩) (Kd.R_far (p := ⟨gb571, 0, none⟩) (Kd.R_types HO_9.out BK571.out (by decide)) (fun _ hk => hk.2) (.int .i64 ((rd_T28 t567 x36_2).f0))) (fun _ hk => hk.2) (.int .i64 ((rd_T28 t567 x36_2).f1))) (fun _ h_ => h_.1))) hb); replace HO_34 := Aside0.mk (Kd.R_below (by (with_reducible repeat (first | apply Kd.R_alloc | apply Kd.R_drewN | apply Kd.R_drew)); exact (Kd.R_mono (Kd.R_far (p := ⟨gb571, 1, none⟩) (Kd.R_far (p := ⟨gb571, 0, none⟩) (Kd.R_mono HO_34.out (fun k_ hk => (⟨hk, hk.2⟩ : _ ∧ k_ ≠ gb571))) (fun _ hk => hk.2) (.int .i64 ((rd_T28 t567 x36_2).f0))) (fun _ hk => hk.2) (.int .i64 ((rd_T28 t567 x36_2).f1))) (fun _ h_ => h_.1))) hb); replace BK563 := Aside0.mk (blk_below (g := gb563) (o := .cells #[.int .i64 a1_0, .int .i64 a1_1] 28 (0, 0)) (by (with_reducible repeat (first | refine blk_drewN ?_ _ | refine blk_drew ?_ | refine blk_alloc ?_ _)); refine blk_far ?_ NB563_571.out _; (with_reducible repeat (first | refine blk_drewN ?_ _ | refine blk_drew ?_ | refine blk_alloc ?_ _)); refine blk_far ?_ NB563_571.out _; (with_reducible repeat (first | refine blk_drewN ?_ _ | refine blk_drew ?_ | refine blk_alloc ?_ _)); exact BK563.out) hb); replace BK571 := Aside0.mk (blk_below (g := gb571) (o := .cells #[.int .i64 ((rd_T28 t567 x36_2).f0), .int .i64 ((rd_T28 t567 x36_2).f1)] 28 (0, 0)) (by (with_reducible repeat (first | refine blk_drewN ?_ _ | refine blk_drew ?_ | refine blk_alloc ?_ _)); refine blk_put (cs := #[.int .i64 ((rd_T28 t567 x36_2).f0), .int .i64 0]) ?_ 1 _ rfl; (with_reducible repeat (first | refine blk_drewN ?_ _ | refine blk_drew ?_ | refine blk_alloc ?_ _)); refine blk_put (cs := #[.int .i64 0, .int .i64 0]) ?_ 0 _ rfl; (with_reducible repeat (first | refine blk_drewN ?_ _ | refine blk_drew ?_ | refine blk_alloc ?_ _)); exact BK571.out) hb); replace HB := kh hb; (try clear hb); (try clear hb2); (try clear hk); (try clear hi)) | ((with_reducible refine gate_builtin (b := .append) (xs := #[.tmp 40, .tmp 44]) rfl ?_); at_builtin; refine Kd.R_append (Kd.int .i64) (w0 := w) w.heap.size rfl (.tmp 40) (.tmp 44) 39 3 (.int .i64 0) 8 rfl Try.underlying39 info3 rfl (by decide) (by omega) u9 x9_2 t572 [.int .i64 t572] (fun _ => True) (fun _ => False) rfl rfl ?aP (fun _ hk => hk.elim) ?aF ?aO ?aB ?aS ?aL ?_; (case aP => exact rfl); (case aB => exact bl); (case aF => exact (fun _ _ => trivial)); (case aO => exact (by (with_reducible repeat (first | apply Kd.R_alloc | apply Kd.R_drewN | apply Kd.R_drew)); exact HO_9.out)); (case aS => exact (below_size bl)); (case aL => have := LMc31.out; omega); intro v574 w36 ho hb hg hat; rw [← Ny573.out] at ho; have HO575 := Aside0.mk (ho); replace HO_34 := Aside0.mk (Kd.R_over' (by (with_reducible repeat (first | apply Kd.R_alloc | apply Kd.R_drewN | apply Kd.R_drew)); exact HO_34.out) (Kd.R_typed (by (with_reducible repeat (first | apply Kd.R_alloc | apply Kd.R_drewN | apply Kd.R_drew)); exact HO_9.out)) (by decide) hg); replace BK563 := Aside0.mk (blk_grown (g := gb563) (o := .cells #[.int .i64 a1_0, .int .i64 a1_1] 28 (0, 0)) (bo gb563) hg (Kd.R_ne HO_9.out BK563.out (by decide))); replace BK571 := Aside0.mk (blk_grown (g := gb571) (o := .cells #[.int .i64 ((rd_T28 t567 x36_2).f0), .int .i64 ((rd_T28 t567 x36_2).f1)] 28 (0, 0)) (bo gb571) hg (Kd.R_ne HO_9.out BK571.out (by decide))); replace HB := Aside0.mk (hb); clear HO_9; clear ho hb hg hat))
           go_roundg k2
           case measure => have := HJ3.out; have := HK2.out; omega
           case rel => exact ⟨(y573), (wrap64 (x36_2 + 1)), rs, H', ⟨by have := HJ3.out; have := HK2.out; omega⟩, ⟨by (with_reducible repeat (first | apply Kd.R_alloc | apply Kd.R_drewN | apply Kd.R_drew)); exact HO575.out⟩, ⟨by (with_reducible repeat (first | apply Kd.R_alloc | apply Kd.R_drewN | apply Kd.R_drew)); exact Kd.R_mono HO_34.out (fun _ hk => hk.1)⟩, ⟨by (with_reducible repeat (first | refine blk_drewN ?_ _ | refine blk_drew ?_ | refine blk_alloc ?_ _)); exact BK563.out⟩, ⟨bl⟩⟩
          ·rw [if_neg c31] at H
           exact absurd H (by simp)
         ·rw [if_neg c29] at H
          exact absurd H (by simp)
        ·rw [if_neg c28] at H
         exact absurd H (by simp)
       ·rw [if_neg c27] at H
        have c27b0 : decide (x36_2 < (t567.length : Int)) = false := decide_eq_false c27
        clear c27
        simp only [Option.some.injEq, Prod.mk.injEq] at H
        obtain ⟨rfl, rfl⟩ := H
        go_wp2
        go_ret2
        exact ⟨_, rt, by (with_reducible repeat (first | apply Kd.R_alloc | apply Kd.R_drewN | apply Kd.R_drew)); exact HO_9.out, bl⟩

end Go.Proofs.Ytmecnnnagallnaa.PFnExactItineraryOf
