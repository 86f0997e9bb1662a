-- Written by this session's program wip/pp (the kit's print tool with additions) 35421559b90ae4d0a3588c463048766b98c2df88dd9212a6774a882060cdf62d
import Derived.Test.YtmecnnnagallnaaPFnExactCompareWordsx0
import Derived.Test.YtmecnnnagallnaaPFnExactCompareWordsx12
import Derived.Test.YtmecnnnagallnaaPFnExactCompareWordsx13
namespace Go.Proofs.Ytmecnnnagallnaa.PFnExactCompareWords
open Go.RowKit Go.Proofs.YtmecnnnagallnaaW.PrintWords Go.Proofs.YtmecnnnagallnaaW.PrintLast Go.Proofs.YtmecnnnagallnaaW.PrintMore
attribute [local go_sem] max2_int min2_int max_two min_two max_three min_three max_four min_four   -- for this text's walks alone
set_option linter.unusedVariables false
set_option linter.unusedSimpArgs false

/-! ### slices_IndexFunc__impl_isLapWord_1: function 126 -/
def slices_IndexFunc__impl_isLapWord_1.l0 : Nat → List Int → Int → Int → List Int → Option (Int)
 | 0, _, _, _, _ => none
 | k + 1, x0, x7, x8, x502 => if x8 < x7 then (if 0 ≤ x8 then (if x8 < (x0.length : Int) then ((impl_isLapWord_1_with.f (rd x0 x8) x502).bind fun t429 => (if t429 = true then (some x8) else (slices_IndexFunc__impl_isLapWord_1.l0 k x0 x7 (wrap64 (x8 + 1)) x502))) else (none)) else (none)) else (some (-1))
def slices_IndexFunc__impl_isLapWord_1.f (k : Nat) (l0 : List Int)  (l2 : List Int) : Option (Int) := slices_IndexFunc__impl_isLapWord_1.l0 k l0 (l0.length : Int) 0 l2
set_option maxHeartbeats 8000000 in
set_option maxRecDepth 100000 in
theorem slices_IndexFunc__impl_isLapWord_1.calls (k : Nat) (A0 : Option Addr) (c0 : Nat) (l0 : List Int)  (A2 : Option Addr) (c2 : Nat) (l2 : List Int) (r : Int) (w : World) (hr0 : Kd.C (Kd.int .i64) w A0 l0.length l0) (hc0 : l0.length ≤ c0) (hr2 : Kd.C (Kd.int .i64) w A2 l2.length l2) (hc2 : l2.length ≤ c2) (h : slices_IndexFunc__impl_isLapWord_1.f k l0 l2 = some r) :
  Calls Try.prog 126 #[.slice A0 l0.length c0, .func (.func 112) #[] #[.pointer A2]] w fun e w' => e = .returned (.int .i64 r) ∧ Drawn0 w w' := by
 have HR0 := Aside0.mk hr0
 have HC0 := Aside0.mk hc0
 clear hr0 hc0
 have HR2 := Aside0.mk hr2
 have HC2 := Aside0.mk hc2
 clear hr2 hc2
 have H : (slices_IndexFunc__impl_isLapWord_1.l0 k l0 (l0.length : Int) 0 l2) = some r := h
 clear h
 have H' := Aside0.mk H
 clear H
 go_enter Try.func126, Try.ntmps126
 go_wp2
 go_loopg [8] k (fun kq v8 w' => ∃ (x8_1 : Int), v8 = .int .i64 x8_1 ∧ Aside0 (slices_IndexFunc__impl_isLapWord_1.l0 kq l0 (l0.length : Int) x8_1 l2 = some r) ∧ Aside0 (kq ≤ k) ∧ Drawn0 w w')
 case atStart => exact ⟨(0), rs, H', ⟨Nat.le_refl _⟩, by repeat (first | exact Drawn0.refl _ | apply Drawn0.step)⟩
 case round =>
  clear H'
  try clear c2
  try clear p2
  obtain ⟨x8_1, rfl, HA, HK1, ⟨m1, rfl⟩⟩ := hrel
  cases gk with
  | zero => exact absurd HA.out (by simp [slices_IndexFunc__impl_isLapWord_1.l0])
  | succ k1 =>
   have H := HA.out
   clear HA
   simp only [slices_IndexFunc__impl_isLapWord_1.l0] at H
   by_cases c4 : x8_1 < (l0.length : Int)
   ·rw [if_pos c4] at H
    have c4b0 : decide (x8_1 < (l0.length : Int)) = true := decide_eq_true c4
    clear c4
    by_cases c5 : 0 ≤ x8_1
    ·rw [if_pos c5] at H
     have c5b0 : decide (0 ≤ x8_1) = true := decide_eq_true c5
     clear c5
     by_cases c6 : x8_1 < (l0.length : Int)
     ·rw [if_pos c6] at H
      have c6b0 : decide (x8_1 < (l0.length : Int)) = true := decide_eq_true c6
      clear c6
      replace H := Option.bind_eq_some_iff.mp H
      obtain ⟨t429, A70, H⟩ := H
      replace H : (if t429 = true then (some x8_1) else (slices_IndexFunc__impl_isLapWord_1.l0 k1 l0 (l0.length : Int) (wrap64 (x8_1 + 1)) l2)) = some r := H
      have A7 := Aside0.mk A70
      clear A70
      by_cases c8 : t429 = true
      ·subst c8
       have H1 : (some x8_1) = some r := by rw [if_pos rfl] at H; exact H
       clear H
       have H := H1
       clear H1
       obtain rfl := Option.some.inj H
       have p428 : 0 ≤ (x8_1 : Int) := da
       have q428 : x8_1 < (l0.length : Int) := da
       obtain ⟨ad428, e428, hx428_0⟩ := Kd.at_int HR0.out x8_1 p428 q428
       cases e428
       replace p428 := eq_true p428
       replace q428 := eq_true q428
       go_wp2_with (first | ((with_reducible refine gate_value (t := 11) rfl ?_); refine goesV_ (t := 11) (f := 112) rfl (some 16) rfl rfl Try.func112 (by kernel_rfl) rfl #[.int .i64 (rd l0 x8_1), .pointer A2] rfl (by (try simp only [List.map_toArray, List.map_cons, List.map_nil]); first | done | rfl | (simp only [List.length_drop, List.length_take]; rfl)) ?_; (with_reducible refine (impl_isLapWord_1_with.calls (rd l0 x8_1) _ c2 l2 true _ ?side1 ?side2 A7.out).mono ?_); (case side1 => repeat (first | exact HR2.out | (with_reducible refine Kd.C_alloc ?_ _) | (with_reducible refine Kd.C_drewN ?_ _) | (with_reducible refine Kd.C_drew ?_))); (case side2 => exact HC2.out); rintro e w' ⟨rfl, ⟨nd, rfl⟩⟩; refine ⟨_, rfl, ?_⟩))
       go_ret
       exact ⟨rs, by repeat (first | exact Drawn0.refl _ | apply Drawn0.step)⟩
      ·replace c8 := Bool.eq_false_iff.mpr c8
       subst c8
       have H1 : (slices_IndexFunc__impl_isLapWord_1.l0 k1 l0 (l0.length : Int) (wrap64 (x8_1 + 1)) l2) = some r := by rw [if_neg (show ¬ (false = true) by decide)] at H; exact H
       clear H
       have H := H1
       clear H1
       have H' := Aside0.mk H
       clear H
       have p428 : 0 ≤ (x8_1 : Int) := da
       have q428 : x8_1 < (l0.length : Int) := da
       obtain ⟨ad428, e428, hx428_0⟩ := Kd.at_int HR0.out x8_1 p428 q428
       cases e428
       replace p428 := eq_true p428
       replace q428 := eq_true q428
       go_wp2_with (first | ((with_reducible refine gate_value (t := 11) rfl ?_); refine goesV_ (t := 11) (f := 112) rfl (some 16) rfl rfl Try.func112 (by kernel_rfl) rfl #[.int .i64 (rd l0 x8_1), .pointer A2] rfl (by (try simp only [List.map_toArray, List.map_cons, List.map_nil]); first | done | rfl | (simp only [List.length_drop, List.length_take]; rfl)) ?_; (with_reducible refine (impl_isLapWord_1_with.calls (rd l0 x8_1) _ c2 l2 false _ ?side1 ?side2 A7.out).mono ?_); (case side1 => repeat (first | exact HR2.out | (with_reducible refine Kd.C_alloc ?_ _) | (with_reducible refine Kd.C_drewN ?_ _) | (with_reducible refine Kd.C_drew ?_))); (case side2 => exact HC2.out); rintro e w' ⟨rfl, ⟨nd, rfl⟩⟩; refine ⟨_, rfl, ?_⟩))
       go_roundg k1
       case measure => have := HK1.out; omega
       case rel => exact ⟨(wrap64 (x8_1 + 1)), rs, H', ⟨by have := HK1.out; omega⟩, by repeat (first | exact Drawn0.refl _ | apply Drawn0.step)⟩
     ·rw [if_neg c6] at H
      exact absurd H (by simp)
    ·rw [if_neg c5] at H
     exact absurd H (by simp)
   ·rw [if_neg c4] at H
    have c4b0 : decide (x8_1 < (l0.length : Int)) = false := decide_eq_false c4
    clear c4
    obtain rfl := Option.some.inj H
    go_wp2
    go_ret
    exact ⟨rs, by repeat (first | exact Drawn0.refl _ | apply Drawn0.step)⟩

/-! ### slices_ContainsFunc__impl_isLapWord_1: function 103 -/
def slices_ContainsFunc__impl_isLapWord_1.f (k : Nat) (l0 : List Int)  (l2 : List Int) : Option (Bool) := (slices_IndexFunc__impl_isLapWord_1.f k l0 l2).bind fun t430 => (some (decide (t430 ≥ 0)))
set_option maxHeartbeats 8000000 in
set_option maxRecDepth 100000 in
theorem slices_ContainsFunc__impl_isLapWord_1.calls (k : Nat) (A0 : Option Addr) (c0 : Nat) (l0 : List Int)  (A2 : Option Addr) (c2 : Nat) (l2 : List Int) (r : Bool) (w : World) (hr0 : Kd.C (Kd.int .i64) w A0 l0.length l0) (hc0 : l0.length ≤ c0) (hr2 : Kd.C (Kd.int .i64) w A2 l2.length l2) (hc2 : l2.length ≤ c2) (h : slices_ContainsFunc__impl_isLapWord_1.f k l0 l2 = some r) :
  Calls Try.prog 103 #[.slice A0 l0.length c0, .func (.func 112) #[] #[.pointer A2]] w fun e w' => e = .returned (.bool r) ∧ Drawn0 w w' := by
 have HR0 := Aside0.mk hr0
 have HC0 := Aside0.mk hc0
 clear hr0 hc0
 have HR2 := Aside0.mk hr2
 have HC2 := Aside0.mk hc2
 clear hr2 hc2
 have H : ((slices_IndexFunc__impl_isLapWord_1.f k l0 l2).bind fun t430 => (some (decide (t430 ≥ 0)))) = some r := h
 clear h
 replace H := Option.bind_eq_some_iff.mp H
 obtain ⟨t430, A40, H⟩ := H
 replace H : (some (decide (t430 ≥ 0))) = some r := H
 have A4 := Aside0.mk A40
 clear A40
 obtain rfl := Option.some.inj H
 go_enter Try.func103, Try.ntmps103
 go_wp2_with (first | ((with_reducible refine gate_callee (f := 126) rfl ?_); refine gl 7 Try.func126 #[.slice A0 l0.length c0, .func (.func 112) #[] #[.pointer A2]] ?_; (with_reducible refine (slices_IndexFunc__impl_isLapWord_1.calls k _ _ l0  _ c2 l2 t430 _ ?side1 ?side2 ?side3 ?side4 A4.out).mono ?_); (case side1 => repeat (first | exact HR0.out | (with_reducible refine Kd.C_alloc ?_ _) | (with_reducible refine Kd.C_drewN ?_ _) | (with_reducible refine Kd.C_drew ?_))); (case side2 => exact HC0.out); (case side3 => repeat (first | exact HR2.out | (with_reducible refine Kd.C_alloc ?_ _) | (with_reducible refine Kd.C_drewN ?_ _) | (with_reducible refine Kd.C_drew ?_))); (case side4 => exact HC2.out); rintro e w' ⟨rfl, ⟨nd, rfl⟩⟩; refine ⟨_, rfl, ?_⟩))
 go_ret
 exact ⟨rs, by repeat (first | exact Drawn0.refl _ | apply Drawn0.step)⟩

/-! ### impl_isLapWord: function 63 -/
def impl_isLapWord.f (k : Nat) (l0 : List (S68)) (l1 : List Int) : Option (Bool) := (impl_laps.f k l0).bind fun t431 => (if (l1.length : Int) ≤ 20 then ((slices_ContainsFunc__impl_isLapWord_1.f k l1 [(t431.length : Int)]).bind fun t435 => (some (!t435))) else (some false))
set_option maxHeartbeats 8000000 in
set_option maxRecDepth 100000 in
theorem impl_isLapWord.calls (k : Nat) (A0 : Option Addr) (c0 : Nat) (l0 : List (S68)) (A1 : Option Addr) (c1 : Nat) (l1 : List Int) (r : Bool) (w : World) (hr0 : Kd.C k68 w A0 l0.length l0) (hc0 : l0.length ≤ c0) (hr1 : Kd.C (Kd.int .i64) w A1 l1.length l1) (hc1 : l1.length ≤ c1) (h : impl_isLapWord.f k l0 l1 = some r) :
  Calls Try.prog 63 #[.slice A0 l0.length c0, .slice A1 l1.length c1] w fun e w' => e = .returned (.bool r) ∧ Below w.heap.size w w' := by
 have HR0 := Aside0.mk hr0
 have HC0 := Aside0.mk hc0
 clear hr0 hc0
 have HR1 := Aside0.mk hr1
 have HC1 := Aside0.mk hc1
 clear hr1 hc1
 have HB := Aside0.mk (Below.refl w.heap.size w)
 have H : ((impl_laps.f k l0).bind fun t431 => (if (l1.length : Int) ≤ 20 then ((slices_ContainsFunc__impl_isLapWord_1.f k l1 [(t431.length : Int)]).bind fun t435 => (some (!t435))) else (some false))) = some r := h
 clear h
 replace H := Option.bind_eq_some_iff.mp H
 obtain ⟨t431, A30, H⟩ := H
 replace H : (if (l1.length : Int) ≤ 20 then ((slices_ContainsFunc__impl_isLapWord_1.f k l1 [(t431.length : Int)]).bind fun t435 => (some (!t435))) else (some false)) = some r := H
 have A3 := Aside0.mk A30
 clear A30
 by_cases c4 : (l1.length : Int) ≤ 20
 ·rw [if_pos c4] at H
  have c4b0 : decide ((l1.length : Int) ≤ 20) = true := decide_eq_true c4
  have c4b1 : decide (l1.length ≤ 20) = true := decide_eq_true (by omega)
  clear c4
  replace H := Option.bind_eq_some_iff.mp H
  obtain ⟨t435, A50, H⟩ := H
  replace H : (some (!t435)) = some r := H
  have A5 := Aside0.mk A50
  clear A50
  obtain rfl := Option.some.inj H
  go_enter Try.func63, Try.ntmps63
  go_wp2_with (first | ((with_reducible refine gate_callee (f := 111) rfl ?_); refine gl 7 Try.func111 #[.slice A0 l0.length c0] ?_; (with_reducible refine (impl_laps.calls k _ _ l0 t431 _ ?side1 ?side2 A3.out).mono ?_); (case side1 => repeat (first | exact HR0.out | (with_reducible refine Kd.C_alloc ?_ _) | (with_reducible refine Kd.C_drewN ?_ _) | (with_reducible refine Kd.C_drew ?_))); (case side2 => exact HC0.out); rintro e w6 ⟨v432, rfl, ho0, hb⟩; refine ⟨_, rfl, ?_⟩; have HO433 := Aside0.mk (Kd.S_lower ho0 (below_size bl)); replace HB := kh hb; (try clear hb); (try clear hb2); (try clear hk); (try clear hi); (try clear ho0); obtain ⟨Ao7, co7, eo7⟩ := Kd.S_slice HO433.out; subst eo7) | ((with_reducible refine gate_dst (N := 5) rfl ?_); refine bx 5 #[.int .i64 0] 3 ?_; intro gb434 hg w8 hbox hb; have BK434 := Aside0.mk (hbox); have GW434 := Aside0.mk (bz hg); have GE434 := GW434; replace HO433 := Aside0.mk (Kd.S_below (Kd.S_elderB (by (with_reducible repeat (first | apply Kd.S_alloc | apply Kd.S_drewN | apply Kd.S_drew)); exact HO433.out) gb434 (Nat.le_of_eq hg.symm)) hb); replace HB := kh hb; clear hb hbox hg; obtain ⟨hcz9_0, hfz9_0⟩ := b1 BK434) | (go_at_call 103; (with_reducible refine (slices_ContainsFunc__impl_isLapWord_1.calls k _ _ l1  _ 1 [(t431.length : Int)] t435 _ ?side1 ?side2 ?side3 ?side4 A5.out).mono ?_); (case side1 => exact Kd.C_below HR1.out bl); (case side2 => exact HC1.out); (case side3 => exact capC (t := 3) (d := (Kd.int .i64)) (cs := [.int .i64 (t431.length : Int)]) (x := (t431.length : Int)) (by (with_reducible repeat (first | refine blk_drewN ?_ _ | refine blk_drew ?_ | refine blk_alloc ?_ _)); refine blk_put (cs := #[.int .i64 0]) ?_ 0 _ rfl; (with_reducible repeat (first | refine blk_drewN ?_ _ | refine blk_drew ?_ | refine blk_alloc ?_ _)); exact BK434.out) (rfl)); (case side4 => exact Nat.le_refl _); rintro e w' ⟨rfl, ⟨nd, rfl⟩⟩))
  go_ret
  exact ⟨rt, bl⟩
 ·rw [if_neg c4] at H
  have c4b0 : decide ((l1.length : Int) ≤ 20) = false := decide_eq_false c4
  have c4b1 : decide (l1.length ≤ 20) = false := decide_eq_false (by omega)
  clear c4
  obtain rfl := Option.some.inj H
  go_enter Try.func63, Try.ntmps63
  go_wp2_with (first | ((with_reducible refine gate_callee (f := 111) rfl ?_); refine gl 7 Try.func111 #[.slice A0 l0.length c0] ?_; (with_reducible refine (impl_laps.calls k _ _ l0 t431 _ ?side1 ?side2 A3.out).mono ?_); (case side1 => repeat (first | exact HR0.out | (with_reducible refine Kd.C_alloc ?_ _) | (with_reducible refine Kd.C_drewN ?_ _) | (with_reducible refine Kd.C_drew ?_))); (case side2 => exact HC0.out); rintro e w10 ⟨v432, rfl, ho0, hb⟩; refine ⟨_, rfl, ?_⟩; have HO433 := Aside0.mk (Kd.S_lower ho0 (below_size bl)); replace HB := kh hb; (try clear hb); (try clear hb2); (try clear hk); (try clear hi); (try clear ho0); obtain ⟨Ao11, co11, eo11⟩ := Kd.S_slice HO433.out; subst eo11) | ((with_reducible refine gate_dst (N := 5) rfl ?_); refine bx 5 #[.int .i64 0] 3 ?_; intro gb434 hg w12 hbox hb; have BK434 := Aside0.mk (hbox); have GW434 := Aside0.mk (bz hg); have GE434 := GW434; replace HO433 := Aside0.mk (Kd.S_below (Kd.S_elderB (by (with_reducible repeat (first | apply Kd.S_alloc | apply Kd.S_drewN | apply Kd.S_drew)); exact HO433.out) gb434 (Nat.le_of_eq hg.symm)) hb); replace HB := kh hb; clear hb hbox hg; obtain ⟨hcz13_0, hfz13_0⟩ := b1 BK434))
  go_ret
  exact ⟨rt, bl⟩

/-! ### impl_wordSign: function 64 -/
def impl_wordSign.l0 : Nat → List (List Int) → Int → List Int → Int → Int → Option (Int)
 | 0, _, _, _, _, _ => none
 | k + 1, x5, x6, x11, x12, x13 => if x13 < x12 then (if 0 ≤ x13 then (if x13 < (x11.length : Int) then (if 0 ≤ (rd x11 x13) then (if (rd x11 x13) < (x5.length : Int) then (if 2 < ((rd_L5 x5 (rd x11 x13)).length : Int) then (impl_wordSign.l0 k x5 (wrap64 (x6 * (rd (rd_L5 x5 (rd x11 x13)) 2))) x11 x12 (wrap64 (x13 + 1))) else (none)) else (none)) else (none)) else (none)) else (none)) else (some x6)
def impl_wordSign.f (k : Nat) (l0 : List (S68)) (l1 : List Int) : Option (Int) := (impl_laps.f k l0).bind fun t436 => (impl_wordSign.l0 k t436 1 l1 (l1.length : Int) 0)
set_option maxHeartbeats 8000000 in
set_option maxRecDepth 100000 in
theorem impl_wordSign.calls (k : Nat) (A0 : Option Addr) (c0 : Nat) (l0 : List (S68)) (A1 : Option Addr) (c1 : Nat) (l1 : List Int) (r : Int) (w : World) (hr0 : Kd.C k68 w A0 l0.length l0) (hc0 : l0.length ≤ c0) (hr1 : Kd.C (Kd.int .i64) w A1 l1.length l1) (hc1 : l1.length ≤ c1) (h : impl_wordSign.f k l0 l1 = some r) :
  Calls Try.prog 64 #[.slice A0 l0.length c0, .slice A1 l1.length c1] w fun e w' => e = .returned (.int .i64 r) ∧ Below w.heap.size w w' := by
 have HR0 := Aside0.mk hr0
 have HC0 := Aside0.mk hc0
 clear hr0 hc0
 have HR1 := Aside0.mk hr1
 have HC1 := Aside0.mk hc1
 clear hr1 hc1
 have HB := Aside0.mk (Below.refl w.heap.size w)
 have H : ((impl_laps.f k l0).bind fun t436 => (impl_wordSign.l0 k t436 1 l1 (l1.length : Int) 0)) = some r := h
 clear h
 replace H := Option.bind_eq_some_iff.mp H
 obtain ⟨t436, A30, H⟩ := H
 replace H : (impl_wordSign.l0 k t436 1 l1 (l1.length : Int) 0) = some r := H
 have A3 := Aside0.mk A30
 clear A30
 have H' := Aside0.mk H
 clear H
 go_enter Try.func64, Try.ntmps64
 go_wp2_with (first | ((with_reducible refine gate_callee (f := 111) rfl ?_); refine gl 10 Try.func111 #[.slice A0 l0.length c0] ?_; (with_reducible refine (impl_laps.calls k _ _ l0 t436 _ ?side1 ?side2 A3.out).mono ?_); (case side1 => repeat (first | exact HR0.out | (with_reducible refine Kd.C_alloc ?_ _) | (with_reducible refine Kd.C_drewN ?_ _) | (with_reducible refine Kd.C_drew ?_))); (case side2 => exact HC0.out); rintro e w4 ⟨v437, rfl, ho0, hb⟩; refine ⟨_, rfl, ?_⟩; have HO438 := Aside0.mk (Kd.S_lower ho0 (below_size bl)); replace HB := kh hb; (try clear hb); (try clear hb2); (try clear hk); (try clear hi); (try clear ho0)))
 go_loopg [6, 13] k (fun kq v6 v13 w' => ∃ (x6_1 : Int) (x13_1 : Int), v6 = .int .i64 x6_1 ∧ v13 = .int .i64 x13_1 ∧ Aside0 (impl_wordSign.l0 kq t436 x6_1 l1 (l1.length : Int) x13_1 = some r) ∧ Aside0 (kq ≤ k) ∧ Aside0 (Kd.S (Kd.slice 3 (Kd.int .i64)) 39 w' w.heap.size (fun _ => True) v437 t436) ∧ Aside0 (Below w.heap.size w w'))
 case atStart => exact ⟨(1), (0), rs, rs, H', ⟨Nat.le_refl _⟩, ⟨by (with_reducible repeat (first | apply Kd.S_alloc | apply Kd.S_drewN | apply Kd.S_drew)); exact HO438.out⟩, ⟨bl⟩⟩
 case round =>
  clear H'
  try clear c1
  try clear p2
  obtain ⟨x6_1, x13_1, rfl, rfl, HA, HK1, HO_5, HB⟩ := hrel
  cases gk with
  | zero => exact absurd HA.out (by simp [impl_wordSign.l0])
  | succ k1 =>
   have H := HA.out
   clear HA
   simp only [impl_wordSign.l0] at H
   by_cases c5 : x13_1 < (l1.length : Int)
   ·rw [if_pos c5] at H
    have c5b0 : decide (x13_1 < (l1.length : Int)) = true := decide_eq_true c5
    clear c5
    by_cases c6 : 0 ≤ x13_1
    ·rw [if_pos c6] at H
     have c6b0 : decide (0 ≤ x13_1) = true := decide_eq_true c6
     clear c6
     by_cases c7 : x13_1 < (l1.length : Int)
     ·rw [if_pos c7] at H
      have c7b0 : decide (x13_1 < (l1.length : Int)) = true := decide_eq_true c7
      clear c7
      by_cases c8 : 0 ≤ (rd l1 x13_1)
      ·rw [if_pos c8] at H
       have c8b0 : decide (0 ≤ (rd l1 x13_1)) = true := decide_eq_true c8
       clear c8
       by_cases c9 : (rd l1 x13_1) < (t436.length : Int)
       ·rw [if_pos c9] at H
        have c9b0 : decide ((rd l1 x13_1) < (t436.length : Int)) = true := decide_eq_true c9
        clear c9
        by_cases c10 : 2 < ((rd_L5 t436 (rd l1 x13_1)).length : Int)
        ·rw [if_pos c10] at H
         have c10b0 : decide (2 < ((rd_L5 t436 (rd l1 x13_1)).length : Int)) = true := decide_eq_true c10
         have c10b1 : decide (2 < (rd_L5 t436 (rd l1 x13_1)).length) = true := decide_eq_true (by omega)
         clear c10
         have H' := Aside0.mk H
         clear H
         have p439 : 0 ≤ (x13_1 : Int) := da
         have q439 : x13_1 < (l1.length : Int) := da
         obtain ⟨ad439, e439, hx439_0⟩ := Kd.at_int HR1.out x13_1 p439 q439
         cases e439
         replace hx439_0 := (hc HB hx439_0 :)
         replace p439 := eq_true p439
         replace q439 := eq_true q439
         obtain ⟨Ao11, co11, eo11⟩ := Kd.S_slice HO_5.out
         subst eo11
         have p440 : 0 ≤ ((rd l1 x13_1) : Int) := da
         have q440 : (rd l1 x13_1) < (t436.length : Int) := da
         obtain ⟨ad440, A440_0, c440_0, e440, hx440_0, hl440_0, hi440_0⟩ := at_L5 (Kd.S_reads' HO_5.out).2.2 (rd l1 x13_1) p440 q440
         cases e440
         obtain ⟨ce440, hce440, hMe440, hcc440⟩ := Kd.S_get HO_5.out [] (rd l1 x13_1) p440 (by first | exact q440 | exact da | (have e_ := (Kd.S_reads' HO_5.out).1; omega))
         obtain ⟨ve440_0, rfl, ge440_0⟩ := hMe440
         have hv440_0 := hcc440 0 _ rfl
         rw [Nat.add_zero, show ((Kd.slice 3 (Kd.int .i64))).sz = 1 from rfl, Nat.mul_one] at hv440_0
         replace hv440_0 := Option.some.inj (hv440_0.symm.trans hx440_0)
         rw [hv440_0] at ge440_0
         have HL440_0 := Aside0.mk (show Kd.R (Kd.int .i64) 3 _ _ _ _ (rd_L5 t436 (rd l1 x13_1)) from ge440_0)
         clear hv440_0 ge440_0
         clear hcc440 hce440
         have HR440_0 := Aside0.mk hi440_0
         have HC440_0 := Aside0.mk hl440_0
         clear hi440_0 hl440_0
         replace p440 := eq_true p440
         replace q440 := eq_true q440
         have p441 : 0 ≤ (2 : Int) := (by omega)
         have q441 : 2 < ((rd_L5 t436 (rd l1 x13_1)).length : Int) := da
         obtain ⟨ad441, e441, hx441_0⟩ := Kd.at_int (by repeat (first | (with_reducible exact HR440_0.out) | (with_reducible refine Kd.C_alloc ?_ _) | (with_reducible refine Kd.C_drewN ?_ _) | (with_reducible refine Kd.C_drew ?_) | exact HR440_0.out)) 2 p441 q441
         cases e441
         (try simp only [show (2 : Int).toNat = 2 from rfl, Nat.reduceMul, Nat.reduceEqDiff, Go.Addr.add, ↓reduceIte] at hx441_0)
         have qi441 : (2 < (rd_L5 t436 (rd l1 x13_1)).length) = True := eq_true (by omega)
         (try rw [show ((2 : Int)).toNat = 2 from rfl] at hx441_0)
         replace p441 := eq_true p441
         replace q441 := eq_true q441
         go_wp2
         go_roundg k1
         case measure => have := HK1.out; omega
         case rel => exact ⟨(wrap64 (x6_1 * (rd (rd_L5 t436 (rd l1 x13_1)) 2))), (wrap64 (x13_1 + 1)), rs, rs, H', ⟨by have := HK1.out; omega⟩, ⟨by (with_reducible repeat (first | apply Kd.S_alloc | apply Kd.S_drewN | apply Kd.S_drew)); exact HO_5.out⟩, ⟨bl⟩⟩
        ·rw [if_neg c10] at H
         exact absurd H (by simp)
       ·rw [if_neg c9] at H
        exact absurd H (by simp)
      ·rw [if_neg c8] at H
       exact absurd H (by simp)
     ·rw [if_neg c7] at H
      exact absurd H (by simp)
    ·rw [if_neg c6] at H
     exact absurd H (by simp)
   ·rw [if_neg c5] at H
    have c5b0 : decide (x13_1 < (l1.length : Int)) = false := decide_eq_false c5
    clear c5
    obtain rfl := Option.some.inj H
    go_wp2
    go_ret
    exact ⟨rt, bl⟩

/-! ### impl_compareWords: function 76 -/
def impl_compareWords.l0 : Nat → List (S68) → List Int → List Int → Int → Int → Option (Int)
 | 0, _, _, _, _, _ => none
 | k + 1, x0, x1, x2, x9, x10 => if x10 < x9 then (if 0 ≤ x10 then (if x10 < (x1.length : Int) then (if x10 < (x2.length : Int) then (if (rd x1 x10) < (rd x2 x10) then (if x10 ≤ (x1.length : Int) then ((impl_wordSign.f k x0 (x1.take (x10 : Int).toNat)).bind fun t445 => (some (wrap64 (-t445)))) else (none)) else (if (rd x1 x10) > (rd x2 x10) then (if x10 ≤ (x1.length : Int) then ((impl_wordSign.f k x0 (x1.take (x10 : Int).toNat)).bind fun t449 => (some t449)) else (none)) else (impl_compareWords.l0 k x0 x1 x2 x9 (wrap64 (x10 + 1))))) else (none)) else (none)) else (none)) else (some 0)
def impl_compareWords.f (k : Nat) (l0 : List (S68)) (l1 : List Int) (l2 : List Int) : Option (Int) := impl_compareWords.l0 k l0 l1 l2 (l1.length : Int) 0
set_option maxHeartbeats 8000000 in
set_option maxRecDepth 100000 in
theorem impl_compareWords.calls (k : Nat) (A0 : Option Addr) (c0 : Nat) (l0 : List (S68)) (A1 : Option Addr) (c1 : Nat) (l1 : List Int) (A2 : Option Addr) (c2 : Nat) (l2 : List Int) (r : Int) (w : World) (hr0 : Kd.C k68 w A0 l0.length l0) (hc0 : l0.length ≤ c0) (hr1 : Kd.C (Kd.int .i64) w A1 l1.length l1) (hc1 : l1.length ≤ c1) (hr2 : Kd.C (Kd.int .i64) w A2 l2.length l2) (hc2 : l2.length ≤ c2) (h : impl_compareWords.f k l0 l1 l2 = some r) :
  Calls Try.prog 76 #[.slice A0 l0.length c0, .slice A1 l1.length c1, .slice A2 l2.length c2] w fun e w' => e = .returned (.int .i64 r) ∧ Below w.heap.size w w' := by
 have HR0 := Aside0.mk hr0
 have HC0 := Aside0.mk hc0
 clear hr0 hc0
 have HR1 := Aside0.mk hr1
 have HC1 := Aside0.mk hc1
 clear hr1 hc1
 have HR2 := Aside0.mk hr2
 have HC2 := Aside0.mk hc2
 clear hr2 hc2
 have HB := Aside0.mk (Below.refl w.heap.size w)
 have H : (impl_compareWords.l0 k l0 l1 l2 (l1.length : Int) 0) = some r := h
 clear h
 have H' := Aside0.mk H
 clear H
 go_enter Try.func76, Try.ntmps76
 go_wp2
 repeat (go_quiet (fail); try go_wp2)
 go_loopg [10] k (fun kq v10 w' => ∃ (x10_1 : Int), v10 = .int .i64 x10_1 ∧ Aside0 (impl_compareWords.l0 kq l0 l1 l2 (l1.length : Int) x10_1 = some r) ∧ Aside0 (kq ≤ k) ∧ Aside0 (Below w.heap.size w w'))
 case atStart => exact ⟨(0), rs, H', ⟨Nat.le_refl _⟩, ⟨bl⟩⟩
 case round =>
  clear H'
  try clear c1
  try clear c2
  try clear p2
  obtain ⟨x10_1, rfl, HA, HK1, HB⟩ := hrel
  cases gk with
  | zero => exact absurd HA.out (by simp [impl_compareWords.l0])
  | succ k1 =>
   have H := HA.out
   clear HA
   simp only [impl_compareWords.l0] at H
   by_cases c4 : x10_1 < (l1.length : Int)
   ·rw [if_pos c4] at H
    have c4b0 : decide (x10_1 < (l1.length : Int)) = true := decide_eq_true c4
    clear c4
    by_cases c5 : 0 ≤ x10_1
    ·rw [if_pos c5] at H
     have c5b0 : decide (0 ≤ x10_1) = true := decide_eq_true c5
     clear c5
     by_cases c6 : x10_1 < (l1.length : Int)
     ·rw [if_pos c6] at H
      have c6b0 : decide (x10_1 < (l1.length : Int)) = true := decide_eq_true c6
      clear c6
      by_cases c7 : x10_1 < (l2.length : Int)
      ·rw [if_pos c7] at H
       have c7b0 : decide (x10_1 < (l2.length : Int)) = true := decide_eq_true c7
       clear c7
       by_cases c8 : (rd l1 x10_1) < (rd l2 x10_1)
       ·rw [if_pos c8] at H
        have c8b0 : decide ((rd l1 x10_1) < (rd l2 x10_1)) = true := decide_eq_true c8
        clear c8
        have c9b0 := eq_true (da : 0 ≤ x10_1)
        by_cases c10 : x10_1 ≤ (l1.length : Int)
        ·rw [if_pos c10] at H
         have c10b0 := eq_true c10
         have c10b1 : decide (x10_1 ≤ (l1.length : Int)) = true := decide_eq_true c10
         clear c10
         replace H := Option.bind_eq_some_iff.mp H
         obtain ⟨t445, A110, H⟩ := H
         replace H : (some (wrap64 (-t445))) = some r := H
         have A11 := Aside0.mk A110
         clear A110
         obtain rfl := Option.some.inj H
         have p442 : 0 ≤ (x10_1 : Int) := da
         have q442 : x10_1 < (l1.length : Int) := da
         obtain ⟨ad442, e442, hx442_0⟩ := Kd.at_int HR1.out x10_1 p442 q442
         cases e442
         replace hx442_0 := (hc HB hx442_0 :)
         replace p442 := eq_true p442
         replace q442 := eq_true q442
         have p443 : 0 ≤ (x10_1 : Int) := da
         have q443 : x10_1 < (l2.length : Int) := da
         obtain ⟨ad443, e443, hx443_0⟩ := Kd.at_int HR2.out x10_1 p443 q443
         cases e443
         replace hx443_0 := (hc HB hx443_0 :)
         replace p443 := eq_true p443
         replace q443 := eq_true q443
         obtain ⟨i012, hi012, _, hsz12, _⟩ := info_parts info3
         obtain ⟨hcut12, hA12, hC12⟩ := print_take_of (P := Try.prog) (Value.int .i64) 0 39 3 .i64 Try.underlying39 hi012 hsz12 (some ad442) c1 l1 x10_1 (da) (da) HC1.out
         have HR444 := Aside0.mk (Kd.C_of_reads (h1 := fun _ => rfl) (hA12 _ (Kd.reads_of_C HR1.out)))
         have HC444 := Aside0.mk hC12
         clear hA12 hC12 hi012 hsz12
         go_wp2_with (first | (go_at_call 64; refine calls_of_args (args' := #[.slice A0 l0.length c0, .slice (some ad442) (l1.take (x10_1 : Int).toNat).length c1]) (by first | (rw [show (l1.take (x10_1 : Int).toNat).length = x10_1.toNat from (by rw [List.length_take]; have h_ : (x10_1 : Int) ≤ (l1.length : Int) := da; omega)] <;> rfl) | rfl) ?_; (with_reducible refine (impl_wordSign.calls k1 _ _ l0 _ _ (l1.take (x10_1 : Int).toNat) t445 _ ?side1 ?side2 ?side3 ?side4 A11.out).mono ?_); (case side1 => repeat (first | exact (Kd.C_below HR0.out HB.out) | (with_reducible refine Kd.C_alloc ?_ _) | (with_reducible refine Kd.C_drewN ?_ _) | (with_reducible refine Kd.C_drew ?_))); (case side2 => exact HC0.out); (case side3 => repeat (first | exact (Kd.C_below HR444.out HB.out) | (with_reducible refine Kd.C_alloc ?_ _) | (with_reducible refine Kd.C_drewN ?_ _) | (with_reducible refine Kd.C_drew ?_))); (case side4 => exact HC444.out); rintro e w13 ⟨rfl, hb⟩; replace HB := kh hb; (try clear hb); (try clear hb2); (try clear hk); (try clear hi)))
         repeat (go_quiet (first | (go_at_call 64; refine calls_of_args (args' := #[.slice A0 l0.length c0, .slice (some ad442) (l1.take (x10_1 : Int).toNat).length c1]) (by first | (rw [show (l1.take (x10_1 : Int).toNat).length = x10_1.toNat from (by rw [List.length_take]; have h_ : (x10_1 : Int) ≤ (l1.length : Int) := da; omega)] <;> rfl) | rfl) ?_; (with_reducible refine (impl_wordSign.calls k1 _ _ l0 _ _ (l1.take (x10_1 : Int).toNat) t445 _ ?side1 ?side2 ?side3 ?side4 A11.out).mono ?_); (case side1 => repeat (first | exact (Kd.C_below HR0.out HB.out) | (with_reducible refine Kd.C_alloc ?_ _) | (with_reducible refine Kd.C_drewN ?_ _) | (with_reducible refine Kd.C_drew ?_))); (case side2 => exact HC0.out); (case side3 => repeat (first | exact (Kd.C_below HR444.out HB.out) | (with_reducible refine Kd.C_alloc ?_ _) | (with_reducible refine Kd.C_drewN ?_ _) | (with_reducible refine Kd.C_drew ?_))); (case side4 => exact HC444.out); rintro e w13 ⟨rfl, hb⟩; replace HB := kh hb; (try clear hb); (try clear hb2); (try clear hk); (try clear hi))); try go_wp2_with (first | (go_at_call 64; refine calls_of_args (args' := #[.slice A0 l0.length c0, .slice (some ad442) (l1.take (x10_1 : Int).toNat).length c1]) (by first | (rw [show (l1.take (x10_1 : Int).toNat).length = x10_1.toNat from (by rw [List.length_take]; have h_ : (x10_1 : Int) ≤ (l1.length : Int) := da; omega)] <;> rfl) | rfl) ?_; (with_reducible refine (impl_wordSign.calls k1 _ _ l0 _ _ (l1.take (x10_1 : Int).toNat) t445 _ ?side1 ?side2 ?side3 ?side4 A11.out).mono ?_); (case side1 => repeat (first | exact (Kd.C_below HR0.out HB.out) | (with_reducible refine Kd.C_alloc ?_ _) | (with_reducible refine Kd.C_drewN ?_ _) | (with_reducible refine Kd.C_drew ?_))); (case side2 => exact HC0.out); (case side3 => repeat (first | exact (Kd.C_below HR444.out HB.out) | (with_reducible refine Kd.C_alloc ?_ _) | (with_reducible refine Kd.C_drewN ?_ _) | (with_reducible refine Kd.C_drew ?_))); (case side4 => exact HC444.out); rintro e w13 ⟨rfl, hb⟩; replace HB := kh hb; (try clear hb); (try clear hb2); (try clear hk); (try clear hi))))
         go_ret
         exact ⟨rt, bl⟩
        ·rw [if_neg c10] at H
         exact absurd H (by simp)
       ·rw [if_neg c8] at H
        have c8b0 : decide ((rd l1 x10_1) < (rd l2 x10_1)) = false := decide_eq_false c8
        clear c8
        by_cases c14 : (rd l1 x10_1) > (rd l2 x10_1)
        ·rw [if_pos c14] at H
         have c14b0 : decide ((rd l2 x10_1) < (rd l1 x10_1)) = true := decide_eq_true c14
         clear c14
         have c15b0 := eq_true (da : 0 ≤ x10_1)
         by_cases c16 : x10_1 ≤ (l1.length : Int)
         ·rw [if_pos c16] at H
          have c16b0 := eq_true c16
          have c16b1 : decide (x10_1 ≤ (l1.length : Int)) = true := decide_eq_true c16
          clear c16
          replace H := Option.bind_eq_some_iff.mp H
          obtain ⟨t449, A170, H⟩ := H
          replace H : (some t449) = some r := H
          have A17 := Aside0.mk A170
          clear A170
          obtain rfl := Option.some.inj H
          have p442 : 0 ≤ (x10_1 : Int) := da
          have q442 : x10_1 < (l1.length : Int) := da
          obtain ⟨ad442, e442, hx442_0⟩ := Kd.at_int HR1.out x10_1 p442 q442
          cases e442
          replace hx442_0 := (hc HB hx442_0 :)
          replace p442 := eq_true p442
          replace q442 := eq_true q442
          have p443 : 0 ≤ (x10_1 : Int) := da
          have q443 : x10_1 < (l2.length : Int) := da
          obtain ⟨ad443, e443, hx443_0⟩ := Kd.at_int HR2.out x10_1 p443 q443
          cases e443
          replace hx443_0 := (hc HB hx443_0 :)
          replace p443 := eq_true p443
          replace q443 := eq_true q443
          have p446 : 0 ≤ (x10_1 : Int) := da
          have q446 : x10_1 < (l1.length : Int) := da
          obtain ⟨ad446, e446, hx446_0⟩ := Kd.at_int HR1.out x10_1 p446 q446
          obtain rfl : ad442 = ad446 := (by injection e446)
          replace hx446_0 := (hc HB hx446_0 :)
          replace p446 := eq_true p446
          replace q446 := eq_true q446
          have p447 : 0 ≤ (x10_1 : Int) := da
          have q447 : x10_1 < (l2.length : Int) := da
          obtain ⟨ad447, e447, hx447_0⟩ := Kd.at_int HR2.out x10_1 p447 q447
          obtain rfl : ad443 = ad447 := (by injection e447)
          replace hx447_0 := (hc HB hx447_0 :)
          replace p447 := eq_true p447
          replace q447 := eq_true q447
          obtain ⟨i018, hi018, _, hsz18, _⟩ := info_parts info3
          obtain ⟨hcut18, hA18, hC18⟩ := print_take_of (P := Try.prog) (Value.int .i64) 0 39 3 .i64 Try.underlying39 hi018 hsz18 (some ad442) c1 l1 x10_1 (da) (da) HC1.out
          have HR448 := Aside0.mk (Kd.C_of_reads (h1 := fun _ => rfl) (hA18 _ (Kd.reads_of_C HR1.out)))
          have HC448 := Aside0.mk hC18
          clear hA18 hC18 hi018 hsz18
          go_wp2_with (first | (go_at_call 64; refine calls_of_args (args' := #[.slice A0 l0.length c0, .slice (some ad442) (l1.take (x10_1 : Int).toNat).length c1]) (by first | (rw [show (l1.take (x10_1 : Int).toNat).length = x10_1.toNat from (by rw [List.length_take]; have h_ : (x10_1 : Int) ≤ (l1.length : Int) := da; omega)] <;> rfl) | rfl) ?_; (with_reducible refine (impl_wordSign.calls k1 _ _ l0 _ _ (l1.take (x10_1 : Int).toNat) t449 _ ?side1 ?side2 ?side3 ?side4 A17.out).mono ?_); (case side1 => repeat (first | exact (Kd.C_below HR0.out HB.out) | (with_reducible refine Kd.C_alloc ?_ _) | (with_reducible refine Kd.C_drewN ?_ _) | (with_reducible refine Kd.C_drew ?_))); (case side2 => exact HC0.out); (case side3 => repeat (first | exact (Kd.C_below HR448.out HB.out) | (with_reducible refine Kd.C_alloc ?_ _) | (with_reducible refine Kd.C_drewN ?_ _) | (with_reducible refine Kd.C_drew ?_))); (case side4 => exact HC448.out); rintro e w19 ⟨rfl, hb⟩; replace HB := kh hb; (try clear hb); (try clear hb2); (try clear hk); (try clear hi)))
          repeat (go_quiet (first | (go_at_call 64; refine calls_of_args (args' := #[.slice A0 l0.length c0, .slice (some ad442) (l1.take (x10_1 : Int).toNat).length c1]) (by first | (rw [show (l1.take (x10_1 : Int).toNat).length = x10_1.toNat from (by rw [List.length_take]; have h_ : (x10_1 : Int) ≤ (l1.length : Int) := da; omega)] <;> rfl) | rfl) ?_; (with_reducible refine (impl_wordSign.calls k1 _ _ l0 _ _ (l1.take (x10_1 : Int).toNat) t449 _ ?side1 ?side2 ?side3 ?side4 A17.out).mono ?_); (case side1 => repeat (first | exact (Kd.C_below HR0.out HB.out) | (with_reducible refine Kd.C_alloc ?_ _) | (with_reducible refine Kd.C_drewN ?_ _) | (with_reducible refine Kd.C_drew ?_))); (case side2 => exact HC0.out); (case side3 => repeat (first | exact (Kd.C_below HR448.out HB.out) | (with_reducible refine Kd.C_alloc ?_ _) | (with_reducible refine Kd.C_drewN ?_ _) | (with_reducible refine Kd.C_drew ?_))); (case side4 => exact HC448.out); rintro e w19 ⟨rfl, hb⟩; replace HB := kh hb; (try clear hb); (try clear hb2); (try clear hk); (try clear hi))); try go_wp2_with (first | (go_at_call 64; refine calls_of_args (args' := #[.slice A0 l0.length c0, .slice (some ad442) (l1.take (x10_1 : Int).toNat).length c1]) (by first | (rw [show (l1.take (x10_1 : Int).toNat).length = x10_1.toNat from (by rw [List.length_take]; have h_ : (x10_1 : Int) ≤ (l1.length : Int) := da; omega)] <;> rfl) | rfl) ?_; (with_reducible refine (impl_wordSign.calls k1 _ _ l0 _ _ (l1.take (x10_1 : Int).toNat) t449 _ ?side1 ?side2 ?side3 ?side4 A17.out).mono ?_); (case side1 => repeat (first | exact (Kd.C_below HR0.out HB.out) | (with_reducible refine Kd.C_alloc ?_ _) | (with_reducible refine Kd.C_drewN ?_ _) | (with_reducible refine Kd.C_drew ?_))); (case side2 => exact HC0.out); (case side3 => repeat (first | exact (Kd.C_below HR448.out HB.out) | (with_reducible refine Kd.C_alloc ?_ _) | (with_reducible refine Kd.C_drewN ?_ _) | (with_reducible refine Kd.C_drew ?_))); (case side4 => exact HC448.out); rintro e w19 ⟨rfl, hb⟩; replace HB := kh hb; (try clear hb); (try clear hb2); (try clear hk); (try clear hi))))
          go_ret
          exact ⟨rt, bl⟩
         ·rw [if_neg c16] at H
          exact absurd H (by simp)
        ·rw [if_neg c14] at H
         have c14b0 : decide ((rd l2 x10_1) < (rd l1 x10_1)) = false := decide_eq_false c14
         clear c14
         have H' := Aside0.mk H
         clear H
         have p442 : 0 ≤ (x10_1 : Int) := da
         have q442 : x10_1 < (l1.length : Int) := da
         obtain ⟨ad442, e442, hx442_0⟩ := Kd.at_int HR1.out x10_1 p442 q442
         cases e442
         replace hx442_0 := (hc HB hx442_0 :)
         replace p442 := eq_true p442
         replace q442 := eq_true q442
         have p443 : 0 ≤ (x10_1 : Int) := da
         have q443 : x10_1 < (l2.length : Int) := da
         obtain ⟨ad443, e443, hx443_0⟩ := Kd.at_int HR2.out x10_1 p443 q443
         cases e443
         replace hx443_0 := (hc HB hx443_0 :)
         replace p443 := eq_true p443
         replace q443 := eq_true q443
         have p446 : 0 ≤ (x10_1 : Int) := da
         have q446 : x10_1 < (l1.length : Int) := da
         obtain ⟨ad446, e446, hx446_0⟩ := Kd.at_int HR1.out x10_1 p446 q446
         obtain rfl : ad442 = ad446 := (by injection e446)
         replace hx446_0 := (hc HB hx446_0 :)
         replace p446 := eq_true p446
         replace q446 := eq_true q446
         have p447 : 0 ≤ (x10_1 : Int) := da
         have q447 : x10_1 < (l2.length : Int) := da
         obtain ⟨ad447, e447, hx447_0⟩ := Kd.at_int HR2.out x10_1 p447 q447
         obtain rfl : ad443 = ad447 := (by injection e447)
         replace hx447_0 := (hc HB hx447_0 :)
         replace p447 := eq_true p447
         replace q447 := eq_true q447
         go_wp2
         repeat (go_quiet (fail); try go_wp2)
         go_roundg k1
         case measure => have := HK1.out; omega
         case rel => exact ⟨(wrap64 (x10_1 + 1)), rs, H', ⟨by have := HK1.out; omega⟩, ⟨bl⟩⟩
      ·rw [if_neg c7] at H
       exact absurd H (by simp)
     ·rw [if_neg c6] at H
      exact absurd H (by simp)
    ·rw [if_neg c5] at H
     exact absurd H (by simp)
   ·rw [if_neg c4] at H
    have c4b0 : decide (x10_1 < (l1.length : Int)) = false := decide_eq_false c4
    clear c4
    obtain rfl := Option.some.inj H
    go_wp2
    repeat (go_quiet (fail); try go_wp2)
    go_ret
    exact ⟨rt, bl⟩

/-! ### impl_CompareWords: function 36 -/
def impl_CompareWords.f (k : Nat) (l0 : List (S68)) (l1 : List Int) (l2 : List Int) : Option (Int × Bool) := (impl_isLapMap.f k l0).bind fun t450 => (if t450 = true then ((impl_isLapWord.f k l0 l1).bind fun t451 => (if t451 = true then ((impl_isLapWord.f k l0 l2).bind fun t452 => (if t452 = true then (if (l1.length : Int) = (l2.length : Int) then ((impl_compareWords.f k l0 l1 l2).bind fun t453 => (some (t453, true))) else (some (0, false))) else (some (0, false)))) else (some (0, false)))) else (some (0, false)))
set_option maxHeartbeats 8000000 in
set_option maxRecDepth 100000 in
theorem impl_CompareWords.calls (k : Nat) (A0 : Option Addr) (c0 : Nat) (l0 : List (S68)) (A1 : Option Addr) (c1 : Nat) (l1 : List Int) (A2 : Option Addr) (c2 : Nat) (l2 : List Int) (r1 : Int) (r2 : Bool) (w : World) (hr0 : Kd.C k68 w A0 l0.length l0) (hc0 : l0.length ≤ c0) (hr1 : Kd.C (Kd.int .i64) w A1 l1.length l1) (hc1 : l1.length ≤ c1) (hr2 : Kd.C (Kd.int .i64) w A2 l2.length l2) (hc2 : l2.length ≤ c2) (h : impl_CompareWords.f k l0 l1 l2 = some (r1, r2)) :
  Calls Try.prog 36 #[.slice A0 l0.length c0, .slice A1 l1.length c1, .slice A2 l2.length c2] w fun e w' => e = .returned (.tuple #[.int .i64 r1, .bool r2]) ∧ Below w.heap.size w w' := by
 have HR0 := Aside0.mk hr0
 have HC0 := Aside0.mk hc0
 clear hr0 hc0
 have HR1 := Aside0.mk hr1
 have HC1 := Aside0.mk hc1
 clear hr1 hc1
 have HR2 := Aside0.mk hr2
 have HC2 := Aside0.mk hc2
 clear hr2 hc2
 have HB := Aside0.mk (Below.refl w.heap.size w)
 have H : ((impl_isLapMap.f k l0).bind fun t450 => (if t450 = true then ((impl_isLapWord.f k l0 l1).bind fun t451 => (if t451 = true then ((impl_isLapWord.f k l0 l2).bind fun t452 => (if t452 = true then (if (l1.length : Int) = (l2.length : Int) then ((impl_compareWords.f k l0 l1 l2).bind fun t453 => (some (t453, true))) else (some (0, false))) else (some (0, false)))) else (some (0, false)))) else (some (0, false)))) = some (r1, r2) := h
 clear h
 replace H := Option.bind_eq_some_iff.mp H
 obtain ⟨t450, A40, H⟩ := H
 replace H : (if t450 = true then ((impl_isLapWord.f k l0 l1).bind fun t451 => (if t451 = true then ((impl_isLapWord.f k l0 l2).bind fun t452 => (if t452 = true then (if (l1.length : Int) = (l2.length : Int) then ((impl_compareWords.f k l0 l1 l2).bind fun t453 => (some (t453, true))) else (some (0, false))) else (some (0, false)))) else (some (0, false)))) else (some (0, false))) = some (r1, r2) := H
 have A4 := Aside0.mk A40
 clear A40
 by_cases c5 : t450 = true
 ·subst c5
  have H1 : ((impl_isLapWord.f k l0 l1).bind fun t451 => (if t451 = true then ((impl_isLapWord.f k l0 l2).bind fun t452 => (if t452 = true then (if (l1.length : Int) = (l2.length : Int) then ((impl_compareWords.f k l0 l1 l2).bind fun t453 => (some (t453, true))) else (some (0, false))) else (some (0, false)))) else (some (0, false)))) = some (r1, r2) := by rw [if_pos rfl] at H; exact H
  clear H
  have H := H1
  clear H1
  replace H := Option.bind_eq_some_iff.mp H
  obtain ⟨t451, A60, H⟩ := H
  replace H : (if t451 = true then ((impl_isLapWord.f k l0 l2).bind fun t452 => (if t452 = true then (if (l1.length : Int) = (l2.length : Int) then ((impl_compareWords.f k l0 l1 l2).bind fun t453 => (some (t453, true))) else (some (0, false))) else (some (0, false)))) else (some (0, false))) = some (r1, r2) := H
  have A6 := Aside0.mk A60
  clear A60
  by_cases c7 : t451 = true
  ·subst c7
   have H1 : ((impl_isLapWord.f k l0 l2).bind fun t452 => (if t452 = true then (if (l1.length : Int) = (l2.length : Int) then ((impl_compareWords.f k l0 l1 l2).bind fun t453 => (some (t453, true))) else (some (0, false))) else (some (0, false)))) = some (r1, r2) := by rw [if_pos rfl] at H; exact H
   clear H
   have H := H1
   clear H1
   replace H := Option.bind_eq_some_iff.mp H
   obtain ⟨t452, A80, H⟩ := H
   replace H : (if t452 = true then (if (l1.length : Int) = (l2.length : Int) then ((impl_compareWords.f k l0 l1 l2).bind fun t453 => (some (t453, true))) else (some (0, false))) else (some (0, false))) = some (r1, r2) := H
   have A8 := Aside0.mk A80
   clear A80
   by_cases c9 : t452 = true
   ·subst c9
    have H1 : (if (l1.length : Int) = (l2.length : Int) then ((impl_compareWords.f k l0 l1 l2).bind fun t453 => (some (t453, true))) else (some (0, false))) = some (r1, r2) := by rw [if_pos rfl] at H; exact H
    clear H
    have H := H1
    clear H1
    by_cases c10 : (l1.length : Int) = (l2.length : Int)
    ·rw [if_pos c10] at H
     have c10b0 : ((l1.length : Int) == (l2.length : Int)) = true := beq_iff_eq.mpr c10
     have c10b1 : ((l1.length : Int) != (l2.length : Int)) = false := bne_eq_false_iff_eq.mpr c10
     have c10b2 : (l1.length == l2.length) = true := by first | simpa using c10 | (simp at c10 ⊢; omega)
     clear c10
     replace H := Option.bind_eq_some_iff.mp H
     obtain ⟨t453, A110, H⟩ := H
     replace H : (some (t453, true)) = some (r1, r2) := H
     have A11 := Aside0.mk A110
     clear A110
     simp only [Option.some.injEq, Prod.mk.injEq] at H
     obtain ⟨rfl, rfl⟩ := H
     go_enter Try.func36, Try.ntmps36
     go_wp2_with (first | ((with_reducible refine gate_callee (f := 62) rfl ?_); refine gl 9 Try.func62 #[.slice A0 l0.length c0] ?_; (with_reducible refine (impl_isLapMap.calls k _ _ l0 true _ ?side1 ?side2 A4.out).mono ?_); (case side1 => repeat (first | exact HR0.out | (with_reducible refine Kd.C_alloc ?_ _) | (with_reducible refine Kd.C_drewN ?_ _) | (with_reducible refine Kd.C_drew ?_))); (case side2 => exact HC0.out); rintro e w12 ⟨rfl, hb⟩; refine ⟨_, rfl, ?_⟩; replace HB := kh hb; (try clear hb); (try clear hb2); (try clear hk); (try clear hi)) | (go_at_call 63; (with_reducible refine (impl_isLapWord.calls k _ _ l0 _ _ l1 true _ ?side1 ?side2 ?side3 ?side4 A6.out).mono ?_); (case side1 => repeat (first | exact (Kd.C_below HR0.out HB.out) | (with_reducible refine Kd.C_alloc ?_ _) | (with_reducible refine Kd.C_drewN ?_ _) | (with_reducible refine Kd.C_drew ?_))); (case side2 => exact HC0.out); (case side3 => repeat (first | exact (Kd.C_below HR1.out HB.out) | (with_reducible refine Kd.C_alloc ?_ _) | (with_reducible refine Kd.C_drewN ?_ _) | (with_reducible refine Kd.C_drew ?_))); (case side4 => exact HC1.out); rintro e w13 ⟨rfl, hb⟩; replace HB := kh hb; (try clear hb); (try clear hb2); (try clear hk); (try clear hi)) | (go_at_call 63; (with_reducible refine (impl_isLapWord.calls k _ _ l0 _ _ l2 true _ ?side1 ?side2 ?side3 ?side4 A8.out).mono ?_); (case side1 => repeat (first | exact (Kd.C_below HR0.out HB.out) | (with_reducible refine Kd.C_alloc ?_ _) | (with_reducible refine Kd.C_drewN ?_ _) | (with_reducible refine Kd.C_drew ?_))); (case side2 => exact HC0.out); (case side3 => repeat (first | exact (Kd.C_below HR2.out HB.out) | (with_reducible refine Kd.C_alloc ?_ _) | (with_reducible refine Kd.C_drewN ?_ _) | (with_reducible refine Kd.C_drew ?_))); (case side4 => exact HC2.out); rintro e w14 ⟨rfl, hb⟩; replace HB := kh hb; (try clear hb); (try clear hb2); (try clear hk); (try clear hi)) | ((with_reducible refine gate_callee (f := 76) rfl ?_); refine gl 33 Try.func76 #[.slice A0 l0.length c0, .slice A1 l1.length c1, .slice A2 l2.length c2] ?_; (with_reducible refine (impl_compareWords.calls k _ _ l0 _ _ l1 _ _ l2 t453 _ ?side1 ?side2 ?side3 ?side4 ?side5 ?side6 A11.out).mono ?_); (case side1 => repeat (first | exact (Kd.C_below HR0.out HB.out) | (with_reducible refine Kd.C_alloc ?_ _) | (with_reducible refine Kd.C_drewN ?_ _) | (with_reducible refine Kd.C_drew ?_))); (case side2 => exact HC0.out); (case side3 => repeat (first | exact (Kd.C_below HR1.out HB.out) | (with_reducible refine Kd.C_alloc ?_ _) | (with_reducible refine Kd.C_drewN ?_ _) | (with_reducible refine Kd.C_drew ?_))); (case side4 => exact HC1.out); (case side5 => repeat (first | exact (Kd.C_below HR2.out HB.out) | (with_reducible refine Kd.C_alloc ?_ _) | (with_reducible refine Kd.C_drewN ?_ _) | (with_reducible refine Kd.C_drew ?_))); (case side6 => exact HC2.out); rintro e w15 ⟨rfl, hb⟩; refine ⟨_, rfl, ?_⟩; replace HB := kh hb; (try clear hb); (try clear hb2); (try clear hk); (try clear hi)))
     go_ret2
     exact ⟨rt, bl⟩
    ·rw [if_neg c10] at H
     have c10b0 : ((l1.length : Int) == (l2.length : Int)) = false := beq_eq_false_iff_ne.mpr c10
     have c10b1 : ((l1.length : Int) != (l2.length : Int)) = true := bne_iff_ne.mpr c10
     have c10b2 : (l1.length == l2.length) = false := by first | simpa using c10 | (simp at c10 ⊢; omega)
     simp only [Option.some.injEq, Prod.mk.injEq] at H
     obtain ⟨rfl, rfl⟩ := H
     go_enter Try.func36, Try.ntmps36
     go_wp2_with (first | ((with_reducible refine gate_callee (f := 62) rfl ?_); refine gl 9 Try.func62 #[.slice A0 l0.length c0] ?_; (with_reducible refine (impl_isLapMap.calls k _ _ l0 true _ ?side1 ?side2 A4.out).mono ?_); (case side1 => repeat (first | exact HR0.out | (with_reducible refine Kd.C_alloc ?_ _) | (with_reducible refine Kd.C_drewN ?_ _) | (with_reducible refine Kd.C_drew ?_))); (case side2 => exact HC0.out); rintro e w16 ⟨rfl, hb⟩; refine ⟨_, rfl, ?_⟩; replace HB := kh hb; (try clear hb); (try clear hb2); (try clear hk); (try clear hi)) | (go_at_call 63; (with_reducible refine (impl_isLapWord.calls k _ _ l0 _ _ l1 true _ ?side1 ?side2 ?side3 ?side4 A6.out).mono ?_); (case side1 => repeat (first | exact (Kd.C_below HR0.out HB.out) | (with_reducible refine Kd.C_alloc ?_ _) | (with_reducible refine Kd.C_drewN ?_ _) | (with_reducible refine Kd.C_drew ?_))); (case side2 => exact HC0.out); (case side3 => repeat (first | exact (Kd.C_below HR1.out HB.out) | (with_reducible refine Kd.C_alloc ?_ _) | (with_reducible refine Kd.C_drewN ?_ _) | (with_reducible refine Kd.C_drew ?_))); (case side4 => exact HC1.out); rintro e w17 ⟨rfl, hb⟩; replace HB := kh hb; (try clear hb); (try clear hb2); (try clear hk); (try clear hi)) | (go_at_call 63; (with_reducible refine (impl_isLapWord.calls k _ _ l0 _ _ l2 true _ ?side1 ?side2 ?side3 ?side4 A8.out).mono ?_); (case side1 => repeat (first | exact (Kd.C_below HR0.out HB.out) | (with_reducible refine Kd.C_alloc ?_ _) | (with_reducible refine Kd.C_drewN ?_ _) | (with_reducible refine Kd.C_drew ?_))); (case side2 => exact HC0.out); (case side3 => repeat (first | exact (Kd.C_below HR2.out HB.out) | (with_reducible refine Kd.C_alloc ?_ _) | (with_reducible refine Kd.C_drewN ?_ _) | (with_reducible refine Kd.C_drew ?_))); (case side4 => exact HC2.out); rintro e w18 ⟨rfl, hb⟩; replace HB := kh hb; (try clear hb); (try clear hb2); (try clear hk); (try clear hi)))
     go_ret2
     exact ⟨rt, bl⟩
   ·replace c9 := Bool.eq_false_iff.mpr c9
    subst c9
    have H1 : (some (0, false)) = some (r1, r2) := by rw [if_neg (show ¬ (false = true) by decide)] at H; exact H
    clear H
    have H := H1
    clear H1
    simp only [Option.some.injEq, Prod.mk.injEq] at H
    obtain ⟨rfl, rfl⟩ := H
    go_enter Try.func36, Try.ntmps36
    go_wp2_with (first | ((with_reducible refine gate_callee (f := 62) rfl ?_); refine gl 9 Try.func62 #[.slice A0 l0.length c0] ?_; (with_reducible refine (impl_isLapMap.calls k _ _ l0 true _ ?side1 ?side2 A4.out).mono ?_); (case side1 => repeat (first | exact HR0.out | (with_reducible refine Kd.C_alloc ?_ _) | (with_reducible refine Kd.C_drewN ?_ _) | (with_reducible refine Kd.C_drew ?_))); (case side2 => exact HC0.out); rintro e w19 ⟨rfl, hb⟩; refine ⟨_, rfl, ?_⟩; replace HB := kh hb; (try clear hb); (try clear hb2); (try clear hk); (try clear hi)) | (go_at_call 63; (with_reducible refine (impl_isLapWord.calls k _ _ l0 _ _ l1 true _ ?side1 ?side2 ?side3 ?side4 A6.out).mono ?_); (case side1 => repeat (first | exact (Kd.C_below HR0.out HB.out) | (with_reducible refine Kd.C_alloc ?_ _) | (with_reducible refine Kd.C_drewN ?_ _) | (with_reducible refine Kd.C_drew ?_))); (case side2 => exact HC0.out); (case side3 => repeat (first | exact (Kd.C_below HR1.out HB.out) | (with_reducible refine Kd.C_alloc ?_ _) | (with_reducible refine Kd.C_drewN ?_ _) | (with_reducible refine Kd.C_drew ?_))); (case side4 => exact HC1.out); rintro e w20 ⟨rfl, hb⟩; replace HB := kh hb; (try clear hb); (try clear hb2); (try clear hk); (try clear hi)) | (go_at_call 63; (with_reducible refine (impl_isLapWord.calls k _ _ l0 _ _ l2 false _ ?side1 ?side2 ?side3 ?side4 A8.out).mono ?_); (case side1 => repeat (first | exact (Kd.C_below HR0.out HB.out) | (with_reducible refine Kd.C_alloc ?_ _) | (with_reducible refine Kd.C_drewN ?_ _) | (with_reducible refine Kd.C_drew ?_))); (case side2 => exact HC0.out); (case side3 => repeat (first | exact (Kd.C_below HR2.out HB.out) | (with_reducible refine Kd.C_alloc ?_ _) | (with_reducible refine Kd.C_drewN ?_ _) | (with_reducible refine Kd.C_drew ?_))); (case side4 => exact HC2.out); rintro e w21 ⟨rfl, hb⟩; replace HB := kh hb; (try clear hb); (try clear hb2); (try clear hk); (try clear hi)))
    go_ret2
    exact ⟨rt, bl⟩
  ·replace c7 := Bool.eq_false_iff.mpr c7
   subst c7
   have H1 : (some (0, false)) = some (r1, r2) := by rw [if_neg (show ¬ (false = true) by decide)] at H; exact H
   clear H
   have H := H1
   clear H1
   simp only [Option.some.injEq, Prod.mk.injEq] at H
   obtain ⟨rfl, rfl⟩ := H
   go_enter Try.func36, Try.ntmps36
   go_wp2_with (first | ((with_reducible refine gate_callee (f := 62) rfl ?_); refine gl 9 Try.func62 #[.slice A0 l0.length c0] ?_; (with_reducible refine (impl_isLapMap.calls k _ _ l0 true _ ?side1 ?side2 A4.out).mono ?_); (case side1 => repeat (first | exact HR0.out | (with_reducible refine Kd.C_alloc ?_ _) | (with_reducible refine Kd.C_drewN ?_ _) | (with_reducible refine Kd.C_drew ?_))); (case side2 => exact HC0.out); rintro e w22 ⟨rfl, hb⟩; refine ⟨_, rfl, ?_⟩; replace HB := kh hb; (try clear hb); (try clear hb2); (try clear hk); (try clear hi)) | (go_at_call 63; (with_reducible refine (impl_isLapWord.calls k _ _ l0 _ _ l1 false _ ?side1 ?side2 ?side3 ?side4 A6.out).mono ?_); (case side1 => repeat (first | exact (Kd.C_below HR0.out HB.out) | (with_reducible refine Kd.C_alloc ?_ _) | (with_reducible refine Kd.C_drewN ?_ _) | (with_reducible refine Kd.C_drew ?_))); (case side2 => exact HC0.out); (case side3 => repeat (first | exact (Kd.C_below HR1.out HB.out) | (with_reducible refine Kd.C_alloc ?_ _) | (with_reducible refine Kd.C_drewN ?_ _) | (with_reducible refine Kd.C_drew ?_))); (case side4 => exact HC1.out); rintro e w23 ⟨rfl, hb⟩; replace HB := kh hb; (try clear hb); (try clear hb2); (try clear hk); (try clear hi)))
   go_ret2
   exact ⟨rt, bl⟩
 ·replace c5 := Bool.eq_false_iff.mpr c5
  subst c5
  have H1 : (some (0, false)) = some (r1, r2) := by rw [if_neg (show ¬ (false = true) by decide)] at H; exact H
  clear H
  have H := H1
  clear H1
  simp only [Option.some.injEq, Prod.mk.injEq] at H
  obtain ⟨rfl, rfl⟩ := H
  go_enter Try.func36, Try.ntmps36
  go_wp2_with (first | ((with_reducible refine gate_callee (f := 62) rfl ?_); refine gl 9 Try.func62 #[.slice A0 l0.length c0] ?_; (with_reducible refine (impl_isLapMap.calls k _ _ l0 false _ ?side1 ?side2 A4.out).mono ?_); (case side1 => repeat (first | exact HR0.out | (with_reducible refine Kd.C_alloc ?_ _) | (with_reducible refine Kd.C_drewN ?_ _) | (with_reducible refine Kd.C_drew ?_))); (case side2 => exact HC0.out); rintro e w24 ⟨rfl, hb⟩; refine ⟨_, rfl, ?_⟩; replace HB := kh hb; (try clear hb); (try clear hb2); (try clear hk); (try clear hi)))
  go_ret2
  exact ⟨rt, bl⟩

end Go.Proofs.Ytmecnnnagallnaa.PFnExactCompareWords
