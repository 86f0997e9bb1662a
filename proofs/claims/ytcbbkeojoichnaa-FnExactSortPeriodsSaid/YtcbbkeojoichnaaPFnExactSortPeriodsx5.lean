-- Written by this session's program wip/pp (the kit's print tool with additions) 35421559b90ae4d0a3588c463048766b98c2df88dd9212a6774a882060cdf62d
import Derived.Test.YtcbbkeojoichnaaPFnExactSortPeriodsx0
import Derived.Test.YtcbbkeojoichnaaPFnExactSortPeriodsx3
import Derived.Test.YtcbbkeojoichnaaPFnExactSortPeriodsx4
namespace Go.Proofs.Ytcbbkeojoichnaa.PFnExactSortPeriods
open Go.RowKit Go.Proofs.YtcbbkeojoichnaaW.PrintWords Go.Proofs.YtcbbkeojoichnaaW.PrintLast Go.Proofs.YtcbbkeojoichnaaW.PrintMore
attribute [local go_sem] max2_int min2_int max_two min_two max_three min_three max_four min_four   -- for this text's walks alone
set_option linter.unusedVariables false
set_option linter.unusedSimpArgs false

/-! ### laws_FnExactSortPeriods: function 4 -/
mutual
def laws_FnExactSortPeriods.j0 : Nat → List Int → List Int → Bool → List Int → List Int → Bool → Bool → Option (Bool)
 | 0, _, _, _, _, _, _, _ => none
 | k + 1, x0, x3, x4, x5, x6, x7, x37 => if x37 = true then (some false) else ((laws_toIntS.f k x0).bind fun t209 => ((laws_eqIntS.f k x5 t209).bind fun t212 => (if t212 = true then ((laws_markIntS.f k x5 1).bind fun bt213 => (if bt213.1 < 0 then (laws_FnExactSortPeriods.j1 k x0 x3 x4 x6 true) else ((laws_eqIntS.f k x6 x3).bind fun t215 => (if t215 = true then (laws_FnExactSortPeriods.j1 k x0 x3 x4 x6 (x7 != x4)) else (laws_FnExactSortPeriods.j1 k x0 x3 x4 x6 true))))) else (some false))))
def laws_FnExactSortPeriods.j1 : Nat → List Int → List Int → Bool → List Int → Bool → Option (Bool)
 | 0, _, _, _, _, _ => none
 | k + 1, x0, x3, x4, x6, x58 => if x58 = true then (some false) else ((laws_markIntS.f k x6 1).bind fun bt216 => ((laws_heldIntS.f k bt216.2 1).bind fun t218 => (if t218 < 0 then (some false) else (if t218 = bt216.1 then ((laws_toIntS.f k x0).bind fun t219 => ((impl_SortPeriods.f k t219).bind fun bt222 => ((laws_eqIntS.f k bt222.1 x3).bind fun t226 => (if t226 = true then (laws_FnExactSortPeriods.j2 k bt216.2 bt216.1 (bt222.2 != x4)) else (laws_FnExactSortPeriods.j2 k bt216.2 bt216.1 true))))) else (some false)))))
def laws_FnExactSortPeriods.j2 : Nat → List Int → Int → Bool → Option (Bool)
 | 0, _, _, _ => none
 | k + 1, x6, x9, x84 => if x84 = true then (some false) else ((laws_heldIntS.f k x6 1).bind fun t227 => (if t227 < 0 then (some false) else (if t227 = x9 then (some true) else (some false))))
end
def laws_FnExactSortPeriods.f (k : Nat) (l0 : List Int) : Option (Bool) := if (l0.length : Int) > 1048576 then (some true) else ((laws_toIntS.f k l0).bind fun t194 => ((spec_SortPeriods.f k t194).bind fun bt197 => ((laws_toIntS.f k l0).bind fun t201 => ((impl_SortPeriods.f k t201).bind fun bt204 => ((laws_eqIntS.f k bt204.1 bt197.1).bind fun t208 => (if t208 = true then (laws_FnExactSortPeriods.j0 k l0 bt197.1 bt197.2 t201 bt204.1 bt204.2 (bt204.2 != bt197.2)) else (laws_FnExactSortPeriods.j0 k l0 bt197.1 bt197.2 t201 bt204.1 bt204.2 true)))))))
set_option maxHeartbeats 8000000 in
set_option maxRecDepth 100000 in
theorem laws_FnExactSortPeriods.calls (k : Nat) (A0 : Option Addr) (c0 : Nat) (l0 : List Int) (r : Bool) (w : World) (hr0 : Kd.C (Kd.int .i64) w A0 l0.length l0) (hc0 : l0.length ≤ c0) (h : laws_FnExactSortPeriods.f k l0 = some r) :
  Calls Try.prog 4 #[.slice A0 l0.length c0] w fun e w' => e = .returned (.bool r) ∧ Below w.heap.size w w' := by
 have HR0 := Aside0.mk hr0
 have HC0 := Aside0.mk hc0
 clear hr0 hc0
 have HB := Aside0.mk (Below.refl w.heap.size w)
 have H : (if (l0.length : Int) > 1048576 then (some true) else ((laws_toIntS.f k l0).bind fun t194 => ((spec_SortPeriods.f k t194).bind fun bt197 => ((laws_toIntS.f k l0).bind fun t201 => ((impl_SortPeriods.f k t201).bind fun bt204 => ((laws_eqIntS.f k bt204.1 bt197.1).bind fun t208 => (if t208 = true then (laws_FnExactSortPeriods.j0 k l0 bt197.1 bt197.2 t201 bt204.1 bt204.2 (bt204.2 != bt197.2)) else (laws_FnExactSortPeriods.j0 k l0 bt197.1 bt197.2 t201 bt204.1 bt204.2 true)))))))) = some r := h
 clear h
 by_cases c2 : (l0.length : Int) > 1048576
 ·rw [if_pos c2] at H
  have c2b0 : decide (1048576 < (l0.length : Int)) = true := decide_eq_true c2
  have c2b1 : decide (1048576 < l0.length) = true := decide_eq_true (by omega)
  clear c2
  obtain rfl := Option.some.inj H
  go_enter Try.func4, Try.ntmps4
  go_wp2
  go_ret
  exact ⟨rt, bl⟩
 ·rw [if_neg c2] at H
  have c2b0 : decide (1048576 < (l0.length : Int)) = false := decide_eq_false c2
  have c2b1 : decide (1048576 < l0.length) = false := decide_eq_false (by omega)
  clear c2
  replace H := Option.bind_eq_some_iff.mp H
  obtain ⟨t194, A30, H⟩ := H
  replace H : ((spec_SortPeriods.f k t194).bind fun bt197 => ((laws_toIntS.f k l0).bind fun t201 => ((impl_SortPeriods.f k t201).bind fun bt204 => ((laws_eqIntS.f k bt204.1 bt197.1).bind fun t208 => (if t208 = true then (laws_FnExactSortPeriods.j0 k l0 bt197.1 bt197.2 t201 bt204.1 bt204.2 (bt204.2 != bt197.2)) else (laws_FnExactSortPeriods.j0 k l0 bt197.1 bt197.2 t201 bt204.1 bt204.2 true)))))) = some r := H
  have A3 := Aside0.mk A30
  clear A30
  replace H := Option.bind_eq_some_iff.mp H
  obtain ⟨⟨t197, t198⟩, A40, H⟩ := H
  replace H : ((laws_toIntS.f k l0).bind fun t201 => ((impl_SortPeriods.f k t201).bind fun bt204 => ((laws_eqIntS.f k bt204.1 t197).bind fun t208 => (if t208 = true then (laws_FnExactSortPeriods.j0 k l0 t197 t198 t201 bt204.1 bt204.2 (bt204.2 != t198)) else (laws_FnExactSortPeriods.j0 k l0 t197 t198 t201 bt204.1 bt204.2 true))))) = some r := H
  have A4 := Aside0.mk A40
  clear A40
  replace H := Option.bind_eq_some_iff.mp H
  obtain ⟨t201, A50, H⟩ := H
  replace H : ((impl_SortPeriods.f k t201).bind fun bt204 => ((laws_eqIntS.f k bt204.1 t197).bind fun t208 => (if t208 = true then (laws_FnExactSortPeriods.j0 k l0 t197 t198 t201 bt204.1 bt204.2 (bt204.2 != t198)) else (laws_FnExactSortPeriods.j0 k l0 t197 t198 t201 bt204.1 bt204.2 true)))) = some r := H
  have A5 := Aside0.mk A50
  clear A50
  replace H := Option.bind_eq_some_iff.mp H
  obtain ⟨⟨t204, t205⟩, A60, H⟩ := H
  replace H : ((laws_eqIntS.f k t204 t197).bind fun t208 => (if t208 = true then (laws_FnExactSortPeriods.j0 k l0 t197 t198 t201 t204 t205 (t205 != t198)) else (laws_FnExactSortPeriods.j0 k l0 t197 t198 t201 t204 t205 true))) = some r := H
  have A6 := Aside0.mk A60
  clear A60
  have HC7 := Aside0.mk H
  clear H
  go_enter Try.func4, Try.ntmps4
  go_upto_region 6 with (first | ((with_reducible refine gate_callee (f := 12) rfl ?_); refine gl 18 Try.func12 #[.slice A0 l0.length c0] ?_; (with_reducible refine (laws_toIntS.calls k _ _ l0 t194 _ ?side1 ?side2 A3.out).mono ?_); (case side1 => repeat (first | exact HR0.out | (with_reducible refine Kd.C_alloc ?_ _) | (with_reducible refine Kd.C_drewN ?_ _) | (with_reducible refine Kd.C_drew ?_))); (case side2 => exact HC0.out); rintro e w8 ⟨v195, rfl, ho0, hb⟩; refine ⟨_, rfl, ?_⟩; have HO196 := Aside0.mk (Kd.R_lower ho0 (below_size bl)); replace HB := kh hb; (try clear hb); (try clear hb2); (try clear hk); (try clear hi); (try clear ho0); obtain ⟨Ao9, co9, eo9⟩ := Kd.R_slice HO196.out; subst eo9) | ((with_reducible refine gate_callee (f := 11) rfl ?_); refine gl 19 Try.func11 #[.slice Ao9 t194.length co9] ?_; (with_reducible refine (spec_SortPeriods.calls k _ _ t194 t197 t198 _ ?side1 ?side2 A4.out).mono ?_); (case side1 => repeat (first | exact (Kd.R_reads' HO196.out).2.2 | (with_reducible refine Kd.C_alloc ?_ _) | (with_reducible refine Kd.C_drewN ?_ _) | (with_reducible refine Kd.C_drew ?_))); (case side2 => exact (Kd.R_reads' HO196.out).2.1); rintro e w10 ⟨v199, rfl, ho0, hb⟩; refine ⟨_, rfl, ?_⟩; have HO200 := Aside0.mk (Kd.R_lower (Kd.R_new' ho0 (Kd.R_lt (by (with_reducible repeat (first | apply Kd.R_alloc | apply Kd.R_drewN | apply Kd.R_drew)); exact HO196.out))) (below_size bl)); replace HO196 := Aside0.mk (Kd.R_elder' (by (with_reducible repeat (first | apply Kd.R_alloc | apply Kd.R_drewN | apply Kd.R_drew)); exact HO196.out) (Kd.R_base ho0) hb); replace HB := kh hb; (try clear hb); (try clear hb2); (try clear hk); (try clear hi); (try clear ho0)) | ((with_reducible refine gate_callee (f := 12) rfl ?_); refine gl 23 Try.func12 #[.slice A0 l0.length c0] ?_; (with_reducible refine (laws_toIntS.calls k _ _ l0 t201 _ ?side1 ?side2 A5.out).mono ?_); (case side1 => repeat (first | exact (Kd.C_below HR0.out HB.out) | (with_reducible refine Kd.C_alloc ?_ _) | (with_reducible refine Kd.C_drewN ?_ _) | (with_reducible refine Kd.C_drew ?_))); (case side2 => exact HC0.out); rintro e w11 ⟨v202, rfl, ho0, hb⟩; refine ⟨_, rfl, ?_⟩; have HO203 := Aside0.mk (Kd.R_lower (Kd.R_new' (Kd.R_new' ho0 (Kd.R_lt (by (with_reducible repeat (first | apply Kd.R_alloc | apply Kd.R_drewN | apply Kd.R_drew)); exact HO196.out))) (Kd.R_lt (by (with_reducible repeat (first | apply Kd.R_alloc | apply Kd.R_drewN | apply Kd.R_drew)); exact HO200.out))) (below_size bl)); replace HO196 := Aside0.mk (Kd.R_elder' (by (with_reducible repeat (first | apply Kd.R_alloc | apply Kd.R_drewN | apply Kd.R_drew)); exact HO196.out) (Kd.R_base ho0) hb); replace HO200 := Aside0.mk (Kd.R_elder' (by (with_reducible repeat (first | apply Kd.R_alloc | apply Kd.R_drewN | apply Kd.R_drew)); exact HO200.out) (Kd.R_base ho0) hb); replace HB := kh hb; (try clear hb); (try clear hb2); (try clear hk); (try clear hi); (try clear ho0); obtain ⟨Ao12, co12, eo12⟩ := Kd.R_slice HO203.out; subst eo12) | ((with_reducible refine gate_callee (f := 13) rfl ?_); refine gl 26 Try.func13 #[.slice Ao12 t201.length co12] ?_; (with_reducible refine (impl_SortPeriods.calls k _ _ t201 t204 t205 _ ?side1 ?side2 A6.out).mono ?_); (case side1 => repeat (first | exact (Kd.R_reads' HO203.out).2.2 | (with_reducible refine Kd.C_alloc ?_ _) | (with_reducible refine Kd.C_drewN ?_ _) | (with_reducible refine Kd.C_drew ?_))); (case side2 => exact (Kd.R_reads' HO203.out).2.1); rintro e w13 ⟨v206, rfl, ho0, hb⟩; refine ⟨_, rfl, ?_⟩; have HO207 := Aside0.mk (Kd.R_lower (Kd.R_new' (Kd.R_new' (Kd.R_new' ho0 (Kd.R_lt (by (with_reducible repeat (first | apply Kd.R_alloc | apply Kd.R_drewN | apply Kd.R_drew)); exact HO196.out))) (Kd.R_lt (by (with_reducible repeat (first | apply Kd.R_alloc | apply Kd.R_drewN | apply Kd.R_drew)); exact HO200.out))) (Kd.R_lt (by (with_reducible repeat (first | apply Kd.R_alloc | apply Kd.R_drewN | apply Kd.R_drew)); exact HO203.out))) (below_size bl)); replace HO196 := Aside0.mk (Kd.R_elder' (by (with_reducible repeat (first | apply Kd.R_alloc | apply Kd.R_drewN | apply Kd.R_drew)); exact HO196.out) (Kd.R_base ho0) hb); replace HO200 := Aside0.mk (Kd.R_elder' (by (with_reducible repeat (first | apply Kd.R_alloc | apply Kd.R_drewN | apply Kd.R_drew)); exact HO200.out) (Kd.R_base ho0) hb); replace HO203 := Aside0.mk (Kd.R_elder' (by (with_reducible repeat (first | apply Kd.R_alloc | apply Kd.R_drewN | apply Kd.R_drew)); exact HO203.out) (Kd.R_base ho0) hb); replace HB := kh hb; (try clear hb); (try clear hb2); (try clear hk); (try clear hi); (try clear ho0)))
  (try simp only [Act.put, List.setIfInBounds_toArray, List.set_cons_zero, List.set_cons_succ])
  go_cut [37] (fun v37 wc => ∃ (kq : Nat) (x37_6 : Bool), v37 = .bool x37_6 ∧ Aside0 (laws_FnExactSortPeriods.j0 kq l0 t197 t198 t201 t204 t205 x37_6 = some r) ∧ Aside0 (kq ≤ k) ∧ Aside0 (Kd.R (Kd.int .i64) 3 wc w.heap.size (fun k_ => some k_ ≠ ((.slice Ao12 t201.length co12) : Value).ownBlock ∧ some k_ ≠ (v206 : Value).ownBlock) v199 t197) ∧ Aside0 (Kd.R (Kd.int .i64) 3 wc w.heap.size (fun k_ => some k_ ≠ (v199 : Value).ownBlock ∧ some k_ ≠ (v206 : Value).ownBlock) (.slice Ao12 t201.length co12) t201) ∧ Aside0 (Kd.R (Kd.int .i64) 3 wc w.heap.size (fun k_ => some k_ ≠ (v199 : Value).ownBlock ∧ some k_ ≠ ((.slice Ao12 t201.length co12) : Value).ownBlock) v206 t204) ∧ Aside0 (Below w.heap.size w wc))
  case first =>
   have H := HC7.out
   clear HC7
   replace H := Option.bind_eq_some_iff.mp H
   obtain ⟨t208, A140, H⟩ := H
   replace H : (if t208 = true then (laws_FnExactSortPeriods.j0 k l0 t197 t198 t201 t204 t205 (t205 != t198)) else (laws_FnExactSortPeriods.j0 k l0 t197 t198 t201 t204 t205 true)) = some r := H
   have A14 := Aside0.mk A140
   clear A140
   by_cases c15 : t208 = true
   ·subst c15
    have H1 : (laws_FnExactSortPeriods.j0 k l0 t197 t198 t201 t204 t205 (t205 != t198)) = some r := by rw [if_pos rfl] at H; exact H
    clear H
    have H := H1
    clear H1
    have H' := Aside0.mk H
    clear H
    obtain ⟨Ao16, co16, eo16⟩ := Kd.R_slice HO207.out
    subst eo16
    obtain ⟨Ao17, co17, eo17⟩ := Kd.R_slice HO200.out
    subst eo17
    go_wp2_with (first | ((with_reducible refine gate_callee (f := 14) rfl ?_); refine gl 31 Try.func14 #[.slice Ao16 t204.length co16, .slice Ao17 t197.length co17] ?_; (with_reducible refine (laws_eqIntS.calls k _ _ t204 _ _ t197 true _ ?side1 ?side2 ?side3 ?side4 A14.out).mono ?_); (case side1 => repeat (first | exact (Kd.R_reads' HO207.out).2.2 | (with_reducible refine Kd.C_alloc ?_ _) | (with_reducible refine Kd.C_drewN ?_ _) | (with_reducible refine Kd.C_drew ?_))); (case side2 => exact (Kd.R_reads' HO207.out).2.1); (case side3 => repeat (first | exact (Kd.R_reads' HO200.out).2.2 | (with_reducible refine Kd.C_alloc ?_ _) | (with_reducible refine Kd.C_drewN ?_ _) | (with_reducible refine Kd.C_drew ?_))); (case side4 => exact (Kd.R_reads' HO200.out).2.1); rintro e w' ⟨rfl, ⟨nd, rfl⟩⟩; refine ⟨_, rfl, ?_⟩))
    go_meet
    case rel => exact ⟨_, ((t205 != t198)), rs, H', ⟨by first | omega | exact Nat.le_refl _⟩, ⟨by (with_reducible repeat (first | apply Kd.R_alloc | apply Kd.R_drewN | apply Kd.R_drew)); exact Kd.R_mono HO200.out (fun _ hk => ⟨hk.1.2, hk.2⟩)⟩, ⟨by (with_reducible repeat (first | apply Kd.R_alloc | apply Kd.R_drewN | apply Kd.R_drew)); exact Kd.R_mono HO203.out (fun _ hk => ⟨hk.1.2, hk.2⟩)⟩, ⟨by (with_reducible repeat (first | apply Kd.R_alloc | apply Kd.R_drewN | apply Kd.R_drew)); exact Kd.R_mono HO207.out (fun _ hk => ⟨hk.1.2, hk.2⟩)⟩, ⟨bl⟩⟩
   ·replace c15 := Bool.eq_false_iff.mpr c15
    subst c15
    have H1 : (laws_FnExactSortPeriods.j0 k l0 t197 t198 t201 t204 t205 true) = some r := by rw [if_neg (show ¬ (false = true) by decide)] at H; exact H
    clear H
    have H := H1
    clear H1
    have H' := Aside0.mk H
    clear H
    obtain ⟨Ao18, co18, eo18⟩ := Kd.R_slice HO207.out
    subst eo18
    obtain ⟨Ao19, co19, eo19⟩ := Kd.R_slice HO200.out
    subst eo19
    go_wp2_with (first | ((with_reducible refine gate_callee (f := 14) rfl ?_); refine gl 31 Try.func14 #[.slice Ao18 t204.length co18, .slice Ao19 t197.length co19] ?_; (with_reducible refine (laws_eqIntS.calls k _ _ t204 _ _ t197 false _ ?side1 ?side2 ?side3 ?side4 A14.out).mono ?_); (case side1 => repeat (first | exact (Kd.R_reads' HO207.out).2.2 | (with_reducible refine Kd.C_alloc ?_ _) | (with_reducible refine Kd.C_drewN ?_ _) | (with_reducible refine Kd.C_drew ?_))); (case side2 => exact (Kd.R_reads' HO207.out).2.1); (case side3 => repeat (first | exact (Kd.R_reads' HO200.out).2.2 | (with_reducible refine Kd.C_alloc ?_ _) | (with_reducible refine Kd.C_drewN ?_ _) | (with_reducible refine Kd.C_drew ?_))); (case side4 => exact (Kd.R_reads' HO200.out).2.1); rintro e w' ⟨rfl, ⟨nd, rfl⟩⟩; refine ⟨_, rfl, ?_⟩))
    go_meet
    case rel => exact ⟨_, (true), rs, H', ⟨by first | omega | exact Nat.le_refl _⟩, ⟨by (with_reducible repeat (first | apply Kd.R_alloc | apply Kd.R_drewN | apply Kd.R_drew)); exact Kd.R_mono HO200.out (fun _ hk => ⟨hk.1.2, hk.2⟩)⟩, ⟨by (with_reducible repeat (first | apply Kd.R_alloc | apply Kd.R_drewN | apply Kd.R_drew)); exact Kd.R_mono HO203.out (fun _ hk => ⟨hk.1.2, hk.2⟩)⟩, ⟨by (with_reducible repeat (first | apply Kd.R_alloc | apply Kd.R_drewN | apply Kd.R_drew)); exact Kd.R_mono HO207.out (fun _ hk => ⟨hk.1.2, hk.2⟩)⟩, ⟨bl⟩⟩
  case rest =>
   clear HC7
   try clear c1
   try clear c2
   try clear c2b0
   try clear c2b1
   try clear p2
   try clear c4
   try clear c11
   try clear c12
   try clear c13
   try clear c14
   try clear c15
   obtain ⟨kq, x37_6, rfl, HA, HJ6, HO_3, HO_5, HO_6, HB⟩ := hcut
   cases kq with
   | zero => exact absurd HA.out (by simp [laws_FnExactSortPeriods.j0])
   | succ kj6 =>
    have H := HA.out
    clear HA
    simp only [laws_FnExactSortPeriods.j0] at H
    by_cases c20 : x37_6 = true
    ·subst c20
     have H1 : (some false) = some r := by rw [if_pos rfl] at H; exact H
     clear H
     have H := H1
     clear H1
     obtain rfl := Option.some.inj H
     go_wp2
     go_ret
     exact ⟨rt, bl⟩
    ·replace c20 := Bool.eq_false_iff.mpr c20
     subst c20
     have H1 : ((laws_toIntS.f kj6 l0).bind fun t209 => ((laws_eqIntS.f kj6 t201 t209).bind fun t212 => (if t212 = true then ((laws_markIntS.f kj6 t201 1).bind fun bt213 => (if bt213.1 < 0 then (laws_FnExactSortPeriods.j1 kj6 l0 t197 t198 t204 true) else ((laws_eqIntS.f kj6 t204 t197).bind fun t215 => (if t215 = true then (laws_FnExactSortPeriods.j1 kj6 l0 t197 t198 t204 (t205 != t198)) else (laws_FnExactSortPeriods.j1 kj6 l0 t197 t198 t204 true))))) else (some false)))) = some r := by rw [if_neg (show ¬ (false = true) by decide)] at H; exact H
     clear H
     have H := H1
     clear H1
     replace H := Option.bind_eq_some_iff.mp H
     obtain ⟨t209, A210, H⟩ := H
     replace H : ((laws_eqIntS.f kj6 t201 t209).bind fun t212 => (if t212 = true then ((laws_markIntS.f kj6 t201 1).bind fun bt213 => (if bt213.1 < 0 then (laws_FnExactSortPeriods.j1 kj6 l0 t197 t198 t204 true) else ((laws_eqIntS.f kj6 t204 t197).bind fun t215 => (if t215 = true then (laws_FnExactSortPeriods.j1 kj6 l0 t197 t198 t204 (t205 != t198)) else (laws_FnExactSortPeriods.j1 kj6 l0 t197 t198 t204 true))))) else (some false))) = some r := H
     have A21 := Aside0.mk A210
     clear A210
     replace H := Option.bind_eq_some_iff.mp H
     obtain ⟨t212, A220, H⟩ := H
     replace H : (if t212 = true then ((laws_markIntS.f kj6 t201 1).bind fun bt213 => (if bt213.1 < 0 then (laws_FnExactSortPeriods.j1 kj6 l0 t197 t198 t204 true) else ((laws_eqIntS.f kj6 t204 t197).bind fun t215 => (if t215 = true then (laws_FnExactSortPeriods.j1 kj6 l0 t197 t198 t204 (t205 != t198)) else (laws_FnExactSortPeriods.j1 kj6 l0 t197 t198 t204 true))))) else (some false)) = some r := H
     have A22 := Aside0.mk A220
     clear A220
     by_cases c23 : t212 = true
     ·subst c23
      have H1 : ((laws_markIntS.f kj6 t201 1).bind fun bt213 => (if bt213.1 < 0 then (laws_FnExactSortPeriods.j1 kj6 l0 t197 t198 t204 true) else ((laws_eqIntS.f kj6 t204 t197).bind fun t215 => (if t215 = true then (laws_FnExactSortPeriods.j1 kj6 l0 t197 t198 t204 (t205 != t198)) else (laws_FnExactSortPeriods.j1 kj6 l0 t197 t198 t204 true))))) = some r := by rw [if_pos rfl] at H; exact H
      clear H
      have H := H1
      clear H1
      replace H := Option.bind_eq_some_iff.mp H
      obtain ⟨⟨t213, t214⟩, A240, H⟩ := H
      replace H : (if t213 < 0 then (laws_FnExactSortPeriods.j1 kj6 l0 t197 t198 t204 true) else ((laws_eqIntS.f kj6 t204 t197).bind fun t215 => (if t215 = true then (laws_FnExactSortPeriods.j1 kj6 l0 t197 t198 t204 (t205 != t198)) else (laws_FnExactSortPeriods.j1 kj6 l0 t197 t198 t204 true)))) = some r := H
      have A24 := Aside0.mk A240
      clear A240
      have HC25 := Aside0.mk H
      clear H
      go_upto_region 12 with (first | ((with_reducible refine gate_callee (f := 12) rfl ?_); refine gl 40 Try.func12 #[.slice A0 l0.length c0] ?_; (with_reducible refine (laws_toIntS.calls kj6 _ _ l0 t209 _ ?side1 ?side2 A21.out).mono ?_); (case side1 => repeat (first | exact (Kd.C_below HR0.out HB.out) | (with_reducible refine Kd.C_alloc ?_ _) | (with_reducible refine Kd.C_drewN ?_ _) | (with_reducible refine Kd.C_drew ?_))); (case side2 => exact HC0.out); rintro e w26 ⟨v210, rfl, ho0, hb⟩; refine ⟨_, rfl, ?_⟩; have HO211 := Aside0.mk (Kd.R_lower (Kd.R_new' (Kd.R_new' (Kd.R_new' ho0 (Kd.R_lt (by (with_reducible repeat (first | apply Kd.R_alloc | apply Kd.R_drewN | apply Kd.R_drew)); exact HO_3.out))) (Kd.R_lt (by (with_reducible repeat (first | apply Kd.R_alloc | apply Kd.R_drewN | apply Kd.R_drew)); exact HO_5.out))) (Kd.R_lt (by (with_reducible repeat (first | apply Kd.R_alloc | apply Kd.R_drewN | apply Kd.R_drew)); exact HO_6.out))) (below_size bl)); replace HO_3 := Aside0.mk (Kd.R_elder' (by (with_reducible repeat (first | apply Kd.R_alloc | apply Kd.R_drewN | apply Kd.R_drew)); exact HO_3.out) (Kd.R_base ho0) hb); replace HO_5 := Aside0.mk (Kd.R_elder' (by (with_reducible repeat (first | apply Kd.R_alloc | apply Kd.R_drewN | apply Kd.R_drew)); exact HO_5.out) (Kd.R_base ho0) hb); replace HO_6 := Aside0.mk (Kd.R_elder' (by (with_reducible repeat (first | apply Kd.R_alloc | apply Kd.R_drewN | apply Kd.R_drew)); exact HO_6.out) (Kd.R_base ho0) hb); replace HB := kh hb; (try clear hb); (try clear hb2); (try clear hk); (try clear hi); (try clear ho0); obtain ⟨Ao27, co27, eo27⟩ := Kd.R_slice HO211.out; subst eo27) | ((with_reducible refine gate_callee (f := 14) rfl ?_); refine gl 41 Try.func14 #[.slice Ao12 t201.length co12, .slice Ao27 t209.length co27] ?_; (with_reducible refine (laws_eqIntS.calls kj6 _ _ t201 _ _ t209 true _ ?side1 ?side2 ?side3 ?side4 A22.out).mono ?_); (case side1 => repeat (first | exact (Kd.R_reads' HO_5.out).2.2 | (with_reducible refine Kd.C_alloc ?_ _) | (with_reducible refine Kd.C_drewN ?_ _) | (with_reducible refine Kd.C_drew ?_))); (case side2 => exact (Kd.R_reads' HO_5.out).2.1); (case side3 => repeat (first | exact (Kd.R_reads' HO211.out).2.2 | (with_reducible refine Kd.C_alloc ?_ _) | (with_reducible refine Kd.C_drewN ?_ _) | (with_reducible refine Kd.C_drew ?_))); (case side4 => exact (Kd.R_reads' HO211.out).2.1); rintro e w' ⟨rfl, ⟨nd, rfl⟩⟩; refine ⟨_, rfl, ?_⟩) | ((with_reducible refine gate_callee (f := 15) rfl ?_); refine gl 45 Try.func15 #[.slice Ao12 t201.length co12, .int .i64 1] ?_; (with_reducible refine (laws_markIntS.calls kj6 (fun k_ => some k_ = (.slice Ao12 t201.length co12 : Value).ownBlock) (.slice Ao12 t201.length co12) t201 1 t213 t214 w _ ?side1 ?side2 A24.out).mono ?_); (case side1 => repeat (first | (with_reducible first | exact HB.out | apply below_alloc | apply pw_below_drewN | apply below_drew1) | exact HB.out)); (case side2 => exact Kd.R_tight rfl HO_5.out); rintro e w28 ⟨rfl, hy0, hb, hkp⟩; refine ⟨_, rfl, ?_⟩; replace HO_3 := Aside0.mk (Kd.R_mono (ok' := fun k_ => some k_ ≠ (.slice Ao12 t201.length co12 : Value).ownBlock ∧ some k_ ≠ (v206 : Value).ownBlock ∧ some k_ ≠ (.slice Ao27 t209.length co27 : Value).ownBlock) (Kd.R_keptB (HO_3.out) hkp (fun k_ hk_ hs_ => (hk_.1.1) hs_)) (fun k_ hk_ => ⟨hk_.1.1.1, hk_.1.1.2, hk_.1.2⟩)); replace HO_5 := Aside0.mk (Kd.R_reok rfl hy0 (fun k_ e_ => HO_5.out.1 k_ e_)); replace HO_6 := Aside0.mk (Kd.R_mono (ok' := fun k_ => some k_ ≠ (v199 : Value).ownBlock ∧ some k_ ≠ (.slice Ao12 t201.length co12 : Value).ownBlock ∧ some k_ ≠ (.slice Ao27 t209.length co27 : Value).ownBlock) (Kd.R_keptB (HO_6.out) hkp (fun k_ hk_ hs_ => (hk_.1.2) hs_)) (fun k_ hk_ => ⟨hk_.1.1.1, hk_.1.1.2, hk_.1.2⟩)); replace HO211 := Aside0.mk (Kd.R_mono (ok' := fun k_ => some k_ ≠ (v199 : Value).ownBlock ∧ some k_ ≠ (.slice Ao12 t201.length co12 : Value).ownBlock ∧ some k_ ≠ (v206 : Value).ownBlock) (Kd.R_keptB (HO211.out) hkp (fun k_ hk_ hs_ => (hk_.1.2) hs_)) (fun k_ hk_ => ⟨hk_.1.1.1.2, hk_.1.1.2, hk_.1.2⟩)); replace HB := Aside0.mk (hb); (try clear hb); (try clear hkp); (try clear hy0)))
      (try simp only [Act.put, List.setIfInBounds_toArray, List.set_cons_zero, List.set_cons_succ])
      go_cut [58] (fun v58 wc => ∃ (kq : Nat) (x58_24 : Bool), v58 = .bool x58_24 ∧ Aside0 (laws_FnExactSortPeriods.j1 kq l0 t197 t198 t204 x58_24 = some r) ∧ Aside0 (kq ≤ kj6) ∧ Aside0 (Kd.R (Kd.int .i64) 3 wc w.heap.size (fun k_ => some k_ ≠ (v206 : Value).ownBlock) v199 t197) ∧ Aside0 (Kd.R (Kd.int .i64) 3 wc w.heap.size (fun k_ => some k_ ≠ (v199 : Value).ownBlock) v206 t204) ∧ Aside0 (Below w.heap.size w wc))
      case first =>
       have H := HC25.out
       clear HC25
       by_cases c29 : t213 < 0
       ·rw [if_pos c29] at H
        have c29b0 : decide (t213 < 0) = true := decide_eq_true c29
        clear c29
        (first | rw [c29b0] | (simp only [i64_w, i32_w]; rw [c29b0]) | skip)
        have H' := Aside0.mk H
        clear H
        go_wp2
        go_meet
        case rel => exact ⟨_, (true), rs, H', ⟨by have := HJ6.out; first | omega | exact Nat.le_refl _⟩, ⟨by (with_reducible repeat (first | apply Kd.R_alloc | apply Kd.R_drewN | apply Kd.R_drew)); exact Kd.R_mono HO_3.out (fun _ hk => hk.2.1)⟩, ⟨by (with_reducible repeat (first | apply Kd.R_alloc | apply Kd.R_drewN | apply Kd.R_drew)); exact Kd.R_mono HO_6.out (fun _ hk => hk.1)⟩, ⟨bl⟩⟩
       ·rw [if_neg c29] at H
        have c29b0 : decide (t213 < 0) = false := decide_eq_false c29
        clear c29
        (first | rw [c29b0] | (simp only [i64_w, i32_w]; rw [c29b0]) | skip)
        replace H := Option.bind_eq_some_iff.mp H
        obtain ⟨t215, A300, H⟩ := H
        replace H : (if t215 = true then (laws_FnExactSortPeriods.j1 kj6 l0 t197 t198 t204 (t205 != t198)) else (laws_FnExactSortPeriods.j1 kj6 l0 t197 t198 t204 true)) = some r := H
        have A30 := Aside0.mk A300
        clear A300
        by_cases c31 : t215 = true
        ·subst c31
         have H1 : (laws_FnExactSortPeriods.j1 kj6 l0 t197 t198 t204 (t205 != t198)) = some r := by rw [if_pos rfl] at H; exact H
         clear H
         have H := H1
         clear H1
         have H' := Aside0.mk H
         clear H
         obtain ⟨Ao32, co32, eo32⟩ := Kd.R_slice HO_6.out
         subst eo32
         obtain ⟨Ao33, co33, eo33⟩ := Kd.R_slice HO_3.out
         subst eo33
         go_wp2_with (first | (go_at_call 14; (with_reducible refine (laws_eqIntS.calls kj6 _ _ t204 _ _ t197 true _ ?side1 ?side2 ?side3 ?side4 A30.out).mono ?_); (case side1 => repeat (first | exact (Kd.R_reads' HO_6.out).2.2 | (with_reducible refine Kd.C_alloc ?_ _) | (with_reducible refine Kd.C_drewN ?_ _) | (with_reducible refine Kd.C_drew ?_))); (case side2 => exact (Kd.R_reads' HO_6.out).2.1); (case side3 => repeat (first | exact (Kd.R_reads' HO_3.out).2.2 | (with_reducible refine Kd.C_alloc ?_ _) | (with_reducible refine Kd.C_drewN ?_ _) | (with_reducible refine Kd.C_drew ?_))); (case side4 => exact (Kd.R_reads' HO_3.out).2.1); rintro e w' ⟨rfl, ⟨nd, rfl⟩⟩))
         go_meet
         case rel => exact ⟨_, ((t205 != t198)), rs, H', ⟨by have := HJ6.out; first | omega | exact Nat.le_refl _⟩, ⟨by (with_reducible repeat (first | apply Kd.R_alloc | apply Kd.R_drewN | apply Kd.R_drew)); exact Kd.R_mono HO_3.out (fun _ hk => hk.2.1)⟩, ⟨by (with_reducible repeat (first | apply Kd.R_alloc | apply Kd.R_drewN | apply Kd.R_drew)); exact Kd.R_mono HO_6.out (fun _ hk => hk.1)⟩, ⟨bl⟩⟩
        ·replace c31 := Bool.eq_false_iff.mpr c31
         subst c31
         have H1 : (laws_FnExactSortPeriods.j1 kj6 l0 t197 t198 t204 true) = some r := by rw [if_neg (show ¬ (false = true) by decide)] at H; exact H
         clear H
         have H := H1
         clear H1
         have H' := Aside0.mk H
         clear H
         obtain ⟨Ao34, co34, eo34⟩ := Kd.R_slice HO_6.out
         subst eo34
         obtain ⟨Ao35, co35, eo35⟩ := Kd.R_slice HO_3.out
         subst eo35
         go_wp2_with (first | (go_at_call 14; (with_reducible refine (laws_eqIntS.calls kj6 _ _ t204 _ _ t197 false _ ?side1 ?side2 ?side3 ?side4 A30.out).mono ?_); (case side1 => repeat (first | exact (Kd.R_reads' HO_6.out).2.2 | (with_reducible refine Kd.C_alloc ?_ _) | (with_reducible refine Kd.C_drewN ?_ _) | (with_reducible refine Kd.C_drew ?_))); (case side2 => exact (Kd.R_reads' HO_6.out).2.1); (case side3 => repeat (first | exact (Kd.R_reads' HO_3.out).2.2 | (with_reducible refine Kd.C_alloc ?_ _) | (with_reducible refine Kd.C_drewN ?_ _) | (with_reducible refine Kd.C_drew ?_))); (case side4 => exact (Kd.R_reads' HO_3.out).2.1); rintro e w' ⟨rfl, ⟨nd, rfl⟩⟩))
         go_meet
         case rel => exact ⟨_, (true), rs, H', ⟨by have := HJ6.out; first | omega | exact Nat.le_refl _⟩, ⟨by (with_reducible repeat (first | apply Kd.R_alloc | apply Kd.R_drewN | apply Kd.R_drew)); exact Kd.R_mono HO_3.out (fun _ hk => hk.2.1)⟩, ⟨by (with_reducible repeat (first | apply Kd.R_alloc | apply Kd.R_drewN | apply Kd.R_drew)); exact Kd.R_mono HO_6.out (fun _ hk => hk.1)⟩, ⟨bl⟩⟩
      case rest =>
       clear HC25
       try clear c1
       try clear c2
       try clear c2b0
       try clear c2b1
       try clear p2
       try clear c3
       try clear c4
       try clear c11
       try clear c12
       try clear c13
       try clear c14
       try clear c15
       try clear c20
       try clear c23
       try clear c29
       try clear c29b0
       try clear c31
       try clear p2
       obtain ⟨kq, x58_24, rfl, HA, HJ24, HO_3, HO_6, HB⟩ := hcut
       cases kq with
       | zero => exact absurd HA.out (by simp [laws_FnExactSortPeriods.j1])
       | succ kj24 =>
        have H := HA.out
        clear HA
        simp only [laws_FnExactSortPeriods.j1] at H
        by_cases c36 : x58_24 = true
        ·subst c36
         have H1 : (some false) = some r := by rw [if_pos rfl] at H; exact H
         clear H
         have H := H1
         clear H1
         obtain rfl := Option.some.inj H
         go_wp2
         go_ret
         exact ⟨rt, bl⟩
        ·replace c36 := Bool.eq_false_iff.mpr c36
         subst c36
         have H1 : ((laws_markIntS.f kj24 t204 1).bind fun bt216 => ((laws_heldIntS.f kj24 bt216.2 1).bind fun t218 => (if t218 < 0 then (some false) else (if t218 = bt216.1 then ((laws_toIntS.f kj24 l0).bind fun t219 => ((impl_SortPeriods.f kj24 t219).bind fun bt222 => ((laws_eqIntS.f kj24 bt222.1 t197).bind fun t226 => (if t226 = true then (laws_FnExactSortPeriods.j2 kj24 bt216.2 bt216.1 (bt222.2 != t198)) else (laws_FnExactSortPeriods.j2 kj24 bt216.2 bt216.1 true))))) else (some false))))) = some r := by rw [if_neg (show ¬ (false = true) by decide)] at H; exact H
         clear H
         have H := H1
         clear H1
         replace H := Option.bind_eq_some_iff.mp H
         obtain ⟨⟨t216, t217⟩, A370, H⟩ := H
         replace H : ((laws_heldIntS.f kj24 t217 1).bind fun t218 => (if t218 < 0 then (some false) else (if t218 = t216 then ((laws_toIntS.f kj24 l0).bind fun t219 => ((impl_SortPeriods.f kj24 t219).bind fun bt222 => ((laws_eqIntS.f kj24 bt222.1 t197).bind fun t226 => (if t226 = true then (laws_FnExactSortPeriods.j2 kj24 t217 t216 (bt222.2 != t198)) else (laws_FnExactSortPeriods.j2 kj24 t217 t216 true))))) else (some false)))) = some r := H
         have A37 := Aside0.mk A370
         clear A370
         replace H := Option.bind_eq_some_iff.mp H
         obtain ⟨t218, A380, H⟩ := H
         replace H : (if t218 < 0 then (some false) else (if t218 = t216 then ((laws_toIntS.f kj24 l0).bind fun t219 => ((impl_SortPeriods.f kj24 t219).bind fun bt222 => ((laws_eqIntS.f kj24 bt222.1 t197).bind fun t226 => (if t226 = true then (laws_FnExactSortPeriods.j2 kj24 t217 t216 (bt222.2 != t198)) else (laws_FnExactSortPeriods.j2 kj24 t217 t216 true))))) else (some false))) = some r := H
         have A38 := Aside0.mk A380
         clear A380
         by_cases c39 : t218 < 0
         ·rw [if_pos c39] at H
          have c39b0 : decide (t218 < 0) = true := decide_eq_true c39
          clear c39
          obtain rfl := Option.some.inj H
          obtain ⟨Ao40, co40, eo40⟩ := Kd.R_slice HO_6.out
          subst eo40
          go_wp2_with (first | ((with_reducible refine gate_callee (f := 15) rfl ?_); refine gl 61 Try.func15 #[.slice Ao40 t204.length co40, .int .i64 1] ?_; (with_reducible refine (laws_markIntS.calls kj24 (fun k_ => some k_ = (.slice Ao40 t204.length co40 : Value).ownBlock) (.slice Ao40 t204.length co40) t204 1 t216 t217 w _ ?side1 ?side2 A37.out).mono ?_); (case side1 => repeat (first | (with_reducible first | exact HB.out | apply below_alloc | apply pw_below_drewN | apply below_drew1) | exact HB.out)); (case side2 => exact Kd.R_tight rfl HO_6.out); rintro e w41 ⟨rfl, hy0, hb, hkp⟩; refine ⟨_, rfl, ?_⟩; replace HO_3 := Aside0.mk (Kd.R_mono (ok' := fun k_ => some k_ ≠ (.slice Ao40 t204.length co40 : Value).ownBlock) (Kd.R_keptB (HO_3.out) hkp (fun k_ hk_ hs_ => (hk_) hs_)) (fun k_ hk_ => hk_.1)); replace HO_6 := Aside0.mk (Kd.R_reok rfl hy0 (fun k_ e_ => HO_6.out.1 k_ e_)); replace HB := Aside0.mk (hb); (try clear hb); (try clear hkp); (try clear hy0)) | ((with_reducible refine gate_callee (f := 16) rfl ?_); refine goesL_ (some 64) rfl rfl Try.func16 (by kernel_rfl) rfl #[.slice Ao40 t217.length co40, .int .i64 1] rfl (by (try simp only [List.map_toArray, List.map_cons, List.map_nil]); first | done | (rw [show t217.length = t204.length from (Kd.R_reads' HO_6.out).1.symm] <;> rfl) | rfl | (simp only [List.length_drop, List.length_take]; rfl)) ?_; (with_reducible refine (laws_heldIntS.calls kj24 _ _ t217 1 t218 _ ?side1 ?side2 A38.out).mono ?_); (case side1 => repeat (first | exact (Kd.R_reads' HO_6.out).2.2 | (with_reducible refine Kd.C_alloc ?_ _) | (with_reducible refine Kd.C_drewN ?_ _) | (with_reducible refine Kd.C_drew ?_))); (case side2 => rw [show t217.length = t204.length from (Kd.R_reads' HO_6.out).1.symm]; exact (Kd.R_reads' HO_6.out).2.1); rintro e w' ⟨rfl, ⟨nd, rfl⟩⟩; refine ⟨_, rfl, ?_⟩))
          go_ret
          exact ⟨rt, bl⟩
         ·rw [if_neg c39] at H
          have c39b0 : decide (t218 < 0) = false := decide_eq_false c39
          clear c39
          by_cases c42 : t218 = t216
          ·rw [if_pos c42] at H
           have c42b0 : (t218 == t216) = true := beq_iff_eq.mpr c42
           have c42b1 : (t218 != t216) = false := bne_eq_false_iff_eq.mpr c42
           clear c42
           replace H := Option.bind_eq_some_iff.mp H
           obtain ⟨t219, A430, H⟩ := H
           replace H : ((impl_SortPeriods.f kj24 t219).bind fun bt222 => ((laws_eqIntS.f kj24 bt222.1 t197).bind fun t226 => (if t226 = true then (laws_FnExactSortPeriods.j2 kj24 t217 t216 (bt222.2 != t198)) else (laws_FnExactSortPeriods.j2 kj24 t217 t216 true)))) = some r := H
           have A43 := Aside0.mk A430
           clear A430
           replace H := Option.bind_eq_some_iff.mp H
           obtain ⟨⟨t222, t223⟩, A440, H⟩ := H
           replace H : ((laws_eqIntS.f kj24 t222 t197).bind fun t226 => (if t226 = true then (laws_FnExactSortPeriods.j2 kj24 t217 t216 (t223 != t198)) else (laws_FnExactSortPeriods.j2 kj24 t217 t216 true))) = some r := H
           have A44 := Aside0.mk A440
           clear A440
           have HC45 := Aside0.mk H
           clear H
           obtain ⟨Ao46, co46, eo46⟩ := Kd.R_slice HO_6.out
           subst eo46
           go_upto_region 23 with (first | ((with_reducible refine gate_callee (f := 15) rfl ?_); refine gl 61 Try.func15 #[.slice Ao46 t204.length co46, .int .i64 1] ?_; (with_reducible refine (laws_markIntS.calls kj24 (fun k_ => some k_ = (.slice Ao46 t204.length co46 : Value).ownBlock) (.slice Ao46 t204.length co46) t204 1 t216 t217 w _ ?side1 ?side2 A37.out).mono ?_); (case side1 => repeat (first | (with_reducible first | exact HB.out | apply below_alloc | apply pw_below_drewN | apply below_drew1) | exact HB.out)); (case side2 => exact Kd.R_tight rfl HO_6.out); rintro e w47 ⟨rfl, hy0, hb, hkp⟩; refine ⟨_, rfl, ?_⟩; replace HO_3 := Aside0.mk (Kd.R_mono (ok' := fun k_ => some k_ ≠ (.slice Ao46 t204.length co46 : Value).ownBlock) (Kd.R_keptB (HO_3.out) hkp (fun k_ hk_ hs_ => (hk_) hs_)) (fun k_ hk_ => hk_.1)); replace HO_6 := Aside0.mk (Kd.R_reok rfl hy0 (fun k_ e_ => HO_6.out.1 k_ e_)); replace HB := Aside0.mk (hb); (try clear hb); (try clear hkp); (try clear hy0)) | ((with_reducible refine gate_callee (f := 16) rfl ?_); refine goesL_ (some 64) rfl rfl Try.func16 (by kernel_rfl) rfl #[.slice Ao46 t217.length co46, .int .i64 1] rfl (by (try simp only [List.map_toArray, List.map_cons, List.map_nil]); first | done | (rw [show t217.length = t204.length from (Kd.R_reads' HO_6.out).1.symm] <;> rfl) | rfl | (simp only [List.length_drop, List.length_take]; rfl)) ?_; (with_reducible refine (laws_heldIntS.calls kj24 _ _ t217 1 t218 _ ?side1 ?side2 A38.out).mono ?_); (case side1 => repeat (first | exact (Kd.R_reads' HO_6.out).2.2 | (with_reducible refine Kd.C_alloc ?_ _) | (with_reducible refine Kd.C_drewN ?_ _) | (with_reducible refine Kd.C_drew ?_))); (case side2 => rw [show t217.length = t204.length from (Kd.R_reads' HO_6.out).1.symm]; exact (Kd.R_reads' HO_6.out).2.1); rintro e w' ⟨rfl, ⟨nd, rfl⟩⟩; refine ⟨_, rfl, ?_⟩) | ((with_reducible refine gate_callee (f := 12) rfl ?_); refine gl 72 Try.func12 #[.slice A0 l0.length c0] ?_; (with_reducible refine (laws_toIntS.calls kj24 _ _ l0 t219 _ ?side1 ?side2 A43.out).mono ?_); (case side1 => repeat (first | exact (Kd.C_below HR0.out bl) | (with_reducible refine Kd.C_alloc ?_ _) | (with_reducible refine Kd.C_drewN ?_ _) | (with_reducible refine Kd.C_drew ?_))); (case side2 => exact HC0.out); rintro e w48 ⟨v220, rfl, ho0, hb⟩; refine ⟨_, rfl, ?_⟩; have HO221 := Aside0.mk (Kd.R_lower (Kd.R_new' (Kd.R_new' ho0 (Kd.R_lt (by (with_reducible repeat (first | apply Kd.R_alloc | apply Kd.R_drewN | apply Kd.R_drew)); exact HO_3.out))) (Kd.R_lt (by (with_reducible repeat (first | apply Kd.R_alloc | apply Kd.R_drewN | apply Kd.R_drew)); exact HO_6.out))) (below_size bl)); replace HO_3 := Aside0.mk (Kd.R_elder' (by (with_reducible repeat (first | apply Kd.R_alloc | apply Kd.R_drewN | apply Kd.R_drew)); exact HO_3.out) (Kd.R_base ho0) hb); replace HO_6 := Aside0.mk (Kd.R_elder' (by (with_reducible repeat (first | apply Kd.R_alloc | apply Kd.R_drewN | apply Kd.R_drew)); exact HO_6.out) (Kd.R_base ho0) hb); replace HB := kh hb; (try clear hb); (try clear hb2); (try clear hk); (try clear hi); (try clear ho0); obtain ⟨Ao49, co49, eo49⟩ := Kd.R_slice HO221.out; subst eo49) | ((with_reducible refine gate_callee (f := 13) rfl ?_); refine gl 73 Try.func13 #[.slice Ao49 t219.length co49] ?_; (with_reducible refine (impl_SortPeriods.calls kj24 _ _ t219 t222 t223 _ ?side1 ?side2 A44.out).mono ?_); (case side1 => repeat (first | exact (Kd.R_reads' HO221.out).2.2 | (with_reducible refine Kd.C_alloc ?_ _) | (with_reducible refine Kd.C_drewN ?_ _) | (with_reducible refine Kd.C_drew ?_))); (case side2 => exact (Kd.R_reads' HO221.out).2.1); rintro e w50 ⟨v224, rfl, ho0, hb⟩; refine ⟨_, rfl, ?_⟩; have HO225 := Aside0.mk (Kd.R_lower (Kd.R_new' (Kd.R_new' (Kd.R_new' ho0 (Kd.R_lt (by (with_reducible repeat (first | apply Kd.R_alloc | apply Kd.R_drewN | apply Kd.R_drew)); exact HO_3.out))) (Kd.R_lt (by (with_reducible repeat (first | apply Kd.R_alloc | apply Kd.R_drewN | apply Kd.R_drew)); exact HO_6.out))) (Kd.R_lt (by (with_reducible repeat (first | apply Kd.R_alloc | apply Kd.R_drewN | apply Kd.R_drew)); exact HO221.out))) (below_size bl)); replace HO_3 := Aside0.mk (Kd.R_elder' (by (with_reducible repeat (first | apply Kd.R_alloc | apply Kd.R_drewN | apply Kd.R_drew)); exact HO_3.out) (Kd.R_base ho0) hb); replace HO_6 := Aside0.mk (Kd.R_elder' (by (with_reducible repeat (first | apply Kd.R_alloc | apply Kd.R_drewN | apply Kd.R_drew)); exact HO_6.out) (Kd.R_base ho0) hb); replace HO221 := Aside0.mk (Kd.R_elder' (by (with_reducible repeat (first | apply Kd.R_alloc | apply Kd.R_drewN | apply Kd.R_drew)); exact HO221.out) (Kd.R_base ho0) hb); replace HB := kh hb; (try clear hb); (try clear hb2); (try clear hk); (try clear hi); (try clear ho0)))
           (try simp only [Act.put, List.setIfInBounds_toArray, List.set_cons_zero, List.set_cons_succ])
           go_cut [84] (fun v84 wc => ∃ (kq : Nat) (x84_44 : Bool), v84 = .bool x84_44 ∧ Aside0 (laws_FnExactSortPeriods.j2 kq t217 t216 x84_44 = some r) ∧ Aside0 (kq ≤ kj24) ∧ Aside0 (Kd.R (Kd.int .i64) 3 wc w.heap.size (fun _ => True) (.slice Ao46 t204.length co46) t217) ∧ Aside0 (Below w.heap.size w wc))
           case first =>
            have H := HC45.out
            clear HC45
            replace H := Option.bind_eq_some_iff.mp H
            obtain ⟨t226, A510, H⟩ := H
            replace H : (if t226 = true then (laws_FnExactSortPeriods.j2 kj24 t217 t216 (t223 != t198)) else (laws_FnExactSortPeriods.j2 kj24 t217 t216 true)) = some r := H
            have A51 := Aside0.mk A510
            clear A510
            by_cases c52 : t226 = true
            ·subst c52
             have H1 : (laws_FnExactSortPeriods.j2 kj24 t217 t216 (t223 != t198)) = some r := by rw [if_pos rfl] at H; exact H
             clear H
             have H := H1
             clear H1
             have H' := Aside0.mk H
             clear H
             obtain ⟨Ao53, co53, eo53⟩ := Kd.R_slice HO225.out
             subst eo53
             obtain ⟨Ao54, co54, eo54⟩ := Kd.R_slice HO_3.out
             subst eo54
             go_wp2_with (first | ((with_reducible refine gate_callee (f := 14) rfl ?_); refine gl 78 Try.func14 #[.slice Ao53 t222.length co53, .slice Ao54 t197.length co54] ?_; (with_reducible refine (laws_eqIntS.calls kj24 _ _ t222 _ _ t197 true _ ?side1 ?side2 ?side3 ?side4 A51.out).mono ?_); (case side1 => repeat (first | exact (Kd.R_reads' HO225.out).2.2 | (with_reducible refine Kd.C_alloc ?_ _) | (with_reducible refine Kd.C_drewN ?_ _) | (with_reducible refine Kd.C_drew ?_))); (case side2 => exact (Kd.R_reads' HO225.out).2.1); (case side3 => repeat (first | exact (Kd.R_reads' HO_3.out).2.2 | (with_reducible refine Kd.C_alloc ?_ _) | (with_reducible refine Kd.C_drewN ?_ _) | (with_reducible refine Kd.C_drew ?_))); (case side4 => exact (Kd.R_reads' HO_3.out).2.1); rintro e w' ⟨rfl, ⟨nd, rfl⟩⟩; refine ⟨_, rfl, ?_⟩))
             go_meet
             case rel => exact ⟨_, ((t223 != t198)), rs, H', ⟨by have := HJ6.out; have := HJ24.out; first | omega | exact Nat.le_refl _⟩, ⟨by (with_reducible repeat (first | apply Kd.R_alloc | apply Kd.R_drewN | apply Kd.R_drew)); exact Kd.R_mono HO_6.out (fun _ hk => trivial)⟩, ⟨bl⟩⟩
            ·replace c52 := Bool.eq_false_iff.mpr c52
             subst c52
             have H1 : (laws_FnExactSortPeriods.j2 kj24 t217 t216 true) = some r := by rw [if_neg (show ¬ (false = true) by decide)] at H; exact H
             clear H
             have H := H1
             clear H1
             have H' := Aside0.mk H
             clear H
             obtain ⟨Ao55, co55, eo55⟩ := Kd.R_slice HO225.out
             subst eo55
             obtain ⟨Ao56, co56, eo56⟩ := Kd.R_slice HO_3.out
             subst eo56
             go_wp2_with (first | ((with_reducible refine gate_callee (f := 14) rfl ?_); refine gl 78 Try.func14 #[.slice Ao55 t222.length co55, .slice Ao56 t197.length co56] ?_; (with_reducible refine (laws_eqIntS.calls kj24 _ _ t222 _ _ t197 false _ ?side1 ?side2 ?side3 ?side4 A51.out).mono ?_); (case side1 => repeat (first | exact (Kd.R_reads' HO225.out).2.2 | (with_reducible refine Kd.C_alloc ?_ _) | (with_reducible refine Kd.C_drewN ?_ _) | (with_reducible refine Kd.C_drew ?_))); (case side2 => exact (Kd.R_reads' HO225.out).2.1); (case side3 => repeat (first | exact (Kd.R_reads' HO_3.out).2.2 | (with_reducible refine Kd.C_alloc ?_ _) | (with_reducible refine Kd.C_drewN ?_ _) | (with_reducible refine Kd.C_drew ?_))); (case side4 => exact (Kd.R_reads' HO_3.out).2.1); rintro e w' ⟨rfl, ⟨nd, rfl⟩⟩; refine ⟨_, rfl, ?_⟩))
             go_meet
             case rel => exact ⟨_, (true), rs, H', ⟨by have := HJ6.out; have := HJ24.out; first | omega | exact Nat.le_refl _⟩, ⟨by (with_reducible repeat (first | apply Kd.R_alloc | apply Kd.R_drewN | apply Kd.R_drew)); exact Kd.R_mono HO_6.out (fun _ hk => trivial)⟩, ⟨bl⟩⟩
           case rest =>
            clear HC45
            try clear c1
            try clear c2
            try clear c2b0
            try clear c2b1
            try clear p2
            try clear c3
            try clear c4
            try clear c5
            try clear c11
            try clear c12
            try clear c13
            try clear c14
            try clear c15
            try clear c16
            try clear c20
            try clear c23
            try clear c29
            try clear c29b0
            try clear c31
            try clear c36
            try clear c39
            try clear c39b0
            try clear c42
            try clear c42b0
            try clear c42b1
            try clear c52
            try clear p2
            obtain ⟨kq, x84_44, rfl, HA, HJ44, HO_6, HB⟩ := hcut
            have hl6_44 := (Kd.R_reads' HO_6.out).1
            rw [hl6_44] at HO_6
            (try simp only [hl6_44])
            cases kq with
            | zero => exact absurd HA.out (by simp [laws_FnExactSortPeriods.j2])
            | succ kj44 =>
             have H := HA.out
             clear HA
             simp only [laws_FnExactSortPeriods.j2] at H
             by_cases c57 : x84_44 = true
             ·subst c57
              have H1 : (some false) = some r := by rw [if_pos rfl] at H; exact H
              clear H
              have H := H1
              clear H1
              obtain rfl := Option.some.inj H
              go_wp2
              go_ret
              exact ⟨rt, bl⟩
             ·replace c57 := Bool.eq_false_iff.mpr c57
              subst c57
              have H1 : ((laws_heldIntS.f kj44 t217 1).bind fun t227 => (if t227 < 0 then (some false) else (if t227 = t216 then (some true) else (some false)))) = some r := by rw [if_neg (show ¬ (false = true) by decide)] at H; exact H
              clear H
              have H := H1
              clear H1
              replace H := Option.bind_eq_some_iff.mp H
              obtain ⟨t227, A580, H⟩ := H
              replace H : (if t227 < 0 then (some false) else (if t227 = t216 then (some true) else (some false))) = some r := H
              have A58 := Aside0.mk A580
              clear A580
              by_cases c59 : t227 < 0
              ·rw [if_pos c59] at H
               have c59b0 : decide (t227 < 0) = true := decide_eq_true c59
               clear c59
               obtain rfl := Option.some.inj H
               go_wp2_with (first | ((with_reducible refine gate_callee (f := 16) rfl ?_); refine gl 87 Try.func16 #[.slice Ao46 t217.length co46, .int .i64 1] ?_; (with_reducible refine (laws_heldIntS.calls kj44 _ _ t217 1 t227 _ ?side1 ?side2 A58.out).mono ?_); (case side1 => repeat (first | exact (Kd.R_reads' HO_6.out).2.2 | (with_reducible refine Kd.C_alloc ?_ _) | (with_reducible refine Kd.C_drewN ?_ _) | (with_reducible refine Kd.C_drew ?_))); (case side2 => exact (Kd.R_reads' HO_6.out).2.1); rintro e w' ⟨rfl, ⟨nd, rfl⟩⟩; refine ⟨_, rfl, ?_⟩))
               go_ret
               exact ⟨rt, bl⟩
              ·rw [if_neg c59] at H
               have c59b0 : decide (t227 < 0) = false := decide_eq_false c59
               clear c59
               by_cases c60 : t227 = t216
               ·rw [if_pos c60] at H
                have c60b0 : (t227 == t216) = true := beq_iff_eq.mpr c60
                have c60b1 : (t227 != t216) = false := bne_eq_false_iff_eq.mpr c60
                clear c60
                obtain rfl := Option.some.inj H
                go_wp2_with (first | ((with_reducible refine gate_callee (f := 16) rfl ?_); refine gl 87 Try.func16 #[.slice Ao46 t217.length co46, .int .i64 1] ?_; (with_reducible refine (laws_heldIntS.calls kj44 _ _ t217 1 t227 _ ?side1 ?side2 A58.out).mono ?_); (case side1 => repeat (first | exact (Kd.R_reads' HO_6.out).2.2 | (with_reducible refine Kd.C_alloc ?_ _) | (with_reducible refine Kd.C_drewN ?_ _) | (with_reducible refine Kd.C_drew ?_))); (case side2 => exact (Kd.R_reads' HO_6.out).2.1); rintro e w' ⟨rfl, ⟨nd, rfl⟩⟩; refine ⟨_, rfl, ?_⟩))
                go_ret
                exact ⟨rt, bl⟩
               ·rw [if_neg c60] at H
                have c60b0 : (t227 == t216) = false := beq_eq_false_iff_ne.mpr c60
                have c60b1 : (t227 != t216) = true := bne_iff_ne.mpr c60
                obtain rfl := Option.some.inj H
                go_wp2_with (first | ((with_reducible refine gate_callee (f := 16) rfl ?_); refine gl 87 Try.func16 #[.slice Ao46 t217.length co46, .int .i64 1] ?_; (with_reducible refine (laws_heldIntS.calls kj44 _ _ t217 1 t227 _ ?side1 ?side2 A58.out).mono ?_); (case side1 => repeat (first | exact (Kd.R_reads' HO_6.out).2.2 | (with_reducible refine Kd.C_alloc ?_ _) | (with_reducible refine Kd.C_drewN ?_ _) | (with_reducible refine Kd.C_drew ?_))); (case side2 => exact (Kd.R_reads' HO_6.out).2.1); rintro e w' ⟨rfl, ⟨nd, rfl⟩⟩; refine ⟨_, rfl, ?_⟩))
                go_ret
                exact ⟨rt, bl⟩
          ·rw [if_neg c42] at H
           have c42b0 : (t218 == t216) = false := beq_eq_false_iff_ne.mpr c42
           have c42b1 : (t218 != t216) = true := bne_iff_ne.mpr c42
           obtain rfl := Option.some.inj H
           obtain ⟨Ao61, co61, eo61⟩ := Kd.R_slice HO_6.out
           subst eo61
           go_wp2_with (first | ((with_reducible refine gate_callee (f := 15) rfl ?_); refine gl 61 Try.func15 #[.slice Ao61 t204.length co61, .int .i64 1] ?_; (with_reducible refine (laws_markIntS.calls kj24 (fun k_ => some k_ = (.slice Ao61 t204.length co61 : Value).ownBlock) (.slice Ao61 t204.length co61) t204 1 t216 t217 w _ ?side1 ?side2 A37.out).mono ?_); (case side1 => repeat (first | (with_reducible first | exact HB.out | apply below_alloc | apply pw_below_drewN | apply below_drew1) | exact HB.out)); (case side2 => exact Kd.R_tight rfl HO_6.out); rintro e w62 ⟨rfl, hy0, hb, hkp⟩; refine ⟨_, rfl, ?_⟩; replace HO_3 := Aside0.mk (Kd.R_mono (ok' := fun k_ => some k_ ≠ (.slice Ao61 t204.length co61 : Value).ownBlock) (Kd.R_keptB (HO_3.out) hkp (fun k_ hk_ hs_ => (hk_) hs_)) (fun k_ hk_ => hk_.1)); replace HO_6 := Aside0.mk (Kd.R_reok rfl hy0 (fun k_ e_ => HO_6.out.1 k_ e_)); replace HB := Aside0.mk (hb); (try clear hb); (try clear hkp); (try clear hy0)) | ((with_reducible refine gate_callee (f := 16) rfl ?_); refine goesL_ (some 64) rfl rfl Try.func16 (by kernel_rfl) rfl #[.slice Ao61 t217.length co61, .int .i64 1] rfl (by (try simp only [List.map_toArray, List.map_cons, List.map_nil]); first | done | (rw [show t217.length = t204.length from (Kd.R_reads' HO_6.out).1.symm] <;> rfl) | rfl | (simp only [List.length_drop, List.length_take]; rfl)) ?_; (with_reducible refine (laws_heldIntS.calls kj24 _ _ t217 1 t218 _ ?side1 ?side2 A38.out).mono ?_); (case side1 => repeat (first | exact (Kd.R_reads' HO_6.out).2.2 | (with_reducible refine Kd.C_alloc ?_ _) | (with_reducible refine Kd.C_drewN ?_ _) | (with_reducible refine Kd.C_drew ?_))); (case side2 => rw [show t217.length = t204.length from (Kd.R_reads' HO_6.out).1.symm]; exact (Kd.R_reads' HO_6.out).2.1); rintro e w' ⟨rfl, ⟨nd, rfl⟩⟩; refine ⟨_, rfl, ?_⟩))
           go_ret
           exact ⟨rt, bl⟩
     ·replace c23 := Bool.eq_false_iff.mpr c23
      subst c23
      have H1 : (some false) = some r := by rw [if_neg (show ¬ (false = true) by decide)] at H; exact H
      clear H
      have H := H1
      clear H1
      obtain rfl := Option.some.inj H
      go_wp2_with (first | ((with_reducible refine gate_callee (f := 12) rfl ?_); refine gl 40 Try.func12 #[.slice A0 l0.length c0] ?_; (with_reducible refine (laws_toIntS.calls kj6 _ _ l0 t209 _ ?side1 ?side2 A21.out).mono ?_); (case side1 => repeat (first | exact (Kd.C_below HR0.out HB.out) | (with_reducible refine Kd.C_alloc ?_ _) | (with_reducible refine Kd.C_drewN ?_ _) | (with_reducible refine Kd.C_drew ?_))); (case side2 => exact HC0.out); rintro e w63 ⟨v210, rfl, ho0, hb⟩; refine ⟨_, rfl, ?_⟩; have HO211 := Aside0.mk (Kd.R_lower (Kd.R_new' (Kd.R_new' (Kd.R_new' ho0 (Kd.R_lt (by (with_reducible repeat (first | apply Kd.R_alloc | apply Kd.R_drewN | apply Kd.R_drew)); exact HO_3.out))) (Kd.R_lt (by (with_reducible repeat (first | apply Kd.R_alloc | apply Kd.R_drewN | apply Kd.R_drew)); exact HO_5.out))) (Kd.R_lt (by (with_reducible repeat (first | apply Kd.R_alloc | apply Kd.R_drewN | apply Kd.R_drew)); exact HO_6.out))) (below_size bl)); replace HO_3 := Aside0.mk (Kd.R_elder' (by (with_reducible repeat (first | apply Kd.R_alloc | apply Kd.R_drewN | apply Kd.R_drew)); exact HO_3.out) (Kd.R_base ho0) hb); replace HO_5 := Aside0.mk (Kd.R_elder' (by (with_reducible repeat (first | apply Kd.R_alloc | apply Kd.R_drewN | apply Kd.R_drew)); exact HO_5.out) (Kd.R_base ho0) hb); replace HO_6 := Aside0.mk (Kd.R_elder' (by (with_reducible repeat (first | apply Kd.R_alloc | apply Kd.R_drewN | apply Kd.R_drew)); exact HO_6.out) (Kd.R_base ho0) hb); replace HB := kh hb; (try clear hb); (try clear hb2); (try clear hk); (try clear hi); (try clear ho0); obtain ⟨Ao64, co64, eo64⟩ := Kd.R_slice HO211.out; subst eo64) | ((with_reducible refine gate_callee (f := 14) rfl ?_); refine gl 41 Try.func14 #[.slice Ao12 t201.length co12, .slice Ao64 t209.length co64] ?_; (with_reducible refine (laws_eqIntS.calls kj6 _ _ t201 _ _ t209 false _ ?side1 ?side2 ?side3 ?side4 A22.out).mono ?_); (case side1 => repeat (first | exact (Kd.R_reads' HO_5.out).2.2 | (with_reducible refine Kd.C_alloc ?_ _) | (with_reducible refine Kd.C_drewN ?_ _) | (with_reducible refine Kd.C_drew ?_))); (case side2 => exact (Kd.R_reads' HO_5.out).2.1); (case side3 => repeat (first | exact (Kd.R_reads' HO211.out).2.2 | (with_reducible refine Kd.C_alloc ?_ _) | (with_reducible refine Kd.C_drewN ?_ _) | (with_reducible refine Kd.C_drew ?_))); (case side4 => exact (Kd.R_reads' HO211.out).2.1); rintro e w' ⟨rfl, ⟨nd, rfl⟩⟩; refine ⟨_, rfl, ?_⟩))
      go_ret
      exact ⟨rt, bl⟩

/-- THE ONE PURE STATEMENT of laws_FnExactSortPeriods: yours. -/
def laws_FnExactSortPeriods.Pure : Prop := ∀ (l0 : List Int), l0.length ≤ maxLen → l0.length * 8 ≤ 140737488351232 → (∀ x ∈ l0, (Lit.int .i64 x).wf = true) → ∃ k, laws_FnExactSortPeriods.f k l0 = some true
theorem laws_FnExactSortPeriods.walk (P : laws_FnExactSortPeriods.Pure) (a0 : Option Addr) (len0 cap0 : Nat) (z0 : List Int) (w : World) (w0 : (a0 = none ∧ len0 = 0 ∧ cap0 = 0 ∧ z0 = []) ∨ ∃ x, a0 = some x ∧ len0 ≤ cap0 ∧ cap0 ≤ maxLen ∧ z0.length = cap0 ∧ (∀ i, i < z0.length → w.cell? (x.add i) = some (.int .i64 (z0.getD i 0))) ∧ ∀ n ∈ z0, (Lit.int .i64 n).wf = true) (y0 : len0 * 8 ≤ 140737488351232) :
  Calls Try.prog 4 #[.slice a0 len0 cap0] w fun e w' => e = .returned (.bool true) ∧ Below w.heap.size w w' := by
 obtain ⟨l0, rfl, hr0, hm0, hw0, hc0⟩ := ReadsInt.ofRowC w0
 obtain ⟨k, h⟩ := P l0 hm0 y0 hw0
 refine (laws_FnExactSortPeriods.calls k _ _ l0 true w (Kd.C_of_reads (d := (0 : Int)) (h1 := fun _ => rfl) hr0) hc0 h).mono ?_
 rintro e w' ⟨rfl, hd⟩
 exact ⟨rfl, hd⟩

end Go.Proofs.Ytcbbkeojoichnaa.PFnExactSortPeriods
