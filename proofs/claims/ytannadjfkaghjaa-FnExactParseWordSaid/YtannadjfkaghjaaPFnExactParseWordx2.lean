-- Written by this session's program wip/pp (the kit's print tool with additions) 35421559b90ae4d0a3588c463048766b98c2df88dd9212a6774a882060cdf62d
import Derived.Test.YtannadjfkaghjaaPFnExactParseWordx0
import Derived.Test.YtannadjfkaghjaaPFnExactParseWordx1
namespace Go.Proofs.Ytannadjfkaghjaa.PFnExactParseWord
open Go.RowKit Go.Proofs.YtannadjfkaghjaaW.PrintWords Go.Proofs.YtannadjfkaghjaaW.PrintLast Go.Proofs.YtannadjfkaghjaaW.PrintMore
attribute [local go_sem] max2_int min2_int max_two min_two max_three min_three max_four min_four   -- for this text's walks alone
set_option linter.unusedVariables false
set_option linter.unusedSimpArgs false

/-! ### laws_FnExactParseWord: function 5 -/
mutual
def laws_FnExactParseWord.j0 : Nat → ByteArray → List Int → Bool → List Int → Bool → Option (Bool)
 | 0, _, _, _, _, _ => none
 | k + 1, x0, x3, x4, x5, x32 => if x32 = true then (some false) else ((laws_markIntS.f k x5 1).bind fun bt121 => ((laws_heldIntS.f k bt121.2 1).bind fun t123 => (if t123 < 0 then (some false) else (if t123 = bt121.1 then ((impl_ParseWord.f k x0).bind fun bt124 => ((laws_eqIntS.f k bt124.1 x3).bind fun t128 => (if t128 = true then (laws_FnExactParseWord.j1 k bt121.2 bt121.1 (bt124.2 != x4)) else (laws_FnExactParseWord.j1 k bt121.2 bt121.1 true)))) else (some false)))))
def laws_FnExactParseWord.j1 : Nat → List Int → Int → Bool → Option (Bool)
 | 0, _, _, _ => none
 | k + 1, x5, x7, x57 => if x57 = true then (some false) else ((laws_heldIntS.f k x5 1).bind fun t129 => (if t129 < 0 then (some false) else (if t129 = x7 then (some true) else (some false))))
end
def laws_FnExactParseWord.f (k : Nat) (a0 : ByteArray) : Option (Bool) := if (a0.size : Int) > 1048576 then (some true) else ((spec_ParseWord.f k a0).bind fun bt112 => ((impl_ParseWord.f k a0).bind fun bt116 => ((laws_eqIntS.f k bt116.1 bt112.1).bind fun t120 => (if t120 = true then (laws_FnExactParseWord.j0 k a0 bt112.1 bt112.2 bt116.1 (bt116.2 != bt112.2)) else (laws_FnExactParseWord.j0 k a0 bt112.1 bt112.2 bt116.1 true)))))
set_option maxHeartbeats 8000000 in
set_option maxRecDepth 100000 in
theorem laws_FnExactParseWord.calls (k : Nat) (a0 : ByteArray) (r : Bool) (w : World) (h : laws_FnExactParseWord.f k a0 = some r) :
  Calls Try.prog 5 #[.string a0] w fun e w' => e = .returned (.bool r) ∧ Below w.heap.size w w' := by
 have HB := Aside0.mk (Below.refl w.heap.size w)
 have H : (if (a0.size : Int) > 1048576 then (some true) else ((spec_ParseWord.f k a0).bind fun bt112 => ((impl_ParseWord.f k a0).bind fun bt116 => ((laws_eqIntS.f k bt116.1 bt112.1).bind fun t120 => (if t120 = true then (laws_FnExactParseWord.j0 k a0 bt112.1 bt112.2 bt116.1 (bt116.2 != bt112.2)) else (laws_FnExactParseWord.j0 k a0 bt112.1 bt112.2 bt116.1 true)))))) = some r := h
 clear h
 by_cases c2 : (a0.size : Int) > 1048576
 ·rw [if_pos c2] at H
  have c2b0 : decide (1048576 < (a0.size : Int)) = true := decide_eq_true c2
  have c2b1 : decide (1048576 < a0.size) = true := decide_eq_true (by omega)
  clear c2
  obtain rfl := Option.some.inj H
  go_enter Try.func5, Try.ntmps5
  go_wp2
  go_ret
  exact ⟨rt, bl⟩
 ·rw [if_neg c2] at H
  have c2b0 : decide (1048576 < (a0.size : Int)) = false := decide_eq_false c2
  have c2b1 : decide (1048576 < a0.size) = false := decide_eq_false (by omega)
  clear c2
  replace H := Option.bind_eq_some_iff.mp H
  obtain ⟨⟨t112, t113⟩, A30, H⟩ := H
  replace H : ((impl_ParseWord.f k a0).bind fun bt116 => ((laws_eqIntS.f k bt116.1 t112).bind fun t120 => (if t120 = true then (laws_FnExactParseWord.j0 k a0 t112 t113 bt116.1 (bt116.2 != t113)) else (laws_FnExactParseWord.j0 k a0 t112 t113 bt116.1 true)))) = some r := H
  have A3 := Aside0.mk A30
  clear A30
  replace H := Option.bind_eq_some_iff.mp H
  obtain ⟨⟨t116, t117⟩, A40, H⟩ := H
  replace H : ((laws_eqIntS.f k t116 t112).bind fun t120 => (if t120 = true then (laws_FnExactParseWord.j0 k a0 t112 t113 t116 (t117 != t113)) else (laws_FnExactParseWord.j0 k a0 t112 t113 t116 true))) = some r := H
  have A4 := Aside0.mk A40
  clear A40
  have HC5 := Aside0.mk H
  clear H
  go_enter Try.func5, Try.ntmps5
  go_upto_region 5 with (first | ((with_reducible refine gate_callee (f := 29) rfl ?_); refine gl 16 Try.func29 #[.string a0] ?_; (with_reducible refine (spec_ParseWord.calls k a0 t112 t113 _ A3.out).mono ?_); rintro e w6 ⟨v114, rfl, ho0, hb⟩; refine ⟨_, rfl, ?_⟩; have HO115 := Aside0.mk (Kd.R_lower ho0 (below_size bl)); replace HB := kh hb; (try clear hb); (try clear hb2); (try clear hk); (try clear hi); (try clear ho0)) | ((with_reducible refine gate_callee (f := 30) rfl ?_); refine gl 21 Try.func30 #[.string a0] ?_; (with_reducible refine (impl_ParseWord.calls k a0 t116 t117 _ A4.out).mono ?_); rintro e w7 ⟨v118, rfl, ho0, hb⟩; refine ⟨_, rfl, ?_⟩; have HO119 := Aside0.mk (Kd.R_lower (Kd.R_new' ho0 (Kd.R_lt (by (with_reducible repeat (first | apply Kd.R_alloc | apply Kd.R_drewN | apply Kd.R_drew)); exact HO115.out))) (below_size bl)); replace HO115 := Aside0.mk (Kd.R_elder' (by (with_reducible repeat (first | apply Kd.R_alloc | apply Kd.R_drewN | apply Kd.R_drew)); exact HO115.out) (Kd.R_base ho0) hb); replace HB := kh hb; (try clear hb); (try clear hb2); (try clear hk); (try clear hi); (try clear ho0)))
  (try simp only [Act.put, List.setIfInBounds_toArray, List.set_cons_zero, List.set_cons_succ])
  go_cut [32] (fun v32 wc => ∃ (kq : Nat) (x32_4 : Bool), v32 = .bool x32_4 ∧ Aside0 (laws_FnExactParseWord.j0 kq a0 t112 t113 t116 x32_4 = some r) ∧ Aside0 (kq ≤ k) ∧ Aside0 (Kd.R (Kd.int .i64) 3 wc w.heap.size (fun k_ => some k_ ≠ (v118 : Value).ownBlock) v114 t112) ∧ Aside0 (Kd.R (Kd.int .i64) 3 wc w.heap.size (fun k_ => some k_ ≠ (v114 : Value).ownBlock) v118 t116) ∧ Aside0 (Below w.heap.size w wc))
  case first =>
   have H := HC5.out
   clear HC5
   replace H := Option.bind_eq_some_iff.mp H
   obtain ⟨t120, A80, H⟩ := H
   replace H : (if t120 = true then (laws_FnExactParseWord.j0 k a0 t112 t113 t116 (t117 != t113)) else (laws_FnExactParseWord.j0 k a0 t112 t113 t116 true)) = some r := H
   have A8 := Aside0.mk A80
   clear A80
   by_cases c9 : t120 = true
   ·subst c9
    have H1 : (laws_FnExactParseWord.j0 k a0 t112 t113 t116 (t117 != t113)) = some r := by rw [if_pos rfl] at H; exact H
    clear H
    have H := H1
    clear H1
    have H' := Aside0.mk H
    clear H
    obtain ⟨Ao10, co10, eo10⟩ := Kd.R_slice HO119.out
    subst eo10
    obtain ⟨Ao11, co11, eo11⟩ := Kd.R_slice HO115.out
    subst eo11
    go_wp2_with (first | ((with_reducible refine gate_callee (f := 28) rfl ?_); refine gl 26 Try.func28 #[.slice Ao10 t116.length co10, .slice Ao11 t112.length co11] ?_; (with_reducible refine (laws_eqIntS.calls k _ _ t116 _ _ t112 true _ ?side1 ?side2 ?side3 ?side4 A8.out).mono ?_); (case side1 => repeat (first | exact (Kd.R_reads' HO119.out).2.2 | (with_reducible refine Kd.C_alloc ?_ _) | (with_reducible refine Kd.C_drewN ?_ _) | (with_reducible refine Kd.C_drew ?_))); (case side2 => exact (Kd.R_reads' HO119.out).2.1); (case side3 => repeat (first | exact (Kd.R_reads' HO115.out).2.2 | (with_reducible refine Kd.C_alloc ?_ _) | (with_reducible refine Kd.C_drewN ?_ _) | (with_reducible refine Kd.C_drew ?_))); (case side4 => exact (Kd.R_reads' HO115.out).2.1); rintro e w' ⟨rfl, ⟨nd, rfl⟩⟩; refine ⟨_, rfl, ?_⟩))
    go_meet
    case rel => exact ⟨_, ((t117 != t113)), rs, H', ⟨by first | omega | exact Nat.le_refl _⟩, ⟨by (with_reducible repeat (first | apply Kd.R_alloc | apply Kd.R_drewN | apply Kd.R_drew)); exact Kd.R_mono HO115.out (fun _ hk => hk.2)⟩, ⟨by (with_reducible repeat (first | apply Kd.R_alloc | apply Kd.R_drewN | apply Kd.R_drew)); exact Kd.R_mono HO119.out (fun _ hk => hk.2)⟩, ⟨bl⟩⟩
   ·replace c9 := Bool.eq_false_iff.mpr c9
    subst c9
    have H1 : (laws_FnExactParseWord.j0 k a0 t112 t113 t116 true) = some r := by rw [if_neg (show ¬ (false = true) by decide)] at H; exact H
    clear H
    have H := H1
    clear H1
    have H' := Aside0.mk H
    clear H
    obtain ⟨Ao12, co12, eo12⟩ := Kd.R_slice HO119.out
    subst eo12
    obtain ⟨Ao13, co13, eo13⟩ := Kd.R_slice HO115.out
    subst eo13
    go_wp2_with (first | ((with_reducible refine gate_callee (f := 28) rfl ?_); refine gl 26 Try.func28 #[.slice Ao12 t116.length co12, .slice Ao13 t112.length co13] ?_; (with_reducible refine (laws_eqIntS.calls k _ _ t116 _ _ t112 false _ ?side1 ?side2 ?side3 ?side4 A8.out).mono ?_); (case side1 => repeat (first | exact (Kd.R_reads' HO119.out).2.2 | (with_reducible refine Kd.C_alloc ?_ _) | (with_reducible refine Kd.C_drewN ?_ _) | (with_reducible refine Kd.C_drew ?_))); (case side2 => exact (Kd.R_reads' HO119.out).2.1); (case side3 => repeat (first | exact (Kd.R_reads' HO115.out).2.2 | (with_reducible refine Kd.C_alloc ?_ _) | (with_reducible refine Kd.C_drewN ?_ _) | (with_reducible refine Kd.C_drew ?_))); (case side4 => exact (Kd.R_reads' HO115.out).2.1); rintro e w' ⟨rfl, ⟨nd, rfl⟩⟩; refine ⟨_, rfl, ?_⟩))
    go_meet
    case rel => exact ⟨_, (true), rs, H', ⟨by first | omega | exact Nat.le_refl _⟩, ⟨by (with_reducible repeat (first | apply Kd.R_alloc | apply Kd.R_drewN | apply Kd.R_drew)); exact Kd.R_mono HO115.out (fun _ hk => hk.2)⟩, ⟨by (with_reducible repeat (first | apply Kd.R_alloc | apply Kd.R_drewN | apply Kd.R_drew)); exact Kd.R_mono HO119.out (fun _ hk => hk.2)⟩, ⟨bl⟩⟩
  case rest =>
   clear HC5
   try clear c2
   try clear c2b0
   try clear c2b1
   try clear p2
   try clear c3
   try clear c5
   try clear c9
   obtain ⟨kq, x32_4, rfl, HA, HJ4, HO_3, HO_5, HB⟩ := hcut
   cases kq with
   | zero => exact absurd HA.out (by simp [laws_FnExactParseWord.j0])
   | succ kj4 =>
    have H := HA.out
    clear HA
    simp only [laws_FnExactParseWord.j0] at H
    by_cases c14 : x32_4 = true
    ·subst c14
     have H1 : (some false) = some r := by rw [if_pos rfl] at H; exact H
     clear H
     have H := H1
     clear H1
     obtain rfl := Option.some.inj H
     go_wp2
     go_ret
     exact ⟨rt, bl⟩
    ·replace c14 := Bool.eq_false_iff.mpr c14
     subst c14
     have H1 : ((laws_markIntS.f kj4 t116 1).bind fun bt121 => ((laws_heldIntS.f kj4 bt121.2 1).bind fun t123 => (if t123 < 0 then (some false) else (if t123 = bt121.1 then ((impl_ParseWord.f kj4 a0).bind fun bt124 => ((laws_eqIntS.f kj4 bt124.1 t112).bind fun t128 => (if t128 = true then (laws_FnExactParseWord.j1 kj4 bt121.2 bt121.1 (bt124.2 != t113)) else (laws_FnExactParseWord.j1 kj4 bt121.2 bt121.1 true)))) else (some false))))) = some r := by rw [if_neg (show ¬ (false = true) by decide)] at H; exact H
     clear H
     have H := H1
     clear H1
     replace H := Option.bind_eq_some_iff.mp H
     obtain ⟨⟨t121, t122⟩, A150, H⟩ := H
     replace H : ((laws_heldIntS.f kj4 t122 1).bind fun t123 => (if t123 < 0 then (some false) else (if t123 = t121 then ((impl_ParseWord.f kj4 a0).bind fun bt124 => ((laws_eqIntS.f kj4 bt124.1 t112).bind fun t128 => (if t128 = true then (laws_FnExactParseWord.j1 kj4 t122 t121 (bt124.2 != t113)) else (laws_FnExactParseWord.j1 kj4 t122 t121 true)))) else (some false)))) = some r := H
     have A15 := Aside0.mk A150
     clear A150
     replace H := Option.bind_eq_some_iff.mp H
     obtain ⟨t123, A160, H⟩ := H
     replace H : (if t123 < 0 then (some false) else (if t123 = t121 then ((impl_ParseWord.f kj4 a0).bind fun bt124 => ((laws_eqIntS.f kj4 bt124.1 t112).bind fun t128 => (if t128 = true then (laws_FnExactParseWord.j1 kj4 t122 t121 (bt124.2 != t113)) else (laws_FnExactParseWord.j1 kj4 t122 t121 true)))) else (some false))) = some r := H
     have A16 := Aside0.mk A160
     clear A160
     by_cases c17 : t123 < 0
     ·rw [if_pos c17] at H
      have c17b0 : decide (t123 < 0) = true := decide_eq_true c17
      clear c17
      obtain rfl := Option.some.inj H
      obtain ⟨Ao18, co18, eo18⟩ := Kd.R_slice HO_5.out
      subst eo18
      go_wp2_with (first | ((with_reducible refine gate_callee (f := 31) rfl ?_); refine gl 35 Try.func31 #[.slice Ao18 t116.length co18, .int .i64 1] ?_; (with_reducible refine (laws_markIntS.calls kj4 (fun k_ => some k_ = (.slice Ao18 t116.length co18 : Value).ownBlock) (.slice Ao18 t116.length co18) t116 1 t121 t122 w _ ?side1 ?side2 A15.out).mono ?_); (case side1 => repeat (first | (with_reducible first | exact HB.out | apply below_alloc | apply pw_below_drewN | apply below_drew1) | exact HB.out)); (case side2 => exact Kd.R_tight rfl HO_5.out); rintro e w19 ⟨rfl, hy0, hb, hkp⟩; refine ⟨_, rfl, ?_⟩; replace HO_3 := Aside0.mk (Kd.R_mono (ok' := fun k_ => some k_ ≠ (.slice Ao18 t116.length co18 : Value).ownBlock) (Kd.R_keptB (HO_3.out) hkp (fun k_ hk_ hs_ => (hk_) hs_)) (fun k_ hk_ => hk_.1)); replace HO_5 := Aside0.mk (Kd.R_reok rfl hy0 (fun k_ e_ => HO_5.out.1 k_ e_)); replace HB := Aside0.mk (hb); (try clear hb); (try clear hkp); (try clear hy0)) | ((with_reducible refine gate_callee (f := 32) rfl ?_); refine goesL_ (some 38) rfl rfl Try.func32 (by kernel_rfl) rfl #[.slice Ao18 t122.length co18, .int .i64 1] rfl (by (try simp only [List.map_toArray, List.map_cons, List.map_nil]); first | done | (rw [show t122.length = t116.length from (Kd.R_reads' HO_5.out).1.symm] <;> rfl) | rfl | (simp only [List.length_drop, List.length_take]; rfl)) ?_; (with_reducible refine (laws_heldIntS.calls kj4 _ _ t122 1 t123 _ ?side1 ?side2 A16.out).mono ?_); (case side1 => repeat (first | exact (Kd.R_reads' HO_5.out).2.2 | (with_reducible refine Kd.C_alloc ?_ _) | (with_reducible refine Kd.C_drewN ?_ _) | (with_reducible refine Kd.C_drew ?_))); (case side2 => rw [show t122.length = t116.length from (Kd.R_reads' HO_5.out).1.symm]; exact (Kd.R_reads' HO_5.out).2.1); rintro e w' ⟨rfl, ⟨nd, rfl⟩⟩; refine ⟨_, rfl, ?_⟩))
      go_ret
      exact ⟨rt, bl⟩
     ·rw [if_neg c17] at H
      have c17b0 : decide (t123 < 0) = false := decide_eq_false c17
      clear c17
      by_cases c20 : t123 = t121
      ·rw [if_pos c20] at H
       have c20b0 : (t123 == t121) = true := beq_iff_eq.mpr c20
       have c20b1 : (t123 != t121) = false := bne_eq_false_iff_eq.mpr c20
       clear c20
       replace H := Option.bind_eq_some_iff.mp H
       obtain ⟨⟨t124, t125⟩, A210, H⟩ := H
       replace H : ((laws_eqIntS.f kj4 t124 t112).bind fun t128 => (if t128 = true then (laws_FnExactParseWord.j1 kj4 t122 t121 (t125 != t113)) else (laws_FnExactParseWord.j1 kj4 t122 t121 true))) = some r := H
       have A21 := Aside0.mk A210
       clear A210
       have HC22 := Aside0.mk H
       clear H
       obtain ⟨Ao23, co23, eo23⟩ := Kd.R_slice HO_5.out
       subst eo23
       go_upto_region 16 with (first | ((with_reducible refine gate_callee (f := 31) rfl ?_); refine gl 35 Try.func31 #[.slice Ao23 t116.length co23, .int .i64 1] ?_; (with_reducible refine (laws_markIntS.calls kj4 (fun k_ => some k_ = (.slice Ao23 t116.length co23 : Value).ownBlock) (.slice Ao23 t116.length co23) t116 1 t121 t122 w _ ?side1 ?side2 A15.out).mono ?_); (case side1 => repeat (first | (with_reducible first | exact HB.out | apply below_alloc | apply pw_below_drewN | apply below_drew1) | exact HB.out)); (case side2 => exact Kd.R_tight rfl HO_5.out); rintro e w24 ⟨rfl, hy0, hb, hkp⟩; refine ⟨_, rfl, ?_⟩; replace HO_3 := Aside0.mk (Kd.R_mono (ok' := fun k_ => some k_ ≠ (.slice Ao23 t116.length co23 : Value).ownBlock) (Kd.R_keptB (HO_3.out) hkp (fun k_ hk_ hs_ => (hk_) hs_)) (fun k_ hk_ => hk_.1)); replace HO_5 := Aside0.mk (Kd.R_reok rfl hy0 (fun k_ e_ => HO_5.out.1 k_ e_)); replace HB := Aside0.mk (hb); (try clear hb); (try clear hkp); (try clear hy0)) | ((with_reducible refine gate_callee (f := 32) rfl ?_); refine goesL_ (some 38) rfl rfl Try.func32 (by kernel_rfl) rfl #[.slice Ao23 t122.length co23, .int .i64 1] rfl (by (try simp only [List.map_toArray, List.map_cons, List.map_nil]); first | done | (rw [show t122.length = t116.length from (Kd.R_reads' HO_5.out).1.symm] <;> rfl) | rfl | (simp only [List.length_drop, List.length_take]; rfl)) ?_; (with_reducible refine (laws_heldIntS.calls kj4 _ _ t122 1 t123 _ ?side1 ?side2 A16.out).mono ?_); (case side1 => repeat (first | exact (Kd.R_reads' HO_5.out).2.2 | (with_reducible refine Kd.C_alloc ?_ _) | (with_reducible refine Kd.C_drewN ?_ _) | (with_reducible refine Kd.C_drew ?_))); (case side2 => rw [show t122.length = t116.length from (Kd.R_reads' HO_5.out).1.symm]; exact (Kd.R_reads' HO_5.out).2.1); rintro e w' ⟨rfl, ⟨nd, rfl⟩⟩; refine ⟨_, rfl, ?_⟩) | ((with_reducible refine gate_callee (f := 30) rfl ?_); refine gl 46 Try.func30 #[.string a0] ?_; (with_reducible refine (impl_ParseWord.calls kj4 a0 t124 t125 _ A21.out).mono ?_); rintro e w25 ⟨v126, rfl, ho0, hb⟩; refine ⟨_, rfl, ?_⟩; have HO127 := Aside0.mk (Kd.R_lower (Kd.R_new' (Kd.R_new' ho0 (Kd.R_lt (by (with_reducible repeat (first | apply Kd.R_alloc | apply Kd.R_drewN | apply Kd.R_drew)); exact HO_3.out))) (Kd.R_lt (by (with_reducible repeat (first | apply Kd.R_alloc | apply Kd.R_drewN | apply Kd.R_drew)); exact HO_5.out))) (below_size bl)); replace HO_3 := Aside0.mk (Kd.R_elder' (by (with_reducible repeat (first | apply Kd.R_alloc | apply Kd.R_drewN | apply Kd.R_drew)); exact HO_3.out) (Kd.R_base ho0) hb); replace HO_5 := Aside0.mk (Kd.R_elder' (by (with_reducible repeat (first | apply Kd.R_alloc | apply Kd.R_drewN | apply Kd.R_drew)); exact HO_5.out) (Kd.R_base ho0) hb); replace HB := kh hb; (try clear hb); (try clear hb2); (try clear hk); (try clear hi); (try clear ho0)))
       (try simp only [Act.put, List.setIfInBounds_toArray, List.set_cons_zero, List.set_cons_succ])
       go_cut [57] (fun v57 wc => ∃ (kq : Nat) (x57_21 : Bool), v57 = .bool x57_21 ∧ Aside0 (laws_FnExactParseWord.j1 kq t122 t121 x57_21 = some r) ∧ Aside0 (kq ≤ kj4) ∧ Aside0 (Kd.R (Kd.int .i64) 3 wc w.heap.size (fun _ => True) (.slice Ao23 t116.length co23) t122) ∧ Aside0 (Below w.heap.size w wc))
       case first =>
        have H := HC22.out
        clear HC22
        replace H := Option.bind_eq_some_iff.mp H
        obtain ⟨t128, A260, H⟩ := H
        replace H : (if t128 = true then (laws_FnExactParseWord.j1 kj4 t122 t121 (t125 != t113)) else (laws_FnExactParseWord.j1 kj4 t122 t121 true)) = some r := H
        have A26 := Aside0.mk A260
        clear A260
        by_cases c27 : t128 = true
        ·subst c27
         have H1 : (laws_FnExactParseWord.j1 kj4 t122 t121 (t125 != t113)) = some r := by rw [if_pos rfl] at H; exact H
         clear H
         have H := H1
         clear H1
         have H' := Aside0.mk H
         clear H
         obtain ⟨Ao28, co28, eo28⟩ := Kd.R_slice HO127.out
         subst eo28
         obtain ⟨Ao29, co29, eo29⟩ := Kd.R_slice HO_3.out
         subst eo29
         go_wp2_with (first | ((with_reducible refine gate_callee (f := 28) rfl ?_); refine gl 51 Try.func28 #[.slice Ao28 t124.length co28, .slice Ao29 t112.length co29] ?_; (with_reducible refine (laws_eqIntS.calls kj4 _ _ t124 _ _ t112 true _ ?side1 ?side2 ?side3 ?side4 A26.out).mono ?_); (case side1 => repeat (first | exact (Kd.R_reads' HO127.out).2.2 | (with_reducible refine Kd.C_alloc ?_ _) | (with_reducible refine Kd.C_drewN ?_ _) | (with_reducible refine Kd.C_drew ?_))); (case side2 => exact (Kd.R_reads' HO127.out).2.1); (case side3 => repeat (first | exact (Kd.R_reads' HO_3.out).2.2 | (with_reducible refine Kd.C_alloc ?_ _) | (with_reducible refine Kd.C_drewN ?_ _) | (with_reducible refine Kd.C_drew ?_))); (case side4 => exact (Kd.R_reads' HO_3.out).2.1); rintro e w' ⟨rfl, ⟨nd, rfl⟩⟩; refine ⟨_, rfl, ?_⟩))
         go_meet
         case rel => exact ⟨_, ((t125 != t113)), rs, H', ⟨by have := HJ4.out; first | omega | exact Nat.le_refl _⟩, ⟨by (with_reducible repeat (first | apply Kd.R_alloc | apply Kd.R_drewN | apply Kd.R_drew)); exact Kd.R_mono HO_5.out (fun _ hk => trivial)⟩, ⟨bl⟩⟩
        ·replace c27 := Bool.eq_false_iff.mpr c27
         subst c27
         have H1 : (laws_FnExactParseWord.j1 kj4 t122 t121 true) = some r := by rw [if_neg (show ¬ (false = true) by decide)] at H; exact H
         clear H
         have H := H1
         clear H1
         have H' := Aside0.mk H
         clear H
         obtain ⟨Ao30, co30, eo30⟩ := Kd.R_slice HO127.out
         subst eo30
         obtain ⟨Ao31, co31, eo31⟩ := Kd.R_slice HO_3.out
         subst eo31
         go_wp2_with (first | ((with_reducible refine gate_callee (f := 28) rfl ?_); refine gl 51 Try.func28 #[.slice Ao30 t124.length co30, .slice Ao31 t112.length co31] ?_; (with_reducible refine (laws_eqIntS.calls kj4 _ _ t124 _ _ t112 false _ ?side1 ?side2 ?side3 ?side4 A26.out).mono ?_); (case side1 => repeat (first | exact (Kd.R_reads' HO127.out).2.2 | (with_reducible refine Kd.C_alloc ?_ _) | (with_reducible refine Kd.C_drewN ?_ _) | (with_reducible refine Kd.C_drew ?_))); (case side2 => exact (Kd.R_reads' HO127.out).2.1); (case side3 => repeat (first | exact (Kd.R_reads' HO_3.out).2.2 | (with_reducible refine Kd.C_alloc ?_ _) | (with_reducible refine Kd.C_drewN ?_ _) | (with_reducible refine Kd.C_drew ?_))); (case side4 => exact (Kd.R_reads' HO_3.out).2.1); rintro e w' ⟨rfl, ⟨nd, rfl⟩⟩; refine ⟨_, rfl, ?_⟩))
         go_meet
         case rel => exact ⟨_, (true), rs, H', ⟨by have := HJ4.out; first | omega | exact Nat.le_refl _⟩, ⟨by (with_reducible repeat (first | apply Kd.R_alloc | apply Kd.R_drewN | apply Kd.R_drew)); exact Kd.R_mono HO_5.out (fun _ hk => trivial)⟩, ⟨bl⟩⟩
       case rest =>
        clear HC22
        try clear c1
        try clear c2
        try clear c2b0
        try clear c2b1
        try clear p2
        try clear c3
        try clear c5
        try clear c9
        try clear c14
        try clear c17
        try clear c17b0
        try clear c20
        try clear c20b0
        try clear c20b1
        try clear c27
        try clear c28
        try clear c29
        try clear c30
        try clear c31
        try clear p2
        obtain ⟨kq, x57_21, rfl, HA, HJ21, HO_5, HB⟩ := hcut
        have hl5_21 := (Kd.R_reads' HO_5.out).1
        rw [hl5_21] at HO_5
        (try simp only [hl5_21])
        cases kq with
        | zero => exact absurd HA.out (by simp [laws_FnExactParseWord.j1])
        | succ kj21 =>
         have H := HA.out
         clear HA
         simp only [laws_FnExactParseWord.j1] at H
         by_cases c32 : x57_21 = true
         ·subst c32
          have H1 : (some false) = some r := by rw [if_pos rfl] at H; exact H
          clear H
          have H := H1
          clear H1
          obtain rfl := Option.some.inj H
          go_wp2
          go_ret
          exact ⟨rt, bl⟩
         ·replace c32 := Bool.eq_false_iff.mpr c32
          subst c32
          have H1 : ((laws_heldIntS.f kj21 t122 1).bind fun t129 => (if t129 < 0 then (some false) else (if t129 = t121 then (some true) else (some false)))) = some r := by rw [if_neg (show ¬ (false = true) by decide)] at H; exact H
          clear H
          have H := H1
          clear H1
          replace H := Option.bind_eq_some_iff.mp H
          obtain ⟨t129, A330, H⟩ := H
          replace H : (if t129 < 0 then (some false) else (if t129 = t121 then (some true) else (some false))) = some r := H
          have A33 := Aside0.mk A330
          clear A330
          by_cases c34 : t129 < 0
          ·rw [if_pos c34] at H
           have c34b0 : decide (t129 < 0) = true := decide_eq_true c34
           clear c34
           obtain rfl := Option.some.inj H
           go_wp2_with (first | ((with_reducible refine gate_callee (f := 32) rfl ?_); refine gl 60 Try.func32 #[.slice Ao23 t122.length co23, .int .i64 1] ?_; (with_reducible refine (laws_heldIntS.calls kj21 _ _ t122 1 t129 _ ?side1 ?side2 A33.out).mono ?_); (case side1 => repeat (first | exact (Kd.R_reads' HO_5.out).2.2 | (with_reducible refine Kd.C_alloc ?_ _) | (with_reducible refine Kd.C_drewN ?_ _) | (with_reducible refine Kd.C_drew ?_))); (case side2 => exact (Kd.R_reads' HO_5.out).2.1); rintro e w' ⟨rfl, ⟨nd, rfl⟩⟩; refine ⟨_, rfl, ?_⟩))
           go_ret
           exact ⟨rt, bl⟩
          ·rw [if_neg c34] at H
           have c34b0 : decide (t129 < 0) = false := decide_eq_false c34
           clear c34
           by_cases c35 : t129 = t121
           ·rw [if_pos c35] at H
            have c35b0 : (t129 == t121) = true := beq_iff_eq.mpr c35
            have c35b1 : (t129 != t121) = false := bne_eq_false_iff_eq.mpr c35
            clear c35
            obtain rfl := Option.some.inj H
            go_wp2_with (first | ((with_reducible refine gate_callee (f := 32) rfl ?_); refine gl 60 Try.func32 #[.slice Ao23 t122.length co23, .int .i64 1] ?_; (with_reducible refine (laws_heldIntS.calls kj21 _ _ t122 1 t129 _ ?side1 ?side2 A33.out).mono ?_); (case side1 => repeat (first | exact (Kd.R_reads' HO_5.out).2.2 | (with_reducible refine Kd.C_alloc ?_ _) | (with_reducible refine Kd.C_drewN ?_ _) | (with_reducible refine Kd.C_drew ?_))); (case side2 => exact (Kd.R_reads' HO_5.out).2.1); rintro e w' ⟨rfl, ⟨nd, rfl⟩⟩; refine ⟨_, rfl, ?_⟩))
            go_ret
            exact ⟨rt, bl⟩
           ·rw [if_neg c35] at H
            have c35b0 : (t129 == t121) = false := beq_eq_false_iff_ne.mpr c35
            have c35b1 : (t129 != t121) = true := bne_iff_ne.mpr c35
            obtain rfl := Option.some.inj H
            go_wp2_with (first | ((with_reducible refine gate_callee (f := 32) rfl ?_); refine gl 60 Try.func32 #[.slice Ao23 t122.length co23, .int .i64 1] ?_; (with_reducible refine (laws_heldIntS.calls kj21 _ _ t122 1 t129 _ ?side1 ?side2 A33.out).mono ?_); (case side1 => repeat (first | exact (Kd.R_reads' HO_5.out).2.2 | (with_reducible refine Kd.C_alloc ?_ _) | (with_reducible refine Kd.C_drewN ?_ _) | (with_reducible refine Kd.C_drew ?_))); (case side2 => exact (Kd.R_reads' HO_5.out).2.1); rintro e w' ⟨rfl, ⟨nd, rfl⟩⟩; refine ⟨_, rfl, ?_⟩))
            go_ret
            exact ⟨rt, bl⟩
      ·rw [if_neg c20] at H
       have c20b0 : (t123 == t121) = false := beq_eq_false_iff_ne.mpr c20
       have c20b1 : (t123 != t121) = true := bne_iff_ne.mpr c20
       obtain rfl := Option.some.inj H
       obtain ⟨Ao36, co36, eo36⟩ := Kd.R_slice HO_5.out
       subst eo36
       go_wp2_with (first | ((with_reducible refine gate_callee (f := 31) rfl ?_); refine gl 35 Try.func31 #[.slice Ao36 t116.length co36, .int .i64 1] ?_; (with_reducible refine (laws_markIntS.calls kj4 (fun k_ => some k_ = (.slice Ao36 t116.length co36 : Value).ownBlock) (.slice Ao36 t116.length co36) t116 1 t121 t122 w _ ?side1 ?side2 A15.out).mono ?_); (case side1 => repeat (first | (with_reducible first | exact HB.out | apply below_alloc | apply pw_below_drewN | apply below_drew1) | exact HB.out)); (case side2 => exact Kd.R_tight rfl HO_5.out); rintro e w37 ⟨rfl, hy0, hb, hkp⟩; refine ⟨_, rfl, ?_⟩; replace HO_3 := Aside0.mk (Kd.R_mono (ok' := fun k_ => some k_ ≠ (.slice Ao36 t116.length co36 : Value).ownBlock) (Kd.R_keptB (HO_3.out) hkp (fun k_ hk_ hs_ => (hk_) hs_)) (fun k_ hk_ => hk_.1)); replace HO_5 := Aside0.mk (Kd.R_reok rfl hy0 (fun k_ e_ => HO_5.out.1 k_ e_)); replace HB := Aside0.mk (hb); (try clear hb); (try clear hkp); (try clear hy0)) | ((with_reducible refine gate_callee (f := 32) rfl ?_); refine goesL_ (some 38) rfl rfl Try.func32 (by kernel_rfl) rfl #[.slice Ao36 t122.length co36, .int .i64 1] rfl (by (try simp only [List.map_toArray, List.map_cons, List.map_nil]); first | done | (rw [show t122.length = t116.length from (Kd.R_reads' HO_5.out).1.symm] <;> rfl) | rfl | (simp only [List.length_drop, List.length_take]; rfl)) ?_; (with_reducible refine (laws_heldIntS.calls kj4 _ _ t122 1 t123 _ ?side1 ?side2 A16.out).mono ?_); (case side1 => repeat (first | exact (Kd.R_reads' HO_5.out).2.2 | (with_reducible refine Kd.C_alloc ?_ _) | (with_reducible refine Kd.C_drewN ?_ _) | (with_reducible refine Kd.C_drew ?_))); (case side2 => rw [show t122.length = t116.length from (Kd.R_reads' HO_5.out).1.symm]; exact (Kd.R_reads' HO_5.out).2.1); rintro e w' ⟨rfl, ⟨nd, rfl⟩⟩; refine ⟨_, rfl, ?_⟩))
       go_ret
       exact ⟨rt, bl⟩

/-- THE ONE PURE STATEMENT of laws_FnExactParseWord: yours. -/
def laws_FnExactParseWord.Pure : Prop := ∀ (a0 : ByteArray), a0.size ≤ 140737488351232 → ∃ k, laws_FnExactParseWord.f k a0 = some true
theorem laws_FnExactParseWord.walk (P : laws_FnExactParseWord.Pure) (a0 : ByteArray) (w : World) (w0 : a0.size ≤ 140737488351232) :
  Calls Try.prog 5 #[.string a0] w fun e w' => e = .returned (.bool true) ∧ Below w.heap.size w w' := by
 obtain ⟨k, h⟩ := P a0 w0
 refine (laws_FnExactParseWord.calls k a0 true w h).mono ?_
 rintro e w' ⟨rfl, hd⟩
 exact ⟨rfl, hd⟩

end Go.Proofs.Ytannadjfkaghjaa.PFnExactParseWord
