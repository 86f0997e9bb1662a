-- Written by this session's program wip/pp (the kit's print tool with additions) 35421559b90ae4d0a3588c463048766b98c2df88dd9212a6774a882060cdf62d
import Derived.Test.YtannadjfkaghjaaPFnExactIsRepellingx0
import Derived.Test.YtannadjfkaghjaaPFnExactIsRepellingx2
import Derived.Test.YtannadjfkaghjaaPFnExactIsRepellingx3
namespace Go.Proofs.Ytannadjfkaghjaa.PFnExactIsRepelling
open Go.RowKit Go.Proofs.YtannadjfkaghjaaW.PrintWords Go.Proofs.YtannadjfkaghjaaW.PrintLast Go.Proofs.YtannadjfkaghjaaW.PrintMore
attribute [local go_sem] max2_int min2_int max_two min_two max_three min_three max_four min_four   -- for this text's walks alone
set_option linter.unusedVariables false
set_option linter.unusedSimpArgs false

/-! ### spec_orSteps: function 92 -/
def spec_orSteps.f (a0 : Int) : Option (Bool) := (spec_l1In.f a0 0 60).bind fun t131 => (some t131)
set_option maxHeartbeats 8000000 in
set_option maxRecDepth 100000 in
theorem spec_orSteps.calls (a0 : Int) (r : Bool) (w : World) (h : spec_orSteps.f a0 = some r) :
  Calls Try.prog 92 #[.int .i64 a0] w fun e w' => e = .returned (.bool r) ∧ Drawn0 w w' := by
 have H : ((spec_l1In.f a0 0 60).bind fun t131 => (some t131)) = some r := h
 clear h
 replace H := Option.bind_eq_some_iff.mp H
 obtain ⟨t131, A20, H⟩ := H
 replace H : (some t131) = some r := H
 have A2 := Aside0.mk A20
 clear A20
 obtain rfl := Option.some.inj H
 go_enter Try.func92, Try.ntmps92
 go_wp2_with (first | ((with_reducible refine gate_callee (f := 52) rfl ?_); refine gl 4 Try.func52 #[.int .i64 a0, .int .i64 0, .int .i64 60] ?_; (with_reducible refine (spec_l1In.calls a0 0 60 t131 _ A2.out).mono ?_); rintro e w' ⟨rfl, ⟨nd, rfl⟩⟩; refine ⟨_, rfl, ?_⟩))
 go_ret
 exact ⟨rs, by repeat (first | exact Drawn0.refl _ | apply Drawn0.step)⟩

/-! ### spec_orAsked: function 78 -/
def spec_orAsked.f (k : Nat) (l0 : List (S73)) (a1_0 : Int) (a1_1 : Int) (a2 : Int) : Option (Bool) := (spec_imGood.f k l0).bind fun t133 => (if t133 = true then ((spec_raUnit.f k a1_0 a1_1).bind fun t134 => (if t134 = true then ((spec_orSteps.f a2).bind fun t135 => (some t135)) else (some false))) else (some false))
set_option maxHeartbeats 8000000 in
set_option maxRecDepth 100000 in
theorem spec_orAsked.calls (k : Nat) (A0 : Option Addr) (c0 : Nat) (l0 : List (S73)) (a1_0 : Int) (a1_1 : Int) (a2 : Int) (r : Bool) (w : World) (hr0 : Kd.C k73 w A0 l0.length l0) (hc0 : l0.length ≤ c0) (h : spec_orAsked.f k l0 a1_0 a1_1 a2 = some r) :
  Calls Try.prog 78 #[.slice A0 l0.length c0, .agg #[.int .i64 a1_0, .int .i64 a1_1], .int .i64 a2] w fun e w' => e = .returned (.bool r) ∧ Below w.heap.size w w' := by
 have hu53 := Try.underlying53
 have HR0 := Aside0.mk hr0
 have HC0 := Aside0.mk hc0
 clear hr0 hc0
 have HB := Aside0.mk (Below.refl w.heap.size w)
 have H : ((spec_imGood.f k l0).bind fun t133 => (if t133 = true then ((spec_raUnit.f k a1_0 a1_1).bind fun t134 => (if t134 = true then ((spec_orSteps.f a2).bind fun t135 => (some t135)) else (some false))) else (some false))) = some r := h
 clear h
 replace H := Option.bind_eq_some_iff.mp H
 obtain ⟨t133, A40, H⟩ := H
 replace H : (if t133 = true then ((spec_raUnit.f k a1_0 a1_1).bind fun t134 => (if t134 = true then ((spec_orSteps.f a2).bind fun t135 => (some t135)) else (some false))) else (some false)) = some r := H
 have A4 := Aside0.mk A40
 clear A40
 by_cases c5 : t133 = true
 ·subst c5
  have H1 : ((spec_raUnit.f k a1_0 a1_1).bind fun t134 => (if t134 = true then ((spec_orSteps.f a2).bind fun t135 => (some t135)) else (some false))) = some r := by rw [if_pos rfl] at H; exact H
  clear H
  have H := H1
  clear H1
  replace H := Option.bind_eq_some_iff.mp H
  obtain ⟨t134, A60, H⟩ := H
  replace H : (if t134 = true then ((spec_orSteps.f a2).bind fun t135 => (some t135)) else (some false)) = some r := H
  have A6 := Aside0.mk A60
  clear A60
  by_cases c7 : t134 = true
  ·subst c7
   have H1 : ((spec_orSteps.f a2).bind fun t135 => (some t135)) = some r := by rw [if_pos rfl] at H; exact H
   clear H
   have H := H1
   clear H1
   replace H := Option.bind_eq_some_iff.mp H
   obtain ⟨t135, A80, H⟩ := H
   replace H : (some t135) = some r := H
   have A8 := Aside0.mk A80
   clear A80
   obtain rfl := Option.some.inj H
   go_enter Try.func78, Try.ntmps78
   go_wp2_with (first | ((with_reducible refine gate_dst (N := 4) rfl ?_); refine bx 4 #[.int .i64 a1_0, .int .i64 a1_1] 53 ?_; intro gb132 hg w9 hbox hb; have BK132 := Aside0.mk (hbox); have GW132 := Aside0.mk (bz hg); have GE132 := GW132; replace HB := kh hb; clear hb hbox hg) | ((with_reducible refine gate_callee (f := 90) rfl ?_); refine gl 8 Try.func90 #[.slice A0 l0.length c0] ?_; (with_reducible refine (spec_imGood.calls k _ _ l0 true _ ?side1 ?side2 A4.out).mono ?_); (case side1 => repeat (first | exact (Kd.C_below HR0.out HB.out) | (with_reducible refine Kd.C_alloc ?_ _) | (with_reducible refine Kd.C_drewN ?_ _) | (with_reducible refine Kd.C_drew ?_))); (case side2 => exact HC0.out); rintro e w10 ⟨rfl, hb⟩; refine ⟨_, rfl, ?_⟩; replace BK132 := kb BK132 hb; replace HB := kh hb; (try clear hb); (try clear hb2); (try clear hk); (try clear hi); obtain ⟨hcz11_0, hcz11_1, hfz11_0, hfz11_1⟩ := b2 BK132) | (go_at_call 91; (with_reducible refine (spec_raUnit.calls k a1_0 a1_1 true _ A6.out).mono ?_); rintro e w12 ⟨rfl, hb⟩; replace BK132 := kb BK132 hb; replace HB := kh hb; (try clear hb); (try clear hb2); (try clear hk); (try clear hi)) | (go_at_call 92; (with_reducible refine (spec_orSteps.calls a2 t135 _ A8.out).mono ?_); rintro e w' ⟨rfl, ⟨nd, rfl⟩⟩))
   go_ret
   exact ⟨rt, bl⟩
  ·replace c7 := Bool.eq_false_iff.mpr c7
   subst c7
   have H1 : (some false) = some r := by rw [if_neg (show ¬ (false = true) by decide)] at H; exact H
   clear H
   have H := H1
   clear H1
   obtain rfl := Option.some.inj H
   go_enter Try.func78, Try.ntmps78
   go_wp2_with (first | ((with_reducible refine gate_dst (N := 4) rfl ?_); refine bx 4 #[.int .i64 a1_0, .int .i64 a1_1] 53 ?_; intro gb132 hg w13 hbox hb; have BK132 := Aside0.mk (hbox); have GW132 := Aside0.mk (bz hg); have GE132 := GW132; replace HB := kh hb; clear hb hbox hg) | ((with_reducible refine gate_callee (f := 90) rfl ?_); refine gl 8 Try.func90 #[.slice A0 l0.length c0] ?_; (with_reducible refine (spec_imGood.calls k _ _ l0 true _ ?side1 ?side2 A4.out).mono ?_); (case side1 => repeat (first | exact (Kd.C_below HR0.out HB.out) | (with_reducible refine Kd.C_alloc ?_ _) | (with_reducible refine Kd.C_drewN ?_ _) | (with_reducible refine Kd.C_drew ?_))); (case side2 => exact HC0.out); rintro e w14 ⟨rfl, hb⟩; refine ⟨_, rfl, ?_⟩; replace BK132 := kb BK132 hb; replace HB := kh hb; (try clear hb); (try clear hb2); (try clear hk); (try clear hi); obtain ⟨hcz15_0, hcz15_1, hfz15_0, hfz15_1⟩ := b2 BK132) | (go_at_call 91; (with_reducible refine (spec_raUnit.calls k a1_0 a1_1 false _ A6.out).mono ?_); rintro e w16 ⟨rfl, hb⟩; replace BK132 := kb BK132 hb; replace HB := kh hb; (try clear hb); (try clear hb2); (try clear hk); (try clear hi)))
   go_ret
   exact ⟨rt, bl⟩
 ·replace c5 := Bool.eq_false_iff.mpr c5
  subst c5
  have H1 : (some false) = some r := by rw [if_neg (show ¬ (false = true) by decide)] at H; exact H
  clear H
  have H := H1
  clear H1
  obtain rfl := Option.some.inj H
  go_enter Try.func78, Try.ntmps78
  go_wp2_with (first | ((with_reducible refine gate_dst (N := 4) rfl ?_); refine bx 4 #[.int .i64 a1_0, .int .i64 a1_1] 53 ?_; intro gb132 hg w17 hbox hb; have BK132 := Aside0.mk (hbox); have GW132 := Aside0.mk (bz hg); have GE132 := GW132; replace HB := kh hb; clear hb hbox hg) | ((with_reducible refine gate_callee (f := 90) rfl ?_); refine gl 8 Try.func90 #[.slice A0 l0.length c0] ?_; (with_reducible refine (spec_imGood.calls k _ _ l0 false _ ?side1 ?side2 A4.out).mono ?_); (case side1 => repeat (first | exact (Kd.C_below HR0.out HB.out) | (with_reducible refine Kd.C_alloc ?_ _) | (with_reducible refine Kd.C_drewN ?_ _) | (with_reducible refine Kd.C_drew ?_))); (case side2 => exact HC0.out); rintro e w18 ⟨rfl, hb⟩; refine ⟨_, rfl, ?_⟩; replace BK132 := kb BK132 hb; replace HB := kh hb; (try clear hb); (try clear hb2); (try clear hk); (try clear hi)))
  go_ret
  exact ⟨rt, bl⟩

/-! ### spec_imPiece: function 95 -/
def spec_imPiece.l0 : Nat → List (S73) → Int → Int → Int → Option (Int)
 | 0, _, _, _, _ => none
 | k + 1, x0, x5, x137000, x137001 => if (wrap64 (x5 + 2)) < (x0.length : Int) then (if 0 ≤ (wrap64 (x5 + 1)) then (if (wrap64 (x5 + 1)) < (x0.length : Int) then ((spec_raCmp.f ((rd_T73 x0 (wrap64 (x5 + 1))).f0.f0) ((rd_T73 x0 (wrap64 (x5 + 1))).f0.f1) x137000 x137001).bind fun t138 => (if t138 < 0 then (spec_imPiece.l0 k x0 (wrap64 (x5 + 1)) x137000 x137001) else (some x5))) else (none)) else (none)) else (some x5)
def spec_imPiece.f (k : Nat) (l0 : List (S73)) (a1_0 : Int) (a1_1 : Int) : Option (Int) := spec_imPiece.l0 k l0 0 a1_0 a1_1
def spec_imPiece.T2 : Bool × List (List Nat × List Nat) := (true, [([], []), ([0], [0]), ([], []), ([2], [2]), ([1, 3], [1, 3]), ([4], [4]), ([5], [5]), ([5], [5]), ([7, 5], [5, 7]), ([6, 8, 5], [5, 6, 8]), ([9, 5], [5, 9]), ([10, 5], [5, 10]), ([5], [5]), ([11, 12, 5, 5], [5, 11, 12]), ([13, 5], [5, 13]), ([5, 14], [5, 14])])
def spec_imPiece.B2 : List Nat := [0, 1, 0, 4, 15, 31, 63, 63, 191, 511, 1023, 2047, 63, 8191, 16383, 32767]
theorem spec_imPiece.tab2 : rtab .any (opsOf Try.f95 2) = spec_imPiece.T2 := by kernel_rfl
theorem spec_imPiece.bits2 : waitsOk spec_imPiece.T2.2 spec_imPiece.B2 = true := by kernel_rfl
set_option maxHeartbeats 8000000 in
set_option maxRecDepth 100000 in
theorem spec_imPiece.calls (k : Nat) (A0 : Option Addr) (c0 : Nat) (l0 : List (S73)) (a1_0 : Int) (a1_1 : Int) (r : Int) (w : World) (hr0 : Kd.C k73 w A0 l0.length l0) (hc0 : l0.length ≤ c0) (h : spec_imPiece.f k l0 a1_0 a1_1 = some r) :
  Calls Try.prog 95 #[.slice A0 l0.length c0, .agg #[.int .i64 a1_0, .int .i64 a1_1]] w fun e w' => e = .returned (.int .i64 r) ∧ Below w.heap.size w w' := by
 have hu53 := Try.underlying53
 have HR0 := Aside0.mk hr0
 have HC0 := Aside0.mk hc0
 clear hr0 hc0
 have HB := Aside0.mk (Below.refl w.heap.size w)
 have H : (spec_imPiece.l0 k l0 0 a1_0 a1_1) = some r := h
 clear h
 have H' := Aside0.mk H
 clear H
 go_enter Try.func95, Try.ntmps95
 go_wp2_with (first | ((with_reducible refine gate_dst (N := 3) rfl ?_); refine bx 3 #[.int .i64 a1_0, .int .i64 a1_1] 53 ?_; intro gb136 hg w3 hbox hb; have BK136 := Aside0.mk (hbox); have GW136 := Aside0.mk (bz hg); have GE136 := GW136; replace HB := kh hb; clear hb hbox hg))
 go_loopg [5] k (fun kq v5 w' => ∃ (x5_1 : Int), v5 = .int .i64 x5_1 ∧ Aside0 (spec_imPiece.l0 kq l0 x5_1 a1_0 a1_1 = some r) ∧ Aside0 (kq ≤ k) ∧ Aside0 (w'.heap[gb136]? = some (.cells #[.int .i64 a1_0, .int .i64 a1_1] 53 (0, 0))) ∧ Aside0 (Below w.heap.size w w'))
 case atStart => exact ⟨(0), rs, H', ⟨Nat.le_refl _⟩, ⟨by (with_reducible repeat (first | refine blk_drewN ?_ _ | refine blk_drew ?_ | refine blk_alloc ?_ _)); exact BK136.out⟩, ⟨bl⟩⟩
 case round =>
  clear H'
  try clear p2
  obtain ⟨x5_1, rfl, HA, HK1, BK136, HB⟩ := hrel
  cases gk with
  | zero => exact absurd HA.out (by simp [spec_imPiece.l0])
  | succ k1 =>
   have H := HA.out
   clear HA
   simp only [spec_imPiece.l0] at H
   by_cases c4 : (wrap64 (x5_1 + 2)) < (l0.length : Int)
   ·rw [if_pos c4] at H
    have c4b0 : decide ((wrap64 (x5_1 + 2)) < (l0.length : Int)) = true := decide_eq_true c4
    clear c4
    obtain ⟨ji5, hji5⟩ : ∃ j_ : Int, (wrap64 (x5_1 + 1)) = j_ := ⟨_, rfl⟩
    replace H : (if 0 ≤ (ji5) then (if (ji5) < (l0.length : Int) then ((spec_raCmp.f ((rd_T73 l0 (ji5)).f0.f0) ((rd_T73 l0 (ji5)).f0.f1) a1_0 a1_1).bind fun t138 => (if t138 < 0 then (spec_imPiece.l0 k1 l0 ji5 a1_0 a1_1) else (some x5_1))) else (none)) else (none)) = some r := by first | (rw [hji5] at H; exact H) | (simp only [hji5] at H ⊢; exact H)
    have hji5w : (IntKind.i64.wrap (x5_1 + 1)) = ji5 := (i64_w _).trans hji5
    by_cases c6 : 0 ≤ (ji5)
    ·rw [if_pos c6] at H
     have c6b0 : decide (0 ≤ (ji5)) = true := decide_eq_true c6
     clear c6
     by_cases c7 : (ji5) < (l0.length : Int)
     ·rw [if_pos c7] at H
      have c7b0 : decide ((ji5) < (l0.length : Int)) = true := decide_eq_true c7
      clear c7
      replace H := Option.bind_eq_some_iff.mp H
      obtain ⟨t138, A80, H⟩ := H
      replace H : (if t138 < 0 then (spec_imPiece.l0 k1 l0 ji5 a1_0 a1_1) else (some x5_1)) = some r := H
      have A8 := Aside0.mk A80
      clear A80
      by_cases c9 : t138 < 0
      ·rw [if_pos c9] at H
       have c9b0 : decide (t138 < 0) = true := decide_eq_true c9
       clear c9
       have H' := Aside0.mk H
       clear H
       try go_wp2
       replace BK136 := Aside0.mk (blk_drew BK136.out)
       replace HB := Aside0.mk (below_drew1 HB.out)
       have p137 : 0 ≤ ((ji5) : Int) := da
       have q137 : (ji5) < (l0.length : Int) := da
       obtain ⟨ad137, e137, hx137_0, hx137_1, hx137_2, hx137_3⟩ := at_T73 HR0.out (ji5) p137 q137
       have hw137_3 := hx137_3
       have hw137_2 := hx137_2
       have hw137_1 := hx137_1
       have hw137_0 := hx137_0
       cases e137
       replace hx137_0 := (hc HB hx137_0 :)
       replace hx137_1 := (hc HB hx137_1 :)
       replace hx137_2 := (hc HB hx137_2 :)
       replace hx137_3 := (hc HB hx137_3 :)
       replace p137 := eq_true p137
       replace q137 := eq_true q137
       refine start_ (n := 16) (S := fun w' => w'.cell? ⟨gb136, 0, none⟩ = some (.int .i64 a1_0) ∧ w'.cell? ⟨gb136, 1, none⟩ = some (.int .i64 a1_1) ∧ w'.cell? (ad137.add (((ji5)).toNat * 4)) = some (.int .i64 ((rd_T73 l0 (ji5)).f0.f0)) ∧ w'.cell? ⟨(ad137.add (((ji5)).toNat * 4)).block, (ad137.add (((ji5)).toNat * 4)).off + 1, none⟩ = some (.int .i64 ((rd_T73 l0 (ji5)).f0.f1)) ∧ w'.cell? ⟨(ad137.add (((ji5)).toNat * 4)).block, (ad137.add (((ji5)).toNat * 4)).off + 2, none⟩ = some (.int .i64 ((rd_T73 l0 (ji5)).f1.f0)) ∧ w'.cell? ⟨(ad137.add (((ji5)).toNat * 4)).block, (ad137.add (((ji5)).toNat * 4)).off + 3, none⟩ = some (.int .i64 ((rd_T73 l0 (ji5)).f1.f1))) (ds := []) (tb 0 16) (by kernel_rfl) rfl rfl ⟨(blk_cell BK136.out 0).trans rfl, (blk_cell BK136.out 1).trans rfl, (hc HB hw137_0 :), (hc HB hw137_1 :), (hc HB hw137_2 :), (hc HB hw137_3 :)⟩ (fun hHeld => ?_); refine with_tabW spec_imPiece.tab2 spec_imPiece.bits2 (fun HT_ HW_ => ?_)
       generalize wr.drew = w10 at BK136 HB hx137_0 hx137_1 hx137_2 hx137_3 hHeld ⊢
       refine pu 0 6 (tb 1 15) ?_
       refine pu 1 7 (tb 2 14) ?_
       refine pu 2 8 (tb 3 13) ?_
       refine pu 3 9 (tb 4 12) ?_
       refine pu 4 10 (tb 5 11) ?_
       refine pu 5 11 (tb 6 10) ?_
       refine pu 6 12 (tb 7 9) ?_
       refine pu 7 13 (tb 8 8) ?_
       refine pu 8 14 (tb 9 7) ?_
       refine pu 9 15 (tb 10 6) ?_
       refine pu 10 16 (tb 11 5) ?_
       refine tk 11 17 (tb 12 4) (hy := by rintro w' ⟨s0, s1, s2, s3, s4, s5⟩; go_simp; with_reducible rfl) (h := ?_)
       refine tk 12 18 (tb 13 3) (hy := by rintro w' ⟨s0, s1, s2, s3, s4, s5⟩; go_simp; with_reducible rfl) (h := ?_)
       refine on 13 19 (tb 14 2) (fun K hK => ?_)
       refine goes_ Try.func105 (by kernel_rfl) rfl #[.agg #[.int .i64 ((rd_T73 l0 (ji5)).f0.f0), .int .i64 ((rd_T73 l0 (ji5)).f0.f1)], .agg #[.int .i64 a1_0, .int .i64 a1_1]] (by rfl) rfl rfl (by (try simp only [List.map_toArray, List.map_cons, List.map_nil]); first | done | (simp only [hji5]; rfl) | rfl | (simp only [List.length_drop, List.length_take]; rfl)) ?_
       with_reducible refine (spec_raCmp.calls ((rd_T73 l0 (ji5)).f0.f0) ((rd_T73 l0 (ji5)).f0.f1) a1_0 a1_1 t138 _ A8.out).mono ?_
       rintro e w11 ⟨rfl, hb⟩
       refine ⟨_, rfl, ?_⟩
       replace BK136 := kb BK136 hb
       replace HB := kh hb
       (try clear hb)
       (try clear hb2)
       (try clear hk)
       (try clear hi)
       refine hK.out _ _ ⟨(blk_cell BK136.out 0).trans rfl, (blk_cell BK136.out 1).trans rfl, (hc HB hw137_0 :), (hc HB hw137_1 :), (hc HB hw137_2 :), (hc HB hw137_3 :)⟩ (fun hHeld => ?_)
       clear hK K
       refine nm 19 ?_
       refine pu 14 20 (tb 15 1) ?_
       refine pu 15 21 (tb 16 0) ?_
       refine done_ (done_of HT_.out (by kernel_rfl)) ?_
       try go_wp2
       go_roundg k1
       case measure => have := HK1.out; omega
       case rel => exact ⟨(ji5), (by first | rfl | (simp; done) | (simp only [← hji5] <;> (first | rfl | simp)) | (simp [*]; done)), H', ⟨by have := HK1.out; omega⟩, ⟨by (with_reducible repeat (first | refine blk_drewN ?_ _ | refine blk_drew ?_ | refine blk_alloc ?_ _)); exact BK136.out⟩, ⟨bl⟩⟩
      ·rw [if_neg c9] at H
       have c9b0 : decide (t138 < 0) = false := decide_eq_false c9
       clear c9
       obtain rfl := Option.some.inj H
       try go_wp2
       replace BK136 := Aside0.mk (blk_drew BK136.out)
       replace HB := Aside0.mk (below_drew1 HB.out)
       have p137 : 0 ≤ ((ji5) : Int) := da
       have q137 : (ji5) < (l0.length : Int) := da
       obtain ⟨ad137, e137, hx137_0, hx137_1, hx137_2, hx137_3⟩ := at_T73 HR0.out (ji5) p137 q137
       have hw137_3 := hx137_3
       have hw137_2 := hx137_2
       have hw137_1 := hx137_1
       have hw137_0 := hx137_0
       cases e137
       replace hx137_0 := (hc HB hx137_0 :)
       replace hx137_1 := (hc HB hx137_1 :)
       replace hx137_2 := (hc HB hx137_2 :)
       replace hx137_3 := (hc HB hx137_3 :)
       replace p137 := eq_true p137
       replace q137 := eq_true q137
       refine start_ (n := 16) (S := fun w' => w'.cell? ⟨gb136, 0, none⟩ = some (.int .i64 a1_0) ∧ w'.cell? ⟨gb136, 1, none⟩ = some (.int .i64 a1_1) ∧ w'.cell? (ad137.add (((ji5)).toNat * 4)) = some (.int .i64 ((rd_T73 l0 (ji5)).f0.f0)) ∧ w'.cell? ⟨(ad137.add (((ji5)).toNat * 4)).block, (ad137.add (((ji5)).toNat * 4)).off + 1, none⟩ = some (.int .i64 ((rd_T73 l0 (ji5)).f0.f1)) ∧ w'.cell? ⟨(ad137.add (((ji5)).toNat * 4)).block, (ad137.add (((ji5)).toNat * 4)).off + 2, none⟩ = some (.int .i64 ((rd_T73 l0 (ji5)).f1.f0)) ∧ w'.cell? ⟨(ad137.add (((ji5)).toNat * 4)).block, (ad137.add (((ji5)).toNat * 4)).off + 3, none⟩ = some (.int .i64 ((rd_T73 l0 (ji5)).f1.f1))) (ds := []) (tb 0 16) (by kernel_rfl) rfl rfl ⟨(blk_cell BK136.out 0).trans rfl, (blk_cell BK136.out 1).trans rfl, (hc HB hw137_0 :), (hc HB hw137_1 :), (hc HB hw137_2 :), (hc HB hw137_3 :)⟩ (fun hHeld => ?_); refine with_tabW spec_imPiece.tab2 spec_imPiece.bits2 (fun HT_ HW_ => ?_)
       generalize wr.drew = w12 at BK136 HB hx137_0 hx137_1 hx137_2 hx137_3 hHeld ⊢
       refine pu 0 6 (tb 1 15) ?_
       refine pu 1 7 (tb 2 14) ?_
       refine pu 2 8 (tb 3 13) ?_
       refine pu 3 9 (tb 4 12) ?_
       refine pu 4 10 (tb 5 11) ?_
       refine pu 5 11 (tb 6 10) ?_
       refine pu 6 12 (tb 7 9) ?_
       refine pu 7 13 (tb 8 8) ?_
       refine pu 8 14 (tb 9 7) ?_
       refine pu 9 15 (tb 10 6) ?_
       refine pu 10 16 (tb 11 5) ?_
       refine tk 11 17 (tb 12 4) (hy := by rintro w' ⟨s0, s1, s2, s3, s4, s5⟩; go_simp; with_reducible rfl) (h := ?_)
       refine tk 12 18 (tb 13 3) (hy := by rintro w' ⟨s0, s1, s2, s3, s4, s5⟩; go_simp; with_reducible rfl) (h := ?_)
       refine on 13 19 (tb 14 2) (fun K hK => ?_)
       refine goes_ Try.func105 (by kernel_rfl) rfl #[.agg #[.int .i64 ((rd_T73 l0 (ji5)).f0.f0), .int .i64 ((rd_T73 l0 (ji5)).f0.f1)], .agg #[.int .i64 a1_0, .int .i64 a1_1]] (by rfl) rfl rfl (by (try simp only [List.map_toArray, List.map_cons, List.map_nil]); first | done | (simp only [hji5]; rfl) | rfl | (simp only [List.length_drop, List.length_take]; rfl)) ?_
       with_reducible refine (spec_raCmp.calls ((rd_T73 l0 (ji5)).f0.f0) ((rd_T73 l0 (ji5)).f0.f1) a1_0 a1_1 t138 _ A8.out).mono ?_
       rintro e w13 ⟨rfl, hb⟩
       refine ⟨_, rfl, ?_⟩
       replace BK136 := kb BK136 hb
       replace HB := kh hb
       (try clear hb)
       (try clear hb2)
       (try clear hk)
       (try clear hi)
       refine hK.out _ _ ⟨(blk_cell BK136.out 0).trans rfl, (blk_cell BK136.out 1).trans rfl, (hc HB hw137_0 :), (hc HB hw137_1 :), (hc HB hw137_2 :), (hc HB hw137_3 :)⟩ (fun hHeld => ?_)
       clear hK K
       refine nm 19 ?_
       refine pu 14 20 (tb 15 1) ?_
       refine pu 15 21 (tb 16 0) ?_
       refine done_ (done_of HT_.out (by kernel_rfl)) ?_
       try go_wp2
       go_ret
       exact ⟨by first | rfl | (simp [errW_none, errW_some] <;> rfl) | (simp only [← hji5]; first | rfl | (simp [errW_none, errW_some] <;> rfl)) | (simp [*, errW_none, errW_some] <;> rfl), bl⟩
     ·rw [if_neg c7] at H
      exact absurd H (by simp)
    ·rw [if_neg c6] at H
     exact absurd H (by simp)
   ·rw [if_neg c4] at H
    have c4b0 : decide ((wrap64 (x5_1 + 2)) < (l0.length : Int)) = false := decide_eq_false c4
    clear c4
    obtain rfl := Option.some.inj H
    try go_wp2
    replace BK136 := Aside0.mk (blk_drew BK136.out)
    replace HB := Aside0.mk (below_drew1 HB.out)
    refine start_ (n := 16) (S := fun w' => True) (ds := []) (tb 0 16) (by kernel_rfl) rfl rfl trivial (fun hHeld => ?_); refine with_tabW spec_imPiece.tab2 spec_imPiece.bits2 (fun HT_ HW_ => ?_)
    generalize wr.drew = w14 at BK136 HB hHeld ⊢
    refine pu 0 6 (tb 1 15) ?_
    refine pu 1 7 (tb 2 14) ?_
    refine pu 2 8 (tb 3 13) ?_
    refine pu 3 9 (tb 4 12) ?_
    refine pu 4 10 (tb 5 11) ?_
    refine pu 5 11 (tb 6 10) ?_
    refine sk 6 12 (tb 7 9) ?_
    refine sk 7 13 (tb 8 8) ?_
    refine sk 8 14 (tb 9 7) ?_
    refine sk 9 15 (tb 10 6) ?_
    refine sk 10 16 (tb 11 5) ?_
    refine sk 11 17 (tb 12 4) ?_
    refine sk 12 18 (tb 13 3) ?_
    refine sk 13 19 (tb 14 2) ?_
    refine sk 14 20 (tb 15 1) ?_
    refine pu 15 21 (tb 16 0) ?_
    refine done_ (done_of HT_.out (by kernel_rfl)) ?_
    try go_wp2
    go_ret
    exact ⟨rt, bl⟩

end Go.Proofs.Ytannadjfkaghjaa.PFnExactIsRepelling
