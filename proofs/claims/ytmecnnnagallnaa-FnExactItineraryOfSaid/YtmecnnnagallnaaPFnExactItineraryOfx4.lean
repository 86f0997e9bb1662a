-- Written by this session's program wip/pp (the kit's print tool with additions) 35421559b90ae4d0a3588c463048766b98c2df88dd9212a6774a882060cdf62d
import Derived.Test.YtmecnnnagallnaaPFnExactItineraryOfx0
import Derived.Test.YtmecnnnagallnaaPFnExactItineraryOfx3
namespace Go.Proofs.Ytmecnnnagallnaa.PFnExactItineraryOf
open Go.RowKit Go.Proofs.YtmecnnnagallnaaW.PrintWords Go.Proofs.YtmecnnnagallnaaW.PrintLast Go.Proofs.YtmecnnnagallnaaW.PrintMore
attribute [local go_sem] max2_int min2_int max_two min_two max_three min_three max_four min_four   -- for this text's walks alone
set_option linter.unusedVariables false
set_option linter.unusedSimpArgs false

/-! ### spec_imPiece: function 70 -/
def spec_imPiece.l0 : Nat → List (S68) → Int → Int → Int → Option (Int)
 | 0, _, _, _, _ => none
 | k + 1, x0, x5, x150000, x150001 => if (wrap64 (x5 + 2)) < (x0.length : Int) then (if 0 ≤ (wrap64 (x5 + 1)) then (if (wrap64 (x5 + 1)) < (x0.length : Int) then ((spec_raCmp.f ((rd_T68 x0 (wrap64 (x5 + 1))).f0.f0) ((rd_T68 x0 (wrap64 (x5 + 1))).f0.f1) x150000 x150001).bind fun t151 => (if t151 < 0 then (spec_imPiece.l0 k x0 (wrap64 (x5 + 1)) x150000 x150001) else (some x5))) else (none)) else (none)) else (some x5)
def spec_imPiece.f (k : Nat) (l0 : List (S68)) (a1_0 : Int) (a1_1 : Int) : Option (Int) := spec_imPiece.l0 k l0 0 a1_0 a1_1
def spec_imPiece.T2 : Bool × List (List Nat × List Nat) := (true, [([], []), ([0], [0]), ([], []), ([2], [2]), ([1, 3], [1, 3]), ([4], [4]), ([5], [5]), ([5], [5]), ([7, 5], [5, 7]), ([6, 8, 5], [5, 6, 8]), ([9, 5], [5, 9]), ([10, 5], [5, 10]), ([5], [5]), ([11, 12, 5, 5], [5, 11, 12]), ([13, 5], [5, 13]), ([5, 14], [5, 14])])
def spec_imPiece.B2 : List Nat := [0, 1, 0, 4, 15, 31, 63, 63, 191, 511, 1023, 2047, 63, 8191, 16383, 32767]
theorem spec_imPiece.tab2 : rtab .any (opsOf Try.f70 2) = spec_imPiece.T2 := by kernel_rfl
theorem spec_imPiece.bits2 : waitsOk spec_imPiece.T2.2 spec_imPiece.B2 = true := by kernel_rfl
set_option maxHeartbeats 8000000 in
set_option maxRecDepth 100000 in
theorem spec_imPiece.calls (k : Nat) (A0 : Option Addr) (c0 : Nat) (l0 : List (S68)) (a1_0 : Int) (a1_1 : Int) (r : Int) (w : World) (hr0 : Kd.C k68 w A0 l0.length l0) (hc0 : l0.length ≤ c0) (h : spec_imPiece.f k l0 a1_0 a1_1 = some r) :
  Calls Try.prog 70 #[.slice A0 l0.length c0, .agg #[.int .i64 a1_0, .int .i64 a1_1]] w fun e w' => e = .returned (.int .i64 r) ∧ Below w.heap.size w w' := by
 have hu28 := Try.underlying28
 have HR0 := Aside0.mk hr0
 have HC0 := Aside0.mk hc0
 clear hr0 hc0
 have HB := Aside0.mk (Below.refl w.heap.size w)
 have H : (spec_imPiece.l0 k l0 0 a1_0 a1_1) = some r := h
 clear h
 have H' := Aside0.mk H
 clear H
 go_enter Try.func70, Try.ntmps70
 go_wp2_with (first | ((with_reducible refine gate_dst (N := 3) rfl ?_); refine bx 3 #[.int .i64 a1_0, .int .i64 a1_1] 28 ?_; intro gb149 hg w3 hbox hb; have BK149 := Aside0.mk (hbox); have GW149 := Aside0.mk (bz hg); have GE149 := GW149; replace HB := kh hb; clear hb hbox hg))
 go_loopg [5] k (fun kq v5 w' => ∃ (x5_1 : Int), v5 = .int .i64 x5_1 ∧ Aside0 (spec_imPiece.l0 kq l0 x5_1 a1_0 a1_1 = some r) ∧ Aside0 (kq ≤ k) ∧ Aside0 (w'.heap[gb149]? = some (.cells #[.int .i64 a1_0, .int .i64 a1_1] 28 (0, 0))) ∧ Aside0 (Below w.heap.size w w'))
 case atStart => exact ⟨(0), rs, H', ⟨Nat.le_refl _⟩, ⟨by (with_reducible repeat (first | refine blk_drewN ?_ _ | refine blk_drew ?_ | refine blk_alloc ?_ _)); exact BK149.out⟩, ⟨bl⟩⟩
 case round =>
  clear H'
  try clear p2
  obtain ⟨x5_1, rfl, HA, HK1, BK149, HB⟩ := hrel
  cases gk with
  | zero => exact absurd HA.out (by simp [spec_imPiece.l0])
  | succ k1 =>
   have H := HA.out
   clear HA
   simp only [spec_imPiece.l0] at H
   by_cases c4 : (wrap64 (x5_1 + 2)) < (l0.length : Int)
   ·rw [if_pos c4] at H
    have c4b0 : decide ((wrap64 (x5_1 + 2)) < (l0.length : Int)) = true := decide_eq_true c4
    clear c4
    obtain ⟨ji5, hji5⟩ : ∃ j_ : Int, (wrap64 (x5_1 + 1)) = j_ := ⟨_, rfl⟩
    replace H : (if 0 ≤ (ji5) then (if (ji5) < (l0.length : Int) then ((spec_raCmp.f ((rd_T68 l0 (ji5)).f0.f0) ((rd_T68 l0 (ji5)).f0.f1) a1_0 a1_1).bind fun t151 => (if t151 < 0 then (spec_imPiece.l0 k1 l0 ji5 a1_0 a1_1) else (some x5_1))) else (none)) else (none)) = some r := by first | (rw [hji5] at H; exact H) | (simp only [hji5] at H ⊢; exact H)
    have hji5w : (IntKind.i64.wrap (x5_1 + 1)) = ji5 := (i64_w _).trans hji5
    by_cases c6 : 0 ≤ (ji5)
    ·rw [if_pos c6] at H
     have c6b0 : decide (0 ≤ (ji5)) = true := decide_eq_true c6
     clear c6
     by_cases c7 : (ji5) < (l0.length : Int)
     ·rw [if_pos c7] at H
      have c7b0 : decide ((ji5) < (l0.length : Int)) = true := decide_eq_true c7
      clear c7
      replace H := Option.bind_eq_some_iff.mp H
      obtain ⟨t151, A80, H⟩ := H
      replace H : (if t151 < 0 then (spec_imPiece.l0 k1 l0 ji5 a1_0 a1_1) else (some x5_1)) = some r := H
      have A8 := Aside0.mk A80
      clear A80
      by_cases c9 : t151 < 0
      ·rw [if_pos c9] at H
       have c9b0 : decide (t151 < 0) = true := decide_eq_true c9
       clear c9
       have H' := Aside0.mk H
       clear H
       try go_wp2
       replace BK149 := Aside0.mk (blk_drew BK149.out)
       replace HB := Aside0.mk (below_drew1 HB.out)
       have p150 : 0 ≤ ((ji5) : Int) := da
       have q150 : (ji5) < (l0.length : Int) := da
       obtain ⟨ad150, e150, hx150_0, hx150_1, hx150_2, hx150_3⟩ := at_T68 HR0.out (ji5) p150 q150
       have hw150_3 := hx150_3
       have hw150_2 := hx150_2
       have hw150_1 := hx150_1
       have hw150_0 := hx150_0
       cases e150
       replace hx150_0 := (hc HB hx150_0 :)
       replace hx150_1 := (hc HB hx150_1 :)
       replace hx150_2 := (hc HB hx150_2 :)
       replace hx150_3 := (hc HB hx150_3 :)
       replace p150 := eq_true p150
       replace q150 := eq_true q150
       refine start_ (n := 16) (S := fun w' => w'.cell? ⟨gb149, 0, none⟩ = some (.int .i64 a1_0) ∧ w'.cell? ⟨gb149, 1, none⟩ = some (.int .i64 a1_1) ∧ w'.cell? (ad150.add (((ji5)).toNat * 4)) = some (.int .i64 ((rd_T68 l0 (ji5)).f0.f0)) ∧ w'.cell? ⟨(ad150.add (((ji5)).toNat * 4)).block, (ad150.add (((ji5)).toNat * 4)).off + 1, none⟩ = some (.int .i64 ((rd_T68 l0 (ji5)).f0.f1)) ∧ w'.cell? ⟨(ad150.add (((ji5)).toNat * 4)).block, (ad150.add (((ji5)).toNat * 4)).off + 2, none⟩ = some (.int .i64 ((rd_T68 l0 (ji5)).f1.f0)) ∧ w'.cell? ⟨(ad150.add (((ji5)).toNat * 4)).block, (ad150.add (((ji5)).toNat * 4)).off + 3, none⟩ = some (.int .i64 ((rd_T68 l0 (ji5)).f1.f1))) (ds := []) (tb 0 16) (by kernel_rfl) rfl rfl ⟨(blk_cell BK149.out 0).trans rfl, (blk_cell BK149.out 1).trans rfl, (hc HB hw150_0 :), (hc HB hw150_1 :), (hc HB hw150_2 :), (hc HB hw150_3 :)⟩ (fun hHeld => ?_); refine with_tabW spec_imPiece.tab2 spec_imPiece.bits2 (fun HT_ HW_ => ?_)
       generalize wr.drew = w10 at BK149 HB hx150_0 hx150_1 hx150_2 hx150_3 hHeld ⊢
       refine pu 0 6 (tb 1 15) ?_
       refine pu 1 7 (tb 2 14) ?_
       refine pu 2 8 (tb 3 13) ?_
       refine pu 3 9 (tb 4 12) ?_
       refine pu 4 10 (tb 5 11) ?_
       refine pu 5 11 (tb 6 10) ?_
       refine pu 6 12 (tb 7 9) ?_
       refine pu 7 13 (tb 8 8) ?_
       refine pu 8 14 (tb 9 7) ?_
       refine pu 9 15 (tb 10 6) ?_
       refine pu 10 16 (tb 11 5) ?_
       refine tk 11 17 (tb 12 4) (hy := by rintro w' ⟨s0, s1, s2, s3, s4, s5⟩; go_simp; with_reducible rfl) (h := ?_)
       refine tk 12 18 (tb 13 3) (hy := by rintro w' ⟨s0, s1, s2, s3, s4, s5⟩; go_simp; with_reducible rfl) (h := ?_)
       refine on 13 19 (tb 14 2) (fun K hK => ?_)
       refine goes_ Try.func45 (by kernel_rfl) rfl #[.agg #[.int .i64 ((rd_T68 l0 (ji5)).f0.f0), .int .i64 ((rd_T68 l0 (ji5)).f0.f1)], .agg #[.int .i64 a1_0, .int .i64 a1_1]] (by rfl) rfl rfl (by (try simp only [List.map_toArray, List.map_cons, List.map_nil]); first | done | (simp only [hji5]; rfl) | rfl | (simp only [List.length_drop, List.length_take]; rfl)) ?_
       with_reducible refine (spec_raCmp.calls ((rd_T68 l0 (ji5)).f0.f0) ((rd_T68 l0 (ji5)).f0.f1) a1_0 a1_1 t151 _ A8.out).mono ?_
       rintro e w11 ⟨rfl, hb⟩
       refine ⟨_, rfl, ?_⟩
       replace BK149 := kb BK149 hb
       replace HB := kh hb
       (try clear hb)
       (try clear hb2)
       (try clear hk)
       (try clear hi)
       refine hK.out _ _ ⟨(blk_cell BK149.out 0).trans rfl, (blk_cell BK149.out 1).trans rfl, (hc HB hw150_0 :), (hc HB hw150_1 :), (hc HB hw150_2 :), (hc HB hw150_3 :)⟩ (fun hHeld => ?_)
       clear hK K
       refine nm 19 ?_
       refine pu 14 20 (tb 15 1) ?_
       refine pu 15 21 (tb 16 0) ?_
       refine done_ (done_of HT_.out (by kernel_rfl)) ?_
       try go_wp2
       go_roundg k1
       case measure => have := HK1.out; omega
       case rel => exact ⟨(ji5), (by first | rfl | (simp; done) | (simp only [← hji5] <;> (first | rfl | simp)) | (simp [*]; done)), H', ⟨by have := HK1.out; omega⟩, ⟨by (with_reducible repeat (first | refine blk_drewN ?_ _ | refine blk_drew ?_ | refine blk_alloc ?_ _)); exact BK149.out⟩, ⟨bl⟩⟩
      ·rw [if_neg c9] at H
       have c9b0 : decide (t151 < 0) = false := decide_eq_false c9
       clear c9
       obtain rfl := Option.some.inj H
       try go_wp2
       replace BK149 := Aside0.mk (blk_drew BK149.out)
       replace HB := Aside0.mk (below_drew1 HB.out)
       have p150 : 0 ≤ ((ji5) : Int) := da
       have q150 : (ji5) < (l0.length : Int) := da
       obtain ⟨ad150, e150, hx150_0, hx150_1, hx150_2, hx150_3⟩ := at_T68 HR0.out (ji5) p150 q150
       have hw150_3 := hx150_3
       have hw150_2 := hx150_2
       have hw150_1 := hx150_1
       have hw150_0 := hx150_0
       cases e150
       replace hx150_0 := (hc HB hx150_0 :)
       replace hx150_1 := (hc HB hx150_1 :)
       replace hx150_2 := (hc HB hx150_2 :)
       replace hx150_3 := (hc HB hx150_3 :)
       replace p150 := eq_true p150
       replace q150 := eq_true q150
       refine start_ (n := 16) (S := fun w' => w'.cell? ⟨gb149, 0, none⟩ = some (.int .i64 a1_0) ∧ w'.cell? ⟨gb149, 1, none⟩ = some (.int .i64 a1_1) ∧ w'.cell? (ad150.add (((ji5)).toNat * 4)) = some (.int .i64 ((rd_T68 l0 (ji5)).f0.f0)) ∧ w'.cell? ⟨(ad150.add (((ji5)).toNat * 4)).block, (ad150.add (((ji5)).toNat * 4)).off + 1, none⟩ = some (.int .i64 ((rd_T68 l0 (ji5)).f0.f1)) ∧ w'.cell? ⟨(ad150.add (((ji5)).toNat * 4)).block, (ad150.add (((ji5)).toNat * 4)).off + 2, none⟩ = some (.int .i64 ((rd_T68 l0 (ji5)).f1.f0)) ∧ w'.cell? ⟨(ad150.add (((ji5)).toNat * 4)).block, (ad150.add (((ji5)).toNat * 4)).off + 3, none⟩ = some (.int .i64 ((rd_T68 l0 (ji5)).f1.f1))) (ds := []) (tb 0 16) (by kernel_rfl) rfl rfl ⟨(blk_cell BK149.out 0).trans rfl, (blk_cell BK149.out 1).trans rfl, (hc HB hw150_0 :), (hc HB hw150_1 :), (hc HB hw150_2 :), (hc HB hw150_3 :)⟩ (fun hHeld => ?_); refine with_tabW spec_imPiece.tab2 spec_imPiece.bits2 (fun HT_ HW_ => ?_)
       generalize wr.drew = w12 at BK149 HB hx150_0 hx150_1 hx150_2 hx150_3 hHeld ⊢
       refine pu 0 6 (tb 1 15) ?_
       refine pu 1 7 (tb 2 14) ?_
       refine pu 2 8 (tb 3 13) ?_
       refine pu 3 9 (tb 4 12) ?_
       refine pu 4 10 (tb 5 11) ?_
       refine pu 5 11 (tb 6 10) ?_
       refine pu 6 12 (tb 7 9) ?_
       refine pu 7 13 (tb 8 8) ?_
       refine pu 8 14 (tb 9 7) ?_
       refine pu 9 15 (tb 10 6) ?_
       refine pu 10 16 (tb 11 5) ?_
       refine tk 11 17 (tb 12 4) (hy := by rintro w' ⟨s0, s1, s2, s3, s4, s5⟩; go_simp; with_reducible rfl) (h := ?_)
       refine tk 12 18 (tb 13 3) (hy := by rintro w' ⟨s0, s1, s2, s3, s4, s5⟩; go_simp; with_reducible rfl) (h := ?_)
       refine on 13 19 (tb 14 2) (fun K hK => ?_)
       refine goes_ Try.func45 (by kernel_rfl) rfl #[.agg #[.int .i64 ((rd_T68 l0 (ji5)).f0.f0), .int .i64 ((rd_T68 l0 (ji5)).f0.f1)], .agg #[.int .i64 a1_0, .int .i64 a1_1]] (by rfl) rfl rfl (by (try simp only [List.map_toArray, List.map_cons, List.map_nil]); first | done | (simp only [hji5]; rfl) | rfl | (simp only [List.length_drop, List.length_take]; rfl)) ?_
       with_reducible refine (spec_raCmp.calls ((rd_T68 l0 (ji5)).f0.f0) ((rd_T68 l0 (ji5)).f0.f1) a1_0 a1_1 t151 _ A8.out).mono ?_
       rintro e w13 ⟨rfl, hb⟩
       refine ⟨_, rfl, ?_⟩
       replace BK149 := kb BK149 hb
       replace HB := kh hb
       (try clear hb)
       (try clear hb2)
       (try clear hk)
       (try clear hi)
       refine hK.out _ _ ⟨(blk_cell BK149.out 0).trans rfl, (blk_cell BK149.out 1).trans rfl, (hc HB hw150_0 :), (hc HB hw150_1 :), (hc HB hw150_2 :), (hc HB hw150_3 :)⟩ (fun hHeld => ?_)
       clear hK K
       refine nm 19 ?_
       refine pu 14 20 (tb 15 1) ?_
       refine pu 15 21 (tb 16 0) ?_
       refine done_ (done_of HT_.out (by kernel_rfl)) ?_
       try go_wp2
       go_ret
       exact ⟨by first | rfl | (simp [errW_none, errW_some] <;> rfl) | (simp only [← hji5]; first | rfl | (simp [errW_none, errW_some] <;> rfl)) | (simp [*, errW_none, errW_some] <;> rfl), bl⟩
     ·rw [if_neg c7] at H
      exact absurd H (by simp)
    ·rw [if_neg c6] at H
     exact absurd H (by simp)
   ·rw [if_neg c4] at H
    have c4b0 : decide ((wrap64 (x5_1 + 2)) < (l0.length : Int)) = false := decide_eq_false c4
    clear c4
    obtain rfl := Option.some.inj H
    try go_wp2
    replace BK149 := Aside0.mk (blk_drew BK149.out)
    replace HB := Aside0.mk (below_drew1 HB.out)
    refine start_ (n := 16) (S := fun w' => True) (ds := []) (tb 0 16) (by kernel_rfl) rfl rfl trivial (fun hHeld => ?_); refine with_tabW spec_imPiece.tab2 spec_imPiece.bits2 (fun HT_ HW_ => ?_)
    generalize wr.drew = w14 at BK149 HB hHeld ⊢
    refine pu 0 6 (tb 1 15) ?_
    refine pu 1 7 (tb 2 14) ?_
    refine pu 2 8 (tb 3 13) ?_
    refine pu 3 9 (tb 4 12) ?_
    refine pu 4 10 (tb 5 11) ?_
    refine pu 5 11 (tb 6 10) ?_
    refine sk 6 12 (tb 7 9) ?_
    refine sk 7 13 (tb 8 8) ?_
    refine sk 8 14 (tb 9 7) ?_
    refine sk 9 15 (tb 10 6) ?_
    refine sk 10 16 (tb 11 5) ?_
    refine sk 11 17 (tb 12 4) ?_
    refine sk 12 18 (tb 13 3) ?_
    refine sk 13 19 (tb 14 2) ?_
    refine sk 14 20 (tb 15 1) ?_
    refine pu 15 21 (tb 16 0) ?_
    refine done_ (done_of HT_.out (by kernel_rfl)) ?_
    try go_wp2
    go_ret
    exact ⟨rt, bl⟩

end Go.Proofs.Ytmecnnnagallnaa.PFnExactItineraryOf
