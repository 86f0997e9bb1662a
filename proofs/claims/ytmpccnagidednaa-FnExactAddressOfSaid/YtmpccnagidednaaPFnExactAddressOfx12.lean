-- Written by this session's program wip/pp (the kit's print tool with additions) 35421559b90ae4d0a3588c463048766b98c2df88dd9212a6774a882060cdf62d
import Derived.Test.YtmpccnagidednaaPFnExactAddressOfx0
import Derived.Test.YtmpccnagidednaaPFnExactAddressOfx11
namespace Go.Proofs.Ytmpccnagidednaa.PFnExactAddressOf
open Go.RowKit Go.Proofs.YtmpccnagidednaaW.PrintWords Go.Proofs.YtmpccnagidednaaW.PrintLast Go.Proofs.YtmpccnagidednaaW.PrintMore
attribute [local go_sem] max2_int min2_int max_two min_two max_three min_three max_four min_four   -- for this text's walks alone
set_option linter.unusedVariables false
set_option linter.unusedSimpArgs false

/-! ### impl_SubtractRats: function 148 -/
def impl_SubtractRats.f (k : Nat) (a0_0 : Int) (a0_1 : Int) (a1_0 : Int) (a1_1 : Int) : Option (Int × Int × Bool) := (impl_negated.f a1_0 a1_1).bind fun bt315 => ((impl_AddRats.f k a0_0 a0_1 bt315.1 bt315.2).bind fun bt317 => (some (bt317.1, bt317.2.1, bt317.2.2)))
theorem impl_SubtractRats.mono : ∀ a0 a1 a2 a3 k, LeO (impl_SubtractRats.f k a0 a1 a2 a3) (impl_SubtractRats.f (k + 1) a0 a1 a2 a3) := by
  intro a0 a1 a2 a3 k
  unfold impl_SubtractRats.f
  repeat' first
      | (with_reducible exact impl_AddRats.mono _ _ _ _ _)
      | (with_reducible exact LeO.refl _)
      | (with_reducible exact LeO.none _)
      | (with_reducible refine LeO.ite ?_ ?_)
      | (with_reducible refine LeO.bind ?_ (fun _ => ?_))
      | exact impl_AddRats.mono _ _ _ _ _
      | exact LeO.none _
      | refine LeO.ite ?_ ?_
      | refine LeO.bind ?_ (fun _ => ?_)
def impl_SubtractRats.T1 : Bool × List (List Nat × List Nat) := (true, [([], []), ([], []), ([1], [1]), ([0, 2, 2], [0, 2]), ([3], [3]), ([3], [3]), ([4, 3, 0, 1, 2, 3, 4, 5], [4]), ([5, 6, 0, 1, 2, 3, 4, 5, 6], [5])])
def impl_SubtractRats.B1 : List Nat := [0, 0, 2, 7, 15, 15, 63, 127]
theorem impl_SubtractRats.tab1 : rtab .any (opsOf Try.f148 1) = impl_SubtractRats.T1 := by kernel_rfl
theorem impl_SubtractRats.bits1 : waitsOk impl_SubtractRats.T1.2 impl_SubtractRats.B1 = true := by kernel_rfl
set_option maxHeartbeats 8000000 in
set_option maxRecDepth 100000 in
theorem impl_SubtractRats.calls (k : Nat) (a0_0 : Int) (a0_1 : Int) (a1_0 : Int) (a1_1 : Int) (r1 : Int) (r2 : Int) (r3 : Bool) (w : World) (h : impl_SubtractRats.f k a0_0 a0_1 a1_0 a1_1 = some (r1, r2, r3)) :
    Calls Try.prog 148 #[.agg #[.int .i64 a0_0, .int .i64 a0_1], .agg #[.int .i64 a1_0, .int .i64 a1_1]] w fun e w' => e = .returned (.tuple #[.agg #[.int .i64 r1, .int .i64 r2], .bool r3]) ∧ Below w.heap.size w w' := by
  have hu33 := Try.underlying33
  have HB := Aside0.mk (Below.refl w.heap.size w)
  have H : ((impl_negated.f a1_0 a1_1).bind fun bt315 => ((impl_AddRats.f k a0_0 a0_1 bt315.1 bt315.2).bind fun bt317 => (some (bt317.1, bt317.2.1, bt317.2.2)))) = some (r1, r2, r3) := h
  clear h
  replace H := Option.bind_eq_some_iff.mp H
  obtain ⟨⟨t315, t316⟩, A30, H⟩ := H
  replace H : ((impl_AddRats.f k a0_0 a0_1 t315 t316).bind fun bt317 => (some (bt317.1, bt317.2.1, bt317.2.2))) = some (r1, r2, r3) := H
  have A3 := Aside0.mk A30
  clear A30
  replace H := Option.bind_eq_some_iff.mp H
  obtain ⟨⟨t317, t318, t319⟩, A40, H⟩ := H
  replace H : (some (t317, t318, t319)) = some (r1, r2, r3) := H
  have A4 := Aside0.mk A40
  clear A40
  simp only [Option.some.injEq, Prod.mk.injEq] at H
  obtain ⟨rfl, rfl, rfl⟩ := H
  go_enter Try.func148, Try.ntmps148
  try go_wp2_with (first | ((with_reducible refine gate_dst (N := 2) rfl ?_); refine box_event ?hg (N := 2) ?hd (cs := #[.int .i64 a0_0, .int .i64 a0_1]) (t := 33) ?hr ?_; (case hd => rfl); (case hg => rfl); (case hr => first | (go_simp; done) | (go_simp; rfl)); intro gb312 hg w5 hbox hb; have BK312 := Aside0.mk (hbox); have GW312 := Aside0.mk (bz hg); have GE312 := GW312; replace HB := Aside0.mk (bs hb); clear hb hbox hg) | ((with_reducible refine gate_dst (N := 3) rfl ?_); refine box_event ?hg (N := 3) ?hd (cs := #[.int .i64 a1_0, .int .i64 a1_1]) (t := 33) ?hr ?_; (case hd => rfl); (case hg => rfl); (case hr => first | (go_simp; done) | (go_simp; rfl)); intro gb313 hg w6 hbox hb; have BK313 := Aside0.mk (hbox); have GW313 := Aside0.mk (bz hg); have GE313 := GW313; have NB312_313 := Aside0.mk (bn gb312 hg); have NB313_312 := Aside0.mk NB312_313.out.symm; replace BK312 := Aside0.mk (bb gb312 hb); replace HB := Aside0.mk (bs hb); clear hb hbox hg) | ((with_reducible refine gate_dst (N := 4) rfl ?_); refine box_event ?hg (N := 4) ?hd (cs := #[.int .i64 0, .int .i64 0]) (t := 33) ?hr ?_; (case hd => rfl); (case hg => rfl); (case hr => first | (go_simp; done) | (go_simp; rfl)); intro gb314 hg w7 hbox hb; have BK314 := Aside0.mk (hbox); have GW314 := Aside0.mk (bz hg); have GE314 := GW314; have NB312_314 := Aside0.mk (bn gb312 hg); have NB314_312 := Aside0.mk NB312_314.out.symm; have NB313_314 := Aside0.mk (bn gb313 hg); have NB314_313 := Aside0.mk NB313_314.out.symm; replace BK312 := Aside0.mk (bb gb312 hb); replace BK313 := Aside0.mk (bb gb313 hb); replace HB := Aside0.mk (bs hb); clear hb hbox hg))
  replace BK312 := Aside0.mk (blk_drew BK312.out)
  replace BK313 := Aside0.mk (blk_drew BK313.out)
  replace BK314 := Aside0.mk (blk_drew BK314.out)
  replace HB := Aside0.mk (below_drew1 HB.out)
  refine start_ (n := 8) (S := fun w' => w'.cell? ⟨gb312, 0, none⟩ = some (.int .i64 a0_0) ∧ w'.cell? ⟨gb312, 1, none⟩ = some (.int .i64 a0_1) ∧ w'.cell? ⟨gb313, 0, none⟩ = some (.int .i64 a1_0) ∧ w'.cell? ⟨gb313, 1, none⟩ = some (.int .i64 a1_1)) (ds := []) #[false, false, false, false, false, false, false, false] (by kernel_rfl) rfl rfl ⟨(blk_cell BK312.out 0).trans rfl, (blk_cell BK312.out 1).trans rfl, (blk_cell BK313.out 0).trans rfl, (blk_cell BK313.out 1).trans rfl⟩ (fun hHeld => ?_); refine with_tabW impl_SubtractRats.tab1 impl_SubtractRats.bits1 (fun HT_ HW_ => ?_)
  generalize w7.drew = w8 at BK312 BK313 BK314 HB hHeld ⊢
  refine take_ (i := 0) (N := some 6) (v := ?_) (a' := ?_) #[true, false, false, false, false, false, false, false] rfl rfl (take_ofW HT_.out HW_.out (by kernel_rfl)) (fun _ _ _ h => h) (Or.inl ⟨by rfl, ?_⟩) hHeld ?_ ?_
  rotate_left
  · rintro w' ⟨s0, s1, s2, s3⟩
    go_simp
    with_reducible rfl
  rotate_left
  · simp only [Act.put, List.setIfInBounds_toArray, List.set_cons_zero, List.set_cons_succ, i64_w, i32_w]
    rfl
  refine take_ (i := 1) (N := some 7) (v := ?_) (a' := ?_) #[true, true, false, false, false, false, false, false] rfl rfl (take_ofW HT_.out HW_.out (by kernel_rfl)) (fun _ _ _ h => h) (Or.inl ⟨by rfl, ?_⟩) hHeld ?_ ?_
  rotate_left
  · rintro w' ⟨s0, s1, s2, s3⟩
    go_simp
    with_reducible rfl
  rotate_left
  · simp only [Act.put, List.setIfInBounds_toArray, List.set_cons_zero, List.set_cons_succ, i64_w, i32_w]
    rfl
  refine one_ (i := 2) (N := some 8) #[true, true, true, false, false, false, false, false] rfl rfl (one_of HT_.out (by kernel_rfl)) (by decide) (fun K hK => ?_)
  refine goes_ Try.func170 (by kernel_rfl) rfl #[.agg #[.int .i64 a1_0, .int .i64 a1_1]] (by rfl) rfl rfl (by (try simp only [List.map_toArray, List.map_cons, List.map_nil]); first | done | rfl | (simp only [List.length_drop, List.length_take]; rfl)) ?_
  with_reducible refine (impl_negated.calls a1_0 a1_1 t315 t316 _ A3.out).mono ?_
  rintro e w9 ⟨rfl, hb⟩
  refine ⟨_, rfl, ?_⟩
  replace BK312 := Aside0.mk (bb gb312 hb)
  replace BK313 := Aside0.mk (bb gb313 hb)
  replace BK314 := Aside0.mk (bb gb314 hb)
  replace HB := Aside0.mk (bs hb)
  (try clear hb)
  (try clear hb2)
  (try clear hk)
  (try clear hi)
  refine hK.out _ _ ⟨(blk_cell BK312.out 0).trans rfl, (blk_cell BK312.out 1).trans rfl, (blk_cell BK313.out 0).trans rfl, (blk_cell BK313.out 1).trans rfl⟩ (fun hHeld => ?_)
  clear hK K
  refine norm_ (a' := ?_) ?_ ?_
  rotate_left
  · show Act.put _ (some 8) _ = _
    simp only [Act.put, List.setIfInBounds_toArray, List.set_cons_zero, List.set_cons_succ, i64_w, i32_w]
    rfl
  refine one_ (i := 3) (N := some 9) #[true, true, true, true, false, false, false, false] rfl rfl (one_of HT_.out (by kernel_rfl)) (by decide) (fun K hK => ?_)
  refine goes_ Try.func149 (by kernel_rfl) rfl #[.agg #[.int .i64 a0_0, .int .i64 a0_1], .agg #[.int .i64 t315, .int .i64 t316]] (by rfl) rfl rfl (by (try simp only [List.map_toArray, List.map_cons, List.map_nil]); first | done | rfl | (simp only [List.length_drop, List.length_take]; rfl)) ?_
  with_reducible refine (impl_AddRats.calls k a0_0 a0_1 t315 t316 t317 t318 t319 _ A4.out).mono ?_
  rintro e w10 ⟨rfl, hb⟩
  refine ⟨_, rfl, ?_⟩
  replace BK312 := Aside0.mk (bb gb312 hb)
  replace BK313 := Aside0.mk (bb gb313 hb)
  replace BK314 := Aside0.mk (bb gb314 hb)
  replace HB := Aside0.mk (bs hb)
  (try clear hb)
  (try clear hb2)
  (try clear hk)
  (try clear hi)
  refine hK.out _ _ ⟨(blk_cell BK312.out 0).trans rfl, (blk_cell BK312.out 1).trans rfl, (blk_cell BK313.out 0).trans rfl, (blk_cell BK313.out 1).trans rfl⟩ (fun hHeld => ?_)
  clear hK K
  refine norm_ (a' := ?_) ?_ ?_
  rotate_left
  · show Act.put _ (some 9) _ = _
    simp only [Act.put, List.setIfInBounds_toArray, List.set_cons_zero, List.set_cons_succ, i64_w, i32_w]
    rfl
  refine pu 4 10 #[true, true, true, true, true, false, false, false] ?_
  refine pu 5 11 #[true, true, true, true, true, true, false, false] ?_
  refine one_ (i := 6) (N := none) #[true, true, true, true, true, true, true, false] rfl rfl (one_of HT_.out (by kernel_rfl)) (by decide) (fun K hK => ?_)
  have hs11 : w10.cell? ⟨gb314, 0, none⟩ = some (.int .i64 0) := (blk_cell BK314.out 0).trans rfl
  have hfs11 := blk_frozen BK314.out 0
  have hns11_0 := NB312_314.out
  have hns11_1 := NB313_314.out
  have hms11_0 := NB314_312.out
  have hms11_1 := NB314_313.out
  have hs12 : w10.cell? ⟨gb314, 1, none⟩ = some (.int .i64 0) := (blk_cell BK314.out 1).trans rfl
  have hfs12 := blk_frozen BK314.out 1
  have hns12_0 := NB312_314.out
  have hns12_1 := NB313_314.out
  have hms12_0 := NB314_312.out
  have hms12_1 := NB314_313.out
  refine skip_ (w1 := ?_) (by rfl) rfl ?_ ?_
  rotate_left
  · go_simp
    rfl
  refine hK.out _ _ ⟨(by (iterate 2 refine (cell_far (p := ⟨gb314, _, none⟩) NB312_314.out _).trans ?_); exact hHeld.1), (by (iterate 2 refine (cell_far (p := ⟨gb314, _, none⟩) NB312_314.out _).trans ?_); exact hHeld.2.1), (by (iterate 2 refine (cell_far (p := ⟨gb314, _, none⟩) NB313_314.out _).trans ?_); exact hHeld.2.2.1), (by (iterate 2 refine (cell_far (p := ⟨gb314, _, none⟩) NB313_314.out _).trans ?_); exact hHeld.2.2.2)⟩ (fun hHeld => ?_)
  clear hK K
  refine pu 7 5 #[true, true, true, true, true, true, true, true] ?_
  refine done_ (done_of HT_.out (by kernel_rfl)) ?_
  try go_wp2
  refine bodyPost_ret (results_ct rfl _ _ gb314 33 #[.int .i64 t317, .int .i64 t318] (0, 0) _ rfl (by (with_reducible repeat (first | refine blk_drewN ?_ _ | refine blk_drew ?_ | refine blk_alloc ?_ _)); refine blk_put (cs := #[.int .i64 t317, .int .i64 0]) ?_ 1 _ rfl; (with_reducible repeat (first | refine blk_drewN ?_ _ | refine blk_drew ?_ | refine blk_alloc ?_ _)); refine blk_put (cs := #[.int .i64 0, .int .i64 0]) ?_ 0 _ rfl; (with_reducible repeat (first | refine blk_drewN ?_ _ | refine blk_drew ?_ | refine blk_alloc ?_ _)); exact BK314.out) Try.underlying33 rfl (by kernel_rfl)) rfl ?_
  exact ⟨by first | rfl | (simp [errW_none, errW_some] <;> rfl) | (simp [*, errW_none, errW_some] <;> rfl), bl⟩

/-! ### impl_calc_sub: function 101 -/
def impl_calc_sub.f (k : Nat) (s0_0 : Bool) (a1_0 : Int) (a1_1 : Int) (a2_0 : Int) (a2_1 : Int) : Option (Int × Int × Bool) := (impl_SubtractRats.f k a1_0 a1_1 a2_0 a2_1).bind fun bt323 => ((impl_calc_keep.f s0_0 bt323.1 bt323.2.1 bt323.2.2).bind fun bt326 => (some (bt326.1, bt326.2.1, bt326.2.2)))
theorem impl_calc_sub.mono : ∀ a0 a1 a2 a3 a4 k, LeO (impl_calc_sub.f k a0 a1 a2 a3 a4) (impl_calc_sub.f (k + 1) a0 a1 a2 a3 a4) := by
  intro a0 a1 a2 a3 a4 k
  unfold impl_calc_sub.f
  repeat' first
      | (with_reducible exact impl_SubtractRats.mono _ _ _ _ _)
      | (with_reducible exact LeO.refl _)
      | (with_reducible exact LeO.none _)
      | (with_reducible refine LeO.ite ?_ ?_)
      | (with_reducible refine LeO.bind ?_ (fun _ => ?_))
      | exact impl_SubtractRats.mono _ _ _ _ _
      | exact LeO.none _
      | refine LeO.ite ?_ ?_
      | refine LeO.bind ?_ (fun _ => ?_)
set_option maxHeartbeats 8000000 in
set_option maxRecDepth 100000 in
theorem impl_calc_sub.calls (k : Nat) (g : Nat) (s0_0 : Bool) (a1_0 : Int) (a1_1 : Int) (a2_0 : Int) (a2_1 : Int) (r1 : Int) (r2 : Int) (r3 : Bool) (w0 w : World) (hI : IsS110 w0 w g s0_0) (hB : Below w0.heap.size w0 w) (h : impl_calc_sub.f k s0_0 a1_0 a1_1 a2_0 a2_1 = some (r1, r2, r3)) :
    Calls Try.prog 101 #[.pointer (some ⟨g, 0, none⟩), .agg #[.int .i64 a1_0, .int .i64 a1_1], .agg #[.int .i64 a2_0, .int .i64 a2_1]] w fun e w' => e = .returned (.agg #[.int .i64 r1, .int .i64 r2]) ∧ IsS110 w0 w' g r3 ∧ Below w0.heap.size w0 w' ∧ KeepBut w w' g none := by
  have hu33 := Try.underlying33
  have HI0 := Aside0.mk hI
  have HK := Aside0.mk (KeepBut.refl w g none)
  have HL := Aside0.mk hB.size
  clear hI
  have HW0 := Aside0.mk hB.size
  have HB := Aside0.mk hB
  clear hB
  have H : ((impl_SubtractRats.f k a1_0 a1_1 a2_0 a2_1).bind fun bt323 => ((impl_calc_keep.f s0_0 bt323.1 bt323.2.1 bt323.2.2).bind fun bt326 => (some (bt326.1, bt326.2.1, bt326.2.2)))) = some (r1, r2, r3) := h
  clear h
  replace H := Option.bind_eq_some_iff.mp H
  obtain ⟨⟨t323, t324, t325⟩, A40, H⟩ := H
  replace H : ((impl_calc_keep.f s0_0 t323 t324 t325).bind fun bt326 => (some (bt326.1, bt326.2.1, bt326.2.2))) = some (r1, r2, r3) := H
  have A4 := Aside0.mk A40
  clear A40
  replace H := Option.bind_eq_some_iff.mp H
  obtain ⟨⟨t326, t327, t328⟩, A50, H⟩ := H
  replace H : (some (t326, t327, t328)) = some (r1, r2, r3) := H
  have A5 := Aside0.mk A50
  clear A50
  simp only [Option.some.injEq, Prod.mk.injEq] at H
  obtain ⟨rfl, rfl, rfl⟩ := H
  go_enter Try.func101, Try.ntmps101
  go_wp2_with (first | ((with_reducible refine gate_dst (N := 4) rfl ?_); refine box_event ?hg (N := 4) ?hd (cs := #[.int .i64 a1_0, .int .i64 a1_1]) (t := 33) ?hr ?_; (case hd => rfl); (case hg => rfl); (case hr => first | (go_simp; done) | (go_simp; rfl)); intro gb320 hg w6 hbox hb; have BK320 := Aside0.mk (hbox); have GW320 := Aside0.mk ((by rw [hg]; exact (keep_size (w := w) (g := g) (row := none) (by repeat (first | (with_reducible first | exact HK.out | apply KeepBut.set_ | apply keep_drewN | apply keep_drew | apply keep_alloc) | exact HK.out))) : w.heap.size ≤ gb320)); have GE320 := Aside0.mk ((Nat.le_trans HW0.out GW320.out : w0.heap.size ≤ gb320)); have NB0_320 := Aside0.mk ((by rw [hg]; exact Nat.ne_of_lt (IsS110.lt (show IsS110 w0 _ g s0_0 from by repeat (first | (with_reducible first | exact HI0.out | apply IsS110.alloc | apply IsS110.drewN | apply IsS110.drew | apply IsS110.set_0) | exact HI0.out))) : g ≠ gb320)); have NB320_0 := Aside0.mk NB0_320.out.symm; replace HK := Aside0.mk (KeepBut.trans (by repeat (first | (with_reducible first | exact HK.out | apply KeepBut.set_ | apply keep_drewN | apply keep_drew | apply keep_alloc) | exact HK.out)) (KeepBut.of_below hb g none) (.inl rfl)); replace HB := Aside0.mk (below_step (by repeat (first | (with_reducible first | exact HB.out | apply below_alloc | apply pw_below_drewN | apply below_drew1 | refine below_set ?_ (IsS110.ge HI0.out)) | exact HB.out)) hb); replace HI0 := Aside0.mk (IsS110.below (by repeat (first | (with_reducible first | exact HI0.out | apply IsS110.alloc | apply IsS110.drewN | apply IsS110.drew | apply IsS110.set_0) | exact HI0.out)) hb); clear hb hbox hg) | ((with_reducible refine gate_dst (N := 5) rfl ?_); refine box_event ?hg (N := 5) ?hd (cs := #[.int .i64 a2_0, .int .i64 a2_1]) (t := 33) ?hr ?_; (case hd => rfl); (case hg => rfl); (case hr => first | (go_simp; done) | (go_simp; rfl)); intro gb321 hg w7 hbox hb; have BK321 := Aside0.mk (hbox); have GW321 := Aside0.mk ((by rw [hg]; exact (keep_size (w := w) (g := g) (row := none) (by repeat (first | (with_reducible first | exact HK.out | apply KeepBut.set_ | apply keep_drewN | apply keep_drew | apply keep_alloc | refine keep_far ?_ GW320.out _) | exact HK.out))) : w.heap.size ≤ gb321)); have GE321 := Aside0.mk ((Nat.le_trans HW0.out GW321.out : w0.heap.size ≤ gb321)); have NB320_321 := Aside0.mk (bn gb320 hg); have NB321_320 := Aside0.mk NB320_321.out.symm; have NB0_321 := Aside0.mk ((by rw [hg]; exact Nat.ne_of_lt (IsS110.lt (show IsS110 w0 _ g s0_0 from by repeat (first | (with_reducible first | exact HI0.out | apply IsS110.alloc | apply IsS110.drewN | apply IsS110.drew | apply IsS110.set_0 | refine IsS110.far ?_ NB0_320.out _) | exact HI0.out))) : g ≠ gb321)); have NB321_0 := Aside0.mk NB0_321.out.symm; replace BK320 := Aside0.mk (bb gb320 hb); replace HK := Aside0.mk (KeepBut.trans (by repeat (first | (with_reducible first | exact HK.out | apply KeepBut.set_ | apply keep_drewN | apply keep_drew | apply keep_alloc | refine keep_far ?_ GW320.out _) | exact HK.out)) (KeepBut.of_below hb g none) (.inl rfl)); replace HB := Aside0.mk (below_step (by repeat (first | (with_reducible first | exact HB.out | apply below_alloc | apply pw_below_drewN | apply below_drew1 | refine below_set ?_ (IsS110.ge HI0.out) | refine below_set ?_ GE320.out) | exact HB.out)) hb); replace HI0 := Aside0.mk (IsS110.below (by repeat (first | (with_reducible first | exact HI0.out | apply IsS110.alloc | apply IsS110.drewN | apply IsS110.drew | apply IsS110.set_0 | refine IsS110.far ?_ NB0_320.out _) | exact HI0.out)) hb); clear hb hbox hg) | ((with_reducible refine gate_dst (N := 6) rfl ?_); refine box_event ?hg (N := 6) ?hd (cs := #[.int .i64 0, .int .i64 0]) (t := 33) ?hr ?_; (case hd => rfl); (case hg => rfl); (case hr => first | (go_simp; done) | (go_simp; rfl)); intro gb322 hg w8 hbox hb; have BK322 := Aside0.mk (hbox); have GW322 := Aside0.mk ((by rw [hg]; exact (keep_size (w := w) (g := g) (row := none) (by repeat (first | (with_reducible first | exact HK.out | apply KeepBut.set_ | apply keep_drewN | apply keep_drew | apply keep_alloc | refine keep_far ?_ GW320.out _ | refine keep_far ?_ GW321.out _) | exact HK.out))) : w.heap.size ≤ gb322)); have GE322 := Aside0.mk ((Nat.le_trans HW0.out GW322.out : w0.heap.size ≤ gb322)); have NB320_322 := Aside0.mk (bn gb320 hg); have NB322_320 := Aside0.mk NB320_322.out.symm; have NB321_322 := Aside0.mk (bn gb321 hg); have NB322_321 := Aside0.mk NB321_322.out.symm; have NB0_322 := Aside0.mk ((by rw [hg]; exact Nat.ne_of_lt (IsS110.lt (show IsS110 w0 _ g s0_0 from by repeat (first | (with_reducible first | exact HI0.out | apply IsS110.alloc | apply IsS110.drewN | apply IsS110.drew | apply IsS110.set_0 | refine IsS110.far ?_ NB0_320.out _ | refine IsS110.far ?_ NB0_321.out _) | exact HI0.out))) : g ≠ gb322)); have NB322_0 := Aside0.mk NB0_322.out.symm; replace BK320 := Aside0.mk (bb gb320 hb); replace BK321 := Aside0.mk (bb gb321 hb); replace HK := Aside0.mk (KeepBut.trans (by repeat (first | (with_reducible first | exact HK.out | apply KeepBut.set_ | apply keep_drewN | apply keep_drew | apply keep_alloc | refine keep_far ?_ GW320.out _ | refine keep_far ?_ GW321.out _) | exact HK.out)) (KeepBut.of_below hb g none) (.inl rfl)); replace HB := Aside0.mk (below_step (by repeat (first | (with_reducible first | exact HB.out | apply below_alloc | apply pw_below_drewN | apply below_drew1 | refine below_set ?_ (IsS110.ge HI0.out) | refine below_set ?_ GE320.out | refine below_set ?_ GE321.out) | exact HB.out)) hb); replace HI0 := Aside0.mk (IsS110.below (by repeat (first | (with_reducible first | exact HI0.out | apply IsS110.alloc | apply IsS110.drewN | apply IsS110.drew | apply IsS110.set_0 | refine IsS110.far ?_ NB0_320.out _ | refine IsS110.far ?_ NB0_321.out _) | exact HI0.out)) hb); clear hb hbox hg; have hnb9 := NB320_321.out; have hnc9 := NB321_320.out; have hnb10 := NB320_322.out; have hnc10 := NB322_320.out; have hnb11 := NB320_0.out; have hnc11 := NB0_320.out; have hcz12_0 : w8.cell? ⟨gb320, 0, none⟩ = some (.int .i64 a1_0) := (blk_cell BK320.out 0).trans rfl; have hcz12_1 : w8.cell? ⟨gb320, 1, none⟩ = some (.int .i64 a1_1) := (blk_cell BK320.out 1).trans rfl; have hfz12_0 := blk_frozen BK320.out 0; have hfz12_1 := blk_frozen BK320.out 1; have hnb13 := NB321_322.out; have hnc13 := NB322_321.out; have hnb14 := NB321_0.out; have hnc14 := NB0_321.out; have hcz15_0 : w8.cell? ⟨gb321, 0, none⟩ = some (.int .i64 a2_0) := (blk_cell BK321.out 0).trans rfl; have hcz15_1 : w8.cell? ⟨gb321, 1, none⟩ = some (.int .i64 a2_1) := (blk_cell BK321.out 1).trans rfl; have hfz15_0 := blk_frozen BK321.out 0; have hfz15_1 := blk_frozen BK321.out 1) | ((with_reducible refine gate_callee (f := 148) rfl ?_); refine goesL_ (some 10) rfl rfl Try.func148 (by kernel_rfl) rfl #[.agg #[.int .i64 a1_0, .int .i64 a1_1], .agg #[.int .i64 a2_0, .int .i64 a2_1]] rfl (by (try simp only [List.map_toArray, List.map_cons, List.map_nil]); first | done | rfl | (simp only [List.length_drop, List.length_take]; rfl)) ?_; (with_reducible refine (impl_SubtractRats.calls k a1_0 a1_1 a2_0 a2_1 t323 t324 t325 _ A4.out).mono ?_); rintro e w16 ⟨rfl, hb⟩; refine ⟨_, rfl, ?_⟩; replace BK320 := Aside0.mk (bb gb320 hb); replace BK321 := Aside0.mk (bb gb321 hb); replace BK322 := Aside0.mk (bb gb322 hb); replace HK := Aside0.mk (KeepBut.trans (by repeat (first | (with_reducible first | exact HK.out | apply KeepBut.set_ | apply keep_drewN | apply keep_drew | apply keep_alloc | refine keep_far ?_ GW320.out _ | refine keep_far ?_ GW321.out _ | refine keep_far ?_ GW322.out _) | exact HK.out)) (KeepBut.of_below hb g none) (.inl rfl)); replace HB := Aside0.mk (below_step (by repeat (first | (with_reducible first | exact HB.out | apply below_alloc | apply pw_below_drewN | apply below_drew1 | refine below_set ?_ (IsS110.ge HI0.out) | refine below_set ?_ GE320.out | refine below_set ?_ GE321.out | refine below_set ?_ GE322.out) | exact HB.out)) hb); replace HI0 := Aside0.mk (IsS110.below (by repeat (first | (with_reducible first | exact HI0.out | apply IsS110.alloc | apply IsS110.drewN | apply IsS110.drew | apply IsS110.set_0 | refine IsS110.far ?_ NB0_320.out _ | refine IsS110.far ?_ NB0_321.out _ | refine IsS110.far ?_ NB0_322.out _) | exact HI0.out)) hb); (try clear hb); (try clear hb2); (try clear hk); (try clear hi)) | ((with_reducible refine gate_callee (f := 104) rfl ?_); refine goesL_ (some 13) rfl rfl Try.func104 (by kernel_rfl) rfl #[.pointer (some ⟨g, 0, none⟩), .agg #[.int .i64 t323, .int .i64 t324], .bool t325] rfl (by (try simp only [List.map_toArray, List.map_cons, List.map_nil]); first | done | rfl | (simp only [List.length_drop, List.length_take]; rfl)) ?_; (with_reducible refine (impl_calc_keep.calls g s0_0 t323 t324 t325 t326 t327 t328 w0 _ ?side1 ?side2 A5.out).mono ?_); (case side1 => repeat (first | (with_reducible first | exact HI0.out | apply IsS110.alloc | apply IsS110.drewN | apply IsS110.drew | apply IsS110.set_0 | refine IsS110.far ?_ NB0_320.out _ | refine IsS110.far ?_ NB0_321.out _ | refine IsS110.far ?_ NB0_322.out _) | exact HI0.out)); (case side2 => repeat (first | (with_reducible first | exact HB.out | apply below_alloc | apply pw_below_drewN | apply below_drew1 | refine below_set ?_ (IsS110.ge HI0.out) | refine below_set ?_ GE320.out | refine below_set ?_ GE321.out | refine below_set ?_ GE322.out) | exact HB.out)); rintro e w17 ⟨rfl, hi, hb, hk⟩; refine ⟨_, rfl, ?_⟩; replace BK320 := Aside0.mk (KeepBut.blk hk (g' := gb320) (o := .cells #[.int .i64 a1_0, .int .i64 a1_1] 33 (0, 0)) (bo gb320) NB320_0.out (by simp)); replace BK321 := Aside0.mk (KeepBut.blk hk (g' := gb321) (o := .cells #[.int .i64 a2_0, .int .i64 a2_1] 33 (0, 0)) (bo gb321) NB321_0.out (by simp)); replace BK322 := Aside0.mk (KeepBut.blk hk (g' := gb322) (o := .cells #[.int .i64 0, .int .i64 0] 33 (0, 0)) (bo gb322) NB322_0.out (by simp)); replace HK := Aside0.mk (KeepBut.trans (by repeat (first | (with_reducible first | exact HK.out | apply KeepBut.set_ | apply keep_drewN | apply keep_drew | apply keep_alloc | refine keep_far ?_ GW320.out _ | refine keep_far ?_ GW321.out _ | refine keep_far ?_ GW322.out _) | exact HK.out)) hk (.inl rfl)); replace HB := Aside0.mk (hb); replace HI0 := Aside0.mk (hi); (try clear hb); (try clear hb2); (try clear hk); (try clear hi); have hnb18 := NB322_0.out; have hnc18 := NB0_322.out; have hcz19_0 : w17.cell? ⟨gb322, 0, none⟩ = some (.int .i64 0) := (blk_cell BK322.out 0).trans rfl; have hcz19_1 : w17.cell? ⟨gb322, 1, none⟩ = some (.int .i64 0) := (blk_cell BK322.out 1).trans rfl; have hfz19_0 := blk_frozen BK322.out 0; have hfz19_1 := blk_frozen BK322.out 1))
  refine bodyPost_ret (results_cell_row rfl _ _ gb322 33 #[.int .i64 t326, .int .i64 t327] (0, 0) _ rfl (by (with_reducible repeat (first | refine blk_drewN ?_ _ | refine blk_drew ?_ | refine blk_alloc ?_ _)); refine blk_put (cs := #[.int .i64 t326, .int .i64 0]) ?_ 1 _ rfl; (with_reducible repeat (first | refine blk_drewN ?_ _ | refine blk_drew ?_ | refine blk_alloc ?_ _)); refine blk_put (cs := #[.int .i64 0, .int .i64 0]) ?_ 0 _ rfl; (with_reducible repeat (first | refine blk_drewN ?_ _ | refine blk_drew ?_ | refine blk_alloc ?_ _)); exact BK322.out) Try.underlying33 rfl (by kernel_rfl)) rfl ?_
  exact ⟨by first | rfl | (simp [errW_none, errW_some] <;> rfl) | (simp [*, errW_none, errW_some] <;> rfl), by repeat (first | (with_reducible first | exact HI0.out | apply IsS110.alloc | apply IsS110.drewN | apply IsS110.drew | apply IsS110.set_0 | refine IsS110.far ?_ NB0_320.out _ | refine IsS110.far ?_ NB0_321.out _ | refine IsS110.far ?_ NB0_322.out _) | exact HI0.out), by repeat (first | (with_reducible first | exact HB.out | apply below_alloc | apply pw_below_drewN | apply below_drew1 | refine below_set ?_ (IsS110.ge HI0.out) | refine below_set ?_ GE320.out | refine below_set ?_ GE321.out | refine below_set ?_ GE322.out) | exact HB.out), by repeat (first | (with_reducible first | exact HK.out | apply KeepBut.set_ | apply keep_drewN | apply keep_drew | apply keep_alloc | refine keep_far ?_ GW320.out _ | refine keep_far ?_ GW321.out _ | refine keep_far ?_ GW322.out _) | exact HK.out)⟩

/-! ### impl_DivideRats: function 179 -/
def impl_DivideRats.f (k : Nat) (a0_0 : Int) (a0_1 : Int) (a1_0 : Int) (a1_1 : Int) : Option (Int × Int × Bool) := (impl_areRats.f k (([(⟨a0_0, a0_1⟩ : S33), (⟨a1_0, a1_1⟩ : S33)] : List (S33)))).bind fun t335 => (if t335 = true then (if a1_0 = 0 then (some (0, 0, false)) else ((impl_lowest.f k (wrap64 (a0_0 * a1_1)) (wrap64 (a0_1 * a1_0))).bind fun bt336 => (some (bt336.1, bt336.2.1, bt336.2.2)))) else (some (0, 0, false)))
theorem impl_DivideRats.mono : ∀ a0 a1 a2 a3 k, LeO (impl_DivideRats.f k a0 a1 a2 a3) (impl_DivideRats.f (k + 1) a0 a1 a2 a3) := by
  intro a0 a1 a2 a3 k
  unfold impl_DivideRats.f
  repeat' first
      | (with_reducible exact impl_areRats.mono _ _)
      | (with_reducible exact impl_lowest.mono _ _ _)
      | (with_reducible exact LeO.refl _)
      | (with_reducible exact LeO.none _)
      | (with_reducible refine LeO.ite ?_ ?_)
      | (with_reducible refine LeO.bind ?_ (fun _ => ?_))
      | exact impl_areRats.mono _ _
      | exact impl_lowest.mono _ _ _
      | exact LeO.none _
      | refine LeO.ite ?_ ?_
      | refine LeO.bind ?_ (fun _ => ?_)
set_option maxHeartbeats 8000000 in
set_option maxRecDepth 100000 in
theorem impl_DivideRats.calls (k : Nat) (a0_0 : Int) (a0_1 : Int) (a1_0 : Int) (a1_1 : Int) (r1 : Int) (r2 : Int) (r3 : Bool) (w : World) (h : impl_DivideRats.f k a0_0 a0_1 a1_0 a1_1 = some (r1, r2, r3)) :
    Calls Try.prog 179 #[.agg #[.int .i64 a0_0, .int .i64 a0_1], .agg #[.int .i64 a1_0, .int .i64 a1_1]] w fun e w' => e = .returned (.tuple #[.agg #[.int .i64 r1, .int .i64 r2], .bool r3]) ∧ Below w.heap.size w w' := by
  have hu33 := Try.underlying33
  have HB := Aside0.mk (Below.refl w.heap.size w)
  have H : ((impl_areRats.f k (([(⟨a0_0, a0_1⟩ : S33), (⟨a1_0, a1_1⟩ : S33)] : List (S33)))).bind fun t335 => (if t335 = true then (if a1_0 = 0 then (some (0, 0, false)) else ((impl_lowest.f k (wrap64 (a0_0 * a1_1)) (wrap64 (a0_1 * a1_0))).bind fun bt336 => (some (bt336.1, bt336.2.1, bt336.2.2)))) else (some (0, 0, false)))) = some (r1, r2, r3) := h
  clear h
  obtain ⟨y332, hy332⟩ : ∃ y_ : List (S33), y_ = (([(⟨a0_0, a0_1⟩ : S33), (⟨a1_0, a1_1⟩ : S33)] : List (S33))) := ⟨_, rfl⟩
  replace H : ((impl_areRats.f k y332).bind fun t335 => (if t335 = true then (if a1_0 = 0 then (some (0, 0, false)) else ((impl_lowest.f k (wrap64 (a0_0 * a1_1)) (wrap64 (a0_1 * a1_0))).bind fun bt336 => (some (bt336.1, bt336.2.1, bt336.2.2)))) else (some (0, 0, false)))) = some (r1, r2, r3) := by first | (rw [hy332]; with_reducible exact H) | (have H2_ := (Option.bind_some _ _).symm.trans H; rw [hy332]; with_reducible exact H2_) | (have H2_ := (Option.bind_some _ _).symm.trans H; with_reducible exact H2_) | with_reducible exact H | (rw [hy332]; exact H) | exact H
  have Ny332 := Aside0.mk hy332
  clear hy332
  replace H := Option.bind_eq_some_iff.mp H
  obtain ⟨t335, A30, H⟩ := H
  replace H : (if t335 = true then (if a1_0 = 0 then (some (0, 0, false)) else ((impl_lowest.f k (wrap64 (a0_0 * a1_1)) (wrap64 (a0_1 * a1_0))).bind fun bt336 => (some (bt336.1, bt336.2.1, bt336.2.2)))) else (some (0, 0, false))) = some (r1, r2, r3) := H
  have A3 := Aside0.mk A30
  clear A30
  by_cases c4 : t335 = true
  · subst c4
    have H1 : (if a1_0 = 0 then (some (0, 0, false)) else ((impl_lowest.f k (wrap64 (a0_0 * a1_1)) (wrap64 (a0_1 * a1_0))).bind fun bt336 => (some (bt336.1, bt336.2.1, bt336.2.2)))) = some (r1, r2, r3) := by rw [if_pos rfl] at H; exact H
    clear H
    have H := H1
    clear H1
    by_cases c5 : a1_0 = 0
    · rw [if_pos c5] at H
      have c5b0 : (a1_0 == 0) = true := beq_iff_eq.mpr c5
      have c5b1 : (a1_0 != 0) = false := bne_eq_false_iff_eq.mpr c5
      clear c5
      simp only [Option.some.injEq, Prod.mk.injEq] at H
      obtain ⟨rfl, rfl, rfl⟩ := H
      go_enter Try.func179, Try.ntmps179
      go_wp2_with (first | ((with_reducible refine gate_dst (N := 2) rfl ?_); refine box_event ?hg (N := 2) ?hd (cs := #[.int .i64 a0_0, .int .i64 a0_1]) (t := 33) ?hr ?_; (case hd => rfl); (case hg => rfl); (case hr => first | (go_simp; done) | (go_simp; rfl)); intro gb329 hg w6 hbox hb; have BK329 := Aside0.mk (hbox); have GW329 := Aside0.mk (bz hg); have GE329 := GW329; replace HB := Aside0.mk (bs hb); clear hb hbox hg) | ((with_reducible refine gate_dst (N := 3) rfl ?_); refine box_event ?hg (N := 3) ?hd (cs := #[.int .i64 a1_0, .int .i64 a1_1]) (t := 33) ?hr ?_; (case hd => rfl); (case hg => rfl); (case hr => first | (go_simp; done) | (go_simp; rfl)); intro gb330 hg w7 hbox hb; have BK330 := Aside0.mk (hbox); have GW330 := Aside0.mk (bz hg); have GE330 := GW330; have NB329_330 := Aside0.mk (bn gb329 hg); have NB330_329 := Aside0.mk NB329_330.out.symm; replace BK329 := Aside0.mk (bb gb329 hb); replace HB := Aside0.mk (bs hb); clear hb hbox hg) | ((with_reducible refine gate_dst (N := 4) rfl ?_); refine box_event ?hg (N := 4) ?hd (cs := #[.int .i64 0, .int .i64 0]) (t := 33) ?hr ?_; (case hd => rfl); (case hg => rfl); (case hr => first | (go_simp; done) | (go_simp; rfl)); intro gb331 hg w8 hbox hb; have BK331 := Aside0.mk (hbox); have GW331 := Aside0.mk (bz hg); have GE331 := GW331; have NB329_331 := Aside0.mk (bn gb329 hg); have NB331_329 := Aside0.mk NB329_331.out.symm; have NB330_331 := Aside0.mk (bn gb330 hg); have NB331_330 := Aside0.mk NB330_331.out.symm; replace BK329 := Aside0.mk (bb gb329 hb); replace BK330 := Aside0.mk (bb gb330 hb); replace HB := Aside0.mk (bs hb); clear hb hbox hg; have hnb9 := NB329_330.out; have hnc9 := NB330_329.out; have hnb10 := NB329_331.out; have hnc10 := NB331_329.out; have hcz11_0 : w8.cell? ⟨gb329, 0, none⟩ = some (.int .i64 a0_0) := (blk_cell BK329.out 0).trans rfl; have hcz11_1 : w8.cell? ⟨gb329, 1, none⟩ = some (.int .i64 a0_1) := (blk_cell BK329.out 1).trans rfl; have hfz11_0 := blk_frozen BK329.out 0; have hfz11_1 := blk_frozen BK329.out 1; have hnb12 := NB330_331.out; have hnc12 := NB331_330.out; have hcz13_0 : w8.cell? ⟨gb330, 0, none⟩ = some (.int .i64 a1_0) := (blk_cell BK330.out 0).trans rfl; have hcz13_1 : w8.cell? ⟨gb330, 1, none⟩ = some (.int .i64 a1_1) := (blk_cell BK330.out 1).trans rfl; have hfz13_0 := blk_frozen BK330.out 0; have hfz13_1 := blk_frozen BK330.out 1) | ((with_reducible refine gate_dst (N := 8) rfl ?_); refine Kd.R_lit k33 _ 33 ?hg (N := 8) ?hd (xs := ([(⟨a0_0, a0_1⟩ : S33), (⟨a1_0, a1_1⟩ : S33)] : List (S33))) (inner := [.int .i64 a0_0, .int .i64 a0_1, .int .i64 a1_0, .int .i64 a1_1]) (ok := fun _ => True) (okp := fun _ => True) ?hr ?hp (fun _ hk => hk) trivial (Below.refl _ _) (Nat.le_refl _) (by simp) ?_; (case hd => rfl); (case hg => rfl); (case hr => first | (go_simp; done) | (go_simp; rfl)); (case hp => exact (Reps.c2 (show Kd.M k33 _ _ _ (⟨a0_0, a0_1⟩ : S33) [.int .i64 a0_0, .int .i64 a0_1] from (k33_mkM _ _ _ (⟨a0_0, a0_1⟩ : S33) )) (Reps.c2 (show Kd.M k33 _ _ _ (⟨a1_0, a1_1⟩ : S33) [.int .i64 a1_0, .int .i64 a1_1] from (k33_mkM _ _ _ (⟨a1_0, a1_1⟩ : S33) )) (Reps.none _ _)))); intro v333 w14 ho15 hb hg_ hnew_; clear hg_ hnew_; (first | rw [← Ny332.out] at ho15 | (simp only [Int.reduceToNat] at ho15; rw [← Ny332.out] at ho15)); have HO334 := Aside0.mk (Kd.R_lower (Kd.R_newB (Kd.R_newB (Kd.R_newB ho15 (g := gb329) (o := .cells #[.int .i64 a0_0, .int .i64 a0_1] 33 (0, 0)) (bo gb329)) (g := gb330) (o := .cells #[.int .i64 a1_0, .int .i64 a1_1] 33 (0, 0)) (bo gb330)) (g := gb331) (o := .cells #[.int .i64 0, .int .i64 0] 33 (0, 0)) (bo gb331)) (below_size bl)); replace BK329 := Aside0.mk (bb gb329 hb); replace BK330 := Aside0.mk (bb gb330 hb); replace BK331 := Aside0.mk (bb gb331 hb); replace HB := Aside0.mk (bs hb); clear hb ho15; obtain ⟨Ao16, co16, eo16⟩ := Kd.R_slice HO334.out; subst eo16) | ((with_reducible refine gate_callee (f := 171) rfl ?_); refine goesL_ (some 9) rfl rfl Try.func171 (by kernel_rfl) rfl #[.slice Ao16 y332.length co16] rfl (by (try simp only [List.map_toArray, List.map_cons, List.map_nil]); first | done | rfl | (simp only [List.length_drop, List.length_take]; rfl)) ?_; (with_reducible refine (impl_areRats.calls k _ _ y332 true _ ?side1 ?side2 A3.out).mono ?_); (case side1 => repeat (first | exact (Kd.R_reads' HO334.out).2.2 | (with_reducible refine Kd.C_alloc ?_ _) | (with_reducible refine Kd.C_drewN ?_ _) | (with_reducible refine Kd.C_drew ?_))); (case side2 => exact (Kd.R_reads' HO334.out).2.1); rintro e w17 ⟨rfl, hb⟩; refine ⟨_, rfl, ?_⟩; replace HO334 := Aside0.mk (Kd.R_below (by (with_reducible repeat (first | apply Kd.R_alloc | apply Kd.R_drewN | apply Kd.R_drew)); exact HO334.out) hb); replace BK329 := Aside0.mk (bb gb329 hb); replace BK330 := Aside0.mk (bb gb330 hb); replace BK331 := Aside0.mk (bb gb331 hb); replace HB := Aside0.mk (bs hb); (try clear hb); (try clear hb2); (try clear hk); (try clear hi); have hcz18_0 : w17.cell? ⟨gb330, 0, none⟩ = some (.int .i64 a1_0) := (blk_cell BK330.out 0).trans rfl; have hcz18_1 : w17.cell? ⟨gb330, 1, none⟩ = some (.int .i64 a1_1) := (blk_cell BK330.out 1).trans rfl; have hfz18_0 := blk_frozen BK330.out 0; have hfz18_1 := blk_frozen BK330.out 1; have hcz19_0 : w17.cell? ⟨gb331, 0, none⟩ = some (.int .i64 0) := (blk_cell BK331.out 0).trans rfl; have hcz19_1 : w17.cell? ⟨gb331, 1, none⟩ = some (.int .i64 0) := (blk_cell BK331.out 1).trans rfl; have hfz19_0 := blk_frozen BK331.out 0; have hfz19_1 := blk_frozen BK331.out 1))
      refine bodyPost_ret (results_ct rfl _ _ gb331 33 #[.int .i64 0, .int .i64 0] (0, 0) _ rfl (by (with_reducible repeat (first | refine blk_drewN ?_ _ | refine blk_drew ?_ | refine blk_alloc ?_ _)); refine blk_put (cs := #[.int .i64 0, .int .i64 0]) ?_ 1 _ rfl; (with_reducible repeat (first | refine blk_drewN ?_ _ | refine blk_drew ?_ | refine blk_alloc ?_ _)); refine blk_put (cs := #[.int .i64 0, .int .i64 0]) ?_ 0 _ rfl; (with_reducible repeat (first | refine blk_drewN ?_ _ | refine blk_drew ?_ | refine blk_alloc ?_ _)); exact BK331.out) Try.underlying33 rfl (by kernel_rfl)) rfl ?_
      exact ⟨by first | rfl | (simp [errW_none, errW_some] <;> rfl) | (simp [*, errW_none, errW_some] <;> rfl), bl⟩
    · rw [if_neg c5] at H
      have c5b0 : (a1_0 == 0) = false := beq_eq_false_iff_ne.mpr c5
      have c5b1 : (a1_0 != 0) = true := bne_iff_ne.mpr c5
      replace H := Option.bind_eq_some_iff.mp H
      obtain ⟨⟨t336, t337, t338⟩, A200, H⟩ := H
      replace H : (some (t336, t337, t338)) = some (r1, r2, r3) := H
      have A20 := Aside0.mk A200
      clear A200
      simp only [Option.some.injEq, Prod.mk.injEq] at H
      obtain ⟨rfl, rfl, rfl⟩ := H
      go_enter Try.func179, Try.ntmps179
      go_wp2_with (first | ((with_reducible refine gate_dst (N := 2) rfl ?_); refine box_event ?hg (N := 2) ?hd (cs := #[.int .i64 a0_0, .int .i64 a0_1]) (t := 33) ?hr ?_; (case hd => rfl); (case hg => rfl); (case hr => first | (go_simp; done) | (go_simp; rfl)); intro gb329 hg w21 hbox hb; have BK329 := Aside0.mk (hbox); have GW329 := Aside0.mk (bz hg); have GE329 := GW329; replace HB := Aside0.mk (bs hb); clear hb hbox hg) | ((with_reducible refine gate_dst (N := 3) rfl ?_); refine box_event ?hg (N := 3) ?hd (cs := #[.int .i64 a1_0, .int .i64 a1_1]) (t := 33) ?hr ?_; (case hd => rfl); (case hg => rfl); (case hr => first | (go_simp; done) | (go_simp; rfl)); intro gb330 hg w22 hbox hb; have BK330 := Aside0.mk (hbox); have GW330 := Aside0.mk (bz hg); have GE330 := GW330; have NB329_330 := Aside0.mk (bn gb329 hg); have NB330_329 := Aside0.mk NB329_330.out.symm; replace BK329 := Aside0.mk (bb gb329 hb); replace HB := Aside0.mk (bs hb); clear hb hbox hg) | ((with_reducible refine gate_dst (N := 4) rfl ?_); refine box_event ?hg (N := 4) ?hd (cs := #[.int .i64 0, .int .i64 0]) (t := 33) ?hr ?_; (case hd => rfl); (case hg => rfl); (case hr => first | (go_simp; done) | (go_simp; rfl)); intro gb331 hg w23 hbox hb; have BK331 := Aside0.mk (hbox); have GW331 := Aside0.mk (bz hg); have GE331 := GW331; have NB329_331 := Aside0.mk (bn gb329 hg); have NB331_329 := Aside0.mk NB329_331.out.symm; have NB330_331 := Aside0.mk (bn gb330 hg); have NB331_330 := Aside0.mk NB330_331.out.symm; replace BK329 := Aside0.mk (bb gb329 hb); replace BK330 := Aside0.mk (bb gb330 hb); replace HB := Aside0.mk (bs hb); clear hb hbox hg; have hnb24 := NB329_330.out; have hnc24 := NB330_329.out; have hnb25 := NB329_331.out; have hnc25 := NB331_329.out; have hcz26_0 : w23.cell? ⟨gb329, 0, none⟩ = some (.int .i64 a0_0) := (blk_cell BK329.out 0).trans rfl; have hcz26_1 : w23.cell? ⟨gb329, 1, none⟩ = some (.int .i64 a0_1) := (blk_cell BK329.out 1).trans rfl; have hfz26_0 := blk_frozen BK329.out 0; have hfz26_1 := blk_frozen BK329.out 1; have hnb27 := NB330_331.out; have hnc27 := NB331_330.out; have hcz28_0 : w23.cell? ⟨gb330, 0, none⟩ = some (.int .i64 a1_0) := (blk_cell BK330.out 0).trans rfl; have hcz28_1 : w23.cell? ⟨gb330, 1, none⟩ = some (.int .i64 a1_1) := (blk_cell BK330.out 1).trans rfl; have hfz28_0 := blk_frozen BK330.out 0; have hfz28_1 := blk_frozen BK330.out 1) | ((with_reducible refine gate_dst (N := 8) rfl ?_); refine Kd.R_lit k33 _ 33 ?hg (N := 8) ?hd (xs := ([(⟨a0_0, a0_1⟩ : S33), (⟨a1_0, a1_1⟩ : S33)] : List (S33))) (inner := [.int .i64 a0_0, .int .i64 a0_1, .int .i64 a1_0, .int .i64 a1_1]) (ok := fun _ => True) (okp := fun _ => True) ?hr ?hp (fun _ hk => hk) trivial (Below.refl _ _) (Nat.le_refl _) (by simp) ?_; (case hd => rfl); (case hg => rfl); (case hr => first | (go_simp; done) | (go_simp; rfl)); (case hp => exact (Reps.c2 (show Kd.M k33 _ _ _ (⟨a0_0, a0_1⟩ : S33) [.int .i64 a0_0, .int .i64 a0_1] from (k33_mkM _ _ _ (⟨a0_0, a0_1⟩ : S33) )) (Reps.c2 (show Kd.M k33 _ _ _ (⟨a1_0, a1_1⟩ : S33) [.int .i64 a1_0, .int .i64 a1_1] from (k33_mkM _ _ _ (⟨a1_0, a1_1⟩ : S33) )) (Reps.none _ _)))); intro v333 w29 ho30 hb hg_ hnew_; clear hg_ hnew_; (first | rw [← Ny332.out] at ho30 | (simp only [Int.reduceToNat] at ho30; rw [← Ny332.out] at ho30)); have HO334 := Aside0.mk (Kd.R_lower (Kd.R_newB (Kd.R_newB (Kd.R_newB ho30 (g := gb329) (o := .cells #[.int .i64 a0_0, .int .i64 a0_1] 33 (0, 0)) (bo gb329)) (g := gb330) (o := .cells #[.int .i64 a1_0, .int .i64 a1_1] 33 (0, 0)) (bo gb330)) (g := gb331) (o := .cells #[.int .i64 0, .int .i64 0] 33 (0, 0)) (bo gb331)) (below_size bl)); replace BK329 := Aside0.mk (bb gb329 hb); replace BK330 := Aside0.mk (bb gb330 hb); replace BK331 := Aside0.mk (bb gb331 hb); replace HB := Aside0.mk (bs hb); clear hb ho30; obtain ⟨Ao31, co31, eo31⟩ := Kd.R_slice HO334.out; subst eo31) | ((with_reducible refine gate_callee (f := 171) rfl ?_); refine goesL_ (some 9) rfl rfl Try.func171 (by kernel_rfl) rfl #[.slice Ao31 y332.length co31] rfl (by (try simp only [List.map_toArray, List.map_cons, List.map_nil]); first | done | rfl | (simp only [List.length_drop, List.length_take]; rfl)) ?_; (with_reducible refine (impl_areRats.calls k _ _ y332 true _ ?side1 ?side2 A3.out).mono ?_); (case side1 => repeat (first | exact (Kd.R_reads' HO334.out).2.2 | (with_reducible refine Kd.C_alloc ?_ _) | (with_reducible refine Kd.C_drewN ?_ _) | (with_reducible refine Kd.C_drew ?_))); (case side2 => exact (Kd.R_reads' HO334.out).2.1); rintro e w32 ⟨rfl, hb⟩; refine ⟨_, rfl, ?_⟩; replace HO334 := Aside0.mk (Kd.R_below (by (with_reducible repeat (first | apply Kd.R_alloc | apply Kd.R_drewN | apply Kd.R_drew)); exact HO334.out) hb); replace BK329 := Aside0.mk (bb gb329 hb); replace BK330 := Aside0.mk (bb gb330 hb); replace BK331 := Aside0.mk (bb gb331 hb); replace HB := Aside0.mk (bs hb); (try clear hb); (try clear hb2); (try clear hk); (try clear hi); have hcz33_0 : w32.cell? ⟨gb330, 0, none⟩ = some (.int .i64 a1_0) := (blk_cell BK330.out 0).trans rfl; have hcz33_1 : w32.cell? ⟨gb330, 1, none⟩ = some (.int .i64 a1_1) := (blk_cell BK330.out 1).trans rfl; have hfz33_0 := blk_frozen BK330.out 0; have hfz33_1 := blk_frozen BK330.out 1; have hcz34_0 : w32.cell? ⟨gb329, 0, none⟩ = some (.int .i64 a0_0) := (blk_cell BK329.out 0).trans rfl; have hcz34_1 : w32.cell? ⟨gb329, 1, none⟩ = some (.int .i64 a0_1) := (blk_cell BK329.out 1).trans rfl; have hfz34_0 := blk_frozen BK329.out 0; have hfz34_1 := blk_frozen BK329.out 1) | ((with_reducible refine gate_callee (f := 105) rfl ?_); refine goesL_ (some 27) rfl rfl Try.func105 (by kernel_rfl) rfl #[.int .i64 (wrap64 (a0_0 * a1_1)), .int .i64 (wrap64 (a0_1 * a1_0))] rfl (by (try simp only [List.map_toArray, List.map_cons, List.map_nil]); first | done | rfl | (simp only [List.length_drop, List.length_take]; rfl)) ?_; (with_reducible refine (impl_lowest.calls k (wrap64 (a0_0 * a1_1)) (wrap64 (a0_1 * a1_0)) t336 t337 t338 _ A20.out).mono ?_); rintro e w35 ⟨rfl, hb⟩; refine ⟨_, rfl, ?_⟩; replace HO334 := Aside0.mk (Kd.R_below (by (with_reducible repeat (first | apply Kd.R_alloc | apply Kd.R_drewN | apply Kd.R_drew)); exact HO334.out) hb); replace BK329 := Aside0.mk (bb gb329 hb); replace BK330 := Aside0.mk (bb gb330 hb); replace BK331 := Aside0.mk (bb gb331 hb); replace HB := Aside0.mk (bs hb); (try clear hb); (try clear hb2); (try clear hk); (try clear hi); have hcz36_0 : w35.cell? ⟨gb331, 0, none⟩ = some (.int .i64 0) := (blk_cell BK331.out 0).trans rfl; have hcz36_1 : w35.cell? ⟨gb331, 1, none⟩ = some (.int .i64 0) := (blk_cell BK331.out 1).trans rfl; have hfz36_0 := blk_frozen BK331.out 0; have hfz36_1 := blk_frozen BK331.out 1))
      refine bodyPost_ret (results_ct rfl _ _ gb331 33 #[.int .i64 t336, .int .i64 t337] (0, 0) _ rfl (by (with_reducible repeat (first | refine blk_drewN ?_ _ | refine blk_drew ?_ | refine blk_alloc ?_ _)); refine blk_put (cs := #[.int .i64 t336, .int .i64 0]) ?_ 1 _ rfl; (with_reducible repeat (first | refine blk_drewN ?_ _ | refine blk_drew ?_ | refine blk_alloc ?_ _)); refine blk_put (cs := #[.int .i64 0, .int .i64 0]) ?_ 0 _ rfl; (with_reducible repeat (first | refine blk_drewN ?_ _ | refine blk_drew ?_ | refine blk_alloc ?_ _)); exact BK331.out) Try.underlying33 rfl (by kernel_rfl)) rfl ?_
      exact ⟨by first | rfl | (simp [errW_none, errW_some] <;> rfl) | (simp [*, errW_none, errW_some] <;> rfl), bl⟩
  · replace c4 := Bool.eq_false_iff.mpr c4
    subst c4
    have H1 : (some (0, 0, false)) = some (r1, r2, r3) := by rw [if_neg (show ¬ (false = true) by decide)] at H; exact H
    clear H
    have H := H1
    clear H1
    simp only [Option.some.injEq, Prod.mk.injEq] at H
    obtain ⟨rfl, rfl, rfl⟩ := H
    go_enter Try.func179, Try.ntmps179
    go_wp2_with (first | ((with_reducible refine gate_dst (N := 2) rfl ?_); refine box_event ?hg (N := 2) ?hd (cs := #[.int .i64 a0_0, .int .i64 a0_1]) (t := 33) ?hr ?_; (case hd => rfl); (case hg => rfl); (case hr => first | (go_simp; done) | (go_simp; rfl)); intro gb329 hg w37 hbox hb; have BK329 := Aside0.mk (hbox); have GW329 := Aside0.mk (bz hg); have GE329 := GW329; replace HB := Aside0.mk (bs hb); clear hb hbox hg) | ((with_reducible refine gate_dst (N := 3) rfl ?_); refine box_event ?hg (N := 3) ?hd (cs := #[.int .i64 a1_0, .int .i64 a1_1]) (t := 33) ?hr ?_; (case hd => rfl); (case hg => rfl); (case hr => first | (go_simp; done) | (go_simp; rfl)); intro gb330 hg w38 hbox hb; have BK330 := Aside0.mk (hbox); have GW330 := Aside0.mk (bz hg); have GE330 := GW330; have NB329_330 := Aside0.mk (bn gb329 hg); have NB330_329 := Aside0.mk NB329_330.out.symm; replace BK329 := Aside0.mk (bb gb329 hb); replace HB := Aside0.mk (bs hb); clear hb hbox hg) | ((with_reducible refine gate_dst (N := 4) rfl ?_); refine box_event ?hg (N := 4) ?hd (cs := #[.int .i64 0, .int .i64 0]) (t := 33) ?hr ?_; (case hd => rfl); (case hg => rfl); (case hr => first | (go_simp; done) | (go_simp; rfl)); intro gb331 hg w39 hbox hb; have BK331 := Aside0.mk (hbox); have GW331 := Aside0.mk (bz hg); have GE331 := GW331; have NB329_331 := Aside0.mk (bn gb329 hg); have NB331_329 := Aside0.mk NB329_331.out.symm; have NB330_331 := Aside0.mk (bn gb330 hg); have NB331_330 := Aside0.mk NB330_331.out.symm; replace BK329 := Aside0.mk (bb gb329 hb); replace BK330 := Aside0.mk (bb gb330 hb); replace HB := Aside0.mk (bs hb); clear hb hbox hg; have hnb40 := NB329_330.out; have hnc40 := NB330_329.out; have hnb41 := NB329_331.out; have hnc41 := NB331_329.out; have hcz42_0 : w39.cell? ⟨gb329, 0, none⟩ = some (.int .i64 a0_0) := (blk_cell BK329.out 0).trans rfl; have hcz42_1 : w39.cell? ⟨gb329, 1, none⟩ = some (.int .i64 a0_1) := (blk_cell BK329.out 1).trans rfl; have hfz42_0 := blk_frozen BK329.out 0; have hfz42_1 := blk_frozen BK329.out 1; have hnb43 := NB330_331.out; have hnc43 := NB331_330.out; have hcz44_0 : w39.cell? ⟨gb330, 0, none⟩ = some (.int .i64 a1_0) := (blk_cell BK330.out 0).trans rfl; have hcz44_1 : w39.cell? ⟨gb330, 1, none⟩ = some (.int .i64 a1_1) := (blk_cell BK330.out 1).trans rfl; have hfz44_0 := blk_frozen BK330.out 0; have hfz44_1 := blk_frozen BK330.out 1) | ((with_reducible refine gate_dst (N := 8) rfl ?_); refine Kd.R_lit k33 _ 33 ?hg (N := 8) ?hd (xs := ([(⟨a0_0, a0_1⟩ : S33), (⟨a1_0, a1_1⟩ : S33)] : List (S33))) (inner := [.int .i64 a0_0, .int .i64 a0_1, .int .i64 a1_0, .int .i64 a1_1]) (ok := fun _ => True) (okp := fun _ => True) ?hr ?hp (fun _ hk => hk) trivial (Below.refl _ _) (Nat.le_refl _) (by simp) ?_; (case hd => rfl); (case hg => rfl); (case hr => first | (go_simp; done) | (go_simp; rfl)); (case hp => exact (Reps.c2 (show Kd.M k33 _ _ _ (⟨a0_0, a0_1⟩ : S33) [.int .i64 a0_0, .int .i64 a0_1] from (k33_mkM _ _ _ (⟨a0_0, a0_1⟩ : S33) )) (Reps.c2 (show Kd.M k33 _ _ _ (⟨a1_0, a1_1⟩ : S33) [.int .i64 a1_0, .int .i64 a1_1] from (k33_mkM _ _ _ (⟨a1_0, a1_1⟩ : S33) )) (Reps.none _ _)))); intro v333 w45 ho46 hb hg_ hnew_; clear hg_ hnew_; (first | rw [← Ny332.out] at ho46 | (simp only [Int.reduceToNat] at ho46; rw [← Ny332.out] at ho46)); have HO334 := Aside0.mk (Kd.R_lower (Kd.R_newB (Kd.R_newB (Kd.R_newB ho46 (g := gb329) (o := .cells #[.int .i64 a0_0, .int .i64 a0_1] 33 (0, 0)) (bo gb329)) (g := gb330) (o := .cells #[.int .i64 a1_0, .int .i64 a1_1] 33 (0, 0)) (bo gb330)) (g := gb331) (o := .cells #[.int .i64 0, .int .i64 0] 33 (0, 0)) (bo gb331)) (below_size bl)); replace BK329 := Aside0.mk (bb gb329 hb); replace BK330 := Aside0.mk (bb gb330 hb); replace BK331 := Aside0.mk (bb gb331 hb); replace HB := Aside0.mk (bs hb); clear hb ho46; obtain ⟨Ao47, co47, eo47⟩ := Kd.R_slice HO334.out; subst eo47) | ((with_reducible refine gate_callee (f := 171) rfl ?_); refine goesL_ (some 9) rfl rfl Try.func171 (by kernel_rfl) rfl #[.slice Ao47 y332.length co47] rfl (by (try simp only [List.map_toArray, List.map_cons, List.map_nil]); first | done | rfl | (simp only [List.length_drop, List.length_take]; rfl)) ?_; (with_reducible refine (impl_areRats.calls k _ _ y332 false _ ?side1 ?side2 A3.out).mono ?_); (case side1 => repeat (first | exact (Kd.R_reads' HO334.out).2.2 | (with_reducible refine Kd.C_alloc ?_ _) | (with_reducible refine Kd.C_drewN ?_ _) | (with_reducible refine Kd.C_drew ?_))); (case side2 => exact (Kd.R_reads' HO334.out).2.1); rintro e w48 ⟨rfl, hb⟩; refine ⟨_, rfl, ?_⟩; replace HO334 := Aside0.mk (Kd.R_below (by (with_reducible repeat (first | apply Kd.R_alloc | apply Kd.R_drewN | apply Kd.R_drew)); exact HO334.out) hb); replace BK329 := Aside0.mk (bb gb329 hb); replace BK330 := Aside0.mk (bb gb330 hb); replace BK331 := Aside0.mk (bb gb331 hb); replace HB := Aside0.mk (bs hb); (try clear hb); (try clear hb2); (try clear hk); (try clear hi); have hcz49_0 : w48.cell? ⟨gb331, 0, none⟩ = some (.int .i64 0) := (blk_cell BK331.out 0).trans rfl; have hcz49_1 : w48.cell? ⟨gb331, 1, none⟩ = some (.int .i64 0) := (blk_cell BK331.out 1).trans rfl; have hfz49_0 := blk_frozen BK331.out 0; have hfz49_1 := blk_frozen BK331.out 1))
    refine bodyPost_ret (results_ct rfl _ _ gb331 33 #[.int .i64 0, .int .i64 0] (0, 0) _ rfl (by (with_reducible repeat (first | refine blk_drewN ?_ _ | refine blk_drew ?_ | refine blk_alloc ?_ _)); refine blk_put (cs := #[.int .i64 0, .int .i64 0]) ?_ 1 _ rfl; (with_reducible repeat (first | refine blk_drewN ?_ _ | refine blk_drew ?_ | refine blk_alloc ?_ _)); refine blk_put (cs := #[.int .i64 0, .int .i64 0]) ?_ 0 _ rfl; (with_reducible repeat (first | refine blk_drewN ?_ _ | refine blk_drew ?_ | refine blk_alloc ?_ _)); exact BK331.out) Try.underlying33 rfl (by kernel_rfl)) rfl ?_
    exact ⟨by first | rfl | (simp [errW_none, errW_some] <;> rfl) | (simp [*, errW_none, errW_some] <;> rfl), bl⟩

/-! ### impl_calc_div: function 178 -/
def impl_calc_div.f (k : Nat) (s0_0 : Bool) (a1_0 : Int) (a1_1 : Int) (a2_0 : Int) (a2_1 : Int) : Option (Int × Int × Bool) := (impl_DivideRats.f k a1_0 a1_1 a2_0 a2_1).bind fun bt342 => ((impl_calc_keep.f s0_0 bt342.1 bt342.2.1 bt342.2.2).bind fun bt345 => (some (bt345.1, bt345.2.1, bt345.2.2)))
theorem impl_calc_div.mono : ∀ a0 a1 a2 a3 a4 k, LeO (impl_calc_div.f k a0 a1 a2 a3 a4) (impl_calc_div.f (k + 1) a0 a1 a2 a3 a4) := by
  intro a0 a1 a2 a3 a4 k
  unfold impl_calc_div.f
  repeat' first
      | (with_reducible exact impl_DivideRats.mono _ _ _ _ _)
      | (with_reducible exact LeO.refl _)
      | (with_reducible exact LeO.none _)
      | (with_reducible refine LeO.ite ?_ ?_)
      | (with_reducible refine LeO.bind ?_ (fun _ => ?_))
      | exact impl_DivideRats.mono _ _ _ _ _
      | exact LeO.none _
      | refine LeO.ite ?_ ?_
      | refine LeO.bind ?_ (fun _ => ?_)
set_option maxHeartbeats 8000000 in
set_option maxRecDepth 100000 in
theorem impl_calc_div.calls (k : Nat) (g : Nat) (s0_0 : Bool) (a1_0 : Int) (a1_1 : Int) (a2_0 : Int) (a2_1 : Int) (r1 : Int) (r2 : Int) (r3 : Bool) (w0 w : World) (hI : IsS110 w0 w g s0_0) (hB : Below w0.heap.size w0 w) (h : impl_calc_div.f k s0_0 a1_0 a1_1 a2_0 a2_1 = some (r1, r2, r3)) :
    Calls Try.prog 178 #[.pointer (some ⟨g, 0, none⟩), .agg #[.int .i64 a1_0, .int .i64 a1_1], .agg #[.int .i64 a2_0, .int .i64 a2_1]] w fun e w' => e = .returned (.agg #[.int .i64 r1, .int .i64 r2]) ∧ IsS110 w0 w' g r3 ∧ Below w0.heap.size w0 w' ∧ KeepBut w w' g none := by
  have hu33 := Try.underlying33
  have HI0 := Aside0.mk hI
  have HK := Aside0.mk (KeepBut.refl w g none)
  have HL := Aside0.mk hB.size
  clear hI
  have HW0 := Aside0.mk hB.size
  have HB := Aside0.mk hB
  clear hB
  have H : ((impl_DivideRats.f k a1_0 a1_1 a2_0 a2_1).bind fun bt342 => ((impl_calc_keep.f s0_0 bt342.1 bt342.2.1 bt342.2.2).bind fun bt345 => (some (bt345.1, bt345.2.1, bt345.2.2)))) = some (r1, r2, r3) := h
  clear h
  replace H := Option.bind_eq_some_iff.mp H
  obtain ⟨⟨t342, t343, t344⟩, A40, H⟩ := H
  replace H : ((impl_calc_keep.f s0_0 t342 t343 t344).bind fun bt345 => (some (bt345.1, bt345.2.1, bt345.2.2))) = some (r1, r2, r3) := H
  have A4 := Aside0.mk A40
  clear A40
  replace H := Option.bind_eq_some_iff.mp H
  obtain ⟨⟨t345, t346, t347⟩, A50, H⟩ := H
  replace H : (some (t345, t346, t347)) = some (r1, r2, r3) := H
  have A5 := Aside0.mk A50
  clear A50
  simp only [Option.some.injEq, Prod.mk.injEq] at H
  obtain ⟨rfl, rfl, rfl⟩ := H
  go_enter Try.func178, Try.ntmps178
  go_wp2_with (first | ((with_reducible refine gate_dst (N := 4) rfl ?_); refine box_event ?hg (N := 4) ?hd (cs := #[.int .i64 a1_0, .int .i64 a1_1]) (t := 33) ?hr ?_; (case hd => rfl); (case hg => rfl); (case hr => first | (go_simp; done) | (go_simp; rfl)); intro gb339 hg w6 hbox hb; have BK339 := Aside0.mk (hbox); have GW339 := Aside0.mk ((by rw [hg]; exact (keep_size (w := w) (g := g) (row := none) (by repeat (first | (with_reducible first | exact HK.out | apply KeepBut.set_ | apply keep_drewN | apply keep_drew | apply keep_alloc) | exact HK.out))) : w.heap.size ≤ gb339)); have GE339 := Aside0.mk ((Nat.le_trans HW0.out GW339.out : w0.heap.size ≤ gb339)); have NB0_339 := Aside0.mk ((by rw [hg]; exact Nat.ne_of_lt (IsS110.lt (show IsS110 w0 _ g s0_0 from by repeat (first | (with_reducible first | exact HI0.out | apply IsS110.alloc | apply IsS110.drewN | apply IsS110.drew | apply IsS110.set_0) | exact HI0.out))) : g ≠ gb339)); have NB339_0 := Aside0.mk NB0_339.out.symm; replace HK := Aside0.mk (KeepBut.trans (by repeat (first | (with_reducible first | exact HK.out | apply KeepBut.set_ | apply keep_drewN | apply keep_drew | apply keep_alloc) | exact HK.out)) (KeepBut.of_below hb g none) (.inl rfl)); replace HB := Aside0.mk (below_step (by repeat (first | (with_reducible first | exact HB.out | apply below_alloc | apply pw_below_drewN | apply below_drew1 | refine below_set ?_ (IsS110.ge HI0.out)) | exact HB.out)) hb); replace HI0 := Aside0.mk (IsS110.below (by repeat (first | (with_reducible first | exact HI0.out | apply IsS110.alloc | apply IsS110.drewN | apply IsS110.drew | apply IsS110.set_0) | exact HI0.out)) hb); clear hb hbox hg) | ((with_reducible refine gate_dst (N := 5) rfl ?_); refine box_event ?hg (N := 5) ?hd (cs := #[.int .i64 a2_0, .int .i64 a2_1]) (t := 33) ?hr ?_; (case hd => rfl); (case hg => rfl); (case hr => first | (go_simp; done) | (go_simp; rfl)); intro gb340 hg w7 hbox hb; have BK340 := Aside0.mk (hbox); have GW340 := Aside0.mk ((by rw [hg]; exact (keep_size (w := w) (g := g) (row := none) (by repeat (first | (with_reducible first | exact HK.out | apply KeepBut.set_ | apply keep_drewN | apply keep_drew | apply keep_alloc | refine keep_far ?_ GW339.out _) | exact HK.out))) : w.heap.size ≤ gb340)); have GE340 := Aside0.mk ((Nat.le_trans HW0.out GW340.out : w0.heap.size ≤ gb340)); have NB339_340 := Aside0.mk (bn gb339 hg); have NB340_339 := Aside0.mk NB339_340.out.symm; have NB0_340 := Aside0.mk ((by rw [hg]; exact Nat.ne_of_lt (IsS110.lt (show IsS110 w0 _ g s0_0 from by repeat (first | (with_reducible first | exact HI0.out | apply IsS110.alloc | apply IsS110.drewN | apply IsS110.drew | apply IsS110.set_0 | refine IsS110.far ?_ NB0_339.out _) | exact HI0.out))) : g ≠ gb340)); have NB340_0 := Aside0.mk NB0_340.out.symm; replace BK339 := Aside0.mk (bb gb339 hb); replace HK := Aside0.mk (KeepBut.trans (by repeat (first | (with_reducible first | exact HK.out | apply KeepBut.set_ | apply keep_drewN | apply keep_drew | apply keep_alloc | refine keep_far ?_ GW339.out _) | exact HK.out)) (KeepBut.of_below hb g none) (.inl rfl)); replace HB := Aside0.mk (below_step (by repeat (first | (with_reducible first | exact HB.out | apply below_alloc | apply pw_below_drewN | apply below_drew1 | refine below_set ?_ (IsS110.ge HI0.out) | refine below_set ?_ GE339.out) | exact HB.out)) hb); replace HI0 := Aside0.mk (IsS110.below (by repeat (first | (with_reducible first | exact HI0.out | apply IsS110.alloc | apply IsS110.drewN | apply IsS110.drew | apply IsS110.set_0 | refine IsS110.far ?_ NB0_339.out _) | exact HI0.out)) hb); clear hb hbox hg) | ((with_reducible refine gate_dst (N := 6) rfl ?_); refine box_event ?hg (N := 6) ?hd (cs := #[.int .i64 0, .int .i64 0]) (t := 33) ?hr ?_; (case hd => rfl); (case hg => rfl); (case hr => first | (go_simp; done) | (go_simp; rfl)); intro gb341 hg w8 hbox hb; have BK341 := Aside0.mk (hbox); have GW341 := Aside0.mk ((by rw [hg]; exact (keep_size (w := w) (g := g) (row := none) (by repeat (first | (with_reducible first | exact HK.out | apply KeepBut.set_ | apply keep_drewN | apply keep_drew | apply keep_alloc | refine keep_far ?_ GW339.out _ | refine keep_far ?_ GW340.out _) | exact HK.out))) : w.heap.size ≤ gb341)); have GE341 := Aside0.mk ((Nat.le_trans HW0.out GW341.out : w0.heap.size ≤ gb341)); have NB339_341 := Aside0.mk (bn gb339 hg); have NB341_339 := Aside0.mk NB339_341.out.symm; have NB340_341 := Aside0.mk (bn gb340 hg); have NB341_340 := Aside0.mk NB340_341.out.symm; have NB0_341 := Aside0.mk ((by rw [hg]; exact Nat.ne_of_lt (IsS110.lt (show IsS110 w0 _ g s0_0 from by repeat (first | (with_reducible first | exact HI0.out | apply IsS110.alloc | apply IsS110.drewN | apply IsS110.drew | apply IsS110.set_0 | refine IsS110.far ?_ NB0_339.out _ | refine IsS110.far ?_ NB0_340.out _) | exact HI0.out))) : g ≠ gb341)); have NB341_0 := Aside0.mk NB0_341.out.symm; replace BK339 := Aside0.mk (bb gb339 hb); replace BK340 := Aside0.mk (bb gb340 hb); replace HK := Aside0.mk (KeepBut.trans (by repeat (first | (with_reducible first | exact HK.out | apply KeepBut.set_ | apply keep_drewN | apply keep_drew | apply keep_alloc | refine keep_far ?_ GW339.out _ | refine keep_far ?_ GW340.out _) | exact HK.out)) (KeepBut.of_below hb g none) (.inl rfl)); replace HB := Aside0.mk (below_step (by repeat (first | (with_reducible first | exact HB.out | apply below_alloc | apply pw_below_drewN | apply below_drew1 | refine below_set ?_ (IsS110.ge HI0.out) | refine below_set ?_ GE339.out | refine below_set ?_ GE340.out) | exact HB.out)) hb); replace HI0 := Aside0.mk (IsS110.below (by repeat (first | (with_reducible first | exact HI0.out | apply IsS110.alloc | apply IsS110.drewN | apply IsS110.drew | apply IsS110.set_0 | refine IsS110.far ?_ NB0_339.out _ | refine IsS110.far ?_ NB0_340.out _) | exact HI0.out)) hb); clear hb hbox hg; have hnb9 := NB339_340.out; have hnc9 := NB340_339.out; have hnb10 := NB339_341.out; have hnc10 := NB341_339.out; have hnb11 := NB339_0.out; have hnc11 := NB0_339.out; have hcz12_0 : w8.cell? ⟨gb339, 0, none⟩ = some (.int .i64 a1_0) := (blk_cell BK339.out 0).trans rfl; have hcz12_1 : w8.cell? ⟨gb339, 1, none⟩ = some (.int .i64 a1_1) := (blk_cell BK339.out 1).trans rfl; have hfz12_0 := blk_frozen BK339.out 0; have hfz12_1 := blk_frozen BK339.out 1; have hnb13 := NB340_341.out; have hnc13 := NB341_340.out; have hnb14 := NB340_0.out; have hnc14 := NB0_340.out; have hcz15_0 : w8.cell? ⟨gb340, 0, none⟩ = some (.int .i64 a2_0) := (blk_cell BK340.out 0).trans rfl; have hcz15_1 : w8.cell? ⟨gb340, 1, none⟩ = some (.int .i64 a2_1) := (blk_cell BK340.out 1).trans rfl; have hfz15_0 := blk_frozen BK340.out 0; have hfz15_1 := blk_frozen BK340.out 1) | ((with_reducible refine gate_callee (f := 179) rfl ?_); refine goesL_ (some 10) rfl rfl Try.func179 (by kernel_rfl) rfl #[.agg #[.int .i64 a1_0, .int .i64 a1_1], .agg #[.int .i64 a2_0, .int .i64 a2_1]] rfl (by (try simp only [List.map_toArray, List.map_cons, List.map_nil]); first | done | rfl | (simp only [List.length_drop, List.length_take]; rfl)) ?_; (with_reducible refine (impl_DivideRats.calls k a1_0 a1_1 a2_0 a2_1 t342 t343 t344 _ A4.out).mono ?_); rintro e w16 ⟨rfl, hb⟩; refine ⟨_, rfl, ?_⟩; replace BK339 := Aside0.mk (bb gb339 hb); replace BK340 := Aside0.mk (bb gb340 hb); replace BK341 := Aside0.mk (bb gb341 hb); replace HK := Aside0.mk (KeepBut.trans (by repeat (first | (with_reducible first | exact HK.out | apply KeepBut.set_ | apply keep_drewN | apply keep_drew | apply keep_alloc | refine keep_far ?_ GW339.out _ | refine keep_far ?_ GW340.out _ | refine keep_far ?_ GW341.out _) | exact HK.out)) (KeepBut.of_below hb g none) (.inl rfl)); replace HB := Aside0.mk (below_step (by repeat (first | (with_reducible first | exact HB.out | apply below_alloc | apply pw_below_drewN | apply below_drew1 | refine below_set ?_ (IsS110.ge HI0.out) | refine below_set ?_ GE339.out | refine below_set ?_ GE340.out | refine below_set ?_ GE341.out) | exact HB.out)) hb); replace HI0 := Aside0.mk (IsS110.below (by repeat (first | (with_reducible first | exact HI0.out | apply IsS110.alloc | apply IsS110.drewN | apply IsS110.drew | apply IsS110.set_0 | refine IsS110.far ?_ NB0_339.out _ | refine IsS110.far ?_ NB0_340.out _ | refine IsS110.far ?_ NB0_341.out _) | exact HI0.out)) hb); (try clear hb); (try clear hb2); (try clear hk); (try clear hi)) | ((with_reducible refine gate_callee (f := 104) rfl ?_); refine goesL_ (some 13) rfl rfl Try.func104 (by kernel_rfl) rfl #[.pointer (some ⟨g, 0, none⟩), .agg #[.int .i64 t342, .int .i64 t343], .bool t344] rfl (by (try simp only [List.map_toArray, List.map_cons, List.map_nil]); first | done | rfl | (simp only [List.length_drop, List.length_take]; rfl)) ?_; (with_reducible refine (impl_calc_keep.calls g s0_0 t342 t343 t344 t345 t346 t347 w0 _ ?side1 ?side2 A5.out).mono ?_); (case side1 => repeat (first | (with_reducible first | exact HI0.out | apply IsS110.alloc | apply IsS110.drewN | apply IsS110.drew | apply IsS110.set_0 | refine IsS110.far ?_ NB0_339.out _ | refine IsS110.far ?_ NB0_340.out _ | refine IsS110.far ?_ NB0_341.out _) | exact HI0.out)); (case side2 => repeat (first | (with_reducible first | exact HB.out | apply below_alloc | apply pw_below_drewN | apply below_drew1 | refine below_set ?_ (IsS110.ge HI0.out) | refine below_set ?_ GE339.out | refine below_set ?_ GE340.out | refine below_set ?_ GE341.out) | exact HB.out)); rintro e w17 ⟨rfl, hi, hb, hk⟩; refine ⟨_, rfl, ?_⟩; replace BK339 := Aside0.mk (KeepBut.blk hk (g' := gb339) (o := .cells #[.int .i64 a1_0, .int .i64 a1_1] 33 (0, 0)) (bo gb339) NB339_0.out (by simp)); replace BK340 := Aside0.mk (KeepBut.blk hk (g' := gb340) (o := .cells #[.int .i64 a2_0, .int .i64 a2_1] 33 (0, 0)) (bo gb340) NB340_0.out (by simp)); replace BK341 := Aside0.mk (KeepBut.blk hk (g' := gb341) (o := .cells #[.int .i64 0, .int .i64 0] 33 (0, 0)) (bo gb341) NB341_0.out (by simp)); replace HK := Aside0.mk (KeepBut.trans (by repeat (first | (with_reducible first | exact HK.out | apply KeepBut.set_ | apply keep_drewN | apply keep_drew | apply keep_alloc | refine keep_far ?_ GW339.out _ | refine keep_far ?_ GW340.out _ | refine keep_far ?_ GW341.out _) | exact HK.out)) hk (.inl rfl)); replace HB := Aside0.mk (hb); replace HI0 := Aside0.mk (hi); (try clear hb); (try clear hb2); (try clear hk); (try clear hi); have hnb18 := NB341_0.out; have hnc18 := NB0_341.out; have hcz19_0 : w17.cell? ⟨gb341, 0, none⟩ = some (.int .i64 0) := (blk_cell BK341.out 0).trans rfl; have hcz19_1 : w17.cell? ⟨gb341, 1, none⟩ = some (.int .i64 0) := (blk_cell BK341.out 1).trans rfl; have hfz19_0 := blk_frozen BK341.out 0; have hfz19_1 := blk_frozen BK341.out 1))
  refine bodyPost_ret (results_cell_row rfl _ _ gb341 33 #[.int .i64 t345, .int .i64 t346] (0, 0) _ rfl (by (with_reducible repeat (first | refine blk_drewN ?_ _ | refine blk_drew ?_ | refine blk_alloc ?_ _)); refine blk_put (cs := #[.int .i64 t345, .int .i64 0]) ?_ 1 _ rfl; (with_reducible repeat (first | refine blk_drewN ?_ _ | refine blk_drew ?_ | refine blk_alloc ?_ _)); refine blk_put (cs := #[.int .i64 0, .int .i64 0]) ?_ 0 _ rfl; (with_reducible repeat (first | refine blk_drewN ?_ _ | refine blk_drew ?_ | refine blk_alloc ?_ _)); exact BK341.out) Try.underlying33 rfl (by kernel_rfl)) rfl ?_
  exact ⟨by first | rfl | (simp [errW_none, errW_some] <;> rfl) | (simp [*, errW_none, errW_some] <;> rfl), by repeat (first | (with_reducible first | exact HI0.out | apply IsS110.alloc | apply IsS110.drewN | apply IsS110.drew | apply IsS110.set_0 | refine IsS110.far ?_ NB0_339.out _ | refine IsS110.far ?_ NB0_340.out _ | refine IsS110.far ?_ NB0_341.out _) | exact HI0.out), by repeat (first | (with_reducible first | exact HB.out | apply below_alloc | apply pw_below_drewN | apply below_drew1 | refine below_set ?_ (IsS110.ge HI0.out) | refine below_set ?_ GE339.out | refine below_set ?_ GE340.out | refine below_set ?_ GE341.out) | exact HB.out), by repeat (first | (with_reducible first | exact HK.out | apply KeepBut.set_ | apply keep_drewN | apply keep_drew | apply keep_alloc | refine keep_far ?_ GW339.out _ | refine keep_far ?_ GW340.out _ | refine keep_far ?_ GW341.out _) | exact HK.out)⟩

/-! ### impl_calc_slope: function 174 -/
def impl_calc_slope.f (k : Nat) (s0_0 : Bool) (a1_0 : Int) (a1_1 : Int) (a1_2 : Int) (a1_3 : Int) (a2_0 : Int) (a2_1 : Int) (a2_2 : Int) (a2_3 : Int) : Option (Int × Int × Bool) := (impl_calc_sub.f k s0_0 a2_2 a2_3 a1_2 a1_3).bind fun bt351 => ((impl_calc_sub.f k bt351.2.2 a2_0 a2_1 a1_0 a1_1).bind fun bt354 => ((impl_calc_div.f k bt354.2.2 bt351.1 bt351.2.1 bt354.1 bt354.2.1).bind fun bt357 => (some (bt357.1, bt357.2.1, bt357.2.2))))
theorem impl_calc_slope.mono : ∀ a0 a1 a2 a3 a4 a5 a6 a7 a8 k, LeO (impl_calc_slope.f k a0 a1 a2 a3 a4 a5 a6 a7 a8) (impl_calc_slope.f (k + 1) a0 a1 a2 a3 a4 a5 a6 a7 a8) := by
  intro a0 a1 a2 a3 a4 a5 a6 a7 a8 k
  unfold impl_calc_slope.f
  repeat' first
      | (with_reducible exact impl_calc_div.mono _ _ _ _ _ _)
      | (with_reducible exact impl_calc_sub.mono _ _ _ _ _ _)
      | (with_reducible exact LeO.refl _)
      | (with_reducible exact LeO.none _)
      | (with_reducible refine LeO.ite ?_ ?_)
      | (with_reducible refine LeO.bind ?_ (fun _ => ?_))
      | exact impl_calc_div.mono _ _ _ _ _ _
      | exact impl_calc_sub.mono _ _ _ _ _ _
      | exact LeO.none _
      | refine LeO.ite ?_ ?_
      | refine LeO.bind ?_ (fun _ => ?_)
def impl_calc_slope.T1 : Bool × List (List Nat × List Nat) := (true, [([], []), ([], []), ([], []), ([2], [2]), ([], []), ([4], [4]), ([1, 3, 5], [1, 3, 5]), ([], []), ([], []), ([8], [8]), ([], []), ([10], [10]), ([7, 9, 11, 6], [7, 9, 11]), ([0, 6, 12, 12], [0, 6, 12]), ([13, 13, 0, 1, 2, 3, 4, 5, 6, 7, 8, 9, 10, 11, 12, 13], [13])])
def impl_calc_slope.B1 : List Nat := [0, 0, 0, 4, 0, 16, 62, 0, 0, 256, 0, 1024, 4094, 8191, 16383]
theorem impl_calc_slope.tab1 : rtab .any (opsOf Try.f174 1) = impl_calc_slope.T1 := by kernel_rfl
theorem impl_calc_slope.bits1 : waitsOk impl_calc_slope.T1.2 impl_calc_slope.B1 = true := by kernel_rfl
set_option maxHeartbeats 8000000 in
set_option maxRecDepth 100000 in
theorem impl_calc_slope.calls (k : Nat) (g : Nat) (s0_0 : Bool) (a1_0 : Int) (a1_1 : Int) (a1_2 : Int) (a1_3 : Int) (a2_0 : Int) (a2_1 : Int) (a2_2 : Int) (a2_3 : Int) (r1 : Int) (r2 : Int) (r3 : Bool) (w0 w : World) (hI : IsS110 w0 w g s0_0) (hB : Below w0.heap.size w0 w) (h : impl_calc_slope.f k s0_0 a1_0 a1_1 a1_2 a1_3 a2_0 a2_1 a2_2 a2_3 = some (r1, r2, r3)) :
    Calls Try.prog 174 #[.pointer (some ⟨g, 0, none⟩), .agg #[.int .i64 a1_0, .int .i64 a1_1, .int .i64 a1_2, .int .i64 a1_3], .agg #[.int .i64 a2_0, .int .i64 a2_1, .int .i64 a2_2, .int .i64 a2_3]] w fun e w' => e = .returned (.agg #[.int .i64 r1, .int .i64 r2]) ∧ IsS110 w0 w' g r3 ∧ Below w0.heap.size w0 w' ∧ KeepBut w w' g none := by
  have hu91 := Try.underlying91
  have hu33 := Try.underlying33
  have HI0 := Aside0.mk hI
  have HK := Aside0.mk (KeepBut.refl w g none)
  have HL := Aside0.mk hB.size
  clear hI
  have HW0 := Aside0.mk hB.size
  have HB := Aside0.mk hB
  clear hB
  have H : ((impl_calc_sub.f k s0_0 a2_2 a2_3 a1_2 a1_3).bind fun bt351 => ((impl_calc_sub.f k bt351.2.2 a2_0 a2_1 a1_0 a1_1).bind fun bt354 => ((impl_calc_div.f k bt354.2.2 bt351.1 bt351.2.1 bt354.1 bt354.2.1).bind fun bt357 => (some (bt357.1, bt357.2.1, bt357.2.2))))) = some (r1, r2, r3) := h
  clear h
  replace H := Option.bind_eq_some_iff.mp H
  obtain ⟨⟨t351, t352, t353⟩, A40, H⟩ := H
  replace H : ((impl_calc_sub.f k t353 a2_0 a2_1 a1_0 a1_1).bind fun bt354 => ((impl_calc_div.f k bt354.2.2 t351 t352 bt354.1 bt354.2.1).bind fun bt357 => (some (bt357.1, bt357.2.1, bt357.2.2)))) = some (r1, r2, r3) := H
  have A4 := Aside0.mk A40
  clear A40
  replace H := Option.bind_eq_some_iff.mp H
  obtain ⟨⟨t354, t355, t356⟩, A50, H⟩ := H
  replace H : ((impl_calc_div.f k t356 t351 t352 t354 t355).bind fun bt357 => (some (bt357.1, bt357.2.1, bt357.2.2))) = some (r1, r2, r3) := H
  have A5 := Aside0.mk A50
  clear A50
  replace H := Option.bind_eq_some_iff.mp H
  obtain ⟨⟨t357, t358, t359⟩, A60, H⟩ := H
  replace H : (some (t357, t358, t359)) = some (r1, r2, r3) := H
  have A6 := Aside0.mk A60
  clear A60
  simp only [Option.some.injEq, Prod.mk.injEq] at H
  obtain ⟨rfl, rfl, rfl⟩ := H
  go_enter Try.func174, Try.ntmps174
  try go_wp2_with (first | ((with_reducible refine gate_dst (N := 4) rfl ?_); refine box_event ?hg (N := 4) ?hd (cs := #[.int .i64 a1_0, .int .i64 a1_1, .int .i64 a1_2, .int .i64 a1_3]) (t := 91) ?hr ?_; (case hd => rfl); (case hg => rfl); (case hr => first | (go_simp; done) | (go_simp; rfl)); intro gb348 hg w7 hbox hb; have BK348 := Aside0.mk (hbox); have GW348 := Aside0.mk ((by rw [hg]; exact (keep_size (w := w) (g := g) (row := none) (by repeat (first | (with_reducible first | exact HK.out | apply KeepBut.set_ | apply keep_drewN | apply keep_drew | apply keep_alloc) | exact HK.out))) : w.heap.size ≤ gb348)); have GE348 := Aside0.mk ((Nat.le_trans HW0.out GW348.out : w0.heap.size ≤ gb348)); have NB0_348 := Aside0.mk ((by rw [hg]; exact Nat.ne_of_lt (IsS110.lt (show IsS110 w0 _ g s0_0 from by repeat (first | (with_reducible first | exact HI0.out | apply IsS110.alloc | apply IsS110.drewN | apply IsS110.drew | apply IsS110.set_0) | exact HI0.out))) : g ≠ gb348)); have NB348_0 := Aside0.mk NB0_348.out.symm; replace HK := Aside0.mk (KeepBut.trans (by repeat (first | (with_reducible first | exact HK.out | apply KeepBut.set_ | apply keep_drewN | apply keep_drew | apply keep_alloc) | exact HK.out)) (KeepBut.of_below hb g none) (.inl rfl)); replace HB := Aside0.mk (below_step (by repeat (first | (with_reducible first | exact HB.out | apply below_alloc | apply pw_below_drewN | apply below_drew1 | refine below_set ?_ (IsS110.ge HI0.out)) | exact HB.out)) hb); replace HI0 := Aside0.mk (IsS110.below (by repeat (first | (with_reducible first | exact HI0.out | apply IsS110.alloc | apply IsS110.drewN | apply IsS110.drew | apply IsS110.set_0) | exact HI0.out)) hb); clear hb hbox hg) | ((with_reducible refine gate_dst (N := 5) rfl ?_); refine box_event ?hg (N := 5) ?hd (cs := #[.int .i64 a2_0, .int .i64 a2_1, .int .i64 a2_2, .int .i64 a2_3]) (t := 91) ?hr ?_; (case hd => rfl); (case hg => rfl); (case hr => first | (go_simp; done) | (go_simp; rfl)); intro gb349 hg w8 hbox hb; have BK349 := Aside0.mk (hbox); have GW349 := Aside0.mk ((by rw [hg]; exact (keep_size (w := w) (g := g) (row := none) (by repeat (first | (with_reducible first | exact HK.out | apply KeepBut.set_ | apply keep_drewN | apply keep_drew | apply keep_alloc | refine keep_far ?_ GW348.out _) | exact HK.out))) : w.heap.size ≤ gb349)); have GE349 := Aside0.mk ((Nat.le_trans HW0.out GW349.out : w0.heap.size ≤ gb349)); have NB348_349 := Aside0.mk (bn gb348 hg); have NB349_348 := Aside0.mk NB348_349.out.symm; have NB0_349 := Aside0.mk ((by rw [hg]; exact Nat.ne_of_lt (IsS110.lt (show IsS110 w0 _ g s0_0 from by repeat (first | (with_reducible first | exact HI0.out | apply IsS110.alloc | apply IsS110.drewN | apply IsS110.drew | apply IsS110.set_0 | refine IsS110.far ?_ NB0_348.out _) | exact HI0.out))) : g ≠ gb349)); have NB349_0 := Aside0.mk NB0_349.out.symm; replace BK348 := Aside0.mk (bb gb348 hb); replace HK := Aside0.mk (KeepBut.trans (by repeat (first | (with_reducible first | exact HK.out | apply KeepBut.set_ | apply keep_drewN | apply keep_drew | apply keep_alloc | refine keep_far ?_ GW348.out _) | exact HK.out)) (KeepBut.of_below hb g none) (.inl rfl)); replace HB := Aside0.mk (below_step (by repeat (first | (with_reducible first | exact HB.out | apply below_alloc | apply pw_below_drewN | apply below_drew1 | refine below_set ?_ (IsS110.ge HI0.out) | refine below_set ?_ GE348.out) | exact HB.out)) hb); replace HI0 := Aside0.mk (IsS110.below (by repeat (first | (with_reducible first | exact HI0.out | apply IsS110.alloc | apply IsS110.drewN | apply IsS110.drew | apply IsS110.set_0 | refine IsS110.far ?_ NB0_348.out _) | exact HI0.out)) hb); clear hb hbox hg) | ((with_reducible refine gate_dst (N := 6) rfl ?_); refine box_event ?hg (N := 6) ?hd (cs := #[.int .i64 0, .int .i64 0]) (t := 33) ?hr ?_; (case hd => rfl); (case hg => rfl); (case hr => first | (go_simp; done) | (go_simp; rfl)); intro gb350 hg w9 hbox hb; have BK350 := Aside0.mk (hbox); have GW350 := Aside0.mk ((by rw [hg]; exact (keep_size (w := w) (g := g) (row := none) (by repeat (first | (with_reducible first | exact HK.out | apply KeepBut.set_ | apply keep_drewN | apply keep_drew | apply keep_alloc | refine keep_far ?_ GW348.out _ | refine keep_far ?_ GW349.out _) | exact HK.out))) : w.heap.size ≤ gb350)); have GE350 := Aside0.mk ((Nat.le_trans HW0.out GW350.out : w0.heap.size ≤ gb350)); have NB348_350 := Aside0.mk (bn gb348 hg); have NB350_348 := Aside0.mk NB348_350.out.symm; have NB349_350 := Aside0.mk (bn gb349 hg); have NB350_349 := Aside0.mk NB349_350.out.symm; have NB0_350 := Aside0.mk ((by rw [hg]; exact Nat.ne_of_lt (IsS110.lt (show IsS110 w0 _ g s0_0 from by repeat (first | (with_reducible first | exact HI0.out | apply IsS110.alloc | apply IsS110.drewN | apply IsS110.drew | apply IsS110.set_0 | refine IsS110.far ?_ NB0_348.out _ | refine IsS110.far ?_ NB0_349.out _) | exact HI0.out))) : g ≠ gb350)); have NB350_0 := Aside0.mk NB0_350.out.symm; replace BK348 := Aside0.mk (bb gb348 hb); replace BK349 := Aside0.mk (bb gb349 hb); replace HK := Aside0.mk (KeepBut.trans (by repeat (first | (with_reducible first | exact HK.out | apply KeepBut.set_ | apply keep_drewN | apply keep_drew | apply keep_alloc | refine keep_far ?_ GW348.out _ | refine keep_far ?_ GW349.out _) | exact HK.out)) (KeepBut.of_below hb g none) (.inl rfl)); replace HB := Aside0.mk (below_step (by repeat (first | (with_reducible first | exact HB.out | apply below_alloc | apply pw_below_drewN | apply below_drew1 | refine below_set ?_ (IsS110.ge HI0.out) | refine below_set ?_ GE348.out | refine below_set ?_ GE349.out) | exact HB.out)) hb); replace HI0 := Aside0.mk (IsS110.below (by repeat (first | (with_reducible first | exact HI0.out | apply IsS110.alloc | apply IsS110.drewN | apply IsS110.drew | apply IsS110.set_0 | refine IsS110.far ?_ NB0_348.out _ | refine IsS110.far ?_ NB0_349.out _) | exact HI0.out)) hb); clear hb hbox hg))
  replace BK348 := Aside0.mk (blk_drew BK348.out)
  replace BK349 := Aside0.mk (blk_drew BK349.out)
  replace BK350 := Aside0.mk (blk_drew BK350.out)
  replace HI0 := Aside0.mk (IsS110.drew HI0.out)
  replace HK := Aside0.mk (keep_drew HK.out)
  replace HB := Aside0.mk (below_drew1 HB.out)
  refine start_ (n := 15) (S := fun w' => w'.cell? ⟨gb349, 0, none⟩ = some (.int .i64 a2_0) ∧ w'.cell? ⟨gb349, 1, none⟩ = some (.int .i64 a2_1) ∧ w'.cell? ⟨gb349, 2, none⟩ = some (.int .i64 a2_2) ∧ w'.cell? ⟨gb349, 3, none⟩ = some (.int .i64 a2_3) ∧ w'.cell? ⟨gb348, 0, none⟩ = some (.int .i64 a1_0) ∧ w'.cell? ⟨gb348, 1, none⟩ = some (.int .i64 a1_1) ∧ w'.cell? ⟨gb348, 2, none⟩ = some (.int .i64 a1_2) ∧ w'.cell? ⟨gb348, 3, none⟩ = some (.int .i64 a1_3)) (ds := []) #[false, false, false, false, false, false, false, false, false, false, false, false, false, false, false] (by kernel_rfl) rfl rfl ⟨(blk_cell BK349.out 0).trans rfl, (blk_cell BK349.out 1).trans rfl, (blk_cell BK349.out 2).trans rfl, (blk_cell BK349.out 3).trans rfl, (blk_cell BK348.out 0).trans rfl, (blk_cell BK348.out 1).trans rfl, (blk_cell BK348.out 2).trans rfl, (blk_cell BK348.out 3).trans rfl⟩ (fun hHeld => ?_); refine with_tabW impl_calc_slope.tab1 impl_calc_slope.bits1 (fun HT_ HW_ => ?_)
  generalize w9.drew = w10 at BK348 BK349 BK350 HI0 HK HB hHeld ⊢
  refine pu 0 7 #[true, false, false, false, false, false, false, false, false, false, false, false, false, false, false] ?_
  refine pu 1 8 #[true, true, false, false, false, false, false, false, false, false, false, false, false, false, false] ?_
  refine pu 2 9 #[true, true, true, false, false, false, false, false, false, false, false, false, false, false, false] ?_
  refine pu 4 11 #[true, true, true, false, true, false, false, false, false, false, false, false, false, false, false] ?_
  refine pu 7 14 #[true, true, true, false, true, false, false, true, false, false, false, false, false, false, false] ?_
  refine pu 8 15 #[true, true, true, false, true, false, false, true, true, false, false, false, false, false, false] ?_
  refine pu 10 17 #[true, true, true, false, true, false, false, true, true, false, true, false, false, false, false] ?_
  refine take_ (i := 3) (N := some 10) (v := ?_) (a' := ?_) #[true, true, true, true, true, false, false, true, true, false, true, false, false, false, false] rfl rfl (take_ofW HT_.out HW_.out (by kernel_rfl)) (fun _ _ _ h => h) (Or.inl ⟨by rfl, ?_⟩) hHeld ?_ ?_
  rotate_left
  · rintro w' ⟨s0, s1, s2, s3, s4, s5, s6, s7⟩
    go_simp
    with_reducible rfl
  rotate_left
  · simp only [Act.put, List.setIfInBounds_toArray, List.set_cons_zero, List.set_cons_succ, i64_w, i32_w]
    rfl
  refine take_ (i := 5) (N := some 12) (v := ?_) (a' := ?_) #[true, true, true, true, true, true, false, true, true, false, true, false, false, false, false] rfl rfl (take_ofW HT_.out HW_.out (by kernel_rfl)) (fun _ _ _ h => h) (Or.inl ⟨by rfl, ?_⟩) hHeld ?_ ?_
  rotate_left
  · rintro w' ⟨s0, s1, s2, s3, s4, s5, s6, s7⟩
    go_simp
    with_reducible rfl
  rotate_left
  · simp only [Act.put, List.setIfInBounds_toArray, List.set_cons_zero, List.set_cons_succ, i64_w, i32_w]
    rfl
  refine take_ (i := 9) (N := some 16) (v := ?_) (a' := ?_) #[true, true, true, true, true, true, false, true, true, true, true, false, false, false, false] rfl rfl (take_ofW HT_.out HW_.out (by kernel_rfl)) (fun _ _ _ h => h) (Or.inl ⟨by rfl, ?_⟩) hHeld ?_ ?_
  rotate_left
  · rintro w' ⟨s0, s1, s2, s3, s4, s5, s6, s7⟩
    go_simp
    with_reducible rfl
  rotate_left
  · simp only [Act.put, List.setIfInBounds_toArray, List.set_cons_zero, List.set_cons_succ, i64_w, i32_w]
    rfl
  refine take_ (i := 11) (N := some 18) (v := ?_) (a' := ?_) #[true, true, true, true, true, true, false, true, true, true, true, true, false, false, false] rfl rfl (take_ofW HT_.out HW_.out (by kernel_rfl)) (fun _ _ _ h => h) (Or.inl ⟨by rfl, ?_⟩) hHeld ?_ ?_
  rotate_left
  · rintro w' ⟨s0, s1, s2, s3, s4, s5, s6, s7⟩
    go_simp
    with_reducible rfl
  rotate_left
  · simp only [Act.put, List.setIfInBounds_toArray, List.set_cons_zero, List.set_cons_succ, i64_w, i32_w]
    rfl
  refine one_ (i := 6) (N := some 13) #[true, true, true, true, true, true, true, true, true, true, true, true, false, false, false] rfl rfl (one_of HT_.out (by kernel_rfl)) (by decide) (fun K hK => ?_)
  refine goes_ Try.func101 (by kernel_rfl) rfl #[.pointer (some ⟨g, 0, none⟩), .agg #[.int .i64 a2_2, .int .i64 a2_3], .agg #[.int .i64 a1_2, .int .i64 a1_3]] (by rfl) rfl rfl (by (try simp only [List.map_toArray, List.map_cons, List.map_nil]); first | done | rfl | (simp only [List.length_drop, List.length_take]; rfl)) ?_
  with_reducible refine (impl_calc_sub.calls k g s0_0 a2_2 a2_3 a1_2 a1_3 t351 t352 t353 w0 _ ?side1 ?side2 A4.out).mono ?_
  (case side1 => repeat (first | (with_reducible first | exact HI0.out | apply IsS110.alloc | apply IsS110.drewN | apply IsS110.drew | apply IsS110.set_0 | refine IsS110.far ?_ NB0_348.out _ | refine IsS110.far ?_ NB0_349.out _ | refine IsS110.far ?_ NB0_350.out _) | exact HI0.out))
  (case side2 => repeat (first | (with_reducible first | exact HB.out | apply below_alloc | apply pw_below_drewN | apply below_drew1 | refine below_set ?_ (IsS110.ge HI0.out) | refine below_set ?_ GE348.out | refine below_set ?_ GE349.out | refine below_set ?_ GE350.out) | exact HB.out))
  rintro e w11 ⟨rfl, hi, hb, hk⟩
  refine ⟨_, rfl, ?_⟩
  replace BK348 := Aside0.mk (KeepBut.blk hk (g' := gb348) (o := .cells #[.int .i64 a1_0, .int .i64 a1_1, .int .i64 a1_2, .int .i64 a1_3] 91 (0, 0)) (bo gb348) NB348_0.out (by simp))
  replace BK349 := Aside0.mk (KeepBut.blk hk (g' := gb349) (o := .cells #[.int .i64 a2_0, .int .i64 a2_1, .int .i64 a2_2, .int .i64 a2_3] 91 (0, 0)) (bo gb349) NB349_0.out (by simp))
  replace BK350 := Aside0.mk (KeepBut.blk hk (g' := gb350) (o := .cells #[.int .i64 0, .int .i64 0] 33 (0, 0)) (bo gb350) NB350_0.out (by simp))
  replace HK := Aside0.mk (KeepBut.trans (by repeat (first | (with_reducible first | exact HK.out | apply KeepBut.set_ | apply keep_drewN | apply keep_drew | apply keep_alloc | refine keep_far ?_ GW348.out _ | refine keep_far ?_ GW349.out _ | refine keep_far ?_ GW350.out _) | exact HK.out)) hk (.inl rfl))
  replace HB := Aside0.mk (hb)
  replace HI0 := Aside0.mk (hi)
  (try clear hb)
  (try clear hb2)
  (try clear hk)
  (try clear hi)
  refine hK.out _ _ ⟨(blk_cell BK349.out 0).trans rfl, (blk_cell BK349.out 1).trans rfl, (blk_cell BK349.out 2).trans rfl, (blk_cell BK349.out 3).trans rfl, (blk_cell BK348.out 0).trans rfl, (blk_cell BK348.out 1).trans rfl, (blk_cell BK348.out 2).trans rfl, (blk_cell BK348.out 3).trans rfl⟩ (fun hHeld => ?_)
  clear hK K
  refine norm_ (a' := ?_) ?_ ?_
  rotate_left
  · show Act.put _ (some 13) _ = _
    simp only [Act.put, List.setIfInBounds_toArray, List.set_cons_zero, List.set_cons_succ, i64_w, i32_w]
    rfl
  refine one_ (i := 12) (N := some 19) #[true, true, true, true, true, true, true, true, true, true, true, true, true, false, false] rfl rfl (one_of HT_.out (by kernel_rfl)) (by decide) (fun K hK => ?_)
  refine goes_ Try.func101 (by kernel_rfl) rfl #[.pointer (some ⟨g, 0, none⟩), .agg #[.int .i64 a2_0, .int .i64 a2_1], .agg #[.int .i64 a1_0, .int .i64 a1_1]] (by rfl) rfl rfl (by (try simp only [List.map_toArray, List.map_cons, List.map_nil]); first | done | rfl | (simp only [List.length_drop, List.length_take]; rfl)) ?_
  with_reducible refine (impl_calc_sub.calls k g t353 a2_0 a2_1 a1_0 a1_1 t354 t355 t356 w0 _ ?side1 ?side2 A5.out).mono ?_
  (case side1 => repeat (first | (with_reducible first | exact HI0.out | apply IsS110.alloc | apply IsS110.drewN | apply IsS110.drew | apply IsS110.set_0 | refine IsS110.far ?_ NB0_348.out _ | refine IsS110.far ?_ NB0_349.out _ | refine IsS110.far ?_ NB0_350.out _) | exact HI0.out))
  (case side2 => repeat (first | (with_reducible first | exact HB.out | apply below_alloc | apply pw_below_drewN | apply below_drew1 | refine below_set ?_ (IsS110.ge HI0.out) | refine below_set ?_ GE348.out | refine below_set ?_ GE349.out | refine below_set ?_ GE350.out) | exact HB.out))
  rintro e w12 ⟨rfl, hi, hb, hk⟩
  refine ⟨_, rfl, ?_⟩
  replace BK348 := Aside0.mk (KeepBut.blk hk (g' := gb348) (o := .cells #[.int .i64 a1_0, .int .i64 a1_1, .int .i64 a1_2, .int .i64 a1_3] 91 (0, 0)) (bo gb348) NB348_0.out (by simp))
  replace BK349 := Aside0.mk (KeepBut.blk hk (g' := gb349) (o := .cells #[.int .i64 a2_0, .int .i64 a2_1, .int .i64 a2_2, .int .i64 a2_3] 91 (0, 0)) (bo gb349) NB349_0.out (by simp))
  replace BK350 := Aside0.mk (KeepBut.blk hk (g' := gb350) (o := .cells #[.int .i64 0, .int .i64 0] 33 (0, 0)) (bo gb350) NB350_0.out (by simp))
  replace HK := Aside0.mk (KeepBut.trans (by repeat (first | (with_reducible first | exact HK.out | apply KeepBut.set_ | apply keep_drewN | apply keep_drew | apply keep_alloc | refine keep_far ?_ GW348.out _ | refine keep_far ?_ GW349.out _ | refine keep_far ?_ GW350.out _) | exact HK.out)) hk (.inl rfl))
  replace HB := Aside0.mk (hb)
  replace HI0 := Aside0.mk (hi)
  (try clear hb)
  (try clear hb2)
  (try clear hk)
  (try clear hi)
  refine hK.out _ _ ⟨(blk_cell BK349.out 0).trans rfl, (blk_cell BK349.out 1).trans rfl, (blk_cell BK349.out 2).trans rfl, (blk_cell BK349.out 3).trans rfl, (blk_cell BK348.out 0).trans rfl, (blk_cell BK348.out 1).trans rfl, (blk_cell BK348.out 2).trans rfl, (blk_cell BK348.out 3).trans rfl⟩ (fun hHeld => ?_)
  clear hK K
  refine norm_ (a' := ?_) ?_ ?_
  rotate_left
  · show Act.put _ (some 19) _ = _
    simp only [Act.put, List.setIfInBounds_toArray, List.set_cons_zero, List.set_cons_succ, i64_w, i32_w]
    rfl
  refine one_ (i := 13) (N := some 20) #[true, true, true, true, true, true, true, true, true, true, true, true, true, true, false] rfl rfl (one_of HT_.out (by kernel_rfl)) (by decide) (fun K hK => ?_)
  refine goes_ Try.func178 (by kernel_rfl) rfl #[.pointer (some ⟨g, 0, none⟩), .agg #[.int .i64 t351, .int .i64 t352], .agg #[.int .i64 t354, .int .i64 t355]] (by rfl) rfl rfl (by (try simp only [List.map_toArray, List.map_cons, List.map_nil]); first | done | rfl | (simp only [List.length_drop, List.length_take]; rfl)) ?_
  with_reducible refine (impl_calc_div.calls k g t356 t351 t352 t354 t355 t357 t358 t359 w0 _ ?side1 ?side2 A6.out).mono ?_
  (case side1 => repeat (first | (with_reducible first | exact HI0.out | apply IsS110.alloc | apply IsS110.drewN | apply IsS110.drew | apply IsS110.set_0 | refine IsS110.far ?_ NB0_348.out _ | refine IsS110.far ?_ NB0_349.out _ | refine IsS110.far ?_ NB0_350.out _) | exact HI0.out))
  (case side2 => repeat (first | (with_reducible first | exact HB.out | apply below_alloc | apply pw_below_drewN | apply below_drew1 | refine below_set ?_ (IsS110.ge HI0.out) | refine below_set ?_ GE348.out | refine below_set ?_ GE349.out | refine below_set ?_ GE350.out) | exact HB.out))
  rintro e w13 ⟨rfl, hi, hb, hk⟩
  refine ⟨_, rfl, ?_⟩
  replace BK348 := Aside0.mk (KeepBut.blk hk (g' := gb348) (o := .cells #[.int .i64 a1_0, .int .i64 a1_1, .int .i64 a1_2, .int .i64 a1_3] 91 (0, 0)) (bo gb348) NB348_0.out (by simp))
  replace BK349 := Aside0.mk (KeepBut.blk hk (g' := gb349) (o := .cells #[.int .i64 a2_0, .int .i64 a2_1, .int .i64 a2_2, .int .i64 a2_3] 91 (0, 0)) (bo gb349) NB349_0.out (by simp))
  replace BK350 := Aside0.mk (KeepBut.blk hk (g' := gb350) (o := .cells #[.int .i64 0, .int .i64 0] 33 (0, 0)) (bo gb350) NB350_0.out (by simp))
  replace HK := Aside0.mk (KeepBut.trans (by repeat (first | (with_reducible first | exact HK.out | apply KeepBut.set_ | apply keep_drewN | apply keep_drew | apply keep_alloc | refine keep_far ?_ GW348.out _ | refine keep_far ?_ GW349.out _ | refine keep_far ?_ GW350.out _) | exact HK.out)) hk (.inl rfl))
  replace HB := Aside0.mk (hb)
  replace HI0 := Aside0.mk (hi)
  (try clear hb)
  (try clear hb2)
  (try clear hk)
  (try clear hi)
  refine hK.out _ _ ⟨(blk_cell BK349.out 0).trans rfl, (blk_cell BK349.out 1).trans rfl, (blk_cell BK349.out 2).trans rfl, (blk_cell BK349.out 3).trans rfl, (blk_cell BK348.out 0).trans rfl, (blk_cell BK348.out 1).trans rfl, (blk_cell BK348.out 2).trans rfl, (blk_cell BK348.out 3).trans rfl⟩ (fun hHeld => ?_)
  clear hK K
  refine norm_ (a' := ?_) ?_ ?_
  rotate_left
  · show Act.put _ (some 20) _ = _
    simp only [Act.put, List.setIfInBounds_toArray, List.set_cons_zero, List.set_cons_succ, i64_w, i32_w]
    rfl
  refine one_ (i := 14) (N := none) #[true, true, true, true, true, true, true, true, true, true, true, true, true, true, true] rfl rfl (one_of HT_.out (by kernel_rfl)) (by decide) (fun K hK => ?_)
  have hs14 : w13.cell? ⟨gb350, 0, none⟩ = some (.int .i64 0) := (blk_cell BK350.out 0).trans rfl
  have hfs14 := blk_frozen BK350.out 0
  have hns14_0 := NB348_350.out
  have hns14_1 := NB349_350.out
  have hms14_0 := NB350_348.out
  have hms14_1 := NB350_349.out
  have hs15 : w13.cell? ⟨gb350, 1, none⟩ = some (.int .i64 0) := (blk_cell BK350.out 1).trans rfl
  have hfs15 := blk_frozen BK350.out 1
  have hns15_0 := NB348_350.out
  have hns15_1 := NB349_350.out
  have hms15_0 := NB350_348.out
  have hms15_1 := NB350_349.out
  refine skip_ (w1 := ?_) (by rfl) rfl ?_ ?_
  rotate_left
  · go_simp
    rfl
  refine hK.out _ _ ⟨(by (iterate 2 refine (cell_far (p := ⟨gb350, _, none⟩) NB349_350.out _).trans ?_); exact hHeld.1), (by (iterate 2 refine (cell_far (p := ⟨gb350, _, none⟩) NB349_350.out _).trans ?_); exact hHeld.2.1), (by (iterate 2 refine (cell_far (p := ⟨gb350, _, none⟩) NB349_350.out _).trans ?_); exact hHeld.2.2.1), (by (iterate 2 refine (cell_far (p := ⟨gb350, _, none⟩) NB349_350.out _).trans ?_); exact hHeld.2.2.2.1), (by (iterate 2 refine (cell_far (p := ⟨gb350, _, none⟩) NB348_350.out _).trans ?_); exact hHeld.2.2.2.2.1), (by (iterate 2 refine (cell_far (p := ⟨gb350, _, none⟩) NB348_350.out _).trans ?_); exact hHeld.2.2.2.2.2.1), (by (iterate 2 refine (cell_far (p := ⟨gb350, _, none⟩) NB348_350.out _).trans ?_); exact hHeld.2.2.2.2.2.2.1), (by (iterate 2 refine (cell_far (p := ⟨gb350, _, none⟩) NB348_350.out _).trans ?_); exact hHeld.2.2.2.2.2.2.2)⟩ (fun hHeld => ?_)
  clear hK K
  refine done_ (done_of HT_.out (by kernel_rfl)) ?_
  try go_wp2
  refine bodyPost_ret (results_cell_row rfl _ _ gb350 33 #[.int .i64 t357, .int .i64 t358] (0, 0) _ rfl (by (with_reducible repeat (first | refine blk_drewN ?_ _ | refine blk_drew ?_ | refine blk_alloc ?_ _)); refine blk_put (cs := #[.int .i64 t357, .int .i64 0]) ?_ 1 _ rfl; (with_reducible repeat (first | refine blk_drewN ?_ _ | refine blk_drew ?_ | refine blk_alloc ?_ _)); refine blk_put (cs := #[.int .i64 0, .int .i64 0]) ?_ 0 _ rfl; (with_reducible repeat (first | refine blk_drewN ?_ _ | refine blk_drew ?_ | refine blk_alloc ?_ _)); exact BK350.out) Try.underlying33 rfl (by kernel_rfl)) rfl ?_
  exact ⟨by first | rfl | (simp [errW_none, errW_some] <;> rfl) | (simp [*, errW_none, errW_some] <;> rfl), by repeat (first | (with_reducible first | exact HI0.out | apply IsS110.alloc | apply IsS110.drewN | apply IsS110.drew | apply IsS110.set_0 | refine IsS110.far ?_ NB0_348.out _ | refine IsS110.far ?_ NB0_349.out _ | refine IsS110.far ?_ NB0_350.out _) | exact HI0.out), by repeat (first | (with_reducible first | exact HB.out | apply below_alloc | apply pw_below_drewN | apply below_drew1 | refine below_set ?_ (IsS110.ge HI0.out) | refine below_set ?_ GE348.out | refine below_set ?_ GE349.out | refine below_set ?_ GE350.out) | exact HB.out), by repeat (first | (with_reducible first | exact HK.out | apply KeepBut.set_ | apply keep_drewN | apply keep_drew | apply keep_alloc | refine keep_far ?_ GW348.out _ | refine keep_far ?_ GW349.out _ | refine keep_far ?_ GW350.out _) | exact HK.out)⟩

end Go.Proofs.Ytmpccnagidednaa.PFnExactAddressOf
