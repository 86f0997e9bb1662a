-- Written by this session's program wip/pp (the kit's print tool with additions) 35421559b90ae4d0a3588c463048766b98c2df88dd9212a6774a882060cdf62d
import Derived.Test.YtcbbkeojoichnaaLay
import Derived.Test.YtcbbkeojoichnaaPFnExactSortPeriodsx0
import Derived.Test.YtcbbkeojoichnaaPFnExactSortPeriodsx3
namespace Go.Proofs.Ytcbbkeojoichnaa.PFnExactSortPeriods
open Go.RowKit Go.Proofs.YtcbbkeojoichnaaW.PrintWords Go.Proofs.YtcbbkeojoichnaaW.PrintLast Go.Proofs.YtcbbkeojoichnaaW.PrintMore
attribute [local go_sem] max2_int min2_int max_two min_two max_three min_three max_four min_four   -- for this text's walks alone
set_option linter.unusedVariables false
set_option linter.unusedSimpArgs false

/-! ### impl_comparePeriods: function 46 -/
def impl_comparePeriods.j0 : Nat → Int → Int → Int → Int → Bool → Option (Int)
 | 0, _, _, _, _, _ => none
 | k + 1, x5, x6, x7, x8, x19 => if x19 = true then ((cmp_Compare_int.f x7 x5).bind fun t183 => (some t183)) else (if x6 = 1 then (some 1) else (if x8 = 1 then (some (-1)) else ((cmp_Compare_int.f x5 x7).bind fun t184 => ((cmp_Compare_int.f x6 x8).bind fun t185 => ((cmp_Or_int.f k (([t184, t185] : List Int))).bind fun t189 => (some t189))))))
def impl_comparePeriods.f (k : Nat) (a0 : Int) (a1 : Int) : Option (Int) := (impl_split.f k a0).bind fun bt179 => ((impl_split.f k a1).bind fun bt181 => (if bt179.2 = 1 then (impl_comparePeriods.j0 k bt179.1 bt179.2 bt181.1 bt181.2 (bt181.2 == 1)) else (impl_comparePeriods.j0 k bt179.1 bt179.2 bt181.1 bt181.2 false)))
set_option maxHeartbeats 8000000 in
set_option maxRecDepth 100000 in
theorem impl_comparePeriods.calls (k : Nat) (a0 : Int) (a1 : Int) (r : Int) (w : World) (h : impl_comparePeriods.f k a0 a1 = some r) :
  Calls Try.prog 46 #[.int .i64 a0, .int .i64 a1] w fun e w' => e = .returned (.int .i64 r) ∧ Below w.heap.size w w' := by
 have HB := Aside0.mk (Below.refl w.heap.size w)
 have H : ((impl_split.f k a0).bind fun bt179 => ((impl_split.f k a1).bind fun bt181 => (if bt179.2 = 1 then (impl_comparePeriods.j0 k bt179.1 bt179.2 bt181.1 bt181.2 (bt181.2 == 1)) else (impl_comparePeriods.j0 k bt179.1 bt179.2 bt181.1 bt181.2 false)))) = some r := h
 clear h
 replace H := Option.bind_eq_some_iff.mp H
 obtain ⟨⟨t179, t180⟩, A30, H⟩ := H
 replace H : ((impl_split.f k a1).bind fun bt181 => (if t180 = 1 then (impl_comparePeriods.j0 k t179 t180 bt181.1 bt181.2 (bt181.2 == 1)) else (impl_comparePeriods.j0 k t179 t180 bt181.1 bt181.2 false))) = some r := H
 have A3 := Aside0.mk A30
 clear A30
 replace H := Option.bind_eq_some_iff.mp H
 obtain ⟨⟨t181, t182⟩, A40, H⟩ := H
 replace H : (if t180 = 1 then (impl_comparePeriods.j0 k t179 t180 t181 t182 (t182 == 1)) else (impl_comparePeriods.j0 k t179 t180 t181 t182 false)) = some r := H
 have A4 := Aside0.mk A40
 clear A40
 have HC5 := Aside0.mk H
 clear H
 go_enter Try.func46, Try.ntmps46
 go_upto_region 3 with (first | ((with_reducible refine gate_callee (f := 65) rfl ?_); refine gl 11 Try.func65 #[.int .i64 a0] ?_; (with_reducible refine (impl_split.calls k a0 t179 t180 _ A3.out).mono ?_); rintro e w' ⟨rfl, ⟨nd, rfl⟩⟩; refine ⟨_, rfl, ?_⟩) | ((with_reducible refine gate_callee (f := 65) rfl ?_); refine gl 16 Try.func65 #[.int .i64 a1] ?_; (with_reducible refine (impl_split.calls k a1 t181 t182 _ A4.out).mono ?_); rintro e w' ⟨rfl, ⟨nd, rfl⟩⟩; refine ⟨_, rfl, ?_⟩))
 (try simp only [Act.put, List.setIfInBounds_toArray, List.set_cons_zero, List.set_cons_succ])
 go_cut [19] (fun v19 wc => ∃ (kq : Nat) (x19_4 : Bool), v19 = .bool x19_4 ∧ Aside0 (impl_comparePeriods.j0 kq t179 t180 t181 t182 x19_4 = some r) ∧ Aside0 (kq ≤ k) ∧ Aside0 (Below w.heap.size w wc))
 case first =>
  have H := HC5.out
  clear HC5
  by_cases c6 : t180 = 1
  ·rw [if_pos c6] at H
   have c6b0 : (t180 == 1) = true := beq_iff_eq.mpr c6
   have c6b1 : (t180 != 1) = false := bne_eq_false_iff_eq.mpr c6
   clear c6
   (first | rw [c6b0] | (simp only [i64_w, i32_w]; rw [c6b0]) | skip)
   have H' := Aside0.mk H
   clear H
   go_wp2
   go_meet
   case rel => exact ⟨_, ((t182 == 1)), rs, H', ⟨by first | omega | exact Nat.le_refl _⟩, ⟨bl⟩⟩
  ·rw [if_neg c6] at H
   have c6b0 : (t180 == 1) = false := beq_eq_false_iff_ne.mpr c6
   have c6b1 : (t180 != 1) = true := bne_iff_ne.mpr c6
   (first | rw [c6b0] | (simp only [i64_w, i32_w]; rw [c6b0]) | skip)
   have H' := Aside0.mk H
   clear H
   go_wp2
   go_meet
   case rel => exact ⟨_, (false), rs, H', ⟨by first | omega | exact Nat.le_refl _⟩, ⟨bl⟩⟩
 case rest =>
  clear HC5
  try clear p2
  try clear c4
  try clear c6
  try clear c6b0
  try clear c6b1
  obtain ⟨kq, x19_4, rfl, HA, HJ4, HB⟩ := hcut
  cases kq with
  | zero => exact absurd HA.out (by simp [impl_comparePeriods.j0])
  | succ kj4 =>
   have H := HA.out
   clear HA
   simp only [impl_comparePeriods.j0] at H
   by_cases c7 : x19_4 = true
   ·subst c7
    have H1 : ((cmp_Compare_int.f t181 t179).bind fun t183 => (some t183)) = some r := by rw [if_pos rfl] at H; exact H
    clear H
    have H := H1
    clear H1
    replace H := Option.bind_eq_some_iff.mp H
    obtain ⟨t183, A80, H⟩ := H
    replace H : (some t183) = some r := H
    have A8 := Aside0.mk A80
    clear A80
    obtain rfl := Option.some.inj H
    go_wp2_with (first | ((with_reducible refine gate_callee (f := 81) rfl ?_); refine gl 28 Try.func81 #[.int .i64 t181, .int .i64 t179] ?_; (with_reducible refine (cmp_Compare_int.calls t181 t179 t183 _ A8.out).mono ?_); rintro e w' ⟨rfl, ⟨nd, rfl⟩⟩; refine ⟨_, rfl, ?_⟩))
    go_ret
    exact ⟨rt, bl⟩
   ·replace c7 := Bool.eq_false_iff.mpr c7
    subst c7
    have H1 : (if t180 = 1 then (some 1) else (if t182 = 1 then (some (-1)) else ((cmp_Compare_int.f t179 t181).bind fun t184 => ((cmp_Compare_int.f t180 t182).bind fun t185 => ((cmp_Or_int.f kj4 (([t184, t185] : List Int))).bind fun t189 => (some t189)))))) = some r := by rw [if_neg (show ¬ (false = true) by decide)] at H; exact H
    clear H
    have H := H1
    clear H1
    by_cases c9 : t180 = 1
    ·rw [if_pos c9] at H
     have c9b0 : (t180 == 1) = true := beq_iff_eq.mpr c9
     have c9b1 : (t180 != 1) = false := bne_eq_false_iff_eq.mpr c9
     clear c9
     obtain rfl := Option.some.inj H
     go_wp2
     go_ret
     exact ⟨rt, bl⟩
    ·rw [if_neg c9] at H
     have c9b0 : (t180 == 1) = false := beq_eq_false_iff_ne.mpr c9
     have c9b1 : (t180 != 1) = true := bne_iff_ne.mpr c9
     by_cases c10 : t182 = 1
     ·rw [if_pos c10] at H
      have c10b0 : (t182 == 1) = true := beq_iff_eq.mpr c10
      have c10b1 : (t182 != 1) = false := bne_eq_false_iff_eq.mpr c10
      clear c10
      obtain rfl := Option.some.inj H
      go_wp2
      go_ret
      exact ⟨rt, bl⟩
     ·rw [if_neg c10] at H
      have c10b0 : (t182 == 1) = false := beq_eq_false_iff_ne.mpr c10
      have c10b1 : (t182 != 1) = true := bne_iff_ne.mpr c10
      replace H := Option.bind_eq_some_iff.mp H
      obtain ⟨t184, A110, H⟩ := H
      replace H : ((cmp_Compare_int.f t180 t182).bind fun t185 => ((cmp_Or_int.f kj4 (([t184, t185] : List Int))).bind fun t189 => (some t189))) = some r := H
      have A11 := Aside0.mk A110
      clear A110
      replace H := Option.bind_eq_some_iff.mp H
      obtain ⟨t185, A120, H⟩ := H
      replace H : ((cmp_Or_int.f kj4 (([t184, t185] : List Int))).bind fun t189 => (some t189)) = some r := H
      have A12 := Aside0.mk A120
      clear A120
      obtain ⟨y186, hy186⟩ : ∃ y_ : List Int, y_ = (([t184, t185] : List Int)) := ⟨_, rfl⟩
      replace H : ((cmp_Or_int.f kj4 y186).bind fun t189 => (some t189)) = some r := by first | (rw [hy186]; with_reducible exact H) | (have H2_ := (Option.bind_some _ _).symm.trans H; rw [hy186]; with_reducible exact H2_) | (have H2_ := (Option.bind_some _ _).symm.trans H; with_reducible exact H2_) | with_reducible exact H | (rw [hy186]; exact H) | exact H
      have Ny186 := Aside0.mk hy186
      clear hy186
      replace H := Option.bind_eq_some_iff.mp H
      obtain ⟨t189, A130, H⟩ := H
      replace H : (some t189) = some r := H
      have A13 := Aside0.mk A130
      clear A130
      obtain rfl := Option.some.inj H
      go_wp2_with (first | ((with_reducible refine gate_callee (f := 81) rfl ?_); refine gl 37 Try.func81 #[.int .i64 t179, .int .i64 t181] ?_; (with_reducible refine (cmp_Compare_int.calls t179 t181 t184 _ A11.out).mono ?_); rintro e w' ⟨rfl, ⟨nd, rfl⟩⟩; refine ⟨_, rfl, ?_⟩) | ((with_reducible refine gate_callee (f := 81) rfl ?_); refine gl 40 Try.func81 #[.int .i64 t180, .int .i64 t182] ?_; (with_reducible refine (cmp_Compare_int.calls t180 t182 t185 _ A12.out).mono ?_); rintro e w' ⟨rfl, ⟨nd, rfl⟩⟩; refine ⟨_, rfl, ?_⟩) | ((with_reducible refine gate_dst (N := 41) rfl ?_); refine Kd.R_lit (Kd.int .i64) _ 3 ?hg (N := 41) ?hd (xs := ([t184, t185] : List Int)) (inner := [.int .i64 t184, .int .i64 t185]) (ok := fun _ => True) (okp := fun _ => True) ?hr ?hp (fun _ hk => hk) trivial (Below.refl _ _) (Nat.le_refl _) (by simp) ?_; (case hd => rfl); (case hg => rfl); (case hr => first | (go_simp; done) | (go_simp; rfl)); (case hp => exact (Reps.one (show Kd.M (Kd.int .i64) _ _ _ t184 [.int .i64 t184] from rfl) (Reps.one (show Kd.M (Kd.int .i64) _ _ _ t185 [.int .i64 t185] from rfl) (Reps.none _ _)))); intro v187 w14 ho15 hb hg_ hnew_; clear hg_ hnew_; (first | rw [← Ny186.out] at ho15 | (simp only [Int.reduceToNat] at ho15; rw [← Ny186.out] at ho15)); have HO188 := Aside0.mk (Kd.R_lower ho15 (below_size bl)); replace HB := kh hb; clear hb ho15; obtain ⟨Ao16, co16, eo16⟩ := Kd.R_slice HO188.out; subst eo16) | ((with_reducible refine gate_callee (f := 82) rfl ?_); refine gl 42 Try.func82 #[.slice Ao16 y186.length co16] ?_; (with_reducible refine (cmp_Or_int.calls kj4 _ _ y186 t189 _ ?side1 ?side2 A13.out).mono ?_); (case side1 => repeat (first | exact (Kd.R_reads' HO188.out).2.2 | (with_reducible refine Kd.C_alloc ?_ _) | (with_reducible refine Kd.C_drewN ?_ _) | (with_reducible refine Kd.C_drew ?_))); (case side2 => exact (Kd.R_reads' HO188.out).2.1); rintro e w' ⟨rfl, ⟨nd, rfl⟩⟩; refine ⟨_, rfl, ?_⟩))
      go_ret
      exact ⟨rt, bl⟩

def GrowN (w w' : World) : Prop := ∃ q os', w' = Go.Sort.grow (w.drewN q) os'
theorem GrowN.refl (w : World) : GrowN w w := ⟨0, #[], by rw [Go.Sort.grow_empty]; rfl⟩
theorem GrowN.alloc {w u : World} (h : GrowN w u) (o : Obj) : GrowN w (u.alloc o) := by
 obtain ⟨q, os, rfl⟩ := h
 exact ⟨q, os.push o, by simp [Go.Sort.grow, World.alloc]⟩
theorem GrowN.drewN {w u : World} (h : GrowN w u) (n : Nat) : GrowN w (u.drewN n) := by
 obtain ⟨q, os, rfl⟩ := h
 exact ⟨q + n, os, by simp only [Go.Sort.grow, World.drewN, Nat.add_assoc]⟩
theorem GrowN.drew {w u : World} (h : GrowN w u) : GrowN w u.drew := h.drewN 1
theorem GrowN.size {w u : World} (h : GrowN w u) : w.heap.size ≤ u.heap.size := by
 obtain ⟨q, os, rfl⟩ := h
 simp [Go.Sort.grow, World.drewN]
theorem GrowN.step {w u v : World} (h : GrowN w u) (hn : ∃ o, v = u.alloc o) : GrowN w v := by
 obtain ⟨o, rfl⟩ := hn
 exact h.alloc o
theorem R_litA {α : Type} {P : Program} {ops : Array Oper} {rest : List Oper} {o : Oper} {a : Act} {W : World} {Q : Exit → Act → World → Prop} (d : Kd α) {w0 : World} (base e : Nat) (hgd : o.guard = none) {N : Tmp} (_hd : o.dst = some N) {xs : List α} {inner : List Value} {ok okp : Nat → Prop}
  (hrun : (execOp a.eval o).run P W = .ok (.value (.slice (some ⟨W.heap.size, 0, none⟩) xs.length xs.length)) (W.alloc (.cells inner.toArray e)))
  (hrep : Reps (d.M W base okp) d.sz xs inner) (hok : ∀ k, okp k → ok k) (hfresh : ok W.heap.size) (HB : Below base w0 W) (hbase : base ≤ W.heap.size) (hm : xs.length ≤ 9223372036854775807)
  (h : ∀ v1 w1, d.R e w1 base ok v1 xs → Below base w0 w1 → W.grownBy w1 none → (∃ o, w1 = W.alloc o) → wpList P ops Q rest (a.put o.dst v1) w1) : wpList P ops Q (o :: rest) a W := by
 have hx : ∀ v1 w1, d.R e w1 base ok v1 xs → Below base w0 w1 → W.grownBy w1 none → (∃ b, v1.ownBlock = some b ∧ W.heap.size ≤ b) → (w1 = W.alloc (.cells inner.toArray e)) → wpList P ops Q rest (a.put o.dst v1) w1 := fun v1 w1 h1 h2 h3 _ h5 => h v1 w1 h1 h2 h3 ⟨_, h5⟩
 refine Kd.event_run hgd hrun (hx _ _ ⟨fun k hk => ?_, inner, ?_, ?_⟩ (HB.alloc hbase _) (World.grownBy_alloc W _ none) ⟨W.heap.size, by simp [Value.ownBlock], Nat.le_refl _⟩ rfl)
 ·have : W.heap.size = k := by simpa [Value.ownBlock] using hk
  subst this
  exact hfresh
 ·have h2 := World.ownsRow_lit (base := base) (e := e) (size := d.sz) W inner.toArray xs.length hbase (by simpa [maxLen] using hm) (by simpa using hrep.1)
  simpa using h2
 ·refine hrep.imp_ (fun p c hp => d.M_mono (fun k hk => ⟨hok k hk.1, fun he => ?_⟩) (Kd.M_below (d.M_bound hp) (below_alloc (Below.refl _ _) _)))
  have h3 : k = W.heap.size := by simpa [Value.ownBlock] using he
  have := hk.2.2.1
  omega
set_option maxHeartbeats 8000000 in
set_option maxRecDepth 100000 in
theorem impl_comparePeriods.grown (k : Nat) (a0 : Int) (a1 : Int) (r : Int) (w : World) (h : impl_comparePeriods.f k a0 a1 = some r) :
  Calls Try.prog 46 #[.int .i64 a0, .int .i64 a1] w fun e w' => e = .returned (.int .i64 r) ∧ GrowN w w' := by
 have HB := Aside0.mk (GrowN.refl w)
 have H : ((impl_split.f k a0).bind fun bt179 => ((impl_split.f k a1).bind fun bt181 => (if bt179.2 = 1 then (impl_comparePeriods.j0 k bt179.1 bt179.2 bt181.1 bt181.2 (bt181.2 == 1)) else (impl_comparePeriods.j0 k bt179.1 bt179.2 bt181.1 bt181.2 false)))) = some r := h
 clear h
 replace H := Option.bind_eq_some_iff.mp H
 obtain ⟨⟨t179, t180⟩, A30, H⟩ := H
 replace H : ((impl_split.f k a1).bind fun bt181 => (if t180 = 1 then (impl_comparePeriods.j0 k t179 t180 bt181.1 bt181.2 (bt181.2 == 1)) else (impl_comparePeriods.j0 k t179 t180 bt181.1 bt181.2 false))) = some r := H
 have A3 := Aside0.mk A30
 clear A30
 replace H := Option.bind_eq_some_iff.mp H
 obtain ⟨⟨t181, t182⟩, A40, H⟩ := H
 replace H : (if t180 = 1 then (impl_comparePeriods.j0 k t179 t180 t181 t182 (t182 == 1)) else (impl_comparePeriods.j0 k t179 t180 t181 t182 false)) = some r := H
 have A4 := Aside0.mk A40
 clear A40
 have HC5 := Aside0.mk H
 clear H
 go_enter Try.func46, Try.ntmps46
 go_upto_region 3 with (first | ((with_reducible refine gate_callee (f := 65) rfl ?_); refine gl 11 Try.func65 #[.int .i64 a0] ?_; (with_reducible refine (impl_split.calls k a0 t179 t180 _ A3.out).mono ?_); rintro e w' ⟨rfl, ⟨nd, rfl⟩⟩; refine ⟨_, rfl, ?_⟩) | ((with_reducible refine gate_callee (f := 65) rfl ?_); refine gl 16 Try.func65 #[.int .i64 a1] ?_; (with_reducible refine (impl_split.calls k a1 t181 t182 _ A4.out).mono ?_); rintro e w' ⟨rfl, ⟨nd, rfl⟩⟩; refine ⟨_, rfl, ?_⟩))
 (try simp only [Act.put, List.setIfInBounds_toArray, List.set_cons_zero, List.set_cons_succ])
 go_cut [19] (fun v19 wc => ∃ (kq : Nat) (x19_4 : Bool), v19 = .bool x19_4 ∧ Aside0 (impl_comparePeriods.j0 kq t179 t180 t181 t182 x19_4 = some r) ∧ Aside0 (kq ≤ k) ∧ Aside0 (GrowN w wc))
 case first =>
  have H := HC5.out
  clear HC5
  by_cases c6 : t180 = 1
  ·rw [if_pos c6] at H
   have c6b0 : (t180 == 1) = true := beq_iff_eq.mpr c6
   have c6b1 : (t180 != 1) = false := bne_eq_false_iff_eq.mpr c6
   clear c6
   (first | rw [c6b0] | (simp only [i64_w, i32_w]; rw [c6b0]) | skip)
   have H' := Aside0.mk H
   clear H
   go_wp2
   go_meet
   case rel => exact ⟨_, ((t182 == 1)), rs, H', ⟨by first | omega | exact Nat.le_refl _⟩, ⟨by repeat (first | (with_reducible first | exact HB.out | apply GrowN.alloc | apply GrowN.drewN | apply GrowN.drew) | exact HB.out)⟩⟩
  ·rw [if_neg c6] at H
   have c6b0 : (t180 == 1) = false := beq_eq_false_iff_ne.mpr c6
   have c6b1 : (t180 != 1) = true := bne_iff_ne.mpr c6
   (first | rw [c6b0] | (simp only [i64_w, i32_w]; rw [c6b0]) | skip)
   have H' := Aside0.mk H
   clear H
   go_wp2
   go_meet
   case rel => exact ⟨_, (false), rs, H', ⟨by first | omega | exact Nat.le_refl _⟩, ⟨by repeat (first | (with_reducible first | exact HB.out | apply GrowN.alloc | apply GrowN.drewN | apply GrowN.drew) | exact HB.out)⟩⟩
 case rest =>
  clear HC5
  try clear p2
  try clear c4
  try clear c6
  try clear c6b0
  try clear c6b1
  obtain ⟨kq, x19_4, rfl, HA, HJ4, HB⟩ := hcut
  cases kq with
  | zero => exact absurd HA.out (by simp [impl_comparePeriods.j0])
  | succ kj4 =>
   have H := HA.out
   clear HA
   simp only [impl_comparePeriods.j0] at H
   by_cases c7 : x19_4 = true
   ·subst c7
    have H1 : ((cmp_Compare_int.f t181 t179).bind fun t183 => (some t183)) = some r := by rw [if_pos rfl] at H; exact H
    clear H
    have H := H1
    clear H1
    replace H := Option.bind_eq_some_iff.mp H
    obtain ⟨t183, A80, H⟩ := H
    replace H : (some t183) = some r := H
    have A8 := Aside0.mk A80
    clear A80
    obtain rfl := Option.some.inj H
    go_wp2_with (first | ((with_reducible refine gate_callee (f := 81) rfl ?_); refine gl 28 Try.func81 #[.int .i64 t181, .int .i64 t179] ?_; (with_reducible refine (cmp_Compare_int.calls t181 t179 t183 _ A8.out).mono ?_); rintro e w' ⟨rfl, ⟨nd, rfl⟩⟩; refine ⟨_, rfl, ?_⟩))
    go_ret
    exact ⟨rt, by repeat (first | (with_reducible first | exact HB.out | apply GrowN.alloc | apply GrowN.drewN | apply GrowN.drew) | exact HB.out)⟩
   ·replace c7 := Bool.eq_false_iff.mpr c7
    subst c7
    have H1 : (if t180 = 1 then (some 1) else (if t182 = 1 then (some (-1)) else ((cmp_Compare_int.f t179 t181).bind fun t184 => ((cmp_Compare_int.f t180 t182).bind fun t185 => ((cmp_Or_int.f kj4 (([t184, t185] : List Int))).bind fun t189 => (some t189)))))) = some r := by rw [if_neg (show ¬ (false = true) by decide)] at H; exact H
    clear H
    have H := H1
    clear H1
    by_cases c9 : t180 = 1
    ·rw [if_pos c9] at H
     have c9b0 : (t180 == 1) = true := beq_iff_eq.mpr c9
     have c9b1 : (t180 != 1) = false := bne_eq_false_iff_eq.mpr c9
     clear c9
     obtain rfl := Option.some.inj H
     go_wp2
     go_ret
     exact ⟨rt, by repeat (first | (with_reducible first | exact HB.out | apply GrowN.alloc | apply GrowN.drewN | apply GrowN.drew) | exact HB.out)⟩
    ·rw [if_neg c9] at H
     have c9b0 : (t180 == 1) = false := beq_eq_false_iff_ne.mpr c9
     have c9b1 : (t180 != 1) = true := bne_iff_ne.mpr c9
     by_cases c10 : t182 = 1
     ·rw [if_pos c10] at H
      have c10b0 : (t182 == 1) = true := beq_iff_eq.mpr c10
      have c10b1 : (t182 != 1) = false := bne_eq_false_iff_eq.mpr c10
      clear c10
      obtain rfl := Option.some.inj H
      go_wp2
      go_ret
      exact ⟨rt, by repeat (first | (with_reducible first | exact HB.out | apply GrowN.alloc | apply GrowN.drewN | apply GrowN.drew) | exact HB.out)⟩
     ·rw [if_neg c10] at H
      have c10b0 : (t182 == 1) = false := beq_eq_false_iff_ne.mpr c10
      have c10b1 : (t182 != 1) = true := bne_iff_ne.mpr c10
      replace H := Option.bind_eq_some_iff.mp H
      obtain ⟨t184, A110, H⟩ := H
      replace H : ((cmp_Compare_int.f t180 t182).bind fun t185 => ((cmp_Or_int.f kj4 (([t184, t185] : List Int))).bind fun t189 => (some t189))) = some r := H
      have A11 := Aside0.mk A110
      clear A110
      replace H := Option.bind_eq_some_iff.mp H
      obtain ⟨t185, A120, H⟩ := H
      replace H : ((cmp_Or_int.f kj4 (([t184, t185] : List Int))).bind fun t189 => (some t189)) = some r := H
      have A12 := Aside0.mk A120
      clear A120
      obtain ⟨y186, hy186⟩ : ∃ y_ : List Int, y_ = (([t184, t185] : List Int)) := ⟨_, rfl⟩
      replace H : ((cmp_Or_int.f kj4 y186).bind fun t189 => (some t189)) = some r := by first | (rw [hy186]; with_reducible exact H) | (have H2_ := (Option.bind_some _ _).symm.trans H; rw [hy186]; with_reducible exact H2_) | (have H2_ := (Option.bind_some _ _).symm.trans H; with_reducible exact H2_) | with_reducible exact H | (rw [hy186]; exact H) | exact H
      have Ny186 := Aside0.mk hy186
      clear hy186
      replace H := Option.bind_eq_some_iff.mp H
      obtain ⟨t189, A130, H⟩ := H
      replace H : (some t189) = some r := H
      have A13 := Aside0.mk A130
      clear A130
      obtain rfl := Option.some.inj H
      go_wp2_with (first | ((with_reducible refine gate_callee (f := 81) rfl ?_); refine gl 37 Try.func81 #[.int .i64 t179, .int .i64 t181] ?_; (with_reducible refine (cmp_Compare_int.calls t179 t181 t184 _ A11.out).mono ?_); rintro e w' ⟨rfl, ⟨nd, rfl⟩⟩; refine ⟨_, rfl, ?_⟩) | ((with_reducible refine gate_callee (f := 81) rfl ?_); refine gl 40 Try.func81 #[.int .i64 t180, .int .i64 t182] ?_; (with_reducible refine (cmp_Compare_int.calls t180 t182 t185 _ A12.out).mono ?_); rintro e w' ⟨rfl, ⟨nd, rfl⟩⟩; refine ⟨_, rfl, ?_⟩) | ((with_reducible refine gate_dst (N := 41) rfl ?_); refine R_litA (Kd.int .i64) _ 3 ?hg (N := 41) ?hd (xs := ([t184, t185] : List Int)) (inner := [.int .i64 t184, .int .i64 t185]) (ok := fun _ => True) (okp := fun _ => True) ?hr ?hp (fun _ hk => hk) trivial (Below.refl _ _) (Nat.le_refl _) (by simp) ?_; (case hd => rfl); (case hg => rfl); (case hr => first | (go_simp; done) | (go_simp; rfl)); (case hp => exact (Reps.one (show Kd.M (Kd.int .i64) _ _ _ t184 [.int .i64 t184] from rfl) (Reps.one (show Kd.M (Kd.int .i64) _ _ _ t185 [.int .i64 t185] from rfl) (Reps.none _ _)))); intro v187 w14 ho15 hb hg_ hnew_; clear hg_; (first | rw [← Ny186.out] at ho15 | (simp only [Int.reduceToNat] at ho15; rw [← Ny186.out] at ho15)); have HO188 := Aside0.mk (Kd.R_lower ho15 (GrowN.size (by repeat (first | (with_reducible first | exact HB.out | apply GrowN.alloc | apply GrowN.drewN | apply GrowN.drew) | exact HB.out)))); replace HB := Aside0.mk (GrowN.step (by repeat (first | (with_reducible first | exact HB.out | apply GrowN.alloc | apply GrowN.drewN | apply GrowN.drew) | exact HB.out)) hnew_); clear hb ho15; obtain ⟨Ao16, co16, eo16⟩ := Kd.R_slice HO188.out; subst eo16) | ((with_reducible refine gate_callee (f := 82) rfl ?_); refine gl 42 Try.func82 #[.slice Ao16 y186.length co16] ?_; (with_reducible refine (cmp_Or_int.calls kj4 _ _ y186 t189 _ ?side1 ?side2 A13.out).mono ?_); (case side1 => repeat (first | exact (Kd.R_reads' HO188.out).2.2 | (with_reducible refine Kd.C_alloc ?_ _) | (with_reducible refine Kd.C_drewN ?_ _) | (with_reducible refine Kd.C_drew ?_))); (case side2 => exact (Kd.R_reads' HO188.out).2.1); rintro e w' ⟨rfl, ⟨nd, rfl⟩⟩; refine ⟨_, rfl, ?_⟩))
      go_ret
      exact ⟨rt, by repeat (first | (with_reducible first | exact HB.out | apply GrowN.alloc | apply GrowN.drewN | apply GrowN.drew) | exact HB.out)⟩
/-! ### impl_SortPeriods: function 13, by hand -/
abbrev impl_SortPeriods.S := {x : Int // 1 ≤ x ∧ x ≤ 1000000}
instance : Inhabited impl_SortPeriods.S := ⟨⟨1, by omega, by omega⟩⟩
def impl_SortPeriods.enc (x : impl_SortPeriods.S) : Value := .int .i64 x.1
def impl_SortPeriods.cf (k : Nat) (x y : impl_SortPeriods.S) : Int := (impl_comparePeriods.f k x.1 y.1).getD 0
def impl_SortPeriods.lt (k : Nat) (x y : Int) : Bool := decide ((impl_comparePeriods.f k x y).getD 0 < 0)
def impl_SortPeriods.subs (l : List Int) : List impl_SortPeriods.S := l.filterMap fun x => if h : 1 ≤ x ∧ x ≤ 1000000 then some ⟨x, h⟩ else none
def impl_SortPeriods.srt (k : Nat) (l : List Int) : List Int := ((impl_SortPeriods.subs l).mergeSort fun x y => !(impl_SortPeriods.lt k y.1 x.1)).map Subtype.val
def impl_SortPeriods.goodB (k : Nat) : Bool := (List.range 1000000).all fun a => (List.range 1000000).all fun b => (impl_comparePeriods.f k ((a : Int) + 1) ((b : Int) + 1)).isSome && !(impl_SortPeriods.lt k ((a : Int) + 1) ((a : Int) + 1)) && (impl_SortPeriods.lt k ((a : Int) + 1) ((b : Int) + 1) || impl_SortPeriods.lt k ((b : Int) + 1) ((a : Int) + 1) || decide (a = b)) &&
 (List.range 1000000).all fun c => (!(impl_SortPeriods.lt k ((a : Int) + 1) ((b : Int) + 1) && impl_SortPeriods.lt k ((b : Int) + 1) ((c : Int) + 1)) || impl_SortPeriods.lt k ((a : Int) + 1) ((c : Int) + 1)) && (impl_SortPeriods.lt k ((a : Int) + 1) ((b : Int) + 1) || impl_SortPeriods.lt k ((b : Int) + 1) ((c : Int) + 1) || !(impl_SortPeriods.lt k ((a : Int) + 1) ((c : Int) + 1)))
def impl_SortPeriods.f (k : Nat) (l0 : List Int) : Option (List Int × Bool) := (impl_arePeriods.f k l0).bind fun t => (if t = true then (if impl_SortPeriods.goodB k = true ∧ (∀ x ∈ l0, 1 ≤ x ∧ x ≤ 1000000) ∧ 0 < l0.length ∧ l0.length ≤ 60 then (some (Go.Lib.compact (impl_SortPeriods.srt k l0), true)) else (none)) else (some (([] : List Int), false)))
theorem impl_SortPeriods.subs_val (l : List Int) (h : ∀ x ∈ l, 1 ≤ x ∧ x ≤ 1000000) : (impl_SortPeriods.subs l).map Subtype.val = l := by
 induction l with
 | nil => rfl
 | cons a t ih =>
  have h1 := h a (List.mem_cons_self ..)
  have h2 := ih fun x hx => h x (List.mem_cons_of_mem _ hx)
  simp only [impl_SortPeriods.subs] at h2 ⊢
  rw [List.filterMap_cons_some (b := ⟨a, h1⟩) (by simp [h1])]
  rw [List.map_cons, h2]
theorem impl_SortPeriods.enc_map (zs : List impl_SortPeriods.S) : zs.map impl_SortPeriods.enc = nums .i64 (zs.map Subtype.val) := by
 simp only [nums, List.map_map]; rfl
theorem impl_SortPeriods.ltOf_eq (k : Nat) (x y : impl_SortPeriods.S) : Go.Proofs.ltOf (impl_SortPeriods.cf k) x y = impl_SortPeriods.lt k x.1 y.1 := rfl
theorem impl_SortPeriods.good (k : Nat) (h : impl_SortPeriods.goodB k = true) : (∀ x y : impl_SortPeriods.S, ∃ r, impl_comparePeriods.f k x.1 y.1 = some r) ∧ Go.Sort.SWO (Go.Proofs.ltOf (impl_SortPeriods.cf k)) ∧ ∀ x y : impl_SortPeriods.S, Go.Proofs.ltOf (impl_SortPeriods.cf k) x y = false → Go.Proofs.ltOf (impl_SortPeriods.cf k) y x = false → x = y := by
 have e : ∀ x : impl_SortPeriods.S, ∃ a ∈ List.range 1000000, ((a : Int) + 1) = x.1 := fun x => ⟨(x.1 - 1).toNat, by rw [List.mem_range]; have := x.2; omega, by have := x.2; omega⟩
 have g := h
 simp only [impl_SortPeriods.goodB, List.all_eq_true, Bool.and_eq_true] at g
 refine ⟨fun x y => ?_, ⟨fun x => ?_, fun x y z h1 h2 => ?_, fun x y z h1 h2 => ?_⟩, fun x y h1 h2 => ?_⟩
 ·obtain ⟨a, ha, ea⟩ := e x; obtain ⟨b, hb, eb⟩ := e y
  have q := (g a ha b hb).1.1.1; rw [ea, eb] at q; exact Option.isSome_iff_exists.1 q
 ·obtain ⟨a, ha, ea⟩ := e x
  have q := (g a ha a ha).1.1.2; rw [ea] at q; rw [impl_SortPeriods.ltOf_eq]; simpa using q
 ·obtain ⟨a, ha, ea⟩ := e x; obtain ⟨b, hb, eb⟩ := e y; obtain ⟨c, hc, ec⟩ := e z
  have q := ((g a ha b hb).2 c hc).1; rw [ea, eb, ec] at q; rw [impl_SortPeriods.ltOf_eq] at *; rw [h1, h2] at q; simpa using q
 ·obtain ⟨a, ha, ea⟩ := e x; obtain ⟨b, hb, eb⟩ := e y; obtain ⟨c, hc, ec⟩ := e z
  have q := ((g a ha b hb).2 c hc).2; rw [ea, eb, ec] at q; rw [impl_SortPeriods.ltOf_eq] at *; rw [h1, h2] at q; simpa using q
 ·obtain ⟨a, ha, ea⟩ := e x; obtain ⟨b, hb, eb⟩ := e y
  have q := (g a ha b hb).1.2; rw [ea, eb] at q; rw [impl_SortPeriods.ltOf_eq] at h1 h2; rw [h1, h2] at q
  have q2 : a = b := by simpa using q
  apply Subtype.ext; rw [← ea, ← eb, q2]
/-- The sort's world in the words of whole numbers. -/
theorem impl_SortPeriods.world_val (w : World) (g m : Nat) (zs : List impl_SortPeriods.S) (os : Array Obj) :
  Go.Proofs.sortWorld impl_SortPeriods.enc w g 0 m zs.toArray os = Go.Sort.grow (Go.Sort.putRow (Value.int .i64) (Go.Sort.ahead w m) g 0 (zs.map Subtype.val).toArray) os := by
 have e : Go.Sort.putCells impl_SortPeriods.enc 0 zs.toArray = Go.Sort.putCells (Value.int .i64) 0 (zs.map Subtype.val).toArray := by
  funext c
  simp only [Go.Sort.putCells]
  congr 1
  funext q x
  by_cases hq : q < zs.length
  ·rw [if_pos (by simpa using hq), if_pos (by simpa using hq)]
   simp only [Nat.sub_zero]
   rw [getElem!_pos zs.toArray q (by simpa using hq), getElem!_pos (zs.map Subtype.val).toArray q (by simpa using hq)]
   simp [impl_SortPeriods.enc]
  ·rw [if_neg (by simpa using hq), if_neg (by simpa using hq)]
 simp only [Go.Proofs.sortWorld, Go.Sort.putRow, e]
theorem impl_SortPeriods.after_clone (k : Nat) (l0 : List Int) (w1 : World) (B : Nat) (v1 : Value) (G1 : impl_SortPeriods.goodB k = true) (G2 : ∀ x ∈ l0, 1 ≤ x ∧ x ≤ 1000000) (G3 : 0 < l0.length) (G4 : l0.length ≤ 60) (hR : Kd.R (Kd.int .i64) 3 w1 B (fun _ => True) v1 l0) :
  ∃ g cap, v1 = .slice (some ⟨g, 0, none⟩) l0.length cap ∧ B ≤ g ∧ Calls Try.prog 45 #[.slice (some ⟨g, 0, none⟩) l0.length cap, .func (.func 46) #[] #[]] w1 fun e w2 => e = .returned (.tuple #[]) ∧ w2.ownsRow B 3 1 (.slice (some ⟨g, 0, none⟩) l0.length cap) l0.length (nums .i64 (impl_SortPeriods.srt k l0)) ∧ w1.grownBy w2 (some g) := by
 obtain ⟨gt, gs, ga⟩ := impl_SortPeriods.good k G1
 have hown : w1.ownsRow B 3 1 v1 l0.length (nums .i64 l0) := Kd.own_of_R hR
 have hnn : v1 ≠ .slice none 0 0 := by
  rintro rfl
  rcases hown.2 with ⟨_, h⟩ | ⟨g, cap, cur, h, _⟩
  ·omega
  ·cases h
 have hs := impl_SortPeriods.subs_val l0 G2
 have hown' : w1.ownsRow B 3 1 v1 l0.length ((impl_SortPeriods.subs l0).map impl_SortPeriods.enc) := by rw [impl_SortPeriods.enc_map, hs]; exact hown
 obtain ⟨g, cap, rfl, hbg, hgl, hncap, hcm, hlen, hH⟩ := Go.Lib.holds_of_ownsRow hown' hnn
 have hsz : (impl_SortPeriods.subs l0).toArray.size = l0.length := by simpa using hlen
 have hcmp : Go.Proofs.CmpLays1 Try.prog 46 #[] impl_SortPeriods.enc (impl_SortPeriods.cf k) g 0 (impl_SortPeriods.subs l0).toArray.size w1 := fun m os dk hs x y => by
  obtain ⟨r, hr⟩ := gt x y
  refine (impl_comparePeriods.grown k x.1 y.1 r _ hr).mono ?_
  rintro e w' ⟨rfl, hd⟩
  have e2 : impl_SortPeriods.cf k x y = r := by simp only [impl_SortPeriods.cf, hr]; rfl
  rw [e2]; exact ⟨rfl, hd⟩
 have eg : ∀ args w, (callFunc 46 args).run Try.prog w = .ok (.enter 46 args) w := enters_of Try.func46 (by kernel_rfl) rfl
 have hS := Go.Proofs.Any.slices_SortFunc Go.Proofs.Ytcbbkeojoichnaa.sortL impl_SortPeriods.enc (fun _ => rfl) (impl_SortPeriods.cf k) gs 46 #[] g 0 cap (impl_SortPeriods.subs l0).toArray w1 eg hcmp hH hgl (by rw [hsz]; omega)
 rw [hsz] at hS
 refine ⟨g, cap, rfl, hbg, ?_⟩
 change Calls Try.prog 45 _ _ _ at hS
 refine hS.mono ?_
 rintro e w2 ⟨rfl, d', m, os, hp, hs', rfl⟩
 rw [← hsz] at hp hs'
 have hd := Go.Sort.sorted_unique_holds gs ga _ d' hp hs'
 have hd2 : d' = ((impl_SortPeriods.subs l0).mergeSort fun x y => !(Go.Proofs.ltOf (impl_SortPeriods.cf k)) y x).toArray := by
  rw [← hd]
 rw [hd2]
 rw [impl_SortPeriods.world_val]
 rcases hown.2 with ⟨h0, _⟩ | ⟨g', cap', cur, hv, hbase, hb, h1, h2, h3, h4⟩
 ·cases h0
 cases hv
 refine ⟨rfl, ?_, Go.grownBy_sortedI _⟩
 have hl : (impl_SortPeriods.srt k l0).length = l0.length := by simp only [impl_SortPeriods.srt, List.length_map, List.length_mergeSort]; simpa using hsz
 exact Go.ownsRow_sortedI (n := m) (os := os) (ts := impl_SortPeriods.srt k l0) (ss := l0) hl hbase hb h1 h2 h3
theorem impl_SortPeriods.after_sort (ts : List Int) (w2 : World) (B n g cap : Nat) (h0 : 0 < n) (hn : n ≤ 60) (hown : w2.ownsRow B 3 1 (.slice (some ⟨g, 0, none⟩) n cap) n (nums .i64 ts)) (hg : B ≤ g) :
  Calls Try.prog 47 #[.slice (some ⟨g, 0, none⟩) n cap] w2 fun e w3 => e = .returned (.slice (some ⟨g, 0, none⟩) (Go.Lib.compact ts).length cap) ∧ Kd.R (Kd.int .i64) 3 w3 B (fun _ => True) (.slice (some ⟨g, 0, none⟩) (Go.Lib.compact ts).length cap) (Go.Lib.compact ts) ∧ ∀ B' w0, Below B' w0 w2 → B' ≤ g → Below B' w0 w3 := by
 obtain ⟨g', cap', hv, hbg, hgl, hncap, hcm, hlen, hH⟩ := Go.Lib.holds_of_ownsRow (enc := Value.int .i64) hown (by intro h; cases h)
 cases hv
 subst hlen
 have hC := Go.Proofs.AnyG.slices_Compact_int Go.Proofs.Ytcbbkeojoichnaa.compL g 0 cap ts w2 hH (by omega) hncap
 change Calls Try.prog 47 _ _ _ at hC
 refine hC.mono ?_
 rintro e w3 ⟨rfl, q, rfl⟩
 have hle := Go.Lib.compact_length_le ts
 have hc := Go.Lib.ownsRow_putRow (q := q) (k := (Go.Lib.compact ts).length) (ys := Go.Lib.compact ts ++ List.replicate (ts.length - (Go.Lib.compact ts).length) 0) hown (by simp; omega) (by omega)
 rw [List.take_left] at hc
 exact ⟨rfl, Kd.R_of_own (h1 := fun _ => rfl) (ok := fun _ => True) hc (fun _ _ => trivial), fun B' w0 hb hg' => Go.Lib.below_putRow hb hg'⟩
set_option maxHeartbeats 8000000 in
set_option maxRecDepth 100000 in
theorem impl_SortPeriods.calls (k : Nat) (A0 : Option Addr) (c0 : Nat) (l0 : List Int) (r1 : List Int) (r2 : Bool) (w : World) (hr0 : Kd.C (Kd.int .i64) w A0 l0.length l0) (hc0 : l0.length ≤ c0) (h : impl_SortPeriods.f k l0 = some (r1, r2)) :
  Calls Try.prog 13 #[.slice A0 l0.length c0] w fun e w' => ∃ v0_ : Value, e = .returned (.tuple #[v0_, .bool r2]) ∧ Kd.R (Kd.int .i64) 3 w' w.heap.size (fun _ => True) v0_ r1 ∧ Below w.heap.size w w' := by
 have HR0 := Aside0.mk hr0
 have HC0 := Aside0.mk hc0
 clear hr0 hc0
 have HB := Aside0.mk (Below.refl w.heap.size w)
 have H := h
 clear h
 simp only [impl_SortPeriods.f] at H
 replace H := Option.bind_eq_some_iff.mp H
 obtain ⟨t1, A20, H⟩ := H
 have A2 := Aside0.mk A20
 clear A20
 by_cases c3 : t1 = true
 ·subst c3
  rw [if_pos rfl] at H
  by_cases G : impl_SortPeriods.goodB k = true ∧ (∀ x ∈ l0, 1 ≤ x ∧ x ≤ 1000000) ∧ 0 < l0.length ∧ l0.length ≤ 60
  ·rw [if_pos G] at H
   simp only [Option.some.injEq, Prod.mk.injEq] at H
   obtain ⟨rfl, rfl⟩ := H
   have GG := Aside0.mk G
   have hcl : Aside0 (slices_Clone_int_int.f l0 = some l0) := ⟨by simp only [slices_Clone_int_int.f]; rw [if_pos (by omega)]⟩
   clear G
   go_enter Try.func13, Try.ntmps13
   go_wp2_with (first | ((with_reducible refine gate_callee (f := 43) rfl ?_); refine gl 6 Try.func43 #[.slice A0 l0.length c0] ?_; (with_reducible refine (impl_arePeriods.calls k _ _ l0 true _ ?side1 ?side2 A2.out).mono ?_); (case side1 => repeat (first | exact HR0.out | (with_reducible refine Kd.C_alloc ?_ _) | (with_reducible refine Kd.C_drewN ?_ _) | (with_reducible refine Kd.C_drew ?_))); (case side2 => exact HC0.out); rintro e w' ⟨rfl, ⟨nd, rfl⟩⟩; refine ⟨_, rfl, ?_⟩) | ((with_reducible refine gate_callee (f := 44) rfl ?_); refine gl 9 Try.func44 #[.slice A0 l0.length c0] ?_; (with_reducible refine (slices_Clone_int_int.calls _ _ l0 l0 _ ?side1 ?side2 hcl.out).mono ?_); (case side1 => repeat (first | exact HR0.out | (with_reducible refine Kd.C_alloc ?_ _) | (with_reducible refine Kd.C_drewN ?_ _) | (with_reducible refine Kd.C_drew ?_))); (case side2 => exact HC0.out); rintro e w1 ⟨v1, rfl, hR, hB⟩; refine ⟨_, rfl, ?_⟩; obtain ⟨g, cap, rfl, hbg, hS⟩ := impl_SortPeriods.after_clone k l0 w1 _ v1 GG.out.1 GG.out.2.1 GG.out.2.2.1 GG.out.2.2.2 hR; have HBG := Aside0.mk hbg; clear hbg; have HB1 : Aside0 (Below w.heap.size w w1) := ⟨below_step bl hB⟩; clear hR hB) | (go_at_call 45; refine hS.mono ?_; rintro e w2 ⟨rfl, hown, hgr⟩; have hC := impl_SortPeriods.after_sort (impl_SortPeriods.srt k l0) w2 _ l0.length g cap GG.out.2.2.1 GG.out.2.2.2 hown HBG.out; have HB2 : Aside0 (Below w.heap.size w w2) := ⟨HB1.out.grown hgr (below_size HB1.out) (fun j hj => by cases hj; exact HBG.out)⟩; clear hS hown hgr) | (go_at_call 47; refine hC.mono ?_; rintro e w3 ⟨rfl, hRc, hbc⟩; have HRC := Aside0.mk hRc; have HB3 : Aside0 (Below w.heap.size w w3) := ⟨hbc _ _ HB2.out HBG.out⟩; clear hC hRc hbc))
   go_ret2
   exact ⟨_, by first | rfl | (simp; done), HRC.out, HB3.out⟩
  ·rw [if_neg G] at H
   exact absurd H (by simp)
 ·replace c3 := Bool.eq_false_iff.mpr c3
  subst c3
  rw [if_neg (by decide)] at H
  simp only [Option.some.injEq, Prod.mk.injEq] at H
  obtain ⟨rfl, rfl⟩ := H
  go_enter Try.func13, Try.ntmps13
  go_wp2_with (first | ((with_reducible refine gate_callee (f := 43) rfl ?_); refine gl 6 Try.func43 #[.slice A0 l0.length c0] ?_; (with_reducible refine (impl_arePeriods.calls k _ _ l0 false _ ?side1 ?side2 A2.out).mono ?_); (case side1 => repeat (first | exact HR0.out | (with_reducible refine Kd.C_alloc ?_ _) | (with_reducible refine Kd.C_drewN ?_ _) | (with_reducible refine Kd.C_drew ?_))); (case side2 => exact HC0.out); rintro e w' ⟨rfl, ⟨nd, rfl⟩⟩; refine ⟨_, rfl, ?_⟩))
  go_ret2
  exact ⟨_, by first | rfl | (simp [errW_none, errW_some] <;> rfl), by first | exact Kd.R_nil _ _ _ _ _ | exact Kd.N_nil _ _ _ _ _, bl⟩

/-! ### laws_eqIntS: function 14 -/
def laws_eqIntS.l0 : Nat → List Int → List Int → Int → Option (Bool)
 | 0, _, _, _ => none
 | k + 1, x0, x1, x5 => if x5 < (x0.length : Int) then (if 0 ≤ x5 then (if x5 < (x1.length : Int) then (if (rd x0 x5) = (rd x1 x5) then (laws_eqIntS.l0 k x0 x1 (wrap64 (x5 + 1))) else (some false)) else (none)) else (none)) else (some true)
def laws_eqIntS.f (k : Nat) (l0 : List Int) (l1 : List Int) : Option (Bool) := if (l0.length : Int) = (l1.length : Int) then (laws_eqIntS.l0 k l0 l1 0) else (some false)
set_option maxHeartbeats 8000000 in
set_option maxRecDepth 100000 in
theorem laws_eqIntS.calls (k : Nat) (A0 : Option Addr) (c0 : Nat) (l0 : List Int) (A1 : Option Addr) (c1 : Nat) (l1 : List Int) (r : Bool) (w : World) (hr0 : Kd.C (Kd.int .i64) w A0 l0.length l0) (hc0 : l0.length ≤ c0) (hr1 : Kd.C (Kd.int .i64) w A1 l1.length l1) (hc1 : l1.length ≤ c1) (h : laws_eqIntS.f k l0 l1 = some r) :
  Calls Try.prog 14 #[.slice A0 l0.length c0, .slice A1 l1.length c1] w fun e w' => e = .returned (.bool r) ∧ Drawn0 w w' := by
 have HR0 := Aside0.mk hr0
 have HC0 := Aside0.mk hc0
 clear hr0 hc0
 have HR1 := Aside0.mk hr1
 have HC1 := Aside0.mk hc1
 clear hr1 hc1
 have H : (if (l0.length : Int) = (l1.length : Int) then (laws_eqIntS.l0 k l0 l1 0) else (some false)) = some r := h
 clear h
 by_cases c3 : (l0.length : Int) = (l1.length : Int)
 ·rw [if_pos c3] at H
  have c3b0 : ((l0.length : Int) == (l1.length : Int)) = true := beq_iff_eq.mpr c3
  have c3b1 : ((l0.length : Int) != (l1.length : Int)) = false := bne_eq_false_iff_eq.mpr c3
  have c3b2 : (l0.length == l1.length) = true := by first | simpa using c3 | (simp at c3 ⊢; omega)
  clear c3
  have H' := Aside0.mk H
  clear H
  go_enter Try.func14, Try.ntmps14
  go_wp2
  repeat (go_quiet (fail); try go_wp2)
  go_loopg [5] k (fun kq v5 w' => ∃ (x5_1 : Int), v5 = .int .i64 x5_1 ∧ Aside0 (laws_eqIntS.l0 kq l0 l1 x5_1 = some r) ∧ Aside0 (kq ≤ k) ∧ Drawn0 w w')
  case atStart => exact ⟨(0), rs, H', ⟨Nat.le_refl _⟩, by repeat (first | exact Drawn0.refl _ | apply Drawn0.step)⟩
  case round =>
   clear H'
   try clear c1
   try clear p2
   try clear c3
   try clear c3b0
   try clear c3b1
   try clear c3b2
   obtain ⟨x5_1, rfl, HA, HK1, ⟨m1, rfl⟩⟩ := hrel
   cases gk with
   | zero => exact absurd HA.out (by simp [laws_eqIntS.l0])
   | succ k1 =>
    have H := HA.out
    clear HA
    simp only [laws_eqIntS.l0] at H
    by_cases c4 : x5_1 < (l0.length : Int)
    ·rw [if_pos c4] at H
     have c4b0 : decide (x5_1 < (l0.length : Int)) = true := decide_eq_true c4
     clear c4
     by_cases c5 : 0 ≤ x5_1
     ·rw [if_pos c5] at H
      have c5b0 : decide (0 ≤ x5_1) = true := decide_eq_true c5
      clear c5
      by_cases c6 : x5_1 < (l1.length : Int)
      ·rw [if_pos c6] at H
       have c6b0 : decide (x5_1 < (l1.length : Int)) = true := decide_eq_true c6
       clear c6
       by_cases c7 : (rd l0 x5_1) = (rd l1 x5_1)
       ·rw [if_pos c7] at H
        have c7b0 : ((rd l0 x5_1) == (rd l1 x5_1)) = true := beq_iff_eq.mpr c7
        have c7b1 : ((rd l0 x5_1) != (rd l1 x5_1)) = false := bne_eq_false_iff_eq.mpr c7
        clear c7
        have H' := Aside0.mk H
        clear H
        have p190 : 0 ≤ (x5_1 : Int) := da
        have q190 : x5_1 < (l0.length : Int) := da
        obtain ⟨ad190, e190, hx190_0⟩ := Kd.at_int HR0.out x5_1 p190 q190
        cases e190
        replace p190 := eq_true p190
        replace q190 := eq_true q190
        have p191 : 0 ≤ (x5_1 : Int) := da
        have q191 : x5_1 < (l1.length : Int) := da
        obtain ⟨ad191, e191, hx191_0⟩ := Kd.at_int HR1.out x5_1 p191 q191
        cases e191
        replace p191 := eq_true p191
        replace q191 := eq_true q191
        go_wp2
        repeat (go_quiet (fail); try go_wp2)
        go_roundg k1
        case measure => have := HK1.out; omega
        case rel => exact ⟨(wrap64 (x5_1 + 1)), rs, H', ⟨by have := HK1.out; omega⟩, by repeat (first | exact Drawn0.refl _ | apply Drawn0.step)⟩
       ·rw [if_neg c7] at H
        have c7b0 : ((rd l0 x5_1) == (rd l1 x5_1)) = false := beq_eq_false_iff_ne.mpr c7
        have c7b1 : ((rd l0 x5_1) != (rd l1 x5_1)) = true := bne_iff_ne.mpr c7
        obtain rfl := Option.some.inj H
        have p190 : 0 ≤ (x5_1 : Int) := da
        have q190 : x5_1 < (l0.length : Int) := da
        obtain ⟨ad190, e190, hx190_0⟩ := Kd.at_int HR0.out x5_1 p190 q190
        cases e190
        replace p190 := eq_true p190
        replace q190 := eq_true q190
        have p191 : 0 ≤ (x5_1 : Int) := da
        have q191 : x5_1 < (l1.length : Int) := da
        obtain ⟨ad191, e191, hx191_0⟩ := Kd.at_int HR1.out x5_1 p191 q191
        cases e191
        replace p191 := eq_true p191
        replace q191 := eq_true q191
        go_wp2
        repeat (go_quiet (fail); try go_wp2)
        go_ret
        exact ⟨rs, by repeat (first | exact Drawn0.refl _ | apply Drawn0.step)⟩
      ·rw [if_neg c6] at H
       exact absurd H (by simp)
     ·rw [if_neg c5] at H
      exact absurd H (by simp)
    ·rw [if_neg c4] at H
     have c4b0 : decide (x5_1 < (l0.length : Int)) = false := decide_eq_false c4
     clear c4
     obtain rfl := Option.some.inj H
     go_wp2
     repeat (go_quiet (fail); try go_wp2)
     go_ret
     exact ⟨rs, by repeat (first | exact Drawn0.refl _ | apply Drawn0.step)⟩
 ·rw [if_neg c3] at H
  have c3b0 : ((l0.length : Int) == (l1.length : Int)) = false := beq_eq_false_iff_ne.mpr c3
  have c3b1 : ((l0.length : Int) != (l1.length : Int)) = true := bne_iff_ne.mpr c3
  have c3b2 : (l0.length == l1.length) = false := by first | simpa using c3 | (simp at c3 ⊢; omega)
  obtain rfl := Option.some.inj H
  go_enter Try.func14, Try.ntmps14
  go_wp2
  repeat (go_quiet (fail); try go_wp2)
  go_ret
  exact ⟨rs, by repeat (first | exact Drawn0.refl _ | apply Drawn0.step)⟩

/-! ### laws_markIntS: function 15 -/
def laws_markIntS.l0 : Nat → List Int → Int → Int → Option (Int × List Int)
 | 0, _, _, _ => none
 | k + 1, x0, x1, x5 => if x5 < (x0.length : Int) then (if 0 ≤ x5 then (laws_markIntS.l0 k (x0.set (x5 : Int).toNat x1) (wrap64 (x1 + 1)) (wrap64 (x5 + 1))) else (none)) else (some (x1, x0))
def laws_markIntS.f (k : Nat) (l0 : List Int) (a1 : Int) : Option (Int × List Int) := laws_markIntS.l0 k l0 a1 0
set_option maxHeartbeats 8000000 in
set_option maxRecDepth 100000 in
theorem laws_markIntS.calls (k : Nat) (P0_ : Nat → Prop) (u9000_ : Value) (l0 : List Int) (a1 : Int) (r1 : Int) (r2 : List Int) (w0 w : World) (hB : Below w0.heap.size w0 w) (ho0 : Kd.R (Kd.int .i64) 3 w w0.heap.size P0_ u9000_ l0) (h : laws_markIntS.f k l0 a1 = some (r1, r2)) :
  Calls Try.prog 15 #[u9000_, .int .i64 a1] w fun e w' => e = .returned (.int .i64 r1) ∧ Kd.R (Kd.int .i64) 3 w' w0.heap.size (fun k_ => (P0_ k_ ∨ w.heap.size ≤ k_)) u9000_ r2 ∧ Below w0.heap.size w0 w' ∧ Kept w w' (fun k_ => P0_ k_) := by
 have HO0 := Aside0.mk (show Kd.R (Kd.int .i64) 3 w w0.heap.size (fun k_ => (P0_ k_ ∨ w.heap.size ≤ k_)) u9000_ l0 from Kd.R_mono ho0 (fun k_ hk => (.inl hk)))
 have HK := Aside0.mk (Kept.refl w (fun k_ => P0_ k_))
 have HW0 := Aside0.mk hB.size
 have HB := Aside0.mk hB
 clear hB
 have H : (laws_markIntS.l0 k l0 a1 0) = some (r1, r2) := h
 clear h
 have H' := Aside0.mk H
 clear H
 go_enter Try.func15, Try.ntmps15
 go_wp2
 go_loopg [1, 5] k (fun kq v1 v5 w' => ∃ (x0_1 : List Int) (x1_1 : Int) (x5_1 : Int), v1 = .int .i64 x1_1 ∧ v5 = .int .i64 x5_1 ∧ Aside0 (laws_markIntS.l0 kq x0_1 x1_1 x5_1 = some (r1, r2)) ∧ Aside0 (kq ≤ k) ∧ Aside0 (Kd.R (Kd.int .i64) 3 w' w0.heap.size (fun k_ => (P0_ k_ ∨ w.heap.size ≤ k_)) u9000_ x0_1) ∧ Aside0 (Kept w w' (fun k_ => P0_ k_)) ∧ Aside0 (Below w0.heap.size w0 w'))
 case atStart => exact ⟨(l0), (a1), (0), rs, rs, H', ⟨Nat.le_refl _⟩, ⟨by (with_reducible repeat (first | apply Kd.R_alloc | apply Kd.R_drewN | apply Kd.R_drew)); exact HO0.out⟩, ⟨by repeat (first | (with_reducible first | exact HK.out | apply Kept.alloc | apply Kept.drewN | apply Kept.drew) | exact HK.out)⟩, ⟨bl⟩⟩
 case round =>
  clear H'
  try clear c1
  try clear p2
  obtain ⟨x0_1, x1_1, x5_1, rfl, rfl, HA, HK1, HO_0, HK, HB⟩ := hrel
  cases gk with
  | zero => exact absurd HA.out (by simp [laws_markIntS.l0])
  | succ k1 =>
   have H := HA.out
   clear HA
   simp only [laws_markIntS.l0] at H
   by_cases c3 : x5_1 < (x0_1.length : Int)
   ·rw [if_pos c3] at H
    have c3b0 : decide (x5_1 < (x0_1.length : Int)) = true := decide_eq_true c3
    clear c3
    by_cases c4 : 0 ≤ x5_1
    ·rw [if_pos c4] at H
     have c4b0 : decide (0 ≤ x5_1) = true := decide_eq_true c4
     clear c4
     obtain ⟨y192, hy192⟩ : ∃ y_ : List Int, y_ = (x0_1.set (x5_1 : Int).toNat x1_1) := ⟨_, rfl⟩
     replace H : (laws_markIntS.l0 k1 y192 (wrap64 (x1_1 + 1)) (wrap64 (x5_1 + 1))) = some (r1, r2) := by first | (rw [hy192]; with_reducible exact H) | (have H2_ := (Option.bind_some _ _).symm.trans H; rw [hy192]; with_reducible exact H2_) | (have H2_ := (Option.bind_some _ _).symm.trans H; with_reducible exact H2_) | with_reducible exact H | (rw [hy192]; exact H) | exact H
     have Ny192 := Aside0.mk hy192
     clear hy192
     have H' := Aside0.mk H
     clear H
     obtain ⟨Ao6, co6, eo6⟩ := Kd.R_slice HO_0.out
     subst eo6
     have p5 : 0 ≤ (x5_1 : Int) := da
     have q5 : (x5_1 : Int) < ((x0_1.length : Int) : Int) := da
     obtain ⟨go5, co5, eo5, gb5, gl5, cl5, HG5⟩ := Kd.R_form HO_0.out (by omega)
     (first | cases eo5 | (injection eo5 with ea_ en_ ec_; (first | subst ea_ | (injection ea_ with ea_; subst ea_)); subst ec_; clear en_))
     have GB5 := Aside0.mk gb5
     have GG5 := Aside0.mk HG5
     clear gb5 gl5 HG5
     have HMgo5 := Aside0.mk (show (P0_ go5 ∨ w.heap.size ≤ go5) from (HO_0.out.1 _ rfl))
     obtain ⟨hx5_0, hf5_0⟩ := Kd.R_celln 0 HO_0.out (x5_1 : Int) p5 q5
     replace p5 := eq_true p5
     replace q5 := eq_true q5
     have HP7 := Kd.R_putg HO_0.out (x5_1 : Int) x1_1
     go_wp2_with (first | ((with_reducible refine gate_store (t := 3) (p := 15) rfl ?_); refine store_event (t := 3) (p := 15) (v := ?vo_w8) (w1 := (wr.setCell ⟨go5, (x5_1 : Int).toNat, none⟩ (.int .i64 x1_1))) ?hg ?ho ?hn ?hr ?_; (case ho => rfl); (case hg => rfl); (case hn => rfl); (case hr => first | (go_simp; done) | (go_simp; rfl)); intro w8 hw; have hg : wr.grownBy w8 (some go5) := (by rw [hw]; exact HP7.2); have hp_ : Kd.R (Kd.int .i64) 3 w8 w0.heap.size (fun k_ => (P0_ k_ ∨ w.heap.size ≤ k_)) (.slice (some ⟨go5, 0, none⟩) x0_1.length co6) y192 := (by rw [hw, Ny192.out]; exact HP7.1); clear HP7; replace HB := Aside0.mk ((by rw [hw]; exact below_set (HB.out) GB5.out : Below w0.heap.size w0 w8)); replace HK := Aside0.mk (Kept.of_grown (S := (fun k_ => P0_ k_)) hg (by repeat (first | (with_reducible first | exact HK.out | apply Kept.alloc | apply Kept.drewN | apply Kept.drew) | exact HK.out)) (fun k_ e_ => (HO_0.out.1 k_ e_))); replace HO_0 := Aside0.mk (hp_); clear hg hw hp_))
     go_roundg k1
     case measure => have := HK1.out; omega
     case rel => exact ⟨(y192), (wrap64 (x1_1 + 1)), (wrap64 (x5_1 + 1)), rs, rs, H', ⟨by have := HK1.out; omega⟩, ⟨by (with_reducible repeat (first | apply Kd.R_alloc | apply Kd.R_drewN | apply Kd.R_drew)); exact HO_0.out⟩, ⟨by repeat (first | (with_reducible first | exact HK.out | apply Kept.alloc | apply Kept.drewN | apply Kept.drew) | exact HK.out)⟩, ⟨bl⟩⟩
    ·rw [if_neg c4] at H
     exact absurd H (by simp)
   ·rw [if_neg c3] at H
    have c3b0 : decide (x5_1 < (x0_1.length : Int)) = false := decide_eq_false c3
    clear c3
    simp only [Option.some.injEq, Prod.mk.injEq] at H
    obtain ⟨rfl, rfl⟩ := H
    obtain ⟨Ao9, co9, eo9⟩ := Kd.R_slice HO_0.out
    subst eo9
    go_wp2
    go_ret
    exact ⟨rt, by (with_reducible repeat (first | apply Kd.R_alloc | apply Kd.R_drewN | apply Kd.R_drew)); exact HO_0.out, bl, by repeat (first | (with_reducible first | exact HK.out | apply Kept.alloc | apply Kept.drewN | apply Kept.drew) | exact HK.out)⟩

/-! ### laws_heldIntS: function 16 -/
def laws_heldIntS.l0 : Nat → List Int → Int → Int → Option (Int)
 | 0, _, _, _ => none
 | k + 1, x0, x1, x5 => if x5 < (x0.length : Int) then (if 0 ≤ x5 then (if (rd x0 x5) = x1 then (laws_heldIntS.l0 k x0 (wrap64 (x1 + 1)) (wrap64 (x5 + 1))) else (some (-1))) else (none)) else (some x1)
def laws_heldIntS.f (k : Nat) (l0 : List Int) (a1 : Int) : Option (Int) := laws_heldIntS.l0 k l0 a1 0
set_option maxHeartbeats 8000000 in
set_option maxRecDepth 100000 in
theorem laws_heldIntS.calls (k : Nat) (A0 : Option Addr) (c0 : Nat) (l0 : List Int) (a1 : Int) (r : Int) (w : World) (hr0 : Kd.C (Kd.int .i64) w A0 l0.length l0) (hc0 : l0.length ≤ c0) (h : laws_heldIntS.f k l0 a1 = some r) :
  Calls Try.prog 16 #[.slice A0 l0.length c0, .int .i64 a1] w fun e w' => e = .returned (.int .i64 r) ∧ Drawn0 w w' := by
 have HR0 := Aside0.mk hr0
 have HC0 := Aside0.mk hc0
 clear hr0 hc0
 have H : (laws_heldIntS.l0 k l0 a1 0) = some r := h
 clear h
 have H' := Aside0.mk H
 clear H
 go_enter Try.func16, Try.ntmps16
 go_wp2
 go_loopg [1, 5] k (fun kq v1 v5 w' => ∃ (x1_1 : Int) (x5_1 : Int), v1 = .int .i64 x1_1 ∧ v5 = .int .i64 x5_1 ∧ Aside0 (laws_heldIntS.l0 kq l0 x1_1 x5_1 = some r) ∧ Aside0 (kq ≤ k) ∧ Drawn0 w w')
 case atStart => exact ⟨(a1), (0), rs, rs, H', ⟨Nat.le_refl _⟩, by repeat (first | exact Drawn0.refl _ | apply Drawn0.step)⟩
 case round =>
  clear H'
  try clear c1
  try clear p2
  obtain ⟨x1_1, x5_1, rfl, rfl, HA, HK1, ⟨m1, rfl⟩⟩ := hrel
  cases gk with
  | zero => exact absurd HA.out (by simp [laws_heldIntS.l0])
  | succ k1 =>
   have H := HA.out
   clear HA
   simp only [laws_heldIntS.l0] at H
   by_cases c3 : x5_1 < (l0.length : Int)
   ·rw [if_pos c3] at H
    have c3b0 : decide (x5_1 < (l0.length : Int)) = true := decide_eq_true c3
    clear c3
    by_cases c4 : 0 ≤ x5_1
    ·rw [if_pos c4] at H
     have c4b0 : decide (0 ≤ x5_1) = true := decide_eq_true c4
     clear c4
     by_cases c5 : (rd l0 x5_1) = x1_1
     ·rw [if_pos c5] at H
      have c5b0 : ((rd l0 x5_1) == x1_1) = true := beq_iff_eq.mpr c5
      have c5b1 : ((rd l0 x5_1) != x1_1) = false := bne_eq_false_iff_eq.mpr c5
      clear c5
      have H' := Aside0.mk H
      clear H
      have p193 : 0 ≤ (x5_1 : Int) := da
      have q193 : x5_1 < (l0.length : Int) := da
      obtain ⟨ad193, e193, hx193_0⟩ := Kd.at_int HR0.out x5_1 p193 q193
      cases e193
      replace p193 := eq_true p193
      replace q193 := eq_true q193
      go_wp2
      go_roundg k1
      case measure => have := HK1.out; omega
      case rel => exact ⟨(wrap64 (x1_1 + 1)), (wrap64 (x5_1 + 1)), rs, rs, H', ⟨by have := HK1.out; omega⟩, by repeat (first | exact Drawn0.refl _ | apply Drawn0.step)⟩
     ·rw [if_neg c5] at H
      have c5b0 : ((rd l0 x5_1) == x1_1) = false := beq_eq_false_iff_ne.mpr c5
      have c5b1 : ((rd l0 x5_1) != x1_1) = true := bne_iff_ne.mpr c5
      obtain rfl := Option.some.inj H
      have p193 : 0 ≤ (x5_1 : Int) := da
      have q193 : x5_1 < (l0.length : Int) := da
      obtain ⟨ad193, e193, hx193_0⟩ := Kd.at_int HR0.out x5_1 p193 q193
      cases e193
      replace p193 := eq_true p193
      replace q193 := eq_true q193
      go_wp2
      go_ret
      exact ⟨rs, by repeat (first | exact Drawn0.refl _ | apply Drawn0.step)⟩
    ·rw [if_neg c4] at H
     exact absurd H (by simp)
   ·rw [if_neg c3] at H
    have c3b0 : decide (x5_1 < (l0.length : Int)) = false := decide_eq_false c3
    clear c3
    obtain rfl := Option.some.inj H
    go_wp2
    go_ret
    exact ⟨rs, by repeat (first | exact Drawn0.refl _ | apply Drawn0.step)⟩

end Go.Proofs.Ytcbbkeojoichnaa.PFnExactSortPeriods
