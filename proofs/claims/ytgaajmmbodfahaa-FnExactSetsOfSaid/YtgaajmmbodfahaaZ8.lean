-- Written by this session's wip/mp/mp.py out of the translation. Lean checks it.
import Derived.Test.YtgaajmmbodfahaaZ0
import Derived.Test.YtgaajmmbodfahaaZ3
import Derived.Test.YtgaajmmbodfahaaZ4
import Derived.Test.YtgaajmmbodfahaaZ5
import Derived.Test.YtgaajmmbodfahaaZ6
import Derived.Test.YtgaajmmbodfahaaZ7
import Derived.Test.YtgaajmmbodfahaaZZone
namespace Go.Proofs.Ytgaajmmbodfahaa.Z
open Go.RowKit Go.Proofs.YtgaajmmbodfahaaW.PrintWords Go.Proofs.YtgaajmmbodfahaaW.PrintLast Go.Proofs.YtgaajmmbodfahaaW.PrintMore
attribute [local go_sem] max2_int min2_int max_two min_two max_three min_three max_four min_four   -- for this text's walks alone
set_option linter.unusedVariables false
set_option linter.unusedSimpArgs false

-- GIVEN
-- FUNCTION loop.example/g00958/laws.FnExactSetsOf rounds
-- LAW
-- IMPORT Derived.Test.YtgaajmmbodfahaaZZone
/-! ### laws_FnExactSetsOf: function 3 -/
def laws_FnExactSetsOf.f (k : Nat) (a0 : Int) (a1 : Int) : Option (Bool) := ((spec_SetsOf.f k a0 a1).bind fun b0 => ((impl_SetsOf.f a0 a1).bind fun b1 => ((laws_eqIntSS.f k b1 b0).bind fun b2 => (if b2 = true then ((laws_markIntSS.f k b1 1).bind fun b4 => ((laws_heldIntSS.f k b4.2 1).bind fun b5 => (if b5 < 0 then (some false) else (if b5 = b4.1 then ((impl_SetsOf.f a0 a1).bind fun b8 => ((laws_eqIntSS.f k b8 b0).bind fun b9 => (if b9 = true then ((laws_heldIntSS.f k b4.2 1).bind fun b11 => (if b11 < 0 then (some false) else (if b11 = b4.1 then (some true) else (some false)))) else (some false)))) else (some false))))) else (some false)))))
set_option maxHeartbeats 8000000 in
set_option maxRecDepth 100000 in
theorem laws_FnExactSetsOf.calls (k : Nat) (a0 : Int) (a1 : Int) (r : Bool) (w : World)  (h : laws_FnExactSetsOf.f k a0 a1 = some r) (hrt : Aside0 (r = true)) :
    Calls Try.prog 3 #[.int .i64 a0, .int .i64 a1] w fun e w' => e = .returned (.bool r) ∧ Below w.heap.size w w' := by
  have HB := Aside0.mk (Below.refl w.heap.size w)
  have HT := Aside0.mk (Nat.le_refl w.heap.size)
  unfold laws_FnExactSetsOf.f at h
  have H := h
  clear h
  obtain ⟨t1, FA0, H⟩ := Option.bind_eq_some_iff.mp H
  (try dsimp only at H)
  replace FA0 := Aside0.mk FA0
  obtain ⟨t3, FA1, H⟩ := Option.bind_eq_some_iff.mp H
  (try dsimp only at H)
  replace FA1 := Aside0.mk FA1
  obtain ⟨t5, FA2, H⟩ := Option.bind_eq_some_iff.mp H
  (try dsimp only at H)
  replace FA2 := Aside0.mk FA2
  by_cases c3 : t5 = true
  rotate_left
  · rw [if_neg c3] at H
    exact absurd ((Option.some.inj H).trans hrt.out) (by decide)
  subst c3
  rw [if_pos rfl] at H
  obtain ⟨⟨t6, t7⟩, FA4, H⟩ := Option.bind_eq_some_iff.mp H
  (try dsimp only at H)
  replace FA4 := Aside0.mk FA4
  obtain ⟨t8, FA5, H⟩ := Option.bind_eq_some_iff.mp H
  (try dsimp only at H)
  replace FA5 := Aside0.mk FA5
  by_cases c6 : t8 < 0
  · rw [if_pos c6] at H
    exact absurd ((Option.some.inj H).trans hrt.out) (by decide)
  rw [if_neg c6] at H
  have cb6 : decide (t8 < 0) = false := decide_eq_false c6
  clear c6
  by_cases c7 : t8 = t6
  rotate_left
  · rw [if_neg c7] at H
    exact absurd ((Option.some.inj H).trans hrt.out) (by decide)
  rw [if_pos c7] at H
  have ce7 : (t8 != t6) = false := bne_eq_false_iff_eq.mpr c7
  have cf7 : (t8 == t6) = true := beq_iff_eq.mpr c7
  clear c7
  obtain ⟨t9, FA8, H⟩ := Option.bind_eq_some_iff.mp H
  (try dsimp only at H)
  replace FA8 := Aside0.mk FA8
  obtain ⟨t11, FA9, H⟩ := Option.bind_eq_some_iff.mp H
  (try dsimp only at H)
  replace FA9 := Aside0.mk FA9
  by_cases c10 : t11 = true
  rotate_left
  · rw [if_neg c10] at H
    exact absurd ((Option.some.inj H).trans hrt.out) (by decide)
  subst c10
  rw [if_pos rfl] at H
  obtain ⟨t12, FA11, H⟩ := Option.bind_eq_some_iff.mp H
  (try dsimp only at H)
  replace FA11 := Aside0.mk FA11
  by_cases c12 : t12 < 0
  · rw [if_pos c12] at H
    exact absurd ((Option.some.inj H).trans hrt.out) (by decide)
  rw [if_neg c12] at H
  have cb12 : decide (t12 < 0) = false := decide_eq_false c12
  clear c12
  by_cases c13 : t12 = t6
  rotate_left
  · rw [if_neg c13] at H
    exact absurd ((Option.some.inj H).trans hrt.out) (by decide)
  rw [if_pos c13] at H
  have ce13 : (t12 != t6) = false := bne_eq_false_iff_eq.mpr c13
  have cf13 : (t12 == t6) = true := beq_iff_eq.mpr c13
  clear c13
  obtain rfl := Option.some.inj H
  go_enter Try.func3, Try.ntmps3
  go_wp2_with (first | ((with_reducible refine gate_callee (f := 5) rfl ?_); refine goesL_ (some 12) rfl rfl Try.func5 (by kernel_rfl) rfl #[.int .i64 a0, .int .i64 a1] rfl (by (try simp only [List.map_toArray, List.map_cons, List.map_nil]); first | done | rfl | (simp only [List.length_drop, List.length_take]; rfl)) ?_; (with_reducible refine (spec_SetsOf.calls k a0 a1 t1 _ FA0.out).mono ?_); rintro e w0_ ⟨v2, rfl, ho0, hb⟩; refine ⟨_, rfl, ?_⟩; obtain ⟨lov2, hiv2, z1_, z2_, z3_, z4_⟩ := S_zone HT.out (by repeat (first | (with_reducible first | exact Below.refl _ _ | apply below_alloc | apply pw_below_drewN | apply below_drew1) | exact Below.refl _ _)) (by repeat (first | (with_reducible first | exact HB.out | apply below_alloc | apply pw_below_drewN | apply below_drew1) | exact HB.out)) hb ho0; have n0_ := Aside0.mk (below_step (by repeat (first | (with_reducible first | exact HB.out | apply below_alloc | apply pw_below_drewN | apply below_drew1) | exact HB.out)) hb); have n1_ := Aside0.mk (z1_); have n2_ := Aside0.mk (z2_); have n3_ := Aside0.mk (z3_); have n4_ := Aside0.mk (z4_); clear HB HT hb ho0 z1_ z2_ z3_ z4_; have HB := n0_; have ZAv2 := n1_; have ZBv2 := n2_; have HT := n3_; have HOv2 := n4_; clear n0_ n1_ n2_ n3_ n4_; obtain ⟨Aov2, cov2, eo_⟩ := Kd.S_slice HOv2.out; subst eo_) | ((with_reducible refine gate_callee (f := 6) rfl ?_); refine goesL_ (some 15) rfl rfl Try.func6 (by kernel_rfl) rfl #[.int .i64 a0, .int .i64 a1] rfl (by (try simp only [List.map_toArray, List.map_cons, List.map_nil]); first | done | rfl | (simp only [List.length_drop, List.length_take]; rfl)) ?_; (with_reducible refine (impl_SetsOf.calls a0 a1 t3 _ FA1.out).mono ?_); rintro e w1_ ⟨v4, rfl, ho0, hb⟩; refine ⟨_, rfl, ?_⟩; obtain ⟨lov4, hiv4, z1_, z2_, z3_, z4_⟩ := S_zone HT.out (by repeat (first | (with_reducible first | exact Below.refl _ _ | apply below_alloc | apply pw_below_drewN | apply below_drew1) | exact Below.refl _ _)) (by repeat (first | (with_reducible first | exact HB.out | apply below_alloc | apply pw_below_drewN | apply below_drew1) | exact HB.out)) hb ho0; have n0_ := Aside0.mk (Kd.S_below HOv2.out (below_step (by repeat (first | (with_reducible first | exact Below.refl _ _ | apply below_alloc | apply pw_below_drewN | apply below_drew1) | exact Below.refl _ _)) hb)); have n1_ := Aside0.mk (below_step (by repeat (first | (with_reducible first | exact HB.out | apply below_alloc | apply pw_below_drewN | apply below_drew1) | exact HB.out)) hb); have n2_ := Aside0.mk (z1_); have n3_ := Aside0.mk (z2_); have n4_ := Aside0.mk (z3_); have n5_ := Aside0.mk (z4_); clear HOv2 HB HT hb ho0 z1_ z2_ z3_ z4_; have HOv2 := n0_; have HB := n1_; have ZAv4 := n2_; have ZBv4 := n3_; have HT := n4_; have HOv4 := n5_; clear n0_ n1_ n2_ n3_ n4_ n5_; obtain ⟨Aov4, cov4, eo_⟩ := Kd.S_slice HOv4.out; subst eo_) | ((with_reducible refine gate_callee (f := 7) rfl ?_); refine goesL_ (some 18) rfl rfl Try.func7 (by kernel_rfl) rfl #[.slice Aov4 t3.length cov4, .slice Aov2 t1.length cov2] rfl (by (try simp only [List.map_toArray, List.map_cons, List.map_nil]); first | done | rfl | (simp only [List.length_drop, List.length_take]; rfl)) ?_; (with_reducible refine (laws_eqIntSS.calls k _ _ t3 _ _ t1 true _ ?side1 ?side2 ?side3 ?side4 FA2.out).mono ?_); (case side1 => exact Kd.C_below (Kd.S_reads' HOv4.out).2.2 (by repeat (first | (with_reducible first | exact Below.refl _ _ | apply below_alloc | apply pw_below_drewN | apply below_drew1) | exact Below.refl _ _))); (case side2 => exact (Kd.S_reads' HOv4.out).2.1); (case side3 => exact Kd.C_below (Kd.S_reads' HOv2.out).2.2 (by repeat (first | (with_reducible first | exact Below.refl _ _ | apply below_alloc | apply pw_below_drewN | apply below_drew1) | exact Below.refl _ _))); (case side4 => exact (Kd.S_reads' HOv2.out).2.1); rintro e w' ⟨rfl, ⟨nd, rfl⟩⟩; refine ⟨_, rfl, ?_⟩) | ((with_reducible refine gate_callee (f := 8) rfl ?_); refine goesL_ (some 22) rfl rfl Try.func8 (by kernel_rfl) rfl #[.slice Aov4 t3.length cov4, .int .i64 1] rfl (by (try simp only [List.map_toArray, List.map_cons, List.map_nil]); first | done | rfl | (simp only [List.length_drop, List.length_take]; rfl)) ?_; (with_reducible refine (laws_markIntSS.calls k (fun k_ => Zone lov4 hiv4 k_) (.slice Aov4 t3.length cov4) t3 1 t6 t7 w _ ?side1 ?side2 FA4.out).mono ?_); (case side1 => exact (by repeat (first | (with_reducible first | exact HB.out | apply below_alloc | apply pw_below_drewN | apply below_drew1) | exact HB.out))); (case side2 => exact Kd.S_below HOv4.out (by repeat (first | (with_reducible first | exact Below.refl _ _ | apply below_alloc | apply pw_below_drewN | apply below_drew1) | exact Below.refl _ _))); rintro e w3_ ⟨rfl, hy0, hb, hkp⟩; refine ⟨_, rfl, ?_⟩; have n0_ := Aside0.mk (Kd.S_kept (Kd.S_below HOv2.out (by repeat (first | (with_reducible first | exact Below.refl _ _ | apply below_alloc | apply pw_below_drewN | apply below_drew1) | exact Below.refl _ _))) hkp (fun k_ hk_ hs_ => zone_apart (by have h0_ := ZAv2.out; have h1_ := ZBv2.out; have h2_ := ZAv4.out; have h3_ := ZBv4.out; omega) hk_ hs_)); have n1_ := Aside0.mk (hy0); have n2_ := Aside0.mk (hb); have n3_ := Aside0.mk (zone_kept HT.out (by repeat (first | (with_reducible first | exact Below.refl _ _ | apply below_alloc | apply pw_below_drewN | apply below_drew1) | exact Below.refl _ _)) hkp); clear HOv2 HOv4 HB HT; have HOv2 := n0_; have HOv4 := n1_; have HB := n2_; have HT := n3_; clear n0_ n1_ n2_ n3_; clear hb hkp hy0) | ((with_reducible refine gate_callee (f := 9) rfl ?_); refine goesL_ (some 25) rfl rfl Try.func9 (by kernel_rfl) rfl #[.slice Aov4 t7.length cov4, .int .i64 1] rfl (by (try simp only [List.map_toArray, List.map_cons, List.map_nil]); first | done | (rw [show t7.length = t3.length from (Kd.S_reads' HOv4.out).1.symm] <;> rfl) | rfl | (simp only [List.length_drop, List.length_take]; rfl)) ?_; (with_reducible refine (laws_heldIntSS.calls k _ _ t7 1 t8 _ ?side1 ?side2 FA5.out).mono ?_); (case side1 => exact Kd.C_below (Kd.S_reads' HOv4.out).2.2 (by repeat (first | (with_reducible first | exact Below.refl _ _ | apply below_alloc | apply pw_below_drewN | apply below_drew1) | exact Below.refl _ _))); (case side2 => rw [show t7.length = t3.length from (Kd.S_reads' HOv4.out).1.symm]; exact (Kd.S_reads' HOv4.out).2.1); rintro e w' ⟨rfl, ⟨nd, rfl⟩⟩; refine ⟨_, rfl, ?_⟩) | ((with_reducible refine gate_callee (f := 6) rfl ?_); refine goesL_ (some 33) rfl rfl Try.func6 (by kernel_rfl) rfl #[.int .i64 a0, .int .i64 a1] rfl (by (try simp only [List.map_toArray, List.map_cons, List.map_nil]); first | done | rfl | (simp only [List.length_drop, List.length_take]; rfl)) ?_; (with_reducible refine (impl_SetsOf.calls a0 a1 t9 _ FA8.out).mono ?_); rintro e w5_ ⟨v10, rfl, ho0, hb⟩; refine ⟨_, rfl, ?_⟩; obtain ⟨lov10, hiv10, z1_, z2_, z3_, z4_⟩ := S_zone HT.out (by repeat (first | (with_reducible first | exact Below.refl _ _ | apply below_alloc | apply pw_below_drewN | apply below_drew1) | exact Below.refl _ _)) (by repeat (first | (with_reducible first | exact HB.out | apply below_alloc | apply pw_below_drewN | apply below_drew1) | exact HB.out)) hb ho0; have n0_ := Aside0.mk (Kd.S_below HOv2.out (below_step (by repeat (first | (with_reducible first | exact Below.refl _ _ | apply below_alloc | apply pw_below_drewN | apply below_drew1) | exact Below.refl _ _)) hb)); have n1_ := Aside0.mk (Kd.S_below HOv4.out (below_step (by repeat (first | (with_reducible first | exact Below.refl _ _ | apply below_alloc | apply pw_below_drewN | apply below_drew1) | exact Below.refl _ _)) hb)); have n2_ := Aside0.mk (below_step (by repeat (first | (with_reducible first | exact HB.out | apply below_alloc | apply pw_below_drewN | apply below_drew1) | exact HB.out)) hb); have n3_ := Aside0.mk (z1_); have n4_ := Aside0.mk (z2_); have n5_ := Aside0.mk (z3_); have n6_ := Aside0.mk (z4_); clear HOv2 HOv4 HB HT hb ho0 z1_ z2_ z3_ z4_; have HOv2 := n0_; have HOv4 := n1_; have HB := n2_; have ZAv10 := n3_; have ZBv10 := n4_; have HT := n5_; have HOv10 := n6_; clear n0_ n1_ n2_ n3_ n4_ n5_ n6_; obtain ⟨Aov10, cov10, eo_⟩ := Kd.S_slice HOv10.out; subst eo_) | ((with_reducible refine gate_callee (f := 7) rfl ?_); refine goesL_ (some 36) rfl rfl Try.func7 (by kernel_rfl) rfl #[.slice Aov10 t9.length cov10, .slice Aov2 t1.length cov2] rfl (by (try simp only [List.map_toArray, List.map_cons, List.map_nil]); first | done | rfl | (simp only [List.length_drop, List.length_take]; rfl)) ?_; (with_reducible refine (laws_eqIntSS.calls k _ _ t9 _ _ t1 true _ ?side1 ?side2 ?side3 ?side4 FA9.out).mono ?_); (case side1 => exact Kd.C_below (Kd.S_reads' HOv10.out).2.2 (by repeat (first | (with_reducible first | exact Below.refl _ _ | apply below_alloc | apply pw_below_drewN | apply below_drew1) | exact Below.refl _ _))); (case side2 => exact (Kd.S_reads' HOv10.out).2.1); (case side3 => exact Kd.C_below (Kd.S_reads' HOv2.out).2.2 (by repeat (first | (with_reducible first | exact Below.refl _ _ | apply below_alloc | apply pw_below_drewN | apply below_drew1) | exact Below.refl _ _))); (case side4 => exact (Kd.S_reads' HOv2.out).2.1); rintro e w' ⟨rfl, ⟨nd, rfl⟩⟩; refine ⟨_, rfl, ?_⟩) | ((with_reducible refine gate_callee (f := 9) rfl ?_); refine goesL_ (some 40) rfl rfl Try.func9 (by kernel_rfl) rfl #[.slice Aov4 t7.length cov4, .int .i64 1] rfl (by (try simp only [List.map_toArray, List.map_cons, List.map_nil]); first | done | (rw [show t7.length = t3.length from (Kd.S_reads' HOv4.out).1.symm] <;> rfl) | rfl | (simp only [List.length_drop, List.length_take]; rfl)) ?_; (with_reducible refine (laws_heldIntSS.calls k _ _ t7 1 t12 _ ?side1 ?side2 FA11.out).mono ?_); (case side1 => exact Kd.C_below (Kd.S_reads' HOv4.out).2.2 (by repeat (first | (with_reducible first | exact Below.refl _ _ | apply below_alloc | apply pw_below_drewN | apply below_drew1) | exact Below.refl _ _))); (case side2 => rw [show t7.length = t3.length from (Kd.S_reads' HOv4.out).1.symm]; exact (Kd.S_reads' HOv4.out).2.1); rintro e w' ⟨rfl, ⟨nd, rfl⟩⟩; refine ⟨_, rfl, ?_⟩))
  go_ret
  exact ⟨by first | rfl | (simp; done) | (simp [*]; done), by repeat (first | (with_reducible first | exact HB.out | apply below_alloc | apply pw_below_drewN | apply below_drew1) | exact HB.out)⟩

end Go.Proofs.Ytgaajmmbodfahaa.Z
