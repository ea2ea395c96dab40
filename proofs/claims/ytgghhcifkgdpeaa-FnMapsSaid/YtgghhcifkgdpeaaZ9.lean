-- Written by this session's wip/mp/mp.py out of the translation. Lean checks it.
import Derived.Test.YtgghhcifkgdpeaaZ0
import Derived.Test.YtgghhcifkgdpeaaZ6
import Derived.Test.YtgghhcifkgdpeaaZ7
import Derived.Test.YtgghhcifkgdpeaaZ8
namespace Go.Proofs.Ytgghhcifkgdpeaa.Z
open Go.RowKit Go.Proofs.YtgghhcifkgdpeaaW.PrintWords Go.Proofs.YtgghhcifkgdpeaaW.PrintLast Go.Proofs.YtgghhcifkgdpeaaW.PrintMore
attribute [local go_sem] max2_int min2_int max_two min_two max_three min_three max_four min_four   -- for this text's walks alone
set_option linter.unusedVariables false
set_option linter.unusedSimpArgs false

/-! ### spec_RouteTo: function 141 -/
mutual
def spec_RouteTo.j0 : Nat → Int → Int → List Int → Bool → Int → List (S63) → Option (List Int)
 | 0, _, _, _, _, _, _ => none
 | k + 1, x1, x2, x7, x37, x184000, x184001 => if x37 = true then (some x7) else (spec_RouteTo.l0 k x1 x2 x7 (([] : List Int)) 0 x184000 x184001)
def spec_RouteTo.l0 : Nat → Int → Int → List Int → List Int → Int → Int → List (S63) → Option (List Int)
 | 0, _, _, _, _, _, _, _ => none
 | k + 1, x1, x2, x7, x8, x9, x184000, x184001 => if x9 < x184000 then (if x8.length < 17592186044416 then (spec_RouteTo.l0 k x1 x2 x7 (x8 ++ [(-1)]) (wrap64 (x9 + 1)) x184000 x184001) else (none)) else (if 0 ≤ x2 then (if x2 < (x8.length : Int) then (spec_RouteTo.l1 k x1 x2 x7 (x8.set (x2 : Int).toNat 0) 0 x184000 x184001) else (none)) else (none))
def spec_RouteTo.l1 : Nat → Int → Int → List Int → List Int → Int → Int → List (S63) → Option (List Int)
 | 0, _, _, _, _, _, _, _ => none
 | k + 1, x1, x2, x7, x8, x10, x184000, x184001 => if x10 < x184000 then (spec_RouteTo.l2 k x1 x2 x7 x8 x10 0 x184000 x184001) else (if 0 ≤ x1 then (if x1 < (x8.length : Int) then (if (rd x8 x1) < 0 then (some x7) else (spec_RouteTo.l3 k x2 x7 x8 x1 x184000 x184001)) else (none)) else (none))
def spec_RouteTo.l2 : Nat → Int → Int → List Int → List Int → Int → Int → Int → List (S63) → Option (List Int)
 | 0, _, _, _, _, _, _, _, _ => none
 | k + 1, x1, x2, x7, x8, x10, x11, x184000, x184001 => if x11 < (x184001.length : Int) then (if 0 ≤ x11 then (if 0 ≤ ((rd_T63 x184001 x11).f0) then (if ((rd_T63 x184001 x11).f0) < (x8.length : Int) then (if (rd x8 ((rd_T63 x184001 x11).f0)) = x10 then (if 0 ≤ ((rd_T63 x184001 x11).f1) then (if ((rd_T63 x184001 x11).f1) < (x8.length : Int) then (spec_RouteTo.j4 k x1 x2 x7 x8 x10 x11 ((rd_T63 x184001 x11).f0) ((rd_T63 x184001 x11).f1) (decide ((rd x8 ((rd_T63 x184001 x11).f1)) < 0)) x184000 x184001) else (none)) else (none)) else (spec_RouteTo.j4 k x1 x2 x7 x8 x10 x11 ((rd_T63 x184001 x11).f0) ((rd_T63 x184001 x11).f1) false x184000 x184001)) else (none)) else (none)) else (none)) else (spec_RouteTo.l1 k x1 x2 x7 x8 (wrap64 (x10 + 1)) x184000 x184001)
def spec_RouteTo.j4 : Nat → Int → Int → List Int → List Int → Int → Int → Int → Int → Bool → Int → List (S63) → Option (List Int)
 | 0, _, _, _, _, _, _, _, _, _, _, _ => none
 | k + 1, x1, x2, x7, x8, x10, x11, x12, x13, x89, x184000, x184001 => if x89 = true then (if 0 ≤ x13 then (if x13 < (x8.length : Int) then ((some (x8.set (x13 : Int).toNat (wrap64 (x10 + 1)) : List Int)).bind fun y201 => (if (rd y201 x13) = x10 then (if 0 ≤ x12 then (if x12 < (x8.length : Int) then (if (rd y201 x12) < 0 then (spec_RouteTo.l2 k x1 x2 x7 (y201.set (x12 : Int).toNat (wrap64 (x10 + 1))) x10 (wrap64 (x11 + 1)) x184000 x184001) else (spec_RouteTo.l2 k x1 x2 x7 y201 x10 (wrap64 (x11 + 1)) x184000 x184001)) else (none)) else (none)) else (spec_RouteTo.l2 k x1 x2 x7 y201 x10 (wrap64 (x11 + 1)) x184000 x184001))) else (none)) else (none)) else (if 0 ≤ x13 then (if x13 < (x8.length : Int) then (if (rd x8 x13) = x10 then (if 0 ≤ x12 then (if x12 < (x8.length : Int) then (if (rd x8 x12) < 0 then (spec_RouteTo.l2 k x1 x2 x7 (x8.set (x12 : Int).toNat (wrap64 (x10 + 1))) x10 (wrap64 (x11 + 1)) x184000 x184001) else (spec_RouteTo.l2 k x1 x2 x7 x8 x10 (wrap64 (x11 + 1)) x184000 x184001)) else (none)) else (none)) else (spec_RouteTo.l2 k x1 x2 x7 x8 x10 (wrap64 (x11 + 1)) x184000 x184001)) else (none)) else (none))
def spec_RouteTo.l3 : Nat → Int → List Int → List Int → Int → Int → List (S63) → Option (List Int)
 | 0, _, _, _, _, _, _ => none
 | k + 1, x2, x7, x8, x14, x184000, x184001 => if x14 = x2 then (some x7) else (spec_RouteTo.l4 k x2 x7 x8 x14 (-1) 0 x184000 x184001)
def spec_RouteTo.l4 : Nat → Int → List Int → List Int → Int → Int → Int → Int → List (S63) → Option (List Int)
 | 0, _, _, _, _, _, _, _, _ => none
 | k + 1, x2, x7, x8, x14, x15, x16, x184000, x184001 => if x16 < (x184001.length : Int) then (spec_RouteTo.j7 k x2 x7 x8 x14 x15 x16 (decide (x15 < 0)) x184000 x184001) else (spec_RouteTo.j7 k x2 x7 x8 x14 x15 x16 false x184000 x184001)
def spec_RouteTo.j7 : Nat → Int → List Int → List Int → Int → Int → Int → Bool → Int → List (S63) → Option (List Int)
 | 0, _, _, _, _, _, _, _, _, _ => none
 | k + 1, x2, x7, x8, x14, x15, x16, x131, x184000, x184001 => if x131 = true then ((spec_EndOf.f k x184000 x184001 (([x16] : List Int)) x14).bind fun t212 => (if t212 ≥ 0 then (if 0 ≤ t212 then (if t212 < (x8.length : Int) then (if 0 ≤ x14 then (if x14 < (x8.length : Int) then (if (rd x8 t212) = (wrap64 ((rd x8 x14) - 1)) then (spec_RouteTo.l4 k x2 x7 x8 x14 x16 (wrap64 (x16 + 1)) x184000 x184001) else (spec_RouteTo.l4 k x2 x7 x8 x14 x15 (wrap64 (x16 + 1)) x184000 x184001)) else (none)) else (none)) else (none)) else (none)) else (spec_RouteTo.l4 k x2 x7 x8 x14 x15 (wrap64 (x16 + 1)) x184000 x184001))) else (if x7.length < 17592186044416 then ((spec_EndOf.f k x184000 x184001 (([x15] : List Int)) x14).bind fun t221 => (spec_RouteTo.l3 k x2 (x7 ++ [x15]) x8 t221 x184000 x184001)) else (none))
end
def spec_RouteTo.f (k : Nat) (a0_0 : Int) (l0_1 : List (S63)) (a1 : Int) (a2 : Int) : Option (List Int) := (some (([] : List Int) : List Int)).bind fun y184 => ((spec_IsNet.f k a0_0 l0_1).bind fun t187 => (if t187 = true then ((spec_l1In.f a1 0 (wrap64 (a0_0 - 1))).bind fun t188 => (if t188 = true then ((spec_l1In.f a2 0 (wrap64 (a0_0 - 1))).bind fun t189 => (spec_RouteTo.j0 k a1 a2 y184 (!t189) a0_0 l0_1)) else (spec_RouteTo.j0 k a1 a2 y184 true a0_0 l0_1))) else (spec_RouteTo.j0 k a1 a2 y184 true a0_0 l0_1)))
theorem spec_RouteTo.mono_l : ∀ k, (∀ y0 y1 y2 y3 y4 y5, LeO (spec_RouteTo.j0 k y0 y1 y2 y3 y4 y5) (spec_RouteTo.j0 (k + 1) y0 y1 y2 y3 y4 y5)) ∧ (∀ y0 y1 y2 y3 y4 y5 y6, LeO (spec_RouteTo.l0 k y0 y1 y2 y3 y4 y5 y6) (spec_RouteTo.l0 (k + 1) y0 y1 y2 y3 y4 y5 y6)) ∧ (∀ y0 y1 y2 y3 y4 y5 y6, LeO (spec_RouteTo.l1 k y0 y1 y2 y3 y4 y5 y6) (spec_RouteTo.l1 (k + 1) y0 y1 y2 y3 y4 y5 y6)) ∧ (∀ y0 y1 y2 y3 y4 y5 y6 y7, LeO (spec_RouteTo.l2 k y0 y1 y2 y3 y4 y5 y6 y7) (spec_RouteTo.l2 (k + 1) y0 y1 y2 y3 y4 y5 y6 y7)) ∧ (∀ y0 y1 y2 y3 y4 y5 y6 y7 y8 y9 y10, LeO (spec_RouteTo.j4 k y0 y1 y2 y3 y4 y5 y6 y7 y8 y9 y10) (spec_RouteTo.j4 (k + 1) y0 y1 y2 y3 y4 y5 y6 y7 y8 y9 y10)) ∧ (∀ y0 y1 y2 y3 y4 y5, LeO (spec_RouteTo.l3 k y0 y1 y2 y3 y4 y5) (spec_RouteTo.l3 (k + 1) y0 y1 y2 y3 y4 y5)) ∧ (∀ y0 y1 y2 y3 y4 y5 y6 y7, LeO (spec_RouteTo.l4 k y0 y1 y2 y3 y4 y5 y6 y7) (spec_RouteTo.l4 (k + 1) y0 y1 y2 y3 y4 y5 y6 y7)) ∧ (∀ y0 y1 y2 y3 y4 y5 y6 y7 y8, LeO (spec_RouteTo.j7 k y0 y1 y2 y3 y4 y5 y6 y7 y8) (spec_RouteTo.j7 (k + 1) y0 y1 y2 y3 y4 y5 y6 y7 y8))
 | 0 => ⟨fun _ _ _ _ _ _ r h => by simp [spec_RouteTo.j0] at h, fun _ _ _ _ _ _ _ r h => by simp [spec_RouteTo.l0] at h, fun _ _ _ _ _ _ _ r h => by simp [spec_RouteTo.l1] at h, fun _ _ _ _ _ _ _ _ r h => by simp [spec_RouteTo.l2] at h, fun _ _ _ _ _ _ _ _ _ _ _ r h => by simp [spec_RouteTo.j4] at h, fun _ _ _ _ _ _ r h => by simp [spec_RouteTo.l3] at h, fun _ _ _ _ _ _ _ _ r h => by simp [spec_RouteTo.l4] at h, fun _ _ _ _ _ _ _ _ _ r h => by simp [spec_RouteTo.j7] at h⟩
 | k + 1 => by
  obtain ⟨ih0, ih1, ih2, ih3, ih4, ih5, ih6, ih7⟩ := spec_RouteTo.mono_l k
  refine ⟨?_, ?_, ?_, ?_, ?_, ?_, ?_, ?_⟩
  ·intro y0 y1 y2 y3 y4 y5
   unfold spec_RouteTo.j0
   repeat' first
   | (with_reducible exact ih0 _ _ _ _ _ _)
   | (with_reducible exact ih1 _ _ _ _ _ _ _)
   | (with_reducible exact ih2 _ _ _ _ _ _ _)
   | (with_reducible exact ih3 _ _ _ _ _ _ _ _)
   | (with_reducible exact ih4 _ _ _ _ _ _ _ _ _ _ _)
   | (with_reducible exact ih5 _ _ _ _ _ _)
   | (with_reducible exact ih6 _ _ _ _ _ _ _ _)
   | (with_reducible exact ih7 _ _ _ _ _ _ _ _ _)
   | (with_reducible exact spec_EndOf.mono _ _ _ _ _)
   | (with_reducible exact spec_IsNet.mono _ _ _)
   | (with_reducible exact LeO.refl _)
   | (with_reducible exact LeO.none _)
   | (with_reducible refine LeO.ite ?_ ?_)
   | (with_reducible refine LeO.bind ?_ (fun _ => ?_))
   | exact ih0 _ _ _ _ _ _
   | exact ih1 _ _ _ _ _ _ _
   | exact ih2 _ _ _ _ _ _ _
   | exact ih3 _ _ _ _ _ _ _ _
   | exact ih4 _ _ _ _ _ _ _ _ _ _ _
   | exact ih5 _ _ _ _ _ _
   | exact ih6 _ _ _ _ _ _ _ _
   | exact ih7 _ _ _ _ _ _ _ _ _
   | exact spec_EndOf.mono _ _ _ _ _
   | exact spec_IsNet.mono _ _ _
   | exact LeO.none _
   | refine LeO.ite ?_ ?_
   | refine LeO.bind ?_ (fun _ => ?_)
  ·intro y0 y1 y2 y3 y4 y5 y6
   unfold spec_RouteTo.l0
   repeat' first
   | (with_reducible exact ih0 _ _ _ _ _ _)
   | (with_reducible exact ih1 _ _ _ _ _ _ _)
   | (with_reducible exact ih2 _ _ _ _ _ _ _)
   | (with_reducible exact ih3 _ _ _ _ _ _ _ _)
   | (with_reducible exact ih4 _ _ _ _ _ _ _ _ _ _ _)
   | (with_reducible exact ih5 _ _ _ _ _ _)
   | (with_reducible exact ih6 _ _ _ _ _ _ _ _)
   | (with_reducible exact ih7 _ _ _ _ _ _ _ _ _)
   | (with_reducible exact spec_EndOf.mono _ _ _ _ _)
   | (with_reducible exact spec_IsNet.mono _ _ _)
   | (with_reducible exact LeO.refl _)
   | (with_reducible exact LeO.none _)
   | (with_reducible refine LeO.ite ?_ ?_)
   | (with_reducible refine LeO.bind ?_ (fun _ => ?_))
   | exact ih0 _ _ _ _ _ _
   | exact ih1 _ _ _ _ _ _ _
   | exact ih2 _ _ _ _ _ _ _
   | exact ih3 _ _ _ _ _ _ _ _
   | exact ih4 _ _ _ _ _ _ _ _ _ _ _
   | exact ih5 _ _ _ _ _ _
   | exact ih6 _ _ _ _ _ _ _ _
   | exact ih7 _ _ _ _ _ _ _ _ _
   | exact spec_EndOf.mono _ _ _ _ _
   | exact spec_IsNet.mono _ _ _
   | exact LeO.none _
   | refine LeO.ite ?_ ?_
   | refine LeO.bind ?_ (fun _ => ?_)
  ·intro y0 y1 y2 y3 y4 y5 y6
   unfold spec_RouteTo.l1
   repeat' first
   | (with_reducible exact ih0 _ _ _ _ _ _)
   | (with_reducible exact ih1 _ _ _ _ _ _ _)
   | (with_reducible exact ih2 _ _ _ _ _ _ _)
   | (with_reducible exact ih3 _ _ _ _ _ _ _ _)
   | (with_reducible exact ih4 _ _ _ _ _ _ _ _ _ _ _)
   | (with_reducible exact ih5 _ _ _ _ _ _)
   | (with_reducible exact ih6 _ _ _ _ _ _ _ _)
   | (with_reducible exact ih7 _ _ _ _ _ _ _ _ _)
   | (with_reducible exact spec_EndOf.mono _ _ _ _ _)
   | (with_reducible exact spec_IsNet.mono _ _ _)
   | (with_reducible exact LeO.refl _)
   | (with_reducible exact LeO.none _)
   | (with_reducible refine LeO.ite ?_ ?_)
   | (with_reducible refine LeO.bind ?_ (fun _ => ?_))
   | exact ih0 _ _ _ _ _ _
   | exact ih1 _ _ _ _ _ _ _
   | exact ih2 _ _ _ _ _ _ _
   | exact ih3 _ _ _ _ _ _ _ _
   | exact ih4 _ _ _ _ _ _ _ _ _ _ _
   | exact ih5 _ _ _ _ _ _
   | exact ih6 _ _ _ _ _ _ _ _
   | exact ih7 _ _ _ _ _ _ _ _ _
   | exact spec_EndOf.mono _ _ _ _ _
   | exact spec_IsNet.mono _ _ _
   | exact LeO.none _
   | refine LeO.ite ?_ ?_
   | refine LeO.bind ?_ (fun _ => ?_)
  ·intro y0 y1 y2 y3 y4 y5 y6 y7
   unfold spec_RouteTo.l2
   repeat' first
   | (with_reducible exact ih0 _ _ _ _ _ _)
   | (with_reducible exact ih1 _ _ _ _ _ _ _)
   | (with_reducible exact ih2 _ _ _ _ _ _ _)
   | (with_reducible exact ih3 _ _ _ _ _ _ _ _)
   | (with_reducible exact ih4 _ _ _ _ _ _ _ _ _ _ _)
   | (with_reducible exact ih5 _ _ _ _ _ _)
   | (with_reducible exact ih6 _ _ _ _ _ _ _ _)
   | (with_reducible exact ih7 _ _ _ _ _ _ _ _ _)
   | (with_reducible exact spec_EndOf.mono _ _ _ _ _)
   | (with_reducible exact spec_IsNet.mono _ _ _)
   | (with_reducible exact LeO.refl _)
   | (with_reducible exact LeO.none _)
   | (with_reducible refine LeO.ite ?_ ?_)
   | (with_reducible refine LeO.bind ?_ (fun _ => ?_))
   | exact ih0 _ _ _ _ _ _
   | exact ih1 _ _ _ _ _ _ _
   | exact ih2 _ _ _ _ _ _ _
   | exact ih3 _ _ _ _ _ _ _ _
   | exact ih4 _ _ _ _ _ _ _ _ _ _ _
   | exact ih5 _ _ _ _ _ _
   | exact ih6 _ _ _ _ _ _ _ _
   | exact ih7 _ _ _ _ _ _ _ _ _
   | exact spec_EndOf.mono _ _ _ _ _
   | exact spec_IsNet.mono _ _ _
   | exact LeO.none _
   | refine LeO.ite ?_ ?_
   | refine LeO.bind ?_ (fun _ => ?_)
  ·intro y0 y1 y2 y3 y4 y5 y6 y7 y8 y9 y10
   unfold spec_RouteTo.j4
   repeat' first
   | (with_reducible exact ih0 _ _ _ _ _ _)
   | (with_reducible exact ih1 _ _ _ _ _ _ _)
   | (with_reducible exact ih2 _ _ _ _ _ _ _)
   | (with_reducible exact ih3 _ _ _ _ _ _ _ _)
   | (with_reducible exact ih4 _ _ _ _ _ _ _ _ _ _ _)
   | (with_reducible exact ih5 _ _ _ _ _ _)
   | (with_reducible exact ih6 _ _ _ _ _ _ _ _)
   | (with_reducible exact ih7 _ _ _ _ _ _ _ _ _)
   | (with_reducible exact spec_EndOf.mono _ _ _ _ _)
   | (with_reducible exact spec_IsNet.mono _ _ _)
   | (with_reducible exact LeO.refl _)
   | (with_reducible exact LeO.none _)
   | (with_reducible refine LeO.ite ?_ ?_)
   | (with_reducible refine LeO.bind ?_ (fun _ => ?_))
   | exact ih0 _ _ _ _ _ _
   | exact ih1 _ _ _ _ _ _ _
   | exact ih2 _ _ _ _ _ _ _
   | exact ih3 _ _ _ _ _ _ _ _
   | exact ih4 _ _ _ _ _ _ _ _ _ _ _
   | exact ih5 _ _ _ _ _ _
   | exact ih6 _ _ _ _ _ _ _ _
   | exact ih7 _ _ _ _ _ _ _ _ _
   | exact spec_EndOf.mono _ _ _ _ _
   | exact spec_IsNet.mono _ _ _
   | exact LeO.none _
   | refine LeO.ite ?_ ?_
   | refine LeO.bind ?_ (fun _ => ?_)
  ·intro y0 y1 y2 y3 y4 y5
   unfold spec_RouteTo.l3
   repeat' first
   | (with_reducible exact ih0 _ _ _ _ _ _)
   | (with_reducible exact ih1 _ _ _ _ _ _ _)
   | (with_reducible exact ih2 _ _ _ _ _ _ _)
   | (with_reducible exact ih3 _ _ _ _ _ _ _ _)
   | (with_reducible exact ih4 _ _ _ _ _ _ _ _ _ _ _)
   | (with_reducible exact ih5 _ _ _ _ _ _)
   | (with_reducible exact ih6 _ _ _ _ _ _ _ _)
   | (with_reducible exact ih7 _ _ _ _ _ _ _ _ _)
   | (with_reducible exact spec_EndOf.mono _ _ _ _ _)
   | (with_reducible exact spec_IsNet.mono _ _ _)
   | (with_reducible exact LeO.refl _)
   | (with_reducible exact LeO.none _)
   | (with_reducible refine LeO.ite ?_ ?_)
   | (with_reducible refine LeO.bind ?_ (fun _ => ?_))
   | exact ih0 _ _ _ _ _ _
   | exact ih1 _ _ _ _ _ _ _
   | exact ih2 _ _ _ _ _ _ _
   | exact ih3 _ _ _ _ _ _ _ _
   | exact ih4 _ _ _ _ _ _ _ _ _ _ _
   | exact ih5 _ _ _ _ _ _
   | exact ih6 _ _ _ _ _ _ _ _
   | exact ih7 _ _ _ _ _ _ _ _ _
   | exact spec_EndOf.mono _ _ _ _ _
   | exact spec_IsNet.mono _ _ _
   | exact LeO.none _
   | refine LeO.ite ?_ ?_
   | refine LeO.bind ?_ (fun _ => ?_)
  ·intro y0 y1 y2 y3 y4 y5 y6 y7
   unfold spec_RouteTo.l4
   repeat' first
   | (with_reducible exact ih0 _ _ _ _ _ _)
   | (with_reducible exact ih1 _ _ _ _ _ _ _)
   | (with_reducible exact ih2 _ _ _ _ _ _ _)
   | (with_reducible exact ih3 _ _ _ _ _ _ _ _)
   | (with_reducible exact ih4 _ _ _ _ _ _ _ _ _ _ _)
   | (with_reducible exact ih5 _ _ _ _ _ _)
   | (with_reducible exact ih6 _ _ _ _ _ _ _ _)
   | (with_reducible exact ih7 _ _ _ _ _ _ _ _ _)
   | (with_reducible exact spec_EndOf.mono _ _ _ _ _)
   | (with_reducible exact spec_IsNet.mono _ _ _)
   | (with_reducible exact LeO.refl _)
   | (with_reducible exact LeO.none _)
   | (with_reducible refine LeO.ite ?_ ?_)
   | (with_reducible refine LeO.bind ?_ (fun _ => ?_))
   | exact ih0 _ _ _ _ _ _
   | exact ih1 _ _ _ _ _ _ _
   | exact ih2 _ _ _ _ _ _ _
   | exact ih3 _ _ _ _ _ _ _ _
   | exact ih4 _ _ _ _ _ _ _ _ _ _ _
   | exact ih5 _ _ _ _ _ _
   | exact ih6 _ _ _ _ _ _ _ _
   | exact ih7 _ _ _ _ _ _ _ _ _
   | exact spec_EndOf.mono _ _ _ _ _
   | exact spec_IsNet.mono _ _ _
   | exact LeO.none _
   | refine LeO.ite ?_ ?_
   | refine LeO.bind ?_ (fun _ => ?_)
  ·intro y0 y1 y2 y3 y4 y5 y6 y7 y8
   unfold spec_RouteTo.j7
   repeat' first
   | (with_reducible exact ih0 _ _ _ _ _ _)
   | (with_reducible exact ih1 _ _ _ _ _ _ _)
   | (with_reducible exact ih2 _ _ _ _ _ _ _)
   | (with_reducible exact ih3 _ _ _ _ _ _ _ _)
   | (with_reducible exact ih4 _ _ _ _ _ _ _ _ _ _ _)
   | (with_reducible exact ih5 _ _ _ _ _ _)
   | (with_reducible exact ih6 _ _ _ _ _ _ _ _)
   | (with_reducible exact ih7 _ _ _ _ _ _ _ _ _)
   | (with_reducible exact spec_EndOf.mono _ _ _ _ _)
   | (with_reducible exact spec_IsNet.mono _ _ _)
   | (with_reducible exact LeO.refl _)
   | (with_reducible exact LeO.none _)
   | (with_reducible refine LeO.ite ?_ ?_)
   | (with_reducible refine LeO.bind ?_ (fun _ => ?_))
   | exact ih0 _ _ _ _ _ _
   | exact ih1 _ _ _ _ _ _ _
   | exact ih2 _ _ _ _ _ _ _
   | exact ih3 _ _ _ _ _ _ _ _
   | exact ih4 _ _ _ _ _ _ _ _ _ _ _
   | exact ih5 _ _ _ _ _ _
   | exact ih6 _ _ _ _ _ _ _ _
   | exact ih7 _ _ _ _ _ _ _ _ _
   | exact spec_EndOf.mono _ _ _ _ _
   | exact spec_IsNet.mono _ _ _
   | exact LeO.none _
   | refine LeO.ite ?_ ?_
   | refine LeO.bind ?_ (fun _ => ?_)
theorem spec_RouteTo.mono : ∀ a0 a1 a2 a3 k, LeO (spec_RouteTo.f k a0 a1 a2 a3) (spec_RouteTo.f (k + 1) a0 a1 a2 a3) := by
 intro a0 a1 a2 a3 k
 obtain ⟨ih0, ih1, ih2, ih3, ih4, ih5, ih6, ih7⟩ := spec_RouteTo.mono_l k
 unfold spec_RouteTo.f
 repeat' first
   | (with_reducible exact ih0 _ _ _ _ _ _)
   | (with_reducible exact ih1 _ _ _ _ _ _ _)
   | (with_reducible exact ih2 _ _ _ _ _ _ _)
   | (with_reducible exact ih3 _ _ _ _ _ _ _ _)
   | (with_reducible exact ih4 _ _ _ _ _ _ _ _ _ _ _)
   | (with_reducible exact ih5 _ _ _ _ _ _)
   | (with_reducible exact ih6 _ _ _ _ _ _ _ _)
   | (with_reducible exact ih7 _ _ _ _ _ _ _ _ _)
   | (with_reducible exact spec_EndOf.mono _ _ _ _ _)
   | (with_reducible exact spec_IsNet.mono _ _ _)
   | (with_reducible exact LeO.refl _)
   | (with_reducible exact LeO.none _)
   | (with_reducible refine LeO.ite ?_ ?_)
   | (with_reducible refine LeO.bind ?_ (fun _ => ?_))
   | exact ih0 _ _ _ _ _ _
   | exact ih1 _ _ _ _ _ _ _
   | exact ih2 _ _ _ _ _ _ _
   | exact ih3 _ _ _ _ _ _ _ _
   | exact ih4 _ _ _ _ _ _ _ _ _ _ _
   | exact ih5 _ _ _ _ _ _
   | exact ih6 _ _ _ _ _ _ _ _
   | exact ih7 _ _ _ _ _ _ _ _ _
   | exact spec_EndOf.mono _ _ _ _ _
   | exact spec_IsNet.mono _ _ _
   | exact LeO.none _
   | refine LeO.ite ?_ ?_
   | refine LeO.bind ?_ (fun _ => ?_)
set_option maxHeartbeats 8000000 in
set_option maxRecDepth 100000 in
theorem spec_RouteTo.calls (k : Nat) (a0_0 : Int) (A0_1 : Option Addr) (c0_1 : Nat) (l0_1 : List (S63)) (a1 : Int) (a2 : Int) (r : List Int) (w : World) (hr0_1 : Kd.C k63 w A0_1 l0_1.length l0_1) (hc0_1 : l0_1.length ≤ c0_1) (h : spec_RouteTo.f k a0_0 l0_1 a1 a2 = some r) :
  Calls Try.prog 141 #[.agg #[.int .i64 a0_0, .slice A0_1 l0_1.length c0_1], .int .i64 a1, .int .i64 a2] w fun e w' => ∃ v0_ : Value, e = .returned (v0_) ∧ Kd.R (Kd.int .i64) 3 w' w.heap.size (fun _ => True) v0_ r ∧ Below w.heap.size w w' := by
 have hu54 := Try.underlying54
 have HR0_1 := Aside0.mk hr0_1
 have HC0_1 := Aside0.mk hc0_1
 clear hr0_1 hc0_1
 have HB := Aside0.mk (Below.refl w.heap.size w)
 have H : ((some (([] : List Int) : List Int)).bind fun y184 => ((spec_IsNet.f k a0_0 l0_1).bind fun t187 => (if t187 = true then ((spec_l1In.f a1 0 (wrap64 (a0_0 - 1))).bind fun t188 => (if t188 = true then ((spec_l1In.f a2 0 (wrap64 (a0_0 - 1))).bind fun t189 => (spec_RouteTo.j0 k a1 a2 y184 (!t189) a0_0 l0_1)) else (spec_RouteTo.j0 k a1 a2 y184 true a0_0 l0_1))) else (spec_RouteTo.j0 k a1 a2 y184 true a0_0 l0_1)))) = some r := h
 clear h
 obtain ⟨y184, hy184⟩ : ∃ y_ : List Int, y_ = (([] : List Int)) := ⟨_, rfl⟩
 replace H : ((spec_IsNet.f k a0_0 l0_1).bind fun t187 => (if t187 = true then ((spec_l1In.f a1 0 (wrap64 (a0_0 - 1))).bind fun t188 => (if t188 = true then ((spec_l1In.f a2 0 (wrap64 (a0_0 - 1))).bind fun t189 => (spec_RouteTo.j0 k a1 a2 y184 (!t189) a0_0 l0_1)) else (spec_RouteTo.j0 k a1 a2 y184 true a0_0 l0_1))) else (spec_RouteTo.j0 k a1 a2 y184 true a0_0 l0_1))) = some r := by first | (rw [hy184]; with_reducible exact H) | (have H2_ := (Option.bind_some _ _).symm.trans H; rw [hy184]; with_reducible exact H2_) | (have H2_ := (Option.bind_some _ _).symm.trans H; with_reducible exact H2_) | with_reducible exact H | (rw [hy184]; exact H) | exact H
 have Ny184 := Aside0.mk hy184
 clear hy184
 have HC4 := Aside0.mk H
 clear H
 go_enter Try.func141, Try.ntmps141
 go_upto_region 2 with (first | ((with_reducible refine gate_dst (N := 3) rfl ?_); refine box_event ?hg (N := 3) ?hd (cs := #[.int .i64 a0_0, .slice A0_1 l0_1.length c0_1]) (t := 54) ?hr ?_; (case hd => rfl); (case hg => rfl); (case hr => first | (go_simp; done) | (go_simp; rfl)); intro gb183 hg w5 hbox hb; have n0_ := Aside0.mk (below_step (bw0_ HB) hb); have n1_ := Aside0.mk (hbox); have n2_ := Aside0.mk ((by rw [hg]; exact (below_size (bw0_ HB)) : w.heap.size ≤ gb183)); have n3_ := Aside0.mk ((by rw [hg]; exact (below_size (bw0_ HB)) : w.heap.size ≤ gb183)); clear HB; have HB := n0_; have BK183 := n1_; have GW183 := n2_; have GE183 := n3_; clear n0_ n1_ n2_ n3_; clear hb hbox hg) | ((with_reducible refine gate_dst (N := 18) rfl ?_); refine Kd.R_lit (Kd.int .i64) _ 3 ?hg (N := 18) ?hd (xs := ([] : List Int)) (inner := []) (ok := fun _ => True) (okp := fun _ => True) ?hr ?hp (fun _ hk => hk) trivial (Below.refl _ _) (Nat.le_refl _) (by simp) ?_; (case hd => rfl); (case hg => rfl); (case hr => first | (go_simp; done) | (go_simp; rfl)); (case hp => exact (Reps.none _ _)); intro v185 w6 ho7 hb hg_ hnew_; clear hg_ hnew_; (first | rw [← Ny184.out] at ho7 | (simp only [Int.reduceToNat] at ho7; rw [← Ny184.out] at ho7)); have n0_ := Aside0.mk (Kd.R_lower ho7 (below_size (bw1_ HB GE183.out))); have n1_ := Aside0.mk (blk_below (g := gb183) (o := .cells #[.int .i64 a0_0, .slice A0_1 l0_1.length c0_1] 54 (0, 0)) (bk_ BK183) hb); have n2_ := Aside0.mk (below_step (bw1_ HB GE183.out) hb); clear BK183; clear HB; have HO186 := n0_; have BK183 := n1_; have HB := n2_; clear n0_ n1_ n2_; clear hb ho7))
 (try simp only [Act.put, List.setIfInBounds_toArray, List.set_cons_zero, List.set_cons_succ])
 go_cut [37] (fun v37 wc => ∃ (kq : Nat) (x37_3 : Bool), v37 = .bool x37_3 ∧ Aside0 (spec_RouteTo.j0 kq a1 a2 y184 x37_3 a0_0 l0_1 = some r) ∧ Aside0 (kq ≤ k) ∧ Aside0 (Kd.R (Kd.int .i64) 3 wc w.heap.size (fun _ => True) v185 y184) ∧ Aside0 (wc.heap[gb183]? = some (.cells #[.int .i64 a0_0, (.slice A0_1 l0_1.length c0_1)] 54 (0, 0))) ∧ Aside0 (Below w.heap.size w wc))
 case first =>
  have H := HC4.out
  clear HC4
  replace H := Option.bind_eq_some_iff.mp H
  obtain ⟨t187, A80, H⟩ := H
  replace H : (if t187 = true then ((spec_l1In.f a1 0 (wrap64 (a0_0 - 1))).bind fun t188 => (if t188 = true then ((spec_l1In.f a2 0 (wrap64 (a0_0 - 1))).bind fun t189 => (spec_RouteTo.j0 k a1 a2 y184 (!t189) a0_0 l0_1)) else (spec_RouteTo.j0 k a1 a2 y184 true a0_0 l0_1))) else (spec_RouteTo.j0 k a1 a2 y184 true a0_0 l0_1)) = some r := H
  have A8 := Aside0.mk A80
  clear A80
  by_cases c9 : t187 = true
  ·subst c9
   have H1 : ((spec_l1In.f a1 0 (wrap64 (a0_0 - 1))).bind fun t188 => (if t188 = true then ((spec_l1In.f a2 0 (wrap64 (a0_0 - 1))).bind fun t189 => (spec_RouteTo.j0 k a1 a2 y184 (!t189) a0_0 l0_1)) else (spec_RouteTo.j0 k a1 a2 y184 true a0_0 l0_1))) = some r := by rw [if_pos rfl] at H; exact H
   clear H
   have H := H1
   clear H1
   replace H := Option.bind_eq_some_iff.mp H
   obtain ⟨t188, A100, H⟩ := H
   replace H : (if t188 = true then ((spec_l1In.f a2 0 (wrap64 (a0_0 - 1))).bind fun t189 => (spec_RouteTo.j0 k a1 a2 y184 (!t189) a0_0 l0_1)) else (spec_RouteTo.j0 k a1 a2 y184 true a0_0 l0_1)) = some r := H
   have A10 := Aside0.mk A100
   clear A100
   by_cases c11 : t188 = true
   ·subst c11
    have H1 : ((spec_l1In.f a2 0 (wrap64 (a0_0 - 1))).bind fun t189 => (spec_RouteTo.j0 k a1 a2 y184 (!t189) a0_0 l0_1)) = some r := by rw [if_pos rfl] at H; exact H
    clear H
    have H := H1
    clear H1
    replace H := Option.bind_eq_some_iff.mp H
    obtain ⟨t189, A120, H⟩ := H
    replace H : (spec_RouteTo.j0 k a1 a2 y184 (!t189) a0_0 l0_1) = some r := H
    have A12 := Aside0.mk A120
    clear A120
    have H' := Aside0.mk H
    clear H
    have hcz13_0 : w6.cell? ⟨gb183, 0, none⟩ = some (.int .i64 a0_0) := (blk_cell BK183.out 0).trans rfl
    have hcz13_1 : w6.cell? ⟨gb183, 1, none⟩ = some (.slice A0_1 l0_1.length c0_1) := (blk_cell BK183.out 1).trans rfl
    have hfz13_0 := blk_frozen BK183.out 0
    have hfz13_1 := blk_frozen BK183.out 1
    go_wp2_with (first | (go_at_call 148; (with_reducible refine (spec_IsNet.calls k a0_0 _ _ l0_1 true _ ?side1 ?side2 A8.out).mono ?_); (case side1 => repeat (first | exact (Kd.C_below HR0_1.out HB.out) | (with_reducible refine Kd.C_alloc ?_ _) | (with_reducible refine Kd.C_drewN ?_ _) | (with_reducible refine Kd.C_drew ?_))); (case side2 => exact HC0_1.out); rintro e w14 ⟨rfl, hb⟩; have n0_ := Aside0.mk (Kd.R_below (kr_ HO186) hb); have n1_ := Aside0.mk (blk_below (g := gb183) (o := .cells #[.int .i64 a0_0, .slice A0_1 l0_1.length c0_1] 54 (0, 0)) (bk_ BK183) hb); have n2_ := Aside0.mk (below_step (bw1_ HB GE183.out) hb); clear HO186; clear BK183; clear HB; have HO186 := n0_; have BK183 := n1_; have HB := n2_; clear n0_ n1_ n2_; (try clear hb); (try clear hb2); (try clear hk); (try clear hi); have hcz15_0 : w14.cell? ⟨gb183, 0, none⟩ = some (.int .i64 a0_0) := (blk_cell BK183.out 0).trans rfl; have hcz15_1 : w14.cell? ⟨gb183, 1, none⟩ = some (.slice A0_1 l0_1.length c0_1) := (blk_cell BK183.out 1).trans rfl; have hfz15_0 := blk_frozen BK183.out 0; have hfz15_1 := blk_frozen BK183.out 1) | (go_at_call 55; (with_reducible refine (spec_l1In.calls a1 0 (wrap64 (a0_0 - 1)) true _ A10.out).mono ?_); rintro e w' ⟨rfl, ⟨nd, rfl⟩⟩; (try first | exact ⟨rfl, _, World.drewN_drewN _ _ _⟩ | exact ⟨rfl, _, Eq.trans (World.drewN_drewN _ _ _) (congrArg (World.drewN _) (Nat.add_assoc _ _ _))⟩)) | (go_at_call 55; (with_reducible refine (spec_l1In.calls a2 0 (wrap64 (a0_0 - 1)) t189 _ A12.out).mono ?_); rintro e w' ⟨rfl, ⟨nd, rfl⟩⟩; (try first | exact ⟨rfl, _, World.drewN_drewN _ _ _⟩ | exact ⟨rfl, _, Eq.trans (World.drewN_drewN _ _ _) (congrArg (World.drewN _) (Nat.add_assoc _ _ _))⟩)))
    go_meet
    case rel => exact ⟨_, (!t189), (by first | rfl | (simp; done) | (simp [*]; done)), H', ⟨by first | omega | exact Nat.le_refl _⟩, ⟨kr_ HO186⟩, ⟨bk_ BK183⟩, ⟨bw1_ HB GE183.out⟩⟩
   ·replace c11 := Bool.eq_false_iff.mpr c11
    subst c11
    have H1 : (spec_RouteTo.j0 k a1 a2 y184 true a0_0 l0_1) = some r := by rw [if_neg (show ¬ (false = true) by decide)] at H; exact H
    clear H
    have H := H1
    clear H1
    have H' := Aside0.mk H
    clear H
    have hcz16_0 : w6.cell? ⟨gb183, 0, none⟩ = some (.int .i64 a0_0) := (blk_cell BK183.out 0).trans rfl
    have hcz16_1 : w6.cell? ⟨gb183, 1, none⟩ = some (.slice A0_1 l0_1.length c0_1) := (blk_cell BK183.out 1).trans rfl
    have hfz16_0 := blk_frozen BK183.out 0
    have hfz16_1 := blk_frozen BK183.out 1
    go_wp2_with (first | (go_at_call 148; (with_reducible refine (spec_IsNet.calls k a0_0 _ _ l0_1 true _ ?side1 ?side2 A8.out).mono ?_); (case side1 => repeat (first | exact (Kd.C_below HR0_1.out HB.out) | (with_reducible refine Kd.C_alloc ?_ _) | (with_reducible refine Kd.C_drewN ?_ _) | (with_reducible refine Kd.C_drew ?_))); (case side2 => exact HC0_1.out); rintro e w17 ⟨rfl, hb⟩; have n0_ := Aside0.mk (Kd.R_below (kr_ HO186) hb); have n1_ := Aside0.mk (blk_below (g := gb183) (o := .cells #[.int .i64 a0_0, .slice A0_1 l0_1.length c0_1] 54 (0, 0)) (bk_ BK183) hb); have n2_ := Aside0.mk (below_step (bw1_ HB GE183.out) hb); clear HO186; clear BK183; clear HB; have HO186 := n0_; have BK183 := n1_; have HB := n2_; clear n0_ n1_ n2_; (try clear hb); (try clear hb2); (try clear hk); (try clear hi); have hcz18_0 : w17.cell? ⟨gb183, 0, none⟩ = some (.int .i64 a0_0) := (blk_cell BK183.out 0).trans rfl; have hcz18_1 : w17.cell? ⟨gb183, 1, none⟩ = some (.slice A0_1 l0_1.length c0_1) := (blk_cell BK183.out 1).trans rfl; have hfz18_0 := blk_frozen BK183.out 0; have hfz18_1 := blk_frozen BK183.out 1) | (go_at_call 55; (with_reducible refine (spec_l1In.calls a1 0 (wrap64 (a0_0 - 1)) false _ A10.out).mono ?_); rintro e w' ⟨rfl, ⟨nd, rfl⟩⟩; (try first | exact ⟨rfl, _, World.drewN_drewN _ _ _⟩ | exact ⟨rfl, _, Eq.trans (World.drewN_drewN _ _ _) (congrArg (World.drewN _) (Nat.add_assoc _ _ _))⟩)))
    go_meet
    case rel => exact ⟨_, (true), (by first | rfl | (simp; done) | (simp [*]; done)), H', ⟨by first | omega | exact Nat.le_refl _⟩, ⟨kr_ HO186⟩, ⟨bk_ BK183⟩, ⟨bw1_ HB GE183.out⟩⟩
  ·replace c9 := Bool.eq_false_iff.mpr c9
   subst c9
   have H1 : (spec_RouteTo.j0 k a1 a2 y184 true a0_0 l0_1) = some r := by rw [if_neg (show ¬ (false = true) by decide)] at H; exact H
   clear H
   have H := H1
   clear H1
   have H' := Aside0.mk H
   clear H
   have hcz19_0 : w6.cell? ⟨gb183, 0, none⟩ = some (.int .i64 a0_0) := (blk_cell BK183.out 0).trans rfl
   have hcz19_1 : w6.cell? ⟨gb183, 1, none⟩ = some (.slice A0_1 l0_1.length c0_1) := (blk_cell BK183.out 1).trans rfl
   have hfz19_0 := blk_frozen BK183.out 0
   have hfz19_1 := blk_frozen BK183.out 1
   go_wp2_with (first | (go_at_call 148; (with_reducible refine (spec_IsNet.calls k a0_0 _ _ l0_1 false _ ?side1 ?side2 A8.out).mono ?_); (case side1 => repeat (first | exact (Kd.C_below HR0_1.out HB.out) | (with_reducible refine Kd.C_alloc ?_ _) | (with_reducible refine Kd.C_drewN ?_ _) | (with_reducible refine Kd.C_drew ?_))); (case side2 => exact HC0_1.out); rintro e w20 ⟨rfl, hb⟩; have n0_ := Aside0.mk (Kd.R_below (kr_ HO186) hb); have n1_ := Aside0.mk (blk_below (g := gb183) (o := .cells #[.int .i64 a0_0, .slice A0_1 l0_1.length c0_1] 54 (0, 0)) (bk_ BK183) hb); have n2_ := Aside0.mk (below_step (bw1_ HB GE183.out) hb); clear HO186; clear BK183; clear HB; have HO186 := n0_; have BK183 := n1_; have HB := n2_; clear n0_ n1_ n2_; (try clear hb); (try clear hb2); (try clear hk); (try clear hi)))
   go_meet
   case rel => exact ⟨_, (true), (by first | rfl | (simp; done) | (simp [*]; done)), H', ⟨by first | omega | exact Nat.le_refl _⟩, ⟨kr_ HO186⟩, ⟨bk_ BK183⟩, ⟨bw1_ HB GE183.out⟩⟩
 case rest =>
  clear HC4
  (try clear c1); (try clear p2); (try clear p6); (try clear c9); (try clear c11); (try clear c14); (try clear hcz13_0); (try clear hcz13_1); (try clear hcz15_0); (try clear hcz15_1); (try clear hcz16_0); (try clear hcz16_1); (try clear hcz18_0); (try clear hcz18_1); (try clear hcz19_0); (try clear hcz19_1); (try clear hfz13_0); (try clear hfz13_1); (try clear hfz15_0); (try clear hfz15_1); (try clear hfz16_0); (try clear hfz16_1); (try clear hfz18_0); (try clear hfz18_1); (try clear hfz19_0); (try clear hfz19_1)
  obtain ⟨kq, x37_3, rfl, HA, HJ3, HO_7, BK183, HB⟩ := hcut
  cases kq with
  | zero => exact absurd HA.out (by simp [spec_RouteTo.j0])
  | succ kj3 =>
   have H := HA.out
   clear HA
   simp only [spec_RouteTo.j0] at H
   by_cases c21 : x37_3 = true
   ·subst c21
    have H1 : (some y184) = some r := by rw [if_pos rfl] at H; exact H
    clear H
    have H := H1
    clear H1
    obtain rfl := Option.some.inj H
    go_wp2
    go_ret
    exact ⟨_, by first | rfl | (simp [errW_none, errW_some] <;> rfl) | (simp [*, errW_none, errW_some] <;> rfl), kr_ HO_7, bw1_ HB GE183.out⟩
   ·replace c21 := Bool.eq_false_iff.mpr c21
    subst c21
    have H1 : (spec_RouteTo.l0 kj3 a1 a2 y184 (([] : List Int)) 0 a0_0 l0_1) = some r := by rw [if_neg (show ¬ (false = true) by decide)] at H; exact H
    clear H
    have H := H1
    clear H1
    obtain ⟨y190, hy190⟩ : ∃ y_ : List Int, y_ = (([] : List Int)) := ⟨_, rfl⟩
    replace H : (spec_RouteTo.l0 kj3 a1 a2 y184 y190 0 a0_0 l0_1) = some r := by first | (rw [hy190]; with_reducible exact H) | (have H2_ := (Option.bind_some _ _).symm.trans H; rw [hy190]; with_reducible exact H2_) | (have H2_ := (Option.bind_some _ _).symm.trans H; with_reducible exact H2_) | with_reducible exact H | (rw [hy190]; exact H) | exact H
    have Ny190 := Aside0.mk hy190
    clear hy190
    have H' := Aside0.mk H
    clear H
    go_wp2_with (first | ((with_reducible refine gate_dst (N := 39) rfl ?_); refine Kd.R_lit (Kd.int .i64) _ 3 ?hg (N := 39) ?hd (xs := ([] : List Int)) (inner := []) (ok := fun _ => True) (okp := fun _ => True) ?hr ?hp (fun _ hk => hk) trivial (Below.refl _ _) (Nat.le_refl _) (by simp) ?_; (case hd => rfl); (case hg => rfl); (case hr => first | (go_simp; done) | (go_simp; rfl)); (case hp => exact (Reps.none _ _)); intro v191 w22 ho23 hb hg_ hnew_; clear hg_ hnew_; (first | rw [← Ny190.out] at ho23 | (simp only [Int.reduceToNat] at ho23; rw [← Ny190.out] at ho23)); have n0_ := Aside0.mk (Kd.R_elder' (kr_ HO_7) (Kd.R_base ho23) hb); have n1_ := Aside0.mk (Kd.R_lower (Kd.R_new' ho23 (Kd.R_lt (kr_ HO_7))) (below_size (bw1_ HB GE183.out))); have n2_ := Aside0.mk (blk_below (g := gb183) (o := .cells #[.int .i64 a0_0, .slice A0_1 l0_1.length c0_1] 54 (0, 0)) (bk_ BK183) hb); have n3_ := Aside0.mk (below_step (bw1_ HB GE183.out) hb); clear HO_7; clear BK183; clear HB; have HO_7 := n0_; have HO192 := n1_; have BK183 := n2_; have HB := n3_; clear n0_ n1_ n2_ n3_; clear hb ho23))
    go_loopg [8, 9] kj3 (fun kq v8 v9 w' => ∃ (x8_2 : List Int) (x9_2 : Int), v9 = .int .i64 x9_2 ∧ Aside0 (spec_RouteTo.l0 kq a1 a2 y184 x8_2 x9_2 a0_0 l0_1 = some r) ∧ Aside0 (kq ≤ kj3) ∧ Aside0 (Kd.R (Kd.int .i64) 3 w' w.heap.size (fun k_ => some k_ ≠ (v8 : Value).ownBlock) v185 y184) ∧ Aside0 (Kd.R (Kd.int .i64) 3 w' w.heap.size (fun k_ => some k_ ≠ (v185 : Value).ownBlock) v8 x8_2) ∧ Aside0 (w'.heap[gb183]? = some (.cells #[.int .i64 a0_0, (.slice A0_1 l0_1.length c0_1)] 54 (0, 0))) ∧ Aside0 (Below w.heap.size w w'))
    case atStart => exact ⟨(y190), (0), (by first | rfl | (simp; done) | (simp [*]; done)), H', ⟨Nat.le_refl _⟩, ⟨by (with_reducible repeat (first | apply Kd.R_alloc | apply Kd.R_drewN | apply Kd.R_drew)); exact Kd.R_mono HO_7.out (fun _ hk => hk.2)⟩, ⟨by (with_reducible repeat (first | apply Kd.R_alloc | apply Kd.R_drewN | apply Kd.R_drew)); exact Kd.R_mono HO192.out (fun _ hk => hk.2)⟩, ⟨bk_ BK183⟩, ⟨bw1_ HB GE183.out⟩⟩
    case round =>
     clear H'
     (try clear c1); (try clear c2); (try clear p2); (try clear p6); (try clear c9); (try clear c11); (try clear c14); (try clear c21); (try clear hcz13_0); (try clear hcz13_1); (try clear hcz15_0); (try clear hcz15_1); (try clear hcz16_0); (try clear hcz16_1); (try clear hcz18_0); (try clear hcz18_1); (try clear hcz19_0); (try clear hcz19_1); (try clear hfz13_0); (try clear hfz13_1); (try clear hfz15_0); (try clear hfz15_1); (try clear hfz16_0); (try clear hfz16_1); (try clear hfz18_0); (try clear hfz18_1); (try clear hfz19_0); (try clear hfz19_1); (try clear p2); (try clear p6)
     obtain ⟨x8_2, x9_2, rfl, HA, HK2, HO_7, HO_8, BK183, HB⟩ := hrel
     cases gk with
     | zero => exact absurd HA.out (by simp [spec_RouteTo.l0])
     | succ k2 =>
      have H := HA.out
      clear HA
      simp only [spec_RouteTo.l0] at H
      by_cases c24 : x9_2 < a0_0
      ·rw [if_pos c24] at H
       have c24b0 : decide (x9_2 < a0_0) = true := decide_eq_true c24
       clear c24
       by_cases c25 : x8_2.length < 17592186044416
       ·rw [if_pos c25] at H
        have LMc25 := Aside0.mk c25
        clear c25
        obtain ⟨y193, hy193⟩ : ∃ y_ : List Int, y_ = (x8_2 ++ [(-1)]) := ⟨_, rfl⟩
        replace H : (spec_RouteTo.l0 k2 a1 a2 y184 y193 (wrap64 (x9_2 + 1)) a0_0 l0_1) = some r := by first | (rw [hy193]; with_reducible exact H) | (have H2_ := (Option.bind_some _ _).symm.trans H; rw [hy193]; with_reducible exact H2_) | (have H2_ := (Option.bind_some _ _).symm.trans H; with_reducible exact H2_) | with_reducible exact H | (rw [hy193]; exact H) | exact H
        have Ny193 := Aside0.mk hy193
        clear hy193
        have H' := Aside0.mk H
        clear H
        have hcz26_0 : wr.cell? ⟨gb183, 0, none⟩ = some (.int .i64 a0_0) := (blk_cell BK183.out 0).trans rfl
        have hcz26_1 : wr.cell? ⟨gb183, 1, none⟩ = some (.slice A0_1 l0_1.length c0_1) := (blk_cell BK183.out 1).trans rfl
        have hfz26_0 := blk_frozen BK183.out 0
        have hfz26_1 := blk_frozen BK183.out 1
        go_wp2_with (first | ((with_reducible refine gate_builtin (b := .append) (xs := #[.tmp 46, .tmp 47]) rfl ?_); at_builtin; refine Kd.R_append (Kd.int .i64) (w0 := w) w.heap.size rfl (.tmp 46) (.tmp 47) 37 3 (.int .i64 0) 8 rfl Try.underlying37 info3 rfl (by decide) (by omega) u8 x8_2 (-1) [.int .i64 (-1)] (fun k_ => some k_ ≠ (v185 : Value).ownBlock) (fun _ => False) rfl rfl ?aP (fun _ hk => hk.elim) ?aF ?aO ?aB ?aS ?aL ?_; (case aP => exact rfl); (case aB => exact (bw1_ HB GE183.out)); (case aF => exact (fun k_ hk => Kd.fresh' (Kd.R_lt (kr_ HO_7)) k_ hk)); (case aO => exact (kr_ HO_8)); (case aS => exact (below_size (bw1_ HB GE183.out))); (case aL => have := LMc25.out; omega); intro v194 w27 ho hb hg hat; rw [← Ny193.out] at ho; have n0_ := Aside0.mk (Kd.R_after (ok := (fun _ => True)) (by (with_reducible repeat (first | apply Kd.R_alloc | apply Kd.R_drewN | apply Kd.R_drew)); exact Kd.R_mono HO_7.out (fun _ hk => ⟨trivial, hk⟩)) hg hat); have n1_ := Aside0.mk (blk_grown (g := gb183) (o := .cells #[.int .i64 a0_0, .slice A0_1 l0_1.length c0_1] 54 (0, 0)) (bk_ BK183) hg (Kd.R_ne HO_8.out BK183.out (by decide))); have n2_ := Aside0.mk (hb); have n3_ := Aside0.mk (ho); clear HO_7; clear BK183; clear HB; clear HO_8; have HO_7 := n0_; have BK183 := n1_; have HB := n2_; have HO195 := n3_; clear n0_ n1_ n2_ n3_; clear ho hb hg hat))
        go_roundg k2
        case measure => have := HJ3.out; have := HK2.out; omega
        case rel => exact ⟨(y193), (wrap64 (x9_2 + 1)), (by first | rfl | (simp; done) | (simp [*]; done)), H', ⟨by have := HJ3.out; have := HK2.out; omega⟩, ⟨by (with_reducible repeat (first | apply Kd.R_alloc | apply Kd.R_drewN | apply Kd.R_drew)); exact Kd.R_mono HO_7.out (fun _ hk => hk.2)⟩, ⟨kr_ HO195⟩, ⟨bk_ BK183⟩, ⟨bw1_ HB GE183.out⟩⟩
       ·rw [if_neg c25] at H
        exact absurd H (by simp)
      ·rw [if_neg c24] at H
       have c24b0 : decide (x9_2 < a0_0) = false := decide_eq_false c24
       clear c24
       by_cases c28 : 0 ≤ a2
       ·rw [if_pos c28] at H
        have c28b0 : decide (0 ≤ a2) = true := decide_eq_true c28
        clear c28
        by_cases c29 : a2 < (x8_2.length : Int)
        ·rw [if_pos c29] at H
         have c29b0 : decide (a2 < (x8_2.length : Int)) = true := decide_eq_true c29
         clear c29
         obtain ⟨y196, hy196⟩ : ∃ y_ : List Int, y_ = (x8_2.set (a2 : Int).toNat 0) := ⟨_, rfl⟩
         replace H : (spec_RouteTo.l1 k2 a1 a2 y184 y196 0 a0_0 l0_1) = some r := by first | (rw [hy196]; with_reducible exact H) | (have H2_ := (Option.bind_some _ _).symm.trans H; rw [hy196]; with_reducible exact H2_) | (have H2_ := (Option.bind_some _ _).symm.trans H; with_reducible exact H2_) | with_reducible exact H | (rw [hy196]; exact H) | exact H
         have Ny196 := Aside0.mk hy196
         clear hy196
         have H' := Aside0.mk H
         clear H
         have hcz31_0 : wr.cell? ⟨gb183, 0, none⟩ = some (.int .i64 a0_0) := (blk_cell BK183.out 0).trans rfl
         have hcz31_1 : wr.cell? ⟨gb183, 1, none⟩ = some (.slice A0_1 l0_1.length c0_1) := (blk_cell BK183.out 1).trans rfl
         have hfz31_0 := blk_frozen BK183.out 0
         have hfz31_1 := blk_frozen BK183.out 1
         have p30 : 0 ≤ (a2 : Int) := of_decide_eq_true (by first | (with_reducible assumption) | assumption)
         have q30 : (a2 : Int) < ((x8_2.length : Int) : Int) := of_decide_eq_true (by first | (with_reducible assumption) | assumption)
         obtain ⟨go30, co30, eo30, gb30, gl30, cl30, HG30⟩ := Kd.R_form HO_8.out (by omega)
         (first | cases eo30 | (injection eo30 with ea_ en_ ec_; (first | subst ea_ | (injection ea_ with ea_; subst ea_)); subst ec_; clear en_))
         have GB30 := Aside0.mk gb30
         have GG30 := Aside0.mk HG30
         clear gb30 gl30 HG30
         obtain ⟨hx30_0, hf30_0⟩ := Kd.R_celln 0 HO_8.out (a2 : Int) p30 q30
         replace p30 := eq_true p30
         replace q30 := eq_true q30
         have HP32 := Kd.R_putg HO_8.out (a2 : Int) 0
         go_wp2_with (first | ((with_reducible refine gate_store (t := 3) (p := 51) rfl ?_); (try (rw [drewN_self wr]; generalize hq_ : World.drewN wr _ = wr; have n0_ := Aside0.mk (Kd.R_at hq_ HO_7.out); have n1_ := Aside0.mk (Kd.R_at hq_ HO_8.out); have n2_ := Aside0.mk (blk_at hq_ BK183.out); have n3_ := Aside0.mk (below_at hq_ HB.out); clear hq_ HO_7 HO_8 BK183 HB; have HO_7 := n0_; have HO_8 := n1_; have BK183 := n2_; have HB := n3_; clear n0_ n1_ n2_ n3_; (try (have HP32 := Kd.R_putg HO_8.out (a2 : Int) 0)))); refine store_event (t := 3) (p := 51) (v := ?vo_w33) (w1 := (wr.setCell ⟨go30, (a2 : Int).toNat, none⟩ (.int .i64 0))) ?hg ?ho ?hn ?hr ?_; (case ho => rfl); (case hg => rfl); (case hn => rfl); (case hr => first | (go_simp; done) | (go_simp; rfl)); intro w33 hw; have hg : wr.grownBy w33 (some go30) := (by rw [hw]; exact HP32.2); have hp_ : Kd.R (Kd.int .i64) 3 w33 w.heap.size (fun k_ => some k_ ≠ (v185 : Value).ownBlock) (.slice (some ⟨go30, 0, none⟩) x8_2.length co30) y196 := (by rw [hw, Ny196.out]; exact HP32.1); clear HP32; have n0_ := Aside0.mk (Kd.R_after (v := (.slice (some ⟨go30, 0, none⟩) x8_2.length co30)) (v1 := (.slice (some ⟨go30, 0, none⟩) x8_2.length co30)) (ok := (fun _ => True)) (by (with_reducible repeat (first | apply Kd.R_alloc | apply Kd.R_drewN | apply Kd.R_drew)); exact Kd.R_mono HO_7.out (fun _ hk => ⟨trivial, hk⟩)) hg (.inl rfl)); have n1_ := Aside0.mk (hp_); have n2_ := Aside0.mk (blk_grown (g := gb183) (o := .cells #[.int .i64 a0_0, .slice A0_1 l0_1.length c0_1] 54 (0, 0)) (bk_ BK183) hg (Kd.R_ne HO_8.out BK183.out (by decide))); have n3_ := Aside0.mk ((by rw [hw]; exact below_set (HB.out) GB30.out : Below w.heap.size w w33)); clear HO_7; clear HO_8; clear BK183; clear HB; have HO_7 := n0_; have HO_8 := n1_; have BK183 := n2_; have HB := n3_; clear n0_ n1_ n2_ n3_; clear hg hw hp_))
         go_loopg [10] k2 (fun kq v10 w' => ∃ (x8_3 : List Int) (x10_3 : Int), v10 = .int .i64 x10_3 ∧ Aside0 (spec_RouteTo.l1 kq a1 a2 y184 x8_3 x10_3 a0_0 l0_1 = some r) ∧ Aside0 (kq ≤ k2) ∧ Aside0 (Kd.R (Kd.int .i64) 3 w' w.heap.size (fun k_ => some k_ ≠ ((.slice (some ⟨go30, 0, none⟩) x8_2.length co30) : Value).ownBlock) v185 y184) ∧ Aside0 (Kd.R (Kd.int .i64) 3 w' w.heap.size (fun k_ => some k_ ≠ (v185 : Value).ownBlock) (.slice (some ⟨go30, 0, none⟩) x8_2.length co30) x8_3) ∧ Aside0 (w'.heap[gb183]? = some (.cells #[.int .i64 a0_0, (.slice A0_1 l0_1.length c0_1)] 54 (0, 0))) ∧ Aside0 (Below w.heap.size w w'))
         case atStart => exact ⟨(y196), (0), (by first | rfl | (simp; done) | (simp [*]; done)), H', ⟨Nat.le_refl _⟩, ⟨by (with_reducible repeat (first | apply Kd.R_alloc | apply Kd.R_drewN | apply Kd.R_drew)); exact Kd.R_mono HO_7.out (fun _ hk => hk.2)⟩, ⟨kr_ HO_8⟩, ⟨bk_ BK183⟩, ⟨bw1_ HB GE183.out⟩⟩
         case round =>
          clear H'
          (try clear c1); (try clear c2); (try clear p2); (try clear p3); (try clear q3); (try clear hx3); (try clear hf3); (try clear p6); (try clear c9); (try clear c11); (try clear c14); (try clear c21); (try clear c24); (try clear c24b0); (try clear c25); (try clear c28); (try clear c28b0); (try clear c29); (try clear c29b0); (try clear p30); (try clear q30); (try clear hx30); (try clear hf30); (try clear hcz13_0); (try clear hcz13_1); (try clear hcz15_0); (try clear hcz15_1); (try clear hcz16_0); (try clear hcz16_1); (try clear hcz18_0); (try clear hcz18_1); (try clear hcz19_0); (try clear hcz19_1); (try clear hcz26_0); (try clear hcz26_1); (try clear hcz31_0); (try clear hcz31_1); (try clear hfz13_0); (try clear hfz13_1); (try clear hfz15_0); (try clear hfz15_1); (try clear hfz16_0); (try clear hfz16_1); (try clear hfz18_0); (try clear hfz18_1); (try clear hfz19_0); (try clear hfz19_1); (try clear hfz26_0); (try clear hfz26_1); (try clear hfz31_0); (try clear hfz31_1); (try clear hx30_0); (try clear p2); (try clear p30); (try clear p6); (try clear q30)
          obtain ⟨x8_3, x10_3, rfl, HA, HK3, HO_7, HO_8, BK183, HB⟩ := hrel
          have hl8_3 := (Kd.R_reads' HO_8.out).1
          rw [hl8_3] at HO_8
          (try simp only [hl8_3])
          (try simp only [hl8_3] at BK183)
          (try simp only [hl8_3] at HO_7)
          cases gk with
          | zero => exact absurd HA.out (by simp [spec_RouteTo.l1])
          | succ k3 =>
           have H := HA.out
           clear HA
           simp only [spec_RouteTo.l1] at H
           by_cases c34 : x10_3 < a0_0
           ·rw [if_pos c34] at H
            have c34b0 : decide (x10_3 < a0_0) = true := decide_eq_true c34
            clear c34
            have H' := Aside0.mk H
            clear H
            have hcz35_0 : wr.cell? ⟨gb183, 0, none⟩ = some (.int .i64 a0_0) := (blk_cell BK183.out 0).trans rfl
            have hcz35_1 : wr.cell? ⟨gb183, 1, none⟩ = some (.slice A0_1 l0_1.length c0_1) := (blk_cell BK183.out 1).trans rfl
            have hfz35_0 := blk_frozen BK183.out 0
            have hfz35_1 := blk_frozen BK183.out 1
            go_wp2
            go_loopg [11] k3 (fun kq v11 w' => ∃ (x8_4 : List Int) (x11_4 : Int), v11 = .int .i64 x11_4 ∧ Aside0 (spec_RouteTo.l2 kq a1 a2 y184 x8_4 x10_3 x11_4 a0_0 l0_1 = some r) ∧ Aside0 (kq ≤ k3) ∧ Aside0 (Kd.R (Kd.int .i64) 3 w' w.heap.size (fun k_ => some k_ ≠ ((.slice (some ⟨go30, 0, none⟩) x8_3.length co30) : Value).ownBlock) v185 y184) ∧ Aside0 (Kd.R (Kd.int .i64) 3 w' w.heap.size (fun k_ => some k_ ≠ (v185 : Value).ownBlock) (.slice (some ⟨go30, 0, none⟩) x8_3.length co30) x8_4) ∧ Aside0 (w'.heap[gb183]? = some (.cells #[.int .i64 a0_0, (.slice A0_1 l0_1.length c0_1)] 54 (0, 0))) ∧ Aside0 (Below w.heap.size w w'))
            case atStart => exact ⟨(x8_3), (0), (by first | rfl | (simp; done) | (simp [*]; done)), H', ⟨Nat.le_refl _⟩, ⟨by (try simp only [hl8_3]); (with_reducible repeat (first | apply Kd.R_alloc | apply Kd.R_drewN | apply Kd.R_drew)); exact HO_7.out⟩, ⟨by (try simp only [hl8_3]); (with_reducible repeat (first | apply Kd.R_alloc | apply Kd.R_drewN | apply Kd.R_drew)); exact HO_8.out⟩, ⟨by (try simp only [hl8_3]); (with_reducible repeat (first | refine blk_drewN ?_ _ | refine blk_drew ?_ | refine blk_alloc ?_ _)); exact BK183.out⟩, ⟨bw1_ HB GE183.out⟩⟩
            case round =>
             clear H'
             (try clear c1); (try clear c2); (try clear p2); (try clear c3); (try clear p3); (try clear q3); (try clear hx3); (try clear hf3); (try clear p6); (try clear c9); (try clear c11); (try clear c14); (try clear c21); (try clear c24); (try clear c24b0); (try clear c25); (try clear c28); (try clear c28b0); (try clear c29); (try clear c29b0); (try clear p30); (try clear q30); (try clear hx30); (try clear hf30); (try clear c34); (try clear c34b0); (try clear hcz13_0); (try clear hcz13_1); (try clear hcz15_0); (try clear hcz15_1); (try clear hcz16_0); (try clear hcz16_1); (try clear hcz18_0); (try clear hcz18_1); (try clear hcz19_0); (try clear hcz19_1); (try clear hcz26_0); (try clear hcz26_1); (try clear hcz31_0); (try clear hcz31_1); (try clear hcz35_0); (try clear hcz35_1); (try clear hfz13_0); (try clear hfz13_1); (try clear hfz15_0); (try clear hfz15_1); (try clear hfz16_0); (try clear hfz16_1); (try clear hfz18_0); (try clear hfz18_1); (try clear hfz19_0); (try clear hfz19_1); (try clear hfz26_0); (try clear hfz26_1); (try clear hfz31_0); (try clear hfz31_1); (try clear hfz35_0); (try clear hfz35_1); (try clear hx30_0); (try clear p2); (try clear p3); (try clear p30); (try clear p6); (try clear q3); (try clear q30)
             obtain ⟨x8_4, x11_4, rfl, HA, HK4, HO_7, HO_8, BK183, HB⟩ := hrel
             have hl8_4 := (Kd.R_reads' HO_8.out).1
             rw [hl8_4] at HO_8
             (try simp only [hl8_4])
             (try simp only [hl8_4] at BK183)
             (try simp only [hl8_4] at HO_7)
             cases gk with
             | zero => exact absurd HA.out (by simp [spec_RouteTo.l2])
             | succ k4 =>
              have H := HA.out
              clear HA
              simp only [spec_RouteTo.l2] at H
              by_cases c36 : x11_4 < (l0_1.length : Int)
              ·rw [if_pos c36] at H
               have c36b0 : decide (x11_4 < (l0_1.length : Int)) = true := decide_eq_true c36; (try (have c36b0z0 := c36b0; rw [hl8_3] at c36b0z0)); (try (have c36b0z1 := c36b0; rw [hl8_4] at c36b0z1))
               clear c36
               by_cases c37 : 0 ≤ x11_4
               ·rw [if_pos c37] at H
                have c37b0 : decide (0 ≤ x11_4) = true := decide_eq_true c37
                clear c37
                have HC38 := Aside0.mk H
                clear H
                have hcz39_0 : wr.cell? ⟨gb183, 0, none⟩ = some (.int .i64 a0_0) := (blk_cell BK183.out 0).trans rfl
                have hcz39_1 : wr.cell? ⟨gb183, 1, none⟩ = some (.slice A0_1 l0_1.length c0_1) := (blk_cell BK183.out 1).trans rfl
                have hfz39_0 := blk_frozen BK183.out 0
                have hfz39_1 := blk_frozen BK183.out 1
                have p197 : 0 ≤ (x11_4 : Int) := of_decide_eq_true (by first | (with_reducible assumption) | assumption)
                have q197 : x11_4 < (l0_1.length : Int) := of_decide_eq_true (by first | (with_reducible assumption) | assumption)
                obtain ⟨ad197, e197, hx197_0, hx197_1⟩ := at_T63 HR0_1.out x11_4 p197 q197
                cases e197
                replace hx197_0 := (HB.out.cell (World.block_lt_of_cell? w _ hx197_0)).trans hx197_0
                replace hx197_1 := (HB.out.cell (World.block_lt_of_cell? w _ hx197_1)).trans hx197_1
                replace p197 := eq_true p197
                replace q197 := eq_true q197
                have p198 : 0 ≤ (x11_4 : Int) := of_decide_eq_true (by first | (with_reducible assumption) | assumption)
                have q198 : x11_4 < (l0_1.length : Int) := of_decide_eq_true (by first | (with_reducible assumption) | assumption)
                obtain ⟨ad198, e198, hx198_0, hx198_1⟩ := at_T63 HR0_1.out x11_4 p198 q198
                obtain rfl : ad197 = ad198 := (by injection e198)
                replace hx198_0 := (HB.out.cell (World.block_lt_of_cell? w _ hx198_0)).trans hx198_0
                replace hx198_1 := (HB.out.cell (World.block_lt_of_cell? w _ hx198_1)).trans hx198_1
                replace p198 := eq_true p198
                replace q198 := eq_true q198
                go_upto_region 18 with (fail)
                go_cut [89] (fun v89 wc => ∃ (kq : Nat) (x89_37 : Bool), v89 = .bool x89_37 ∧ Aside0 (spec_RouteTo.j4 kq a1 a2 y184 x8_4 x10_3 x11_4 ((rd_T63 l0_1 x11_4).f0) ((rd_T63 l0_1 x11_4).f1) x89_37 a0_0 l0_1 = some r) ∧ Aside0 (kq ≤ k4) ∧ Aside0 (Kd.R (Kd.int .i64) 3 wc w.heap.size (fun k_ => some k_ ≠ ((.slice (some ⟨go30, 0, none⟩) x8_4.length co30) : Value).ownBlock) v185 y184) ∧ Aside0 (Kd.R (Kd.int .i64) 3 wc w.heap.size (fun k_ => some k_ ≠ (v185 : Value).ownBlock) (.slice (some ⟨go30, 0, none⟩) x8_4.length co30) x8_4) ∧ Aside0 (wc.heap[gb183]? = some (.cells #[.int .i64 a0_0, (.slice (some ad197) l0_1.length c0_1)] 54 (0, 0))) ∧ Aside0 (Below w.heap.size w wc))
                case first =>
                 have H := HC38.out
                 clear HC38
                 by_cases c40 : 0 ≤ ((rd_T63 l0_1 x11_4).f0)
                 ·rw [if_pos c40] at H
                  have c40b0 : decide (0 ≤ ((rd_T63 l0_1 x11_4).f0)) = true := decide_eq_true c40
                  clear c40
                  (first | rw [c40b0] | (simp only [i64_w, i32_w]; rw [c40b0]) | skip)
                  by_cases c41 : ((rd_T63 l0_1 x11_4).f0) < (x8_4.length : Int)
                  ·rw [if_pos c41] at H
                   have c41b0 : decide (((rd_T63 l0_1 x11_4).f0) < (x8_4.length : Int)) = true := decide_eq_true c41; (try (have c41b0z0 := c41b0; rw [hl8_3] at c41b0z0)); (try (have c41b0z1 := c41b0; rw [hl8_4] at c41b0z1))
                   clear c41
                   by_cases c42 : (rd x8_4 ((rd_T63 l0_1 x11_4).f0)) = x10_3
                   ·rw [if_pos c42] at H
                    have c42b0 : ((rd x8_4 ((rd_T63 l0_1 x11_4).f0)) == x10_3) = true := beq_iff_eq.mpr c42
                    have c42b1 : ((rd x8_4 ((rd_T63 l0_1 x11_4).f0)) != x10_3) = false := bne_eq_false_iff_eq.mpr c42
                    clear c42
                    by_cases c43 : 0 ≤ ((rd_T63 l0_1 x11_4).f1)
                    ·rw [if_pos c43] at H
                     have c43b0 : decide (0 ≤ ((rd_T63 l0_1 x11_4).f1)) = true := decide_eq_true c43
                     clear c43
                     by_cases c44 : ((rd_T63 l0_1 x11_4).f1) < (x8_4.length : Int)
                     ·rw [if_pos c44] at H
                      have c44b0 : decide (((rd_T63 l0_1 x11_4).f1) < (x8_4.length : Int)) = true := decide_eq_true c44; (try (have c44b0z0 := c44b0; rw [hl8_3] at c44b0z0)); (try (have c44b0z1 := c44b0; rw [hl8_4] at c44b0z1))
                      clear c44
                      have H' := Aside0.mk H
                      clear H
                      have p199 : 0 ≤ (((rd_T63 l0_1 x11_4).f0) : Int) := of_decide_eq_true (by first | (with_reducible assumption) | assumption)
                      have q199 : ((rd_T63 l0_1 x11_4).f0) < (x8_4.length : Int) := of_decide_eq_true (by first | (with_reducible assumption) | assumption)
                      obtain ⟨ad199, e199, hx199_0⟩ := Kd.at_int (Kd.R_reads' HO_8.out).2.2 ((rd_T63 l0_1 x11_4).f0) p199 q199
                      obtain rfl : (⟨go30, 0, none⟩ : Addr) = ad199 := (by injection e199)
                      (first | simp only [add_plain] at hx199_0 | simp only [add_at] at hx199_0 | simp only [Addr.add, Nat.zero_add] at hx199_0 | skip)
                      replace p199 := eq_true p199
                      replace q199 := eq_true q199
                      have p200 : 0 ≤ (((rd_T63 l0_1 x11_4).f1) : Int) := of_decide_eq_true (by first | (with_reducible assumption) | assumption)
                      have q200 : ((rd_T63 l0_1 x11_4).f1) < (x8_4.length : Int) := of_decide_eq_true (by first | (with_reducible assumption) | assumption)
                      obtain ⟨ad200, e200, hx200_0⟩ := Kd.at_int (Kd.R_reads' HO_8.out).2.2 ((rd_T63 l0_1 x11_4).f1) p200 q200
                      obtain rfl : (⟨go30, 0, none⟩ : Addr) = ad200 := (by injection e200)
                      (first | simp only [add_plain] at hx200_0 | simp only [add_at] at hx200_0 | simp only [Addr.add, Nat.zero_add] at hx200_0 | skip)
                      replace p200 := eq_true p200
                      replace q200 := eq_true q200
                      go_wp2
                      go_meet
                      case rel => exact ⟨_, (decide ((rd x8_4 ((rd_T63 l0_1 x11_4).f1)) < 0)), (by first | rfl | (simp; done) | (simp [*]; done)), H', ⟨by have := HJ3.out; have := HK2.out; have := HK3.out; have := HK4.out; first | omega | exact Nat.le_refl _⟩, ⟨by (try simp only [hl8_3]); (try simp only [hl8_4]); (with_reducible repeat (first | apply Kd.R_alloc | apply Kd.R_drewN | apply Kd.R_drew)); exact HO_7.out⟩, ⟨by (try simp only [hl8_3]); (try simp only [hl8_4]); (with_reducible repeat (first | apply Kd.R_alloc | apply Kd.R_drewN | apply Kd.R_drew)); exact HO_8.out⟩, ⟨by (try simp only [hl8_3]); (try simp only [hl8_4]); (with_reducible repeat (first | refine blk_drewN ?_ _ | refine blk_drew ?_ | refine blk_alloc ?_ _)); exact BK183.out⟩, ⟨bw1_ HB GE183.out⟩⟩
                     ·rw [if_neg c44] at H
                      exact absurd H (by simp)
                    ·rw [if_neg c43] at H
                     exact absurd H (by simp)
                   ·rw [if_neg c42] at H
                    have c42b0 : ((rd x8_4 ((rd_T63 l0_1 x11_4).f0)) == x10_3) = false := beq_eq_false_iff_ne.mpr c42
                    have c42b1 : ((rd x8_4 ((rd_T63 l0_1 x11_4).f0)) != x10_3) = true := bne_iff_ne.mpr c42
                    have H' := Aside0.mk H
                    clear H
                    have p199 : 0 ≤ (((rd_T63 l0_1 x11_4).f0) : Int) := of_decide_eq_true (by first | (with_reducible assumption) | assumption)
                    have q199 : ((rd_T63 l0_1 x11_4).f0) < (x8_4.length : Int) := of_decide_eq_true (by first | (with_reducible assumption) | assumption)
                    obtain ⟨ad199, e199, hx199_0⟩ := Kd.at_int (Kd.R_reads' HO_8.out).2.2 ((rd_T63 l0_1 x11_4).f0) p199 q199
                    obtain rfl : (⟨go30, 0, none⟩ : Addr) = ad199 := (by injection e199)
                    (first | simp only [add_plain] at hx199_0 | simp only [add_at] at hx199_0 | simp only [Addr.add, Nat.zero_add] at hx199_0 | skip)
                    replace p199 := eq_true p199
                    replace q199 := eq_true q199
                    go_wp2
                    go_meet
                    case rel => exact ⟨_, (false), (by first | rfl | (simp; done) | (simp [*]; done)), H', ⟨by have := HJ3.out; have := HK2.out; have := HK3.out; have := HK4.out; first | omega | exact Nat.le_refl _⟩, ⟨by (try simp only [hl8_3]); (try simp only [hl8_4]); (with_reducible repeat (first | apply Kd.R_alloc | apply Kd.R_drewN | apply Kd.R_drew)); exact HO_7.out⟩, ⟨by (try simp only [hl8_3]); (try simp only [hl8_4]); (with_reducible repeat (first | apply Kd.R_alloc | apply Kd.R_drewN | apply Kd.R_drew)); exact HO_8.out⟩, ⟨by (try simp only [hl8_3]); (try simp only [hl8_4]); (with_reducible repeat (first | refine blk_drewN ?_ _ | refine blk_drew ?_ | refine blk_alloc ?_ _)); exact BK183.out⟩, ⟨bw1_ HB GE183.out⟩⟩
                  ·rw [if_neg c41] at H
                   exact absurd H (by simp)
                 ·rw [if_neg c40] at H
                  exact absurd H (by simp)
                case rest =>
                 clear HC38
                 (try clear c1); (try clear p1); (try clear q1); (try clear hx1); (try clear c2); (try clear p2); (try clear q2); (try clear hx2); (try clear c3); (try clear p3); (try clear q3); (try clear hx3); (try clear hf3); (try clear c4); (try clear p6); (try clear c9); (try clear c11); (try clear c14); (try clear p19); (try clear q19); (try clear hx19); (try clear p20); (try clear q20); (try clear hx20); (try clear c21); (try clear c24); (try clear c24b0); (try clear c25); (try clear c28); (try clear c28b0); (try clear c29); (try clear c29b0); (try clear p30); (try clear q30); (try clear hx30); (try clear hf30); (try clear c34); (try clear c34b0); (try clear c36); (try clear c36b0); (try clear c37); (try clear c37b0); (try clear c40); (try clear c40b0); (try clear c41); (try clear c41b0); (try clear c42); (try clear c42b0); (try clear c42b1); (try clear c43); (try clear c43b0); (try clear c44); (try clear c44b0); (try clear hcz13_0); (try clear hcz13_1); (try clear hcz15_0); (try clear hcz15_1); (try clear hcz16_0); (try clear hcz16_1); (try clear hcz18_0); (try clear hcz18_1); (try clear hcz19_0); (try clear hcz19_1); (try clear hcz26_0); (try clear hcz26_1); (try clear hcz31_0); (try clear hcz31_1); (try clear hcz35_0); (try clear hcz35_1); (try clear hcz39_0); (try clear hcz39_1); (try clear hfz13_0); (try clear hfz13_1); (try clear hfz15_0); (try clear hfz15_1); (try clear hfz16_0); (try clear hfz16_1); (try clear hfz18_0); (try clear hfz18_1); (try clear hfz19_0); (try clear hfz19_1); (try clear hfz26_0); (try clear hfz26_1); (try clear hfz31_0); (try clear hfz31_1); (try clear hfz35_0); (try clear hfz35_1); (try clear hfz39_0); (try clear hfz39_1); (try clear hx197_0); (try clear hx197_1); (try clear hx198_0); (try clear hx198_1); (try clear hx199_0); (try clear hx200_0); (try clear hx30_0); (try clear p197); (try clear p198); (try clear p199); (try clear p2); (try clear p200); (try clear p3); (try clear p30); (try clear p6); (try clear q197); (try clear q198); (try clear q199); (try clear q200); (try clear q3); (try clear q30)
                 obtain ⟨kq, x89_37, rfl, HA, HJ37, HO_7, HO_8, BK183, HB⟩ := hcut
                 cases kq with
                 | zero => exact absurd HA.out (by simp [spec_RouteTo.j4])
                 | succ kj37 =>
                  have H := HA.out
                  clear HA
                  simp only [spec_RouteTo.j4] at H
                  by_cases c45 : x89_37 = true
                  ·subst c45
                   have H1 : (if 0 ≤ ((rd_T63 l0_1 x11_4).f1) then (if ((rd_T63 l0_1 x11_4).f1) < (x8_4.length : Int) then ((some (x8_4.set (((rd_T63 l0_1 x11_4).f1) : Int).toNat (wrap64 (x10_3 + 1)) : List Int)).bind fun y201 => (if (rd y201 ((rd_T63 l0_1 x11_4).f1)) = x10_3 then (if 0 ≤ ((rd_T63 l0_1 x11_4).f0) then (if ((rd_T63 l0_1 x11_4).f0) < (x8_4.length : Int) then (if (rd y201 ((rd_T63 l0_1 x11_4).f0)) < 0 then (spec_RouteTo.l2 kj37 a1 a2 y184 (y201.set (((rd_T63 l0_1 x11_4).f0) : Int).toNat (wrap64 (x10_3 + 1))) x10_3 (wrap64 (x11_4 + 1)) a0_0 l0_1) else (spec_RouteTo.l2 kj37 a1 a2 y184 y201 x10_3 (wrap64 (x11_4 + 1)) a0_0 l0_1)) else (none)) else (none)) else (spec_RouteTo.l2 kj37 a1 a2 y184 y201 x10_3 (wrap64 (x11_4 + 1)) a0_0 l0_1))) else (none)) else (none)) = some r := by rw [if_pos rfl] at H; exact H
                   clear H
                   have H := H1
                   clear H1
                   by_cases c46 : 0 ≤ ((rd_T63 l0_1 x11_4).f1)
                   ·rw [if_pos c46] at H
                    have c46b0 : decide (0 ≤ ((rd_T63 l0_1 x11_4).f1)) = true := decide_eq_true c46
                    clear c46
                    by_cases c47 : ((rd_T63 l0_1 x11_4).f1) < (x8_4.length : Int)
                    ·rw [if_pos c47] at H
                     have c47b0 : decide (((rd_T63 l0_1 x11_4).f1) < (x8_4.length : Int)) = true := decide_eq_true c47; (try (have c47b0z0 := c47b0; rw [hl8_3] at c47b0z0)); (try (have c47b0z1 := c47b0; rw [hl8_4] at c47b0z1))
                     clear c47
                     obtain ⟨y201, hy201⟩ : ∃ y_ : List Int, y_ = (x8_4.set (((rd_T63 l0_1 x11_4).f1) : Int).toNat (wrap64 (x10_3 + 1))) := ⟨_, rfl⟩
                     replace H : (if (rd y201 ((rd_T63 l0_1 x11_4).f1)) = x10_3 then (if 0 ≤ ((rd_T63 l0_1 x11_4).f0) then (if ((rd_T63 l0_1 x11_4).f0) < (x8_4.length : Int) then (if (rd y201 ((rd_T63 l0_1 x11_4).f0)) < 0 then (spec_RouteTo.l2 kj37 a1 a2 y184 (y201.set (((rd_T63 l0_1 x11_4).f0) : Int).toNat (wrap64 (x10_3 + 1))) x10_3 (wrap64 (x11_4 + 1)) a0_0 l0_1) else (spec_RouteTo.l2 kj37 a1 a2 y184 y201 x10_3 (wrap64 (x11_4 + 1)) a0_0 l0_1)) else (none)) else (none)) else (spec_RouteTo.l2 kj37 a1 a2 y184 y201 x10_3 (wrap64 (x11_4 + 1)) a0_0 l0_1)) = some r := by first | (rw [hy201]; with_reducible exact H) | (have H2_ := (Option.bind_some _ _).symm.trans H; rw [hy201]; with_reducible exact H2_) | (have H2_ := (Option.bind_some _ _).symm.trans H; with_reducible exact H2_) | with_reducible exact H | (rw [hy201]; exact H) | exact H
                     have Ny201 := Aside0.mk hy201
                     clear hy201
                     by_cases c49 : (rd y201 ((rd_T63 l0_1 x11_4).f1)) = x10_3
                     ·rw [if_pos c49] at H
                      have c49b0 : ((rd y201 ((rd_T63 l0_1 x11_4).f1)) == x10_3) = true := beq_iff_eq.mpr c49
                      have c49b1 : ((rd y201 ((rd_T63 l0_1 x11_4).f1)) != x10_3) = false := bne_eq_false_iff_eq.mpr c49
                      clear c49
                      by_cases c50 : 0 ≤ ((rd_T63 l0_1 x11_4).f0)
                      ·rw [if_pos c50] at H
                       have c50b0 : decide (0 ≤ ((rd_T63 l0_1 x11_4).f0)) = true := decide_eq_true c50
                       clear c50
                       by_cases c51 : ((rd_T63 l0_1 x11_4).f0) < (x8_4.length : Int)
                       ·rw [if_pos c51] at H
                        have c51b0 : decide (((rd_T63 l0_1 x11_4).f0) < (x8_4.length : Int)) = true := decide_eq_true c51; (try (have c51b0z0 := c51b0; rw [hl8_3] at c51b0z0)); (try (have c51b0z1 := c51b0; rw [hl8_4] at c51b0z1))
                        clear c51
                        by_cases c52 : (rd y201 ((rd_T63 l0_1 x11_4).f0)) < 0
                        ·rw [if_pos c52] at H
                         have c52b0 : decide ((rd y201 ((rd_T63 l0_1 x11_4).f0)) < 0) = true := decide_eq_true c52
                         clear c52
                         obtain ⟨y204, hy204⟩ : ∃ y_ : List Int, y_ = (y201.set (((rd_T63 l0_1 x11_4).f0) : Int).toNat (wrap64 (x10_3 + 1))) := ⟨_, rfl⟩
                         replace H : (spec_RouteTo.l2 kj37 a1 a2 y184 y204 x10_3 (wrap64 (x11_4 + 1)) a0_0 l0_1) = some r := by first | (rw [hy204]; with_reducible exact H) | (have H2_ := (Option.bind_some _ _).symm.trans H; rw [hy204]; with_reducible exact H2_) | (have H2_ := (Option.bind_some _ _).symm.trans H; with_reducible exact H2_) | with_reducible exact H | (rw [hy204]; exact H) | exact H
                         have Ny204 := Aside0.mk hy204
                         clear hy204
                         have H' := Aside0.mk H
                         clear H
                         have p48 : 0 ≤ (((rd_T63 l0_1 x11_4).f1) : Int) := of_decide_eq_true (by first | (with_reducible assumption) | assumption)
                         have q48 : (((rd_T63 l0_1 x11_4).f1) : Int) < ((x8_4.length : Int) : Int) := of_decide_eq_true (by first | (with_reducible assumption) | assumption)
                         obtain ⟨hx48_0, hf48_0⟩ := Kd.R_celln 0 HO_8.out (((rd_T63 l0_1 x11_4).f1) : Int) p48 q48
                         replace p48 := eq_true p48
                         replace q48 := eq_true q48
                         have HP54 := Kd.R_putg HO_8.out (((rd_T63 l0_1 x11_4).f1) : Int) (wrap64 (x10_3 + 1))
                         go_wp2_with (first | ((with_reducible refine gate_store (t := 3) (p := 94) rfl ?_); (try (rw [drewN_self wc]; generalize hq_ : World.drewN wc _ = wc; have n0_ := Aside0.mk (Kd.R_at hq_ HO_7.out); have n1_ := Aside0.mk (Kd.R_at hq_ HO_8.out); have n2_ := Aside0.mk (blk_at hq_ BK183.out); have n3_ := Aside0.mk (below_at hq_ HB.out); clear hq_ HO_7 HO_8 BK183 HB; have HO_7 := n0_; have HO_8 := n1_; have BK183 := n2_; have HB := n3_; clear n0_ n1_ n2_ n3_; (try (have HP54 := Kd.R_putg HO_8.out (((rd_T63 l0_1 x11_4).f1) : Int) (wrap64 (x10_3 + 1)))))); refine store_event (t := 3) (p := 94) (v := ?vo_w55) (w1 := (wc.setCell ⟨go30, (((rd_T63 l0_1 x11_4).f1) : Int).toNat, none⟩ (.int .i64 (wrap64 (x10_3 + 1))))) ?hg ?ho ?hn ?hr ?_; (case ho => rfl); (case hg => rfl); (case hn => rfl); (case hr => first | (go_simp; done) | (go_simp; rfl)); intro w55 hw; have hg : wc.grownBy w55 (some go30) := (by rw [hw]; exact HP54.2); have hp_ : Kd.R (Kd.int .i64) 3 w55 w.heap.size (fun k_ => some k_ ≠ (v185 : Value).ownBlock) (.slice (some ⟨go30, 0, none⟩) x8_4.length co30) y201 := (by rw [hw, Ny201.out]; exact HP54.1); clear HP54; have n0_ := Aside0.mk (Kd.R_after (v := (.slice (some ⟨go30, 0, none⟩) x8_4.length co30)) (v1 := (.slice (some ⟨go30, 0, none⟩) x8_4.length co30)) (ok := (fun _ => True)) (by (with_reducible repeat (first | apply Kd.R_alloc | apply Kd.R_drewN | apply Kd.R_drew)); exact Kd.R_mono HO_7.out (fun _ hk => ⟨trivial, hk⟩)) hg (.inl rfl)); have n1_ := Aside0.mk (hp_); have n2_ := Aside0.mk (blk_grown (g := gb183) (o := .cells #[.int .i64 a0_0, .slice (some ad197) l0_1.length c0_1] 54 (0, 0)) (bk_ BK183) hg (Kd.R_ne HO_8.out BK183.out (by decide))); have n3_ := Aside0.mk ((by rw [hw]; exact below_set (HB.out) GB30.out : Below w.heap.size w w55)); clear HO_7; clear HO_8; clear BK183; clear HB; have HO_7 := n0_; have HO_8 := n1_; have BK183 := n2_; have HB := n3_; clear n0_ n1_ n2_ n3_; clear hg hw hp_; have p202 : 0 ≤ (((rd_T63 l0_1 x11_4).f1) : Int) := of_decide_eq_true (by first | (with_reducible assumption) | assumption); have q202 : ((rd_T63 l0_1 x11_4).f1) < (y201.length : Int) := (by have h_ : (((rd_T63 l0_1 x11_4).f1) : Int) < ((x8_4.length : Int) : Int) := of_decide_eq_true (by first | (with_reducible assumption) | assumption); first | (have e_ := (Kd.R_reads' HO_8.out).1; omega) | simpa only [Ny201.out, List.length_set] using h_); have ql202 : ((((rd_T63 l0_1 x11_4).f1) : Int) < ((x8_4.length : Int) : Int)) = True := eq_true (of_decide_eq_true (by first | (with_reducible assumption) | assumption)); obtain ⟨ad202, e202, hx202_0⟩ := Kd.at_int (Kd.R_reads' HO_8.out).2.2 ((rd_T63 l0_1 x11_4).f1) p202 q202; obtain rfl : (⟨go30, 0, none⟩ : Addr) = ad202 := (by injection e202); (first | simp only [add_plain] at hx202_0 | simp only [add_at] at hx202_0 | simp only [Addr.add, Nat.zero_add] at hx202_0 | skip); replace p202 := eq_true p202; replace q202 := eq_true q202; have p203 : 0 ≤ (((rd_T63 l0_1 x11_4).f0) : Int) := of_decide_eq_true (by first | (with_reducible assumption) | assumption); have q203 : ((rd_T63 l0_1 x11_4).f0) < (y201.length : Int) := (by have h_ : (((rd_T63 l0_1 x11_4).f0) : Int) < ((x8_4.length : Int) : Int) := of_decide_eq_true (by first | (with_reducible assumption) | assumption); first | (have e_ := (Kd.R_reads' HO_8.out).1; omega) | simpa only [Ny201.out, List.length_set] using h_); have ql203 : ((((rd_T63 l0_1 x11_4).f0) : Int) < ((x8_4.length : Int) : Int)) = True := eq_true (of_decide_eq_true (by first | (with_reducible assumption) | assumption)); obtain ⟨ad203, e203, hx203_0⟩ := Kd.at_int (Kd.R_reads' HO_8.out).2.2 ((rd_T63 l0_1 x11_4).f0) p203 q203; obtain rfl : (⟨go30, 0, none⟩ : Addr) = ad203 := (by injection e203); (first | simp only [add_plain] at hx203_0 | simp only [add_at] at hx203_0 | simp only [Addr.add, Nat.zero_add] at hx203_0 | skip); replace p203 := eq_true p203; replace q203 := eq_true q203; have p53 : 0 ≤ (((rd_T63 l0_1 x11_4).f0) : Int) := of_decide_eq_true (by first | (with_reducible assumption) | assumption); have q53 : (((rd_T63 l0_1 x11_4).f0) : Int) < ((x8_4.length : Int) : Int) := of_decide_eq_true (by first | (with_reducible assumption) | assumption); obtain ⟨hx53_0, hf53_0⟩ := Kd.R_celln 0 HO_8.out (((rd_T63 l0_1 x11_4).f0) : Int) p53 q53; replace p53 := eq_true p53; replace q53 := eq_true q53; obtain ⟨hy56_, hz56_⟩ := Kd.R_celln 0 HO_8.out (((rd_T63 l0_1 x11_4).f0) : Int) (of_decide_eq_true (by first | (with_reducible assumption) | assumption)) (of_decide_eq_true (by first | (with_reducible assumption) | assumption)); have HP56 := Kd.R_putg HO_8.out (((rd_T63 l0_1 x11_4).f0) : Int) (wrap64 (x10_3 + 1))) | ((with_reducible refine gate_store (t := 3) (p := 112) rfl ?_); (try (rw [drewN_self w55]; generalize hq_ : World.drewN w55 _ = w55; have n0_ := Aside0.mk (Kd.R_at hq_ HO_7.out); have n1_ := Aside0.mk (Kd.R_at hq_ HO_8.out); have n2_ := Aside0.mk (blk_at hq_ BK183.out); have n3_ := Aside0.mk (below_at hq_ HB.out); clear hq_ HO_7 HO_8 BK183 HB; have HO_7 := n0_; have HO_8 := n1_; have BK183 := n2_; have HB := n3_; clear n0_ n1_ n2_ n3_; (try (obtain ⟨hy56_, hz56_⟩ := Kd.R_celln 0 HO_8.out (((rd_T63 l0_1 x11_4).f0) : Int) (of_decide_eq_true (by first | (with_reducible assumption) | assumption)) (of_decide_eq_true (by first | (with_reducible assumption) | assumption)))); (try (have HP56 := Kd.R_putg HO_8.out (((rd_T63 l0_1 x11_4).f0) : Int) (wrap64 (x10_3 + 1)))))); refine store_event (t := 3) (p := 112) (v := ?vo_w57) (w1 := (w55.setCell ⟨go30, (((rd_T63 l0_1 x11_4).f0) : Int).toNat, none⟩ (.int .i64 (wrap64 (x10_3 + 1))))) ?hg ?ho ?hn ?hr ?_; (case ho => rfl); (case hg => rfl); (case hn => rfl); (case hr => first | (go_simp; done) | (go_simp; rfl)); intro w57 hw; have hg : w55.grownBy w57 (some go30) := (by rw [hw]; exact HP56.2); have hp_ : Kd.R (Kd.int .i64) 3 w57 w.heap.size (fun k_ => some k_ ≠ (v185 : Value).ownBlock) (.slice (some ⟨go30, 0, none⟩) x8_4.length co30) y204 := (by rw [hw, Ny204.out]; exact HP56.1); clear HP56; have n0_ := Aside0.mk (Kd.R_after (v := (.slice (some ⟨go30, 0, none⟩) x8_4.length co30)) (v1 := (.slice (some ⟨go30, 0, none⟩) x8_4.length co30)) (ok := (fun _ => True)) (kr_ HO_7) hg (.inl rfl)); have n1_ := Aside0.mk (hp_); have n2_ := Aside0.mk (blk_grown (g := gb183) (o := .cells #[.int .i64 a0_0, .slice (some ad197) l0_1.length c0_1] 54 (0, 0)) (bk_ BK183) hg (Kd.R_ne HO_8.out BK183.out (by decide))); have n3_ := Aside0.mk ((by rw [hw]; exact below_set (HB.out) GB30.out : Below w.heap.size w w57)); clear HO_7; clear HO_8; clear BK183; clear HB; have HO_7 := n0_; have HO_8 := n1_; have BK183 := n2_; have HB := n3_; clear n0_ n1_ n2_ n3_; clear hg hw hp_))
                         (try simp only [← hl8_4])
                         go_roundg kj37
                         case measure => have := HJ3.out; have := HK2.out; have := HK3.out; have := HK4.out; have := HJ37.out; omega
                         case rel => exact ⟨(y204), (wrap64 (x11_4 + 1)), (by first | rfl | (simp; done) | (simp [*]; done)), H', ⟨by have := HJ3.out; have := HK2.out; have := HK3.out; have := HK4.out; have := HJ37.out; omega⟩, ⟨by (try simp only [hl8_3]); (try simp only [hl8_4]); (with_reducible repeat (first | apply Kd.R_alloc | apply Kd.R_drewN | apply Kd.R_drew)); exact Kd.R_mono HO_7.out (fun _ hk => hk.2)⟩, ⟨by (try simp only [hl8_3]); (try simp only [hl8_4]); (with_reducible repeat (first | apply Kd.R_alloc | apply Kd.R_drewN | apply Kd.R_drew)); exact HO_8.out⟩, ⟨by (try simp only [hl8_3]); (try simp only [hl8_4]); (with_reducible repeat (first | refine blk_drewN ?_ _ | refine blk_drew ?_ | refine blk_alloc ?_ _)); exact BK183.out⟩, ⟨bw1_ HB GE183.out⟩⟩
                        ·rw [if_neg c52] at H
                         have c52b0 : decide ((rd y201 ((rd_T63 l0_1 x11_4).f0)) < 0) = false := decide_eq_false c52
                         clear c52
                         have H' := Aside0.mk H
                         clear H
                         have p48 : 0 ≤ (((rd_T63 l0_1 x11_4).f1) : Int) := of_decide_eq_true (by first | (with_reducible assumption) | assumption)
                         have q48 : (((rd_T63 l0_1 x11_4).f1) : Int) < ((x8_4.length : Int) : Int) := of_decide_eq_true (by first | (with_reducible assumption) | assumption)
                         obtain ⟨hx48_0, hf48_0⟩ := Kd.R_celln 0 HO_8.out (((rd_T63 l0_1 x11_4).f1) : Int) p48 q48
                         replace p48 := eq_true p48
                         replace q48 := eq_true q48
                         have HP58 := Kd.R_putg HO_8.out (((rd_T63 l0_1 x11_4).f1) : Int) (wrap64 (x10_3 + 1))
                         go_wp2_with (first | ((with_reducible refine gate_store (t := 3) (p := 94) rfl ?_); (try (rw [drewN_self wc]; generalize hq_ : World.drewN wc _ = wc; have n0_ := Aside0.mk (Kd.R_at hq_ HO_7.out); have n1_ := Aside0.mk (Kd.R_at hq_ HO_8.out); have n2_ := Aside0.mk (blk_at hq_ BK183.out); have n3_ := Aside0.mk (below_at hq_ HB.out); clear hq_ HO_7 HO_8 BK183 HB; have HO_7 := n0_; have HO_8 := n1_; have BK183 := n2_; have HB := n3_; clear n0_ n1_ n2_ n3_; (try (have HP58 := Kd.R_putg HO_8.out (((rd_T63 l0_1 x11_4).f1) : Int) (wrap64 (x10_3 + 1)))))); refine store_event (t := 3) (p := 94) (v := ?vo_w59) (w1 := (wc.setCell ⟨go30, (((rd_T63 l0_1 x11_4).f1) : Int).toNat, none⟩ (.int .i64 (wrap64 (x10_3 + 1))))) ?hg ?ho ?hn ?hr ?_; (case ho => rfl); (case hg => rfl); (case hn => rfl); (case hr => first | (go_simp; done) | (go_simp; rfl)); intro w59 hw; have hg : wc.grownBy w59 (some go30) := (by rw [hw]; exact HP58.2); have hp_ : Kd.R (Kd.int .i64) 3 w59 w.heap.size (fun k_ => some k_ ≠ (v185 : Value).ownBlock) (.slice (some ⟨go30, 0, none⟩) x8_4.length co30) y201 := (by rw [hw, Ny201.out]; exact HP58.1); clear HP58; have n0_ := Aside0.mk (Kd.R_after (v := (.slice (some ⟨go30, 0, none⟩) x8_4.length co30)) (v1 := (.slice (some ⟨go30, 0, none⟩) x8_4.length co30)) (ok := (fun _ => True)) (by (with_reducible repeat (first | apply Kd.R_alloc | apply Kd.R_drewN | apply Kd.R_drew)); exact Kd.R_mono HO_7.out (fun _ hk => ⟨trivial, hk⟩)) hg (.inl rfl)); have n1_ := Aside0.mk (hp_); have n2_ := Aside0.mk (blk_grown (g := gb183) (o := .cells #[.int .i64 a0_0, .slice (some ad197) l0_1.length c0_1] 54 (0, 0)) (bk_ BK183) hg (Kd.R_ne HO_8.out BK183.out (by decide))); have n3_ := Aside0.mk ((by rw [hw]; exact below_set (HB.out) GB30.out : Below w.heap.size w w59)); clear HO_7; clear HO_8; clear BK183; clear HB; have HO_7 := n0_; have HO_8 := n1_; have BK183 := n2_; have HB := n3_; clear n0_ n1_ n2_ n3_; clear hg hw hp_; have p202 : 0 ≤ (((rd_T63 l0_1 x11_4).f1) : Int) := of_decide_eq_true (by first | (with_reducible assumption) | assumption); have q202 : ((rd_T63 l0_1 x11_4).f1) < (y201.length : Int) := (by have h_ : (((rd_T63 l0_1 x11_4).f1) : Int) < ((x8_4.length : Int) : Int) := of_decide_eq_true (by first | (with_reducible assumption) | assumption); first | (have e_ := (Kd.R_reads' HO_8.out).1; omega) | simpa only [Ny201.out, List.length_set] using h_); have ql202 : ((((rd_T63 l0_1 x11_4).f1) : Int) < ((x8_4.length : Int) : Int)) = True := eq_true (of_decide_eq_true (by first | (with_reducible assumption) | assumption)); obtain ⟨ad202, e202, hx202_0⟩ := Kd.at_int (Kd.R_reads' HO_8.out).2.2 ((rd_T63 l0_1 x11_4).f1) p202 q202; obtain rfl : (⟨go30, 0, none⟩ : Addr) = ad202 := (by injection e202); (first | simp only [add_plain] at hx202_0 | simp only [add_at] at hx202_0 | simp only [Addr.add, Nat.zero_add] at hx202_0 | skip); replace p202 := eq_true p202; replace q202 := eq_true q202; have p203 : 0 ≤ (((rd_T63 l0_1 x11_4).f0) : Int) := of_decide_eq_true (by first | (with_reducible assumption) | assumption); have q203 : ((rd_T63 l0_1 x11_4).f0) < (y201.length : Int) := (by have h_ : (((rd_T63 l0_1 x11_4).f0) : Int) < ((x8_4.length : Int) : Int) := of_decide_eq_true (by first | (with_reducible assumption) | assumption); first | (have e_ := (Kd.R_reads' HO_8.out).1; omega) | simpa only [Ny201.out, List.length_set] using h_); have ql203 : ((((rd_T63 l0_1 x11_4).f0) : Int) < ((x8_4.length : Int) : Int)) = True := eq_true (of_decide_eq_true (by first | (with_reducible assumption) | assumption)); obtain ⟨ad203, e203, hx203_0⟩ := Kd.at_int (Kd.R_reads' HO_8.out).2.2 ((rd_T63 l0_1 x11_4).f0) p203 q203; obtain rfl : (⟨go30, 0, none⟩ : Addr) = ad203 := (by injection e203); (first | simp only [add_plain] at hx203_0 | simp only [add_at] at hx203_0 | simp only [Addr.add, Nat.zero_add] at hx203_0 | skip); replace p203 := eq_true p203; replace q203 := eq_true q203))
                         (try simp only [← hl8_4])
                         go_roundg kj37
                         case measure => have := HJ3.out; have := HK2.out; have := HK3.out; have := HK4.out; have := HJ37.out; omega
                         case rel => exact ⟨(y201), (wrap64 (x11_4 + 1)), (by first | rfl | (simp; done) | (simp [*]; done)), H', ⟨by have := HJ3.out; have := HK2.out; have := HK3.out; have := HK4.out; have := HJ37.out; omega⟩, ⟨by (try simp only [hl8_3]); (try simp only [hl8_4]); (with_reducible repeat (first | apply Kd.R_alloc | apply Kd.R_drewN | apply Kd.R_drew)); exact Kd.R_mono HO_7.out (fun _ hk => hk.2)⟩, ⟨by (try simp only [hl8_3]); (try simp only [hl8_4]); (with_reducible repeat (first | apply Kd.R_alloc | apply Kd.R_drewN | apply Kd.R_drew)); exact HO_8.out⟩, ⟨by (try simp only [hl8_3]); (try simp only [hl8_4]); (with_reducible repeat (first | refine blk_drewN ?_ _ | refine blk_drew ?_ | refine blk_alloc ?_ _)); exact BK183.out⟩, ⟨bw1_ HB GE183.out⟩⟩
                       ·rw [if_neg c51] at H
                        exact absurd H (by simp)
                      ·rw [if_neg c50] at H
                       exact absurd H (by simp)
                     ·rw [if_neg c49] at H
                      have c49b0 : ((rd y201 ((rd_T63 l0_1 x11_4).f1)) == x10_3) = false := beq_eq_false_iff_ne.mpr c49
                      have c49b1 : ((rd y201 ((rd_T63 l0_1 x11_4).f1)) != x10_3) = true := bne_iff_ne.mpr c49
                      have H' := Aside0.mk H
                      clear H
                      have p48 : 0 ≤ (((rd_T63 l0_1 x11_4).f1) : Int) := of_decide_eq_true (by first | (with_reducible assumption) | assumption)
                      have q48 : (((rd_T63 l0_1 x11_4).f1) : Int) < ((x8_4.length : Int) : Int) := of_decide_eq_true (by first | (with_reducible assumption) | assumption)
                      obtain ⟨hx48_0, hf48_0⟩ := Kd.R_celln 0 HO_8.out (((rd_T63 l0_1 x11_4).f1) : Int) p48 q48
                      replace p48 := eq_true p48
                      replace q48 := eq_true q48
                      have HP60 := Kd.R_putg HO_8.out (((rd_T63 l0_1 x11_4).f1) : Int) (wrap64 (x10_3 + 1))
                      go_wp2_with (first | ((with_reducible refine gate_store (t := 3) (p := 94) rfl ?_); (try (rw [drewN_self wc]; generalize hq_ : World.drewN wc _ = wc; have n0_ := Aside0.mk (Kd.R_at hq_ HO_7.out); have n1_ := Aside0.mk (Kd.R_at hq_ HO_8.out); have n2_ := Aside0.mk (blk_at hq_ BK183.out); have n3_ := Aside0.mk (below_at hq_ HB.out); clear hq_ HO_7 HO_8 BK183 HB; have HO_7 := n0_; have HO_8 := n1_; have BK183 := n2_; have HB := n3_; clear n0_ n1_ n2_ n3_; (try (have HP60 := Kd.R_putg HO_8.out (((rd_T63 l0_1 x11_4).f1) : Int) (wrap64 (x10_3 + 1)))))); refine store_event (t := 3) (p := 94) (v := ?vo_w61) (w1 := (wc.setCell ⟨go30, (((rd_T63 l0_1 x11_4).f1) : Int).toNat, none⟩ (.int .i64 (wrap64 (x10_3 + 1))))) ?hg ?ho ?hn ?hr ?_; (case ho => rfl); (case hg => rfl); (case hn => rfl); (case hr => first | (go_simp; done) | (go_simp; rfl)); intro w61 hw; have hg : wc.grownBy w61 (some go30) := (by rw [hw]; exact HP60.2); have hp_ : Kd.R (Kd.int .i64) 3 w61 w.heap.size (fun k_ => some k_ ≠ (v185 : Value).ownBlock) (.slice (some ⟨go30, 0, none⟩) x8_4.length co30) y201 := (by rw [hw, Ny201.out]; exact HP60.1); clear HP60; have n0_ := Aside0.mk (Kd.R_after (v := (.slice (some ⟨go30, 0, none⟩) x8_4.length co30)) (v1 := (.slice (some ⟨go30, 0, none⟩) x8_4.length co30)) (ok := (fun _ => True)) (by (with_reducible repeat (first | apply Kd.R_alloc | apply Kd.R_drewN | apply Kd.R_drew)); exact Kd.R_mono HO_7.out (fun _ hk => ⟨trivial, hk⟩)) hg (.inl rfl)); have n1_ := Aside0.mk (hp_); have n2_ := Aside0.mk (blk_grown (g := gb183) (o := .cells #[.int .i64 a0_0, .slice (some ad197) l0_1.length c0_1] 54 (0, 0)) (bk_ BK183) hg (Kd.R_ne HO_8.out BK183.out (by decide))); have n3_ := Aside0.mk ((by rw [hw]; exact below_set (HB.out) GB30.out : Below w.heap.size w w61)); clear HO_7; clear HO_8; clear BK183; clear HB; have HO_7 := n0_; have HO_8 := n1_; have BK183 := n2_; have HB := n3_; clear n0_ n1_ n2_ n3_; clear hg hw hp_; have p202 : 0 ≤ (((rd_T63 l0_1 x11_4).f1) : Int) := of_decide_eq_true (by first | (with_reducible assumption) | assumption); have q202 : ((rd_T63 l0_1 x11_4).f1) < (y201.length : Int) := (by have h_ : (((rd_T63 l0_1 x11_4).f1) : Int) < ((x8_4.length : Int) : Int) := of_decide_eq_true (by first | (with_reducible assumption) | assumption); first | (have e_ := (Kd.R_reads' HO_8.out).1; omega) | simpa only [Ny201.out, List.length_set] using h_); have ql202 : ((((rd_T63 l0_1 x11_4).f1) : Int) < ((x8_4.length : Int) : Int)) = True := eq_true (of_decide_eq_true (by first | (with_reducible assumption) | assumption)); obtain ⟨ad202, e202, hx202_0⟩ := Kd.at_int (Kd.R_reads' HO_8.out).2.2 ((rd_T63 l0_1 x11_4).f1) p202 q202; obtain rfl : (⟨go30, 0, none⟩ : Addr) = ad202 := (by injection e202); (first | simp only [add_plain] at hx202_0 | simp only [add_at] at hx202_0 | simp only [Addr.add, Nat.zero_add] at hx202_0 | skip); replace p202 := eq_true p202; replace q202 := eq_true q202))
                      (try simp only [← hl8_4])
                      go_roundg kj37
                      case measure => have := HJ3.out; have := HK2.out; have := HK3.out; have := HK4.out; have := HJ37.out; omega
                      case rel => exact ⟨(y201), (wrap64 (x11_4 + 1)), (by first | rfl | (simp; done) | (simp [*]; done)), H', ⟨by have := HJ3.out; have := HK2.out; have := HK3.out; have := HK4.out; have := HJ37.out; omega⟩, ⟨by (try simp only [hl8_3]); (try simp only [hl8_4]); (with_reducible repeat (first | apply Kd.R_alloc | apply Kd.R_drewN | apply Kd.R_drew)); exact Kd.R_mono HO_7.out (fun _ hk => hk.2)⟩, ⟨by (try simp only [hl8_3]); (try simp only [hl8_4]); (with_reducible repeat (first | apply Kd.R_alloc | apply Kd.R_drewN | apply Kd.R_drew)); exact HO_8.out⟩, ⟨by (try simp only [hl8_3]); (try simp only [hl8_4]); (with_reducible repeat (first | refine blk_drewN ?_ _ | refine blk_drew ?_ | refine blk_alloc ?_ _)); exact BK183.out⟩, ⟨bw1_ HB GE183.out⟩⟩
                    ·rw [if_neg c47] at H
                     exact absurd H (by simp)
                   ·rw [if_neg c46] at H
                    exact absurd H (by simp)
                  ·replace c45 := Bool.eq_false_iff.mpr c45
                   subst c45
                   have H1 : (if 0 ≤ ((rd_T63 l0_1 x11_4).f1) then (if ((rd_T63 l0_1 x11_4).f1) < (x8_4.length : Int) then (if (rd x8_4 ((rd_T63 l0_1 x11_4).f1)) = x10_3 then (if 0 ≤ ((rd_T63 l0_1 x11_4).f0) then (if ((rd_T63 l0_1 x11_4).f0) < (x8_4.length : Int) then (if (rd x8_4 ((rd_T63 l0_1 x11_4).f0)) < 0 then (spec_RouteTo.l2 kj37 a1 a2 y184 (x8_4.set (((rd_T63 l0_1 x11_4).f0) : Int).toNat (wrap64 (x10_3 + 1))) x10_3 (wrap64 (x11_4 + 1)) a0_0 l0_1) else (spec_RouteTo.l2 kj37 a1 a2 y184 x8_4 x10_3 (wrap64 (x11_4 + 1)) a0_0 l0_1)) else (none)) else (none)) else (spec_RouteTo.l2 kj37 a1 a2 y184 x8_4 x10_3 (wrap64 (x11_4 + 1)) a0_0 l0_1)) else (none)) else (none)) = some r := by rw [if_neg (show ¬ (false = true) by decide)] at H; exact H
                   clear H
                   have H := H1
                   clear H1
                   by_cases c62 : 0 ≤ ((rd_T63 l0_1 x11_4).f1)
                   ·rw [if_pos c62] at H
                    have c62b0 : decide (0 ≤ ((rd_T63 l0_1 x11_4).f1)) = true := decide_eq_true c62
                    clear c62
                    by_cases c63 : ((rd_T63 l0_1 x11_4).f1) < (x8_4.length : Int)
                    ·rw [if_pos c63] at H
                     have c63b0 : decide (((rd_T63 l0_1 x11_4).f1) < (x8_4.length : Int)) = true := decide_eq_true c63; (try (have c63b0z0 := c63b0; rw [hl8_3] at c63b0z0)); (try (have c63b0z1 := c63b0; rw [hl8_4] at c63b0z1))
                     clear c63
                     by_cases c64 : (rd x8_4 ((rd_T63 l0_1 x11_4).f1)) = x10_3
                     ·rw [if_pos c64] at H
                      have c64b0 : ((rd x8_4 ((rd_T63 l0_1 x11_4).f1)) == x10_3) = true := beq_iff_eq.mpr c64
                      have c64b1 : ((rd x8_4 ((rd_T63 l0_1 x11_4).f1)) != x10_3) = false := bne_eq_false_iff_eq.mpr c64
                      clear c64
                      by_cases c65 : 0 ≤ ((rd_T63 l0_1 x11_4).f0)
                      ·rw [if_pos c65] at H
                       have c65b0 : decide (0 ≤ ((rd_T63 l0_1 x11_4).f0)) = true := decide_eq_true c65
                       clear c65
                       by_cases c66 : ((rd_T63 l0_1 x11_4).f0) < (x8_4.length : Int)
                       ·rw [if_pos c66] at H
                        have c66b0 : decide (((rd_T63 l0_1 x11_4).f0) < (x8_4.length : Int)) = true := decide_eq_true c66; (try (have c66b0z0 := c66b0; rw [hl8_3] at c66b0z0)); (try (have c66b0z1 := c66b0; rw [hl8_4] at c66b0z1))
                        clear c66
                        by_cases c67 : (rd x8_4 ((rd_T63 l0_1 x11_4).f0)) < 0
                        ·rw [if_pos c67] at H
                         have c67b0 : decide ((rd x8_4 ((rd_T63 l0_1 x11_4).f0)) < 0) = true := decide_eq_true c67
                         clear c67
                         obtain ⟨y207, hy207⟩ : ∃ y_ : List Int, y_ = (x8_4.set (((rd_T63 l0_1 x11_4).f0) : Int).toNat (wrap64 (x10_3 + 1))) := ⟨_, rfl⟩
                         replace H : (spec_RouteTo.l2 kj37 a1 a2 y184 y207 x10_3 (wrap64 (x11_4 + 1)) a0_0 l0_1) = some r := by first | (rw [hy207]; with_reducible exact H) | (have H2_ := (Option.bind_some _ _).symm.trans H; rw [hy207]; with_reducible exact H2_) | (have H2_ := (Option.bind_some _ _).symm.trans H; with_reducible exact H2_) | with_reducible exact H | (rw [hy207]; exact H) | exact H
                         have Ny207 := Aside0.mk hy207
                         clear hy207
                         have H' := Aside0.mk H
                         clear H
                         have p205 : 0 ≤ (((rd_T63 l0_1 x11_4).f1) : Int) := of_decide_eq_true (by first | (with_reducible assumption) | assumption)
                         have q205 : ((rd_T63 l0_1 x11_4).f1) < (x8_4.length : Int) := of_decide_eq_true (by first | (with_reducible assumption) | assumption)
                         obtain ⟨ad205, e205, hx205_0⟩ := Kd.at_int (Kd.R_reads' HO_8.out).2.2 ((rd_T63 l0_1 x11_4).f1) p205 q205
                         obtain rfl : (⟨go30, 0, none⟩ : Addr) = ad205 := (by injection e205)
                         (first | simp only [add_plain] at hx205_0 | simp only [add_at] at hx205_0 | simp only [Addr.add, Nat.zero_add] at hx205_0 | skip)
                         replace p205 := eq_true p205
                         replace q205 := eq_true q205
                         have p206 : 0 ≤ (((rd_T63 l0_1 x11_4).f0) : Int) := of_decide_eq_true (by first | (with_reducible assumption) | assumption)
                         have q206 : ((rd_T63 l0_1 x11_4).f0) < (x8_4.length : Int) := of_decide_eq_true (by first | (with_reducible assumption) | assumption)
                         obtain ⟨ad206, e206, hx206_0⟩ := Kd.at_int (Kd.R_reads' HO_8.out).2.2 ((rd_T63 l0_1 x11_4).f0) p206 q206
                         obtain rfl : (⟨go30, 0, none⟩ : Addr) = ad206 := (by injection e206)
                         (first | simp only [add_plain] at hx206_0 | simp only [add_at] at hx206_0 | simp only [Addr.add, Nat.zero_add] at hx206_0 | skip)
                         replace p206 := eq_true p206
                         replace q206 := eq_true q206
                         have p68 : 0 ≤ (((rd_T63 l0_1 x11_4).f0) : Int) := of_decide_eq_true (by first | (with_reducible assumption) | assumption)
                         have q68 : (((rd_T63 l0_1 x11_4).f0) : Int) < ((x8_4.length : Int) : Int) := of_decide_eq_true (by first | (with_reducible assumption) | assumption)
                         obtain ⟨hx68_0, hf68_0⟩ := Kd.R_celln 0 HO_8.out (((rd_T63 l0_1 x11_4).f0) : Int) p68 q68
                         replace p68 := eq_true p68
                         replace q68 := eq_true q68
                         have HP69 := Kd.R_putg HO_8.out (((rd_T63 l0_1 x11_4).f0) : Int) (wrap64 (x10_3 + 1))
                         go_wp2_with (first | ((with_reducible refine gate_store (t := 3) (p := 112) rfl ?_); (try (rw [drewN_self wc]; generalize hq_ : World.drewN wc _ = wc; have n0_ := Aside0.mk (Kd.R_at hq_ HO_7.out); have n1_ := Aside0.mk (Kd.R_at hq_ HO_8.out); have n2_ := Aside0.mk (blk_at hq_ BK183.out); have n3_ := Aside0.mk (below_at hq_ HB.out); clear hq_ HO_7 HO_8 BK183 HB; have HO_7 := n0_; have HO_8 := n1_; have BK183 := n2_; have HB := n3_; clear n0_ n1_ n2_ n3_; (try (have HP69 := Kd.R_putg HO_8.out (((rd_T63 l0_1 x11_4).f0) : Int) (wrap64 (x10_3 + 1)))))); refine store_event (t := 3) (p := 112) (v := ?vo_w70) (w1 := (wc.setCell ⟨go30, (((rd_T63 l0_1 x11_4).f0) : Int).toNat, none⟩ (.int .i64 (wrap64 (x10_3 + 1))))) ?hg ?ho ?hn ?hr ?_; (case ho => rfl); (case hg => rfl); (case hn => rfl); (case hr => first | (go_simp; done) | (go_simp; rfl)); intro w70 hw; have hg : wc.grownBy w70 (some go30) := (by rw [hw]; exact HP69.2); have hp_ : Kd.R (Kd.int .i64) 3 w70 w.heap.size (fun k_ => some k_ ≠ (v185 : Value).ownBlock) (.slice (some ⟨go30, 0, none⟩) x8_4.length co30) y207 := (by rw [hw, Ny207.out]; exact HP69.1); clear HP69; have n0_ := Aside0.mk (Kd.R_after (v := (.slice (some ⟨go30, 0, none⟩) x8_4.length co30)) (v1 := (.slice (some ⟨go30, 0, none⟩) x8_4.length co30)) (ok := (fun _ => True)) (by (with_reducible repeat (first | apply Kd.R_alloc | apply Kd.R_drewN | apply Kd.R_drew)); exact Kd.R_mono HO_7.out (fun _ hk => ⟨trivial, hk⟩)) hg (.inl rfl)); have n1_ := Aside0.mk (hp_); have n2_ := Aside0.mk (blk_grown (g := gb183) (o := .cells #[.int .i64 a0_0, .slice (some ad197) l0_1.length c0_1] 54 (0, 0)) (bk_ BK183) hg (Kd.R_ne HO_8.out BK183.out (by decide))); have n3_ := Aside0.mk ((by rw [hw]; exact below_set (HB.out) GB30.out : Below w.heap.size w w70)); clear HO_7; clear HO_8; clear BK183; clear HB; have HO_7 := n0_; have HO_8 := n1_; have BK183 := n2_; have HB := n3_; clear n0_ n1_ n2_ n3_; clear hg hw hp_))
                         (try simp only [← hl8_4])
                         go_roundg kj37
                         case measure => have := HJ3.out; have := HK2.out; have := HK3.out; have := HK4.out; have := HJ37.out; omega
                         case rel => exact ⟨(y207), (wrap64 (x11_4 + 1)), (by first | rfl | (simp; done) | (simp [*]; done)), H', ⟨by have := HJ3.out; have := HK2.out; have := HK3.out; have := HK4.out; have := HJ37.out; omega⟩, ⟨by (try simp only [hl8_3]); (try simp only [hl8_4]); (with_reducible repeat (first | apply Kd.R_alloc | apply Kd.R_drewN | apply Kd.R_drew)); exact Kd.R_mono HO_7.out (fun _ hk => hk.2)⟩, ⟨by (try simp only [hl8_3]); (try simp only [hl8_4]); (with_reducible repeat (first | apply Kd.R_alloc | apply Kd.R_drewN | apply Kd.R_drew)); exact HO_8.out⟩, ⟨by (try simp only [hl8_3]); (try simp only [hl8_4]); (with_reducible repeat (first | refine blk_drewN ?_ _ | refine blk_drew ?_ | refine blk_alloc ?_ _)); exact BK183.out⟩, ⟨bw1_ HB GE183.out⟩⟩
                        ·rw [if_neg c67] at H
                         have c67b0 : decide ((rd x8_4 ((rd_T63 l0_1 x11_4).f0)) < 0) = false := decide_eq_false c67
                         clear c67
                         have H' := Aside0.mk H
                         clear H
                         have p205 : 0 ≤ (((rd_T63 l0_1 x11_4).f1) : Int) := of_decide_eq_true (by first | (with_reducible assumption) | assumption)
                         have q205 : ((rd_T63 l0_1 x11_4).f1) < (x8_4.length : Int) := of_decide_eq_true (by first | (with_reducible assumption) | assumption)
                         obtain ⟨ad205, e205, hx205_0⟩ := Kd.at_int (Kd.R_reads' HO_8.out).2.2 ((rd_T63 l0_1 x11_4).f1) p205 q205
                         obtain rfl : (⟨go30, 0, none⟩ : Addr) = ad205 := (by injection e205)
                         (first | simp only [add_plain] at hx205_0 | simp only [add_at] at hx205_0 | simp only [Addr.add, Nat.zero_add] at hx205_0 | skip)
                         replace p205 := eq_true p205
                         replace q205 := eq_true q205
                         have p206 : 0 ≤ (((rd_T63 l0_1 x11_4).f0) : Int) := of_decide_eq_true (by first | (with_reducible assumption) | assumption)
                         have q206 : ((rd_T63 l0_1 x11_4).f0) < (x8_4.length : Int) := of_decide_eq_true (by first | (with_reducible assumption) | assumption)
                         obtain ⟨ad206, e206, hx206_0⟩ := Kd.at_int (Kd.R_reads' HO_8.out).2.2 ((rd_T63 l0_1 x11_4).f0) p206 q206
                         obtain rfl : (⟨go30, 0, none⟩ : Addr) = ad206 := (by injection e206)
                         (first | simp only [add_plain] at hx206_0 | simp only [add_at] at hx206_0 | simp only [Addr.add, Nat.zero_add] at hx206_0 | skip)
                         replace p206 := eq_true p206
                         replace q206 := eq_true q206
                         go_wp2
                         (try simp only [← hl8_4])
                         go_roundg kj37
                         case measure => have := HJ3.out; have := HK2.out; have := HK3.out; have := HK4.out; have := HJ37.out; omega
                         case rel => exact ⟨(x8_4), (wrap64 (x11_4 + 1)), (by first | rfl | (simp; done) | (simp [*]; done)), H', ⟨by have := HJ3.out; have := HK2.out; have := HK3.out; have := HK4.out; have := HJ37.out; omega⟩, ⟨by (try simp only [hl8_3]); (try simp only [hl8_4]); (with_reducible repeat (first | apply Kd.R_alloc | apply Kd.R_drewN | apply Kd.R_drew)); exact HO_7.out⟩, ⟨by (try simp only [hl8_3]); (try simp only [hl8_4]); (with_reducible repeat (first | apply Kd.R_alloc | apply Kd.R_drewN | apply Kd.R_drew)); exact HO_8.out⟩, ⟨by (try simp only [hl8_3]); (try simp only [hl8_4]); (with_reducible repeat (first | refine blk_drewN ?_ _ | refine blk_drew ?_ | refine blk_alloc ?_ _)); exact BK183.out⟩, ⟨bw1_ HB GE183.out⟩⟩
                       ·rw [if_neg c66] at H
                        exact absurd H (by simp)
                      ·rw [if_neg c65] at H
                       exact absurd H (by simp)
                     ·rw [if_neg c64] at H
                      have c64b0 : ((rd x8_4 ((rd_T63 l0_1 x11_4).f1)) == x10_3) = false := beq_eq_false_iff_ne.mpr c64
                      have c64b1 : ((rd x8_4 ((rd_T63 l0_1 x11_4).f1)) != x10_3) = true := bne_iff_ne.mpr c64
                      have H' := Aside0.mk H
                      clear H
                      have p205 : 0 ≤ (((rd_T63 l0_1 x11_4).f1) : Int) := of_decide_eq_true (by first | (with_reducible assumption) | assumption)
                      have q205 : ((rd_T63 l0_1 x11_4).f1) < (x8_4.length : Int) := of_decide_eq_true (by first | (with_reducible assumption) | assumption)
                      obtain ⟨ad205, e205, hx205_0⟩ := Kd.at_int (Kd.R_reads' HO_8.out).2.2 ((rd_T63 l0_1 x11_4).f1) p205 q205
                      obtain rfl : (⟨go30, 0, none⟩ : Addr) = ad205 := (by injection e205)
                      (first | simp only [add_plain] at hx205_0 | simp only [add_at] at hx205_0 | simp only [Addr.add, Nat.zero_add] at hx205_0 | skip)
                      replace p205 := eq_true p205
                      replace q205 := eq_true q205
                      go_wp2
                      (try simp only [← hl8_4])
                      go_roundg kj37
                      case measure => have := HJ3.out; have := HK2.out; have := HK3.out; have := HK4.out; have := HJ37.out; omega
                      case rel => exact ⟨(x8_4), (wrap64 (x11_4 + 1)), (by first | rfl | (simp; done) | (simp [*]; done)), H', ⟨by have := HJ3.out; have := HK2.out; have := HK3.out; have := HK4.out; have := HJ37.out; omega⟩, ⟨by (try simp only [hl8_3]); (try simp only [hl8_4]); (with_reducible repeat (first | apply Kd.R_alloc | apply Kd.R_drewN | apply Kd.R_drew)); exact HO_7.out⟩, ⟨by (try simp only [hl8_3]); (try simp only [hl8_4]); (with_reducible repeat (first | apply Kd.R_alloc | apply Kd.R_drewN | apply Kd.R_drew)); exact HO_8.out⟩, ⟨by (try simp only [hl8_3]); (try simp only [hl8_4]); (with_reducible repeat (first | refine blk_drewN ?_ _ | refine blk_drew ?_ | refine blk_alloc ?_ _)); exact BK183.out⟩, ⟨bw1_ HB GE183.out⟩⟩
                    ·rw [if_neg c63] at H
                     exact absurd H (by simp)
                   ·rw [if_neg c62] at H
                    exact absurd H (by simp)
               ·rw [if_neg c37] at H
                exact absurd H (by simp)
              ·rw [if_neg c36] at H
               have c36b0 : decide (x11_4 < (l0_1.length : Int)) = false := decide_eq_false c36; (try (have c36b0z0 := c36b0; rw [hl8_3] at c36b0z0)); (try (have c36b0z1 := c36b0; rw [hl8_4] at c36b0z1))
               clear c36
               have H' := Aside0.mk H
               clear H
               have hcz71_0 : wr.cell? ⟨gb183, 0, none⟩ = some (.int .i64 a0_0) := (blk_cell BK183.out 0).trans rfl
               have hcz71_1 : wr.cell? ⟨gb183, 1, none⟩ = some (.slice A0_1 l0_1.length c0_1) := (blk_cell BK183.out 1).trans rfl
               have hfz71_0 := blk_frozen BK183.out 0
               have hfz71_1 := blk_frozen BK183.out 1
               go_wp2
               (try simp only [← hl8_3, ← hl8_4])
               go_roundg k4
               case measure => have := HJ3.out; have := HK2.out; have := HK3.out; have := HK4.out; omega
               case rel => exact ⟨(x8_4), (wrap64 (x10_3 + 1)), (by first | rfl | (simp; done) | (simp [*]; done)), H', ⟨by have := HJ3.out; have := HK2.out; have := HK3.out; have := HK4.out; omega⟩, ⟨by (try simp only [hl8_3]); (try simp only [hl8_4]); (with_reducible repeat (first | apply Kd.R_alloc | apply Kd.R_drewN | apply Kd.R_drew)); exact HO_7.out⟩, ⟨by (try simp only [hl8_3]); (try simp only [hl8_4]); (with_reducible repeat (first | apply Kd.R_alloc | apply Kd.R_drewN | apply Kd.R_drew)); exact HO_8.out⟩, ⟨by (try simp only [hl8_3]); (try simp only [hl8_4]); (with_reducible repeat (first | refine blk_drewN ?_ _ | refine blk_drew ?_ | refine blk_alloc ?_ _)); exact BK183.out⟩, ⟨bw1_ HB GE183.out⟩⟩
           ·rw [if_neg c34] at H
            have c34b0 : decide (x10_3 < a0_0) = false := decide_eq_false c34
            clear c34
            by_cases c72 : 0 ≤ a1
            ·rw [if_pos c72] at H
             have c72b0 : decide (0 ≤ a1) = true := decide_eq_true c72
             clear c72
             by_cases c73 : a1 < (x8_3.length : Int)
             ·rw [if_pos c73] at H
              have c73b0 : decide (a1 < (x8_3.length : Int)) = true := decide_eq_true c73; (try (have c73b0z0 := c73b0; rw [hl8_3] at c73b0z0))
              clear c73
              by_cases c74 : (rd x8_3 a1) < 0
              ·rw [if_pos c74] at H
               have c74b0 : decide ((rd x8_3 a1) < 0) = true := decide_eq_true c74
               clear c74
               obtain rfl := Option.some.inj H
               have hcz75_0 : wr.cell? ⟨gb183, 0, none⟩ = some (.int .i64 a0_0) := (blk_cell BK183.out 0).trans rfl
               have hcz75_1 : wr.cell? ⟨gb183, 1, none⟩ = some (.slice A0_1 l0_1.length c0_1) := (blk_cell BK183.out 1).trans rfl
               have hfz75_0 := blk_frozen BK183.out 0
               have hfz75_1 := blk_frozen BK183.out 1
               have p208 : 0 ≤ (a1 : Int) := of_decide_eq_true (by first | (with_reducible assumption) | assumption)
               have q208 : a1 < (x8_3.length : Int) := of_decide_eq_true (by first | (with_reducible assumption) | assumption)
               obtain ⟨ad208, e208, hx208_0⟩ := Kd.at_int (Kd.R_reads' HO_8.out).2.2 a1 p208 q208
               obtain rfl : (⟨go30, 0, none⟩ : Addr) = ad208 := (by injection e208)
               (first | simp only [add_plain] at hx208_0 | simp only [add_at] at hx208_0 | simp only [Addr.add, Nat.zero_add] at hx208_0 | skip)
               replace p208 := eq_true p208
               replace q208 := eq_true q208
               go_wp2
               go_ret
               exact ⟨_, by first | rfl | (simp [errW_none, errW_some] <;> rfl) | (simp [*, errW_none, errW_some] <;> rfl), by (with_reducible repeat (first | apply Kd.R_alloc | apply Kd.R_drewN | apply Kd.R_drew)); exact Kd.R_mono HO_7.out (fun _ hk => trivial), bw1_ HB GE183.out⟩
              ·rw [if_neg c74] at H
               have c74b0 : decide ((rd x8_3 a1) < 0) = false := decide_eq_false c74
               clear c74
               have H' := Aside0.mk H
               clear H
               have hcz76_0 : wr.cell? ⟨gb183, 0, none⟩ = some (.int .i64 a0_0) := (blk_cell BK183.out 0).trans rfl
               have hcz76_1 : wr.cell? ⟨gb183, 1, none⟩ = some (.slice A0_1 l0_1.length c0_1) := (blk_cell BK183.out 1).trans rfl
               have hfz76_0 := blk_frozen BK183.out 0
               have hfz76_1 := blk_frozen BK183.out 1
               have p208 : 0 ≤ (a1 : Int) := of_decide_eq_true (by first | (with_reducible assumption) | assumption)
               have q208 : a1 < (x8_3.length : Int) := of_decide_eq_true (by first | (with_reducible assumption) | assumption)
               obtain ⟨ad208, e208, hx208_0⟩ := Kd.at_int (Kd.R_reads' HO_8.out).2.2 a1 p208 q208
               obtain rfl : (⟨go30, 0, none⟩ : Addr) = ad208 := (by injection e208)
               (first | simp only [add_plain] at hx208_0 | simp only [add_at] at hx208_0 | simp only [Addr.add, Nat.zero_add] at hx208_0 | skip)
               replace p208 := eq_true p208
               replace q208 := eq_true q208
               go_wp2
               go_loopg [7, 14] k3 (fun kq v7 v14 w' => ∃ (x7_4 : List Int) (x14_4 : Int), v14 = .int .i64 x14_4 ∧ Aside0 (spec_RouteTo.l3 kq a2 x7_4 x8_3 x14_4 a0_0 l0_1 = some r) ∧ Aside0 (kq ≤ k3) ∧ Aside0 (Kd.R (Kd.int .i64) 3 w' w.heap.size (fun k_ => some k_ ≠ ((.slice (some ⟨go30, 0, none⟩) x8_3.length co30) : Value).ownBlock) v7 x7_4) ∧ Aside0 (Kd.R (Kd.int .i64) 3 w' w.heap.size (fun k_ => some k_ ≠ (v7 : Value).ownBlock) (.slice (some ⟨go30, 0, none⟩) x8_3.length co30) x8_3) ∧ Aside0 (w'.heap[gb183]? = some (.cells #[.int .i64 a0_0, (.slice A0_1 l0_1.length c0_1)] 54 (0, 0))) ∧ Aside0 (Below w.heap.size w w'))
               case atStart => exact ⟨(y184), (a1), (by first | rfl | (simp; done) | (simp [*]; done)), H', ⟨Nat.le_refl _⟩, ⟨by (try simp only [hl8_3]); (with_reducible repeat (first | apply Kd.R_alloc | apply Kd.R_drewN | apply Kd.R_drew)); exact HO_7.out⟩, ⟨by (try simp only [hl8_3]); (with_reducible repeat (first | apply Kd.R_alloc | apply Kd.R_drewN | apply Kd.R_drew)); exact HO_8.out⟩, ⟨by (try simp only [hl8_3]); (with_reducible repeat (first | refine blk_drewN ?_ _ | refine blk_drew ?_ | refine blk_alloc ?_ _)); exact BK183.out⟩, ⟨bw1_ HB GE183.out⟩⟩
               case round =>
                clear H'
                (try clear c1); (try clear p1); (try clear q1); (try clear hx1); (try clear c2); (try clear p2); (try clear q2); (try clear hx2); (try clear c3); (try clear p3); (try clear q3); (try clear hx3); (try clear hf3); (try clear c4); (try clear p4); (try clear q4); (try clear hx4); (try clear hf4); (try clear c5); (try clear p5); (try clear q5); (try clear hx5); (try clear hf5); (try clear c6); (try clear p6); (try clear q6); (try clear hx6); (try clear hf6); (try clear c7); (try clear c9); (try clear c11); (try clear c14); (try clear p19); (try clear q19); (try clear hx19); (try clear p20); (try clear q20); (try clear hx20); (try clear c21); (try clear c24); (try clear c24b0); (try clear c25); (try clear c28); (try clear c28b0); (try clear c29); (try clear c29b0); (try clear p30); (try clear q30); (try clear hx30); (try clear hf30); (try clear c34); (try clear c34b0); (try clear c36); (try clear c36b0); (try clear c37); (try clear c37b0); (try clear c40); (try clear c40b0); (try clear c41); (try clear c41b0); (try clear c42); (try clear c42b0); (try clear c42b1); (try clear c43); (try clear c43b0); (try clear c44); (try clear c44b0); (try clear c45); (try clear c46); (try clear c46b0); (try clear c47); (try clear c47b0); (try clear p48); (try clear q48); (try clear hx48); (try clear hf48); (try clear c49); (try clear c49b0); (try clear c49b1); (try clear c50); (try clear c50b0); (try clear c51); (try clear c51b0); (try clear c52); (try clear c52b0); (try clear p53); (try clear q53); (try clear hx53); (try clear hf53); (try clear c62); (try clear c62b0); (try clear c63); (try clear c63b0); (try clear c64); (try clear c64b0); (try clear c64b1); (try clear p64); (try clear c65); (try clear c65b0); (try clear c66); (try clear c66b0); (try clear c67); (try clear c67b0); (try clear p68); (try clear q68); (try clear hx68); (try clear hf68); (try clear c72); (try clear c72b0); (try clear c73); (try clear c73b0); (try clear c74); (try clear c74b0); (try clear hcz13_0); (try clear hcz13_1); (try clear hcz15_0); (try clear hcz15_1); (try clear hcz16_0); (try clear hcz16_1); (try clear hcz18_0); (try clear hcz18_1); (try clear hcz19_0); (try clear hcz19_1); (try clear hcz26_0); (try clear hcz26_1); (try clear hcz31_0); (try clear hcz31_1); (try clear hcz35_0); (try clear hcz35_1); (try clear hcz39_0); (try clear hcz39_1); (try clear hcz71_0); (try clear hcz71_1); (try clear hcz75_0); (try clear hcz75_1); (try clear hcz76_0); (try clear hcz76_1); (try clear hfz13_0); (try clear hfz13_1); (try clear hfz15_0); (try clear hfz15_1); (try clear hfz16_0); (try clear hfz16_1); (try clear hfz18_0); (try clear hfz18_1); (try clear hfz19_0); (try clear hfz19_1); (try clear hfz26_0); (try clear hfz26_1); (try clear hfz31_0); (try clear hfz31_1); (try clear hfz35_0); (try clear hfz35_1); (try clear hfz39_0); (try clear hfz39_1); (try clear hfz71_0); (try clear hfz71_1); (try clear hfz75_0); (try clear hfz75_1); (try clear hfz76_0); (try clear hfz76_1); (try clear hx197_0); (try clear hx197_1); (try clear hx198_0); (try clear hx198_1); (try clear hx199_0); (try clear hx200_0); (try clear hx202_0); (try clear hx203_0); (try clear hx205_0); (try clear hx206_0); (try clear hx208_0); (try clear hx30_0); (try clear hx48_0); (try clear hx53_0); (try clear hx68_0); (try clear p1); (try clear p19); (try clear p197); (try clear p198); (try clear p199); (try clear p2); (try clear p20); (try clear p200); (try clear p202); (try clear p203); (try clear p205); (try clear p206); (try clear p208); (try clear p3); (try clear p30); (try clear p48); (try clear p53); (try clear p6); (try clear p68); (try clear q1); (try clear q19); (try clear q197); (try clear q198); (try clear q199); (try clear q2); (try clear q20); (try clear q200); (try clear q202); (try clear q203); (try clear q205); (try clear q206); (try clear q208); (try clear q3); (try clear q30); (try clear q48); (try clear q53); (try clear q68)
                obtain ⟨x7_4, x14_4, rfl, HA, HK4, HO_7, HO_8, BK183, HB⟩ := hrel
                cases gk with
                | zero => exact absurd HA.out (by simp [spec_RouteTo.l3])
                | succ k4 =>
                 have H := HA.out
                 clear HA
                 simp only [spec_RouteTo.l3] at H
                 by_cases c77 : x14_4 = a2
                 ·rw [if_pos c77] at H
                  have c77b0 : (x14_4 == a2) = true := beq_iff_eq.mpr c77
                  have c77b1 : (x14_4 != a2) = false := bne_eq_false_iff_eq.mpr c77
                  clear c77
                  obtain rfl := Option.some.inj H
                  go_wp2
                  go_ret
                  exact ⟨_, by first | rfl | (simp [errW_none, errW_some] <;> rfl) | (simp [*, errW_none, errW_some] <;> rfl), by (with_reducible repeat (first | apply Kd.R_alloc | apply Kd.R_drewN | apply Kd.R_drew)); exact Kd.R_mono HO_7.out (fun _ hk => trivial), bw1_ HB GE183.out⟩
                 ·rw [if_neg c77] at H
                  have c77b0 : (x14_4 == a2) = false := beq_eq_false_iff_ne.mpr c77
                  have c77b1 : (x14_4 != a2) = true := bne_iff_ne.mpr c77
                  have H' := Aside0.mk H
                  clear H
                  go_wp2
                  go_loopg [15, 16] k4 (fun kq v15 v16 w' => ∃ (x15_5 : Int) (x16_5 : Int), v15 = .int .i64 x15_5 ∧ v16 = .int .i64 x16_5 ∧ Aside0 (spec_RouteTo.l4 kq a2 x7_4 x8_3 x14_4 x15_5 x16_5 a0_0 l0_1 = some r) ∧ Aside0 (kq ≤ k4) ∧ Aside0 (Kd.R (Kd.int .i64) 3 w' w.heap.size (fun k_ => some k_ ≠ ((.slice (some ⟨go30, 0, none⟩) x8_3.length co30) : Value).ownBlock) u7 x7_4) ∧ Aside0 (Kd.R (Kd.int .i64) 3 w' w.heap.size (fun k_ => some k_ ≠ (u7 : Value).ownBlock) (.slice (some ⟨go30, 0, none⟩) x8_3.length co30) x8_3) ∧ Aside0 (w'.heap[gb183]? = some (.cells #[.int .i64 a0_0, (.slice A0_1 l0_1.length c0_1)] 54 (0, 0))) ∧ Aside0 (Below w.heap.size w w'))
                  case atStart => exact ⟨((-1)), (0), (by first | rfl | (simp; done) | (simp [*]; done)), (by first | rfl | (simp; done) | (simp [*]; done)), H', ⟨Nat.le_refl _⟩, ⟨by (try simp only [hl8_3]); (with_reducible repeat (first | apply Kd.R_alloc | apply Kd.R_drewN | apply Kd.R_drew)); exact HO_7.out⟩, ⟨by (try simp only [hl8_3]); (with_reducible repeat (first | apply Kd.R_alloc | apply Kd.R_drewN | apply Kd.R_drew)); exact HO_8.out⟩, ⟨by (try simp only [hl8_3]); (with_reducible repeat (first | refine blk_drewN ?_ _ | refine blk_drew ?_ | refine blk_alloc ?_ _)); exact BK183.out⟩, ⟨bw1_ HB GE183.out⟩⟩
                  case round =>
                   clear H'
                   (try clear c1); (try clear p1); (try clear q1); (try clear hx1); (try clear c2); (try clear p2); (try clear q2); (try clear hx2); (try clear c3); (try clear p3); (try clear q3); (try clear hx3); (try clear hf3); (try clear c4); (try clear p4); (try clear q4); (try clear hx4); (try clear hf4); (try clear c5); (try clear p5); (try clear q5); (try clear hx5); (try clear hf5); (try clear c6); (try clear p6); (try clear q6); (try clear hx6); (try clear hf6); (try clear c7); (try clear c9); (try clear c11); (try clear c14); (try clear p19); (try clear q19); (try clear hx19); (try clear p20); (try clear q20); (try clear hx20); (try clear c21); (try clear c24); (try clear c24b0); (try clear c25); (try clear c28); (try clear c28b0); (try clear c29); (try clear c29b0); (try clear p30); (try clear q30); (try clear hx30); (try clear hf30); (try clear c34); (try clear c34b0); (try clear c36); (try clear c36b0); (try clear c37); (try clear c37b0); (try clear c40); (try clear c40b0); (try clear c41); (try clear c41b0); (try clear c42); (try clear c42b0); (try clear c42b1); (try clear c43); (try clear c43b0); (try clear c44); (try clear c44b0); (try clear c45); (try clear c46); (try clear c46b0); (try clear c47); (try clear c47b0); (try clear p48); (try clear q48); (try clear hx48); (try clear hf48); (try clear c49); (try clear c49b0); (try clear c49b1); (try clear c50); (try clear c50b0); (try clear c51); (try clear c51b0); (try clear c52); (try clear c52b0); (try clear p53); (try clear q53); (try clear hx53); (try clear hf53); (try clear c62); (try clear c62b0); (try clear c63); (try clear c63b0); (try clear c64); (try clear c64b0); (try clear c64b1); (try clear p64); (try clear c65); (try clear c65b0); (try clear c66); (try clear c66b0); (try clear c67); (try clear c67b0); (try clear p68); (try clear q68); (try clear hx68); (try clear hf68); (try clear c72); (try clear c72b0); (try clear c73); (try clear c73b0); (try clear c74); (try clear c74b0); (try clear c77); (try clear c77b0); (try clear c77b1); (try clear hcz13_0); (try clear hcz13_1); (try clear hcz15_0); (try clear hcz15_1); (try clear hcz16_0); (try clear hcz16_1); (try clear hcz18_0); (try clear hcz18_1); (try clear hcz19_0); (try clear hcz19_1); (try clear hcz26_0); (try clear hcz26_1); (try clear hcz31_0); (try clear hcz31_1); (try clear hcz35_0); (try clear hcz35_1); (try clear hcz39_0); (try clear hcz39_1); (try clear hcz71_0); (try clear hcz71_1); (try clear hcz75_0); (try clear hcz75_1); (try clear hcz76_0); (try clear hcz76_1); (try clear hfz13_0); (try clear hfz13_1); (try clear hfz15_0); (try clear hfz15_1); (try clear hfz16_0); (try clear hfz16_1); (try clear hfz18_0); (try clear hfz18_1); (try clear hfz19_0); (try clear hfz19_1); (try clear hfz26_0); (try clear hfz26_1); (try clear hfz31_0); (try clear hfz31_1); (try clear hfz35_0); (try clear hfz35_1); (try clear hfz39_0); (try clear hfz39_1); (try clear hfz71_0); (try clear hfz71_1); (try clear hfz75_0); (try clear hfz75_1); (try clear hfz76_0); (try clear hfz76_1); (try clear hx197_0); (try clear hx197_1); (try clear hx198_0); (try clear hx198_1); (try clear hx199_0); (try clear hx200_0); (try clear hx202_0); (try clear hx203_0); (try clear hx205_0); (try clear hx206_0); (try clear hx208_0); (try clear hx30_0); (try clear hx48_0); (try clear hx53_0); (try clear hx68_0); (try clear p1); (try clear p19); (try clear p197); (try clear p198); (try clear p199); (try clear p2); (try clear p20); (try clear p200); (try clear p202); (try clear p203); (try clear p205); (try clear p206); (try clear p208); (try clear p3); (try clear p30); (try clear p4); (try clear p48); (try clear p5); (try clear p53); (try clear p6); (try clear p64); (try clear p68); (try clear q1); (try clear q19); (try clear q197); (try clear q198); (try clear q199); (try clear q2); (try clear q20); (try clear q200); (try clear q202); (try clear q203); (try clear q205); (try clear q206); (try clear q208); (try clear q3); (try clear q30); (try clear q4); (try clear q48); (try clear q5); (try clear q53); (try clear q6); (try clear q68)
                   obtain ⟨x15_5, x16_5, rfl, rfl, HA, HK5, HO_7, HO_8, BK183, HB⟩ := hrel
                   cases gk with
                   | zero => exact absurd HA.out (by simp [spec_RouteTo.l4])
                   | succ k5 =>
                    have H := HA.out
                    clear HA
                    simp only [spec_RouteTo.l4] at H
                    have HC78 := Aside0.mk H
                    clear H
                    go_upto_region 28 with (fail)
                    go_cut [131] (fun v131 wc => ∃ (kq : Nat) (x131_77 : Bool), v131 = .bool x131_77 ∧ Aside0 (spec_RouteTo.j7 kq a2 x7_4 x8_3 x14_4 x15_5 x16_5 x131_77 a0_0 l0_1 = some r) ∧ Aside0 (kq ≤ k5) ∧ Aside0 (Kd.R (Kd.int .i64) 3 wc w.heap.size (fun k_ => some k_ ≠ ((.slice (some ⟨go30, 0, none⟩) x8_3.length co30) : Value).ownBlock) u7 x7_4) ∧ Aside0 (Kd.R (Kd.int .i64) 3 wc w.heap.size (fun k_ => some k_ ≠ (u7 : Value).ownBlock) (.slice (some ⟨go30, 0, none⟩) x8_3.length co30) x8_3) ∧ Aside0 (wc.heap[gb183]? = some (.cells #[.int .i64 a0_0, (.slice A0_1 l0_1.length c0_1)] 54 (0, 0))) ∧ Aside0 (Below w.heap.size w wc))
                    case first =>
                     have H := HC78.out
                     clear HC78
                     by_cases c79 : x16_5 < (l0_1.length : Int)
                     ·rw [if_pos c79] at H
                      have c79b0 : decide (x16_5 < (l0_1.length : Int)) = true := decide_eq_true c79; (try (have c79b0z0 := c79b0; rw [hl8_3] at c79b0z0))
                      clear c79
                      (first | rw [c79b0] | (simp only [i64_w, i32_w]; rw [c79b0]) | skip)
                      have H' := Aside0.mk H
                      clear H
                      have hcz80_0 : wr.cell? ⟨gb183, 0, none⟩ = some (.int .i64 a0_0) := (blk_cell BK183.out 0).trans rfl
                      have hcz80_1 : wr.cell? ⟨gb183, 1, none⟩ = some (.slice A0_1 l0_1.length c0_1) := (blk_cell BK183.out 1).trans rfl
                      have hfz80_0 := blk_frozen BK183.out 0
                      have hfz80_1 := blk_frozen BK183.out 1
                      go_wp2
                      go_meet
                      case rel => exact ⟨_, (decide (x15_5 < 0)), (by first | rfl | (simp; done) | (simp [*]; done)), H', ⟨by have := HJ3.out; have := HK2.out; have := HK3.out; have := HK4.out; have := HK5.out; first | omega | exact Nat.le_refl _⟩, ⟨by (try simp only [hl8_3]); (with_reducible repeat (first | apply Kd.R_alloc | apply Kd.R_drewN | apply Kd.R_drew)); exact HO_7.out⟩, ⟨by (try simp only [hl8_3]); (with_reducible repeat (first | apply Kd.R_alloc | apply Kd.R_drewN | apply Kd.R_drew)); exact HO_8.out⟩, ⟨by (try simp only [hl8_3]); (with_reducible repeat (first | refine blk_drewN ?_ _ | refine blk_drew ?_ | refine blk_alloc ?_ _)); exact BK183.out⟩, ⟨bw1_ HB GE183.out⟩⟩
                     ·rw [if_neg c79] at H
                      have c79b0 : decide (x16_5 < (l0_1.length : Int)) = false := decide_eq_false c79; (try (have c79b0z0 := c79b0; rw [hl8_3] at c79b0z0))
                      clear c79
                      (first | rw [c79b0] | (simp only [i64_w, i32_w]; rw [c79b0]) | skip)
                      have H' := Aside0.mk H
                      clear H
                      have hcz81_0 : wr.cell? ⟨gb183, 0, none⟩ = some (.int .i64 a0_0) := (blk_cell BK183.out 0).trans rfl
                      have hcz81_1 : wr.cell? ⟨gb183, 1, none⟩ = some (.slice A0_1 l0_1.length c0_1) := (blk_cell BK183.out 1).trans rfl
                      have hfz81_0 := blk_frozen BK183.out 0
                      have hfz81_1 := blk_frozen BK183.out 1
                      go_wp2
                      go_meet
                      case rel => exact ⟨_, (false), (by first | rfl | (simp; done) | (simp [*]; done)), H', ⟨by have := HJ3.out; have := HK2.out; have := HK3.out; have := HK4.out; have := HK5.out; first | omega | exact Nat.le_refl _⟩, ⟨by (try simp only [hl8_3]); (with_reducible repeat (first | apply Kd.R_alloc | apply Kd.R_drewN | apply Kd.R_drew)); exact HO_7.out⟩, ⟨by (try simp only [hl8_3]); (with_reducible repeat (first | apply Kd.R_alloc | apply Kd.R_drewN | apply Kd.R_drew)); exact HO_8.out⟩, ⟨by (try simp only [hl8_3]); (with_reducible repeat (first | refine blk_drewN ?_ _ | refine blk_drew ?_ | refine blk_alloc ?_ _)); exact BK183.out⟩, ⟨bw1_ HB GE183.out⟩⟩
                    case rest =>
                     clear HC78
                     (try clear c1); (try clear p1); (try clear q1); (try clear hx1); (try clear c2); (try clear p2); (try clear q2); (try clear hx2); (try clear c3); (try clear p3); (try clear q3); (try clear hx3); (try clear hf3); (try clear c4); (try clear p4); (try clear q4); (try clear hx4); (try clear hf4); (try clear c5); (try clear p5); (try clear q5); (try clear hx5); (try clear hf5); (try clear c6); (try clear p6); (try clear q6); (try clear hx6); (try clear hf6); (try clear c7); (try clear c9); (try clear c11); (try clear c14); (try clear p19); (try clear q19); (try clear hx19); (try clear p20); (try clear q20); (try clear hx20); (try clear c21); (try clear c24); (try clear c24b0); (try clear c25); (try clear c28); (try clear c28b0); (try clear c29); (try clear c29b0); (try clear p30); (try clear q30); (try clear hx30); (try clear hf30); (try clear c34); (try clear c34b0); (try clear c36); (try clear c36b0); (try clear c37); (try clear c37b0); (try clear c40); (try clear c40b0); (try clear c41); (try clear c41b0); (try clear c42); (try clear c42b0); (try clear c42b1); (try clear c43); (try clear c43b0); (try clear c44); (try clear c44b0); (try clear c45); (try clear c46); (try clear c46b0); (try clear c47); (try clear c47b0); (try clear p48); (try clear q48); (try clear hx48); (try clear hf48); (try clear c49); (try clear c49b0); (try clear c49b1); (try clear c50); (try clear c50b0); (try clear c51); (try clear c51b0); (try clear c52); (try clear c52b0); (try clear p53); (try clear q53); (try clear hx53); (try clear hf53); (try clear c62); (try clear c62b0); (try clear c63); (try clear c63b0); (try clear c64); (try clear c64b0); (try clear c64b1); (try clear p64); (try clear c65); (try clear c65b0); (try clear c66); (try clear c66b0); (try clear c67); (try clear c67b0); (try clear p68); (try clear q68); (try clear hx68); (try clear hf68); (try clear c72); (try clear c72b0); (try clear c73); (try clear c73b0); (try clear c74); (try clear c74b0); (try clear c77); (try clear c77b0); (try clear c77b1); (try clear c79); (try clear c79b0); (try clear hcz13_0); (try clear hcz13_1); (try clear hcz15_0); (try clear hcz15_1); (try clear hcz16_0); (try clear hcz16_1); (try clear hcz18_0); (try clear hcz18_1); (try clear hcz19_0); (try clear hcz19_1); (try clear hcz26_0); (try clear hcz26_1); (try clear hcz31_0); (try clear hcz31_1); (try clear hcz35_0); (try clear hcz35_1); (try clear hcz39_0); (try clear hcz39_1); (try clear hcz71_0); (try clear hcz71_1); (try clear hcz75_0); (try clear hcz75_1); (try clear hcz76_0); (try clear hcz76_1); (try clear hcz80_0); (try clear hcz80_1); (try clear hcz81_0); (try clear hcz81_1); (try clear hfz13_0); (try clear hfz13_1); (try clear hfz15_0); (try clear hfz15_1); (try clear hfz16_0); (try clear hfz16_1); (try clear hfz18_0); (try clear hfz18_1); (try clear hfz19_0); (try clear hfz19_1); (try clear hfz26_0); (try clear hfz26_1); (try clear hfz31_0); (try clear hfz31_1); (try clear hfz35_0); (try clear hfz35_1); (try clear hfz39_0); (try clear hfz39_1); (try clear hfz71_0); (try clear hfz71_1); (try clear hfz75_0); (try clear hfz75_1); (try clear hfz76_0); (try clear hfz76_1); (try clear hfz80_0); (try clear hfz80_1); (try clear hfz81_0); (try clear hfz81_1); (try clear hx197_0); (try clear hx197_1); (try clear hx198_0); (try clear hx198_1); (try clear hx199_0); (try clear hx200_0); (try clear hx202_0); (try clear hx203_0); (try clear hx205_0); (try clear hx206_0); (try clear hx208_0); (try clear hx30_0); (try clear hx48_0); (try clear hx53_0); (try clear hx68_0); (try clear p1); (try clear p19); (try clear p197); (try clear p198); (try clear p199); (try clear p2); (try clear p20); (try clear p200); (try clear p202); (try clear p203); (try clear p205); (try clear p206); (try clear p208); (try clear p3); (try clear p30); (try clear p4); (try clear p48); (try clear p5); (try clear p53); (try clear p6); (try clear p64); (try clear p68); (try clear q1); (try clear q19); (try clear q197); (try clear q198); (try clear q199); (try clear q2); (try clear q20); (try clear q200); (try clear q202); (try clear q203); (try clear q205); (try clear q206); (try clear q208); (try clear q3); (try clear q30); (try clear q4); (try clear q48); (try clear q5); (try clear q53); (try clear q6); (try clear q68)
                     obtain ⟨kq, x131_77, rfl, HA, HJ77, HO_7, HO_8, BK183, HB⟩ := hcut
                     cases kq with
                     | zero => exact absurd HA.out (by simp [spec_RouteTo.j7])
                     | succ kj77 =>
                      have H := HA.out
                      clear HA
                      simp only [spec_RouteTo.j7] at H
                      by_cases c82 : x131_77 = true
                      ·subst c82
                       have H1 : ((spec_EndOf.f kj77 a0_0 l0_1 (([x16_5] : List Int)) x14_4).bind fun t212 => (if t212 ≥ 0 then (if 0 ≤ t212 then (if t212 < (x8_3.length : Int) then (if 0 ≤ x14_4 then (if x14_4 < (x8_3.length : Int) then (if (rd x8_3 t212) = (wrap64 ((rd x8_3 x14_4) - 1)) then (spec_RouteTo.l4 kj77 a2 x7_4 x8_3 x14_4 x16_5 (wrap64 (x16_5 + 1)) a0_0 l0_1) else (spec_RouteTo.l4 kj77 a2 x7_4 x8_3 x14_4 x15_5 (wrap64 (x16_5 + 1)) a0_0 l0_1)) else (none)) else (none)) else (none)) else (none)) else (spec_RouteTo.l4 kj77 a2 x7_4 x8_3 x14_4 x15_5 (wrap64 (x16_5 + 1)) a0_0 l0_1))) = some r := by rw [if_pos rfl] at H; exact H
                       clear H
                       have H := H1
                       clear H1
                       obtain ⟨y209, hy209⟩ : ∃ y_ : List Int, y_ = (([x16_5] : List Int)) := ⟨_, rfl⟩
                       replace H : ((spec_EndOf.f kj77 a0_0 l0_1 y209 x14_4).bind fun t212 => (if t212 ≥ 0 then (if 0 ≤ t212 then (if t212 < (x8_3.length : Int) then (if 0 ≤ x14_4 then (if x14_4 < (x8_3.length : Int) then (if (rd x8_3 t212) = (wrap64 ((rd x8_3 x14_4) - 1)) then (spec_RouteTo.l4 kj77 a2 x7_4 x8_3 x14_4 x16_5 (wrap64 (x16_5 + 1)) a0_0 l0_1) else (spec_RouteTo.l4 kj77 a2 x7_4 x8_3 x14_4 x15_5 (wrap64 (x16_5 + 1)) a0_0 l0_1)) else (none)) else (none)) else (none)) else (none)) else (spec_RouteTo.l4 kj77 a2 x7_4 x8_3 x14_4 x15_5 (wrap64 (x16_5 + 1)) a0_0 l0_1))) = some r := by first | (rw [hy209]; with_reducible exact H) | (have H2_ := (Option.bind_some _ _).symm.trans H; rw [hy209]; with_reducible exact H2_) | (have H2_ := (Option.bind_some _ _).symm.trans H; with_reducible exact H2_) | with_reducible exact H | (rw [hy209]; exact H) | exact H
                       have Ny209 := Aside0.mk hy209
                       clear hy209
                       replace H := Option.bind_eq_some_iff.mp H
                       obtain ⟨t212, A830, H⟩ := H
                       replace H : (if t212 ≥ 0 then (if 0 ≤ t212 then (if t212 < (x8_3.length : Int) then (if 0 ≤ x14_4 then (if x14_4 < (x8_3.length : Int) then (if (rd x8_3 t212) = (wrap64 ((rd x8_3 x14_4) - 1)) then (spec_RouteTo.l4 kj77 a2 x7_4 x8_3 x14_4 x16_5 (wrap64 (x16_5 + 1)) a0_0 l0_1) else (spec_RouteTo.l4 kj77 a2 x7_4 x8_3 x14_4 x15_5 (wrap64 (x16_5 + 1)) a0_0 l0_1)) else (none)) else (none)) else (none)) else (none)) else (spec_RouteTo.l4 kj77 a2 x7_4 x8_3 x14_4 x15_5 (wrap64 (x16_5 + 1)) a0_0 l0_1)) = some r := H
                       have A83 := Aside0.mk A830
                       clear A830
                       by_cases c84 : t212 ≥ 0
                       ·rw [if_pos c84] at H
                        have c84b0 : decide (0 ≤ t212) = true := decide_eq_true c84
                        clear c84
                        by_cases c85 : 0 ≤ t212
                        ·rw [if_pos c85] at H
                         have c85b0 : decide (0 ≤ t212) = true := decide_eq_true c85
                         clear c85
                         by_cases c86 : t212 < (x8_3.length : Int)
                         ·rw [if_pos c86] at H
                          have c86b0 : decide (t212 < (x8_3.length : Int)) = true := decide_eq_true c86; (try (have c86b0z0 := c86b0; rw [hl8_3] at c86b0z0))
                          clear c86
                          by_cases c87 : 0 ≤ x14_4
                          ·rw [if_pos c87] at H
                           have c87b0 : decide (0 ≤ x14_4) = true := decide_eq_true c87
                           clear c87
                           by_cases c88 : x14_4 < (x8_3.length : Int)
                           ·rw [if_pos c88] at H
                            have c88b0 : decide (x14_4 < (x8_3.length : Int)) = true := decide_eq_true c88; (try (have c88b0z0 := c88b0; rw [hl8_3] at c88b0z0))
                            clear c88
                            by_cases c89 : (rd x8_3 t212) = (wrap64 ((rd x8_3 x14_4) - 1))
                            ·rw [if_pos c89] at H
                             have c89b0 : ((rd x8_3 t212) == (wrap64 ((rd x8_3 x14_4) - 1))) = true := beq_iff_eq.mpr c89
                             have c89b1 : ((rd x8_3 t212) != (wrap64 ((rd x8_3 x14_4) - 1))) = false := bne_eq_false_iff_eq.mpr c89
                             clear c89
                             have H' := Aside0.mk H
                             clear H
                             have hcz90_0 : wc.cell? ⟨gb183, 0, none⟩ = some (.int .i64 a0_0) := (blk_cell BK183.out 0).trans rfl
                             have hcz90_1 : wc.cell? ⟨gb183, 1, none⟩ = some (.slice A0_1 l0_1.length c0_1) := (blk_cell BK183.out 1).trans rfl
                             have hfz90_0 := blk_frozen BK183.out 0
                             have hfz90_1 := blk_frozen BK183.out 1
                             go_wp2_with (first | ((with_reducible refine gate_dst (N := 136) rfl ?_); refine Kd.R_lit (Kd.int .i64) _ 3 ?hg (N := 136) ?hd (xs := ([x16_5] : List Int)) (inner := [.int .i64 x16_5]) (ok := fun _ => True) (okp := fun _ => True) ?hr ?hp (fun _ hk => hk) trivial (Below.refl _ _) (Nat.le_refl _) (by simp) ?_; (case hd => rfl); (case hg => rfl); (case hr => first | (go_simp; done) | (go_simp; rfl)); (case hp => exact (Reps.one (show Kd.M (Kd.int .i64) _ _ _ x16_5 [.int .i64 x16_5] from rfl) (Reps.none _ _))); intro v210 w91 ho92 hb hg_ hnew_; clear hg_ hnew_; (first | rw [← Ny209.out] at ho92 | (simp only [Int.reduceToNat] at ho92; rw [← Ny209.out] at ho92)); have n0_ := Aside0.mk (Kd.R_elder' (kr_ HO_7) (Kd.R_base ho92) hb); have n1_ := Aside0.mk (Kd.R_elder' (kr_ HO_8) (Kd.R_base ho92) hb); have n2_ := Aside0.mk (Kd.R_lower (Kd.R_new' (Kd.R_new' ho92 (Kd.R_lt (kr_ HO_7))) (Kd.R_lt (kr_ HO_8))) (below_size (bw1_ HB GE183.out))); have n3_ := Aside0.mk (blk_below (g := gb183) (o := .cells #[.int .i64 a0_0, .slice A0_1 l0_1.length c0_1] 54 (0, 0)) (bk_ BK183) hb); have n4_ := Aside0.mk (below_step (bw1_ HB GE183.out) hb); clear HO_7; clear HO_8; clear BK183; clear HB; have HO_7 := n0_; have HO_8 := n1_; have HO211 := n2_; have BK183 := n3_; have HB := n4_; clear n0_ n1_ n2_ n3_ n4_; clear hb ho92; obtain ⟨Ao93, co93, eo93⟩ := Kd.R_slice HO211.out; subst eo93) | (go_at_call 142; (with_reducible refine (spec_EndOf.calls kj77 a0_0 _ _ l0_1 _ _ y209 x14_4 t212 _ ?side1 ?side2 ?side3 ?side4 A83.out).mono ?_); (case side1 => repeat (first | exact (Kd.C_below HR0_1.out HB.out) | (with_reducible refine Kd.C_alloc ?_ _) | (with_reducible refine Kd.C_drewN ?_ _) | (with_reducible refine Kd.C_drew ?_))); (case side2 => exact HC0_1.out); (case side3 => repeat (first | exact (Kd.R_reads' HO211.out).2.2 | (with_reducible refine Kd.C_alloc ?_ _) | (with_reducible refine Kd.C_drewN ?_ _) | (with_reducible refine Kd.C_drew ?_))); (case side4 => exact (Kd.R_reads' HO211.out).2.1); rintro e w94 ⟨rfl, hb⟩; have n0_ := Aside0.mk (Kd.R_below (kr_ HO_7) hb); have n1_ := Aside0.mk (Kd.R_below (kr_ HO_8) hb); have n2_ := Aside0.mk (Kd.R_below (kr_ HO211) hb); have n3_ := Aside0.mk (blk_below (g := gb183) (o := .cells #[.int .i64 a0_0, .slice A0_1 l0_1.length c0_1] 54 (0, 0)) (bk_ BK183) hb); have n4_ := Aside0.mk (below_step (bw1_ HB GE183.out) hb); clear HO_7; clear HO_8; clear HO211; clear BK183; clear HB; have HO_7 := n0_; have HO_8 := n1_; have HO211 := n2_; have BK183 := n3_; have HB := n4_; clear n0_ n1_ n2_ n3_ n4_; (try clear hb); (try clear hb2); (try clear hk); (try clear hi); have p213 : 0 ≤ (t212 : Int) := of_decide_eq_true (by first | (with_reducible assumption) | assumption); have q213 : t212 < (x8_3.length : Int) := of_decide_eq_true (by first | (with_reducible assumption) | assumption); obtain ⟨ad213, e213, hx213_0⟩ := Kd.at_int (Kd.R_reads' HO_8.out).2.2 t212 p213 q213; obtain rfl : (⟨go30, 0, none⟩ : Addr) = ad213 := (by injection e213); (first | simp only [add_plain] at hx213_0 | simp only [add_at] at hx213_0 | simp only [Addr.add, Nat.zero_add] at hx213_0 | skip); replace p213 := eq_true p213; replace q213 := eq_true q213; have p214 : 0 ≤ (x14_4 : Int) := of_decide_eq_true (by first | (with_reducible assumption) | assumption); have q214 : x14_4 < (x8_3.length : Int) := of_decide_eq_true (by first | (with_reducible assumption) | assumption); obtain ⟨ad214, e214, hx214_0⟩ := Kd.at_int (Kd.R_reads' HO_8.out).2.2 x14_4 p214 q214; obtain rfl : (⟨go30, 0, none⟩ : Addr) = ad214 := (by injection e214); (first | simp only [add_plain] at hx214_0 | simp only [add_at] at hx214_0 | simp only [Addr.add, Nat.zero_add] at hx214_0 | skip); replace p214 := eq_true p214; replace q214 := eq_true q214))
                             repeat (go_quiet (first | ((with_reducible refine gate_dst (N := 136) rfl ?_); refine Kd.R_lit (Kd.int .i64) _ 3 ?hg (N := 136) ?hd (xs := ([x16_5] : List Int)) (inner := [.int .i64 x16_5]) (ok := fun _ => True) (okp := fun _ => True) ?hr ?hp (fun _ hk => hk) trivial (Below.refl _ _) (Nat.le_refl _) (by simp) ?_; (case hd => rfl); (case hg => rfl); (case hr => first | (go_simp; done) | (go_simp; rfl)); (case hp => exact (Reps.one (show Kd.M (Kd.int .i64) _ _ _ x16_5 [.int .i64 x16_5] from rfl) (Reps.none _ _))); intro v210 w91 ho92 hb hg_ hnew_; clear hg_ hnew_; (first | rw [← Ny209.out] at ho92 | (simp only [Int.reduceToNat] at ho92; rw [← Ny209.out] at ho92)); have n0_ := Aside0.mk (Kd.R_elder' (kr_ HO_7) (Kd.R_base ho92) hb); have n1_ := Aside0.mk (Kd.R_elder' (kr_ HO_8) (Kd.R_base ho92) hb); have n2_ := Aside0.mk (Kd.R_lower (Kd.R_new' (Kd.R_new' ho92 (Kd.R_lt (kr_ HO_7))) (Kd.R_lt (kr_ HO_8))) (below_size (bw1_ HB GE183.out))); have n3_ := Aside0.mk (blk_below (g := gb183) (o := .cells #[.int .i64 a0_0, .slice A0_1 l0_1.length c0_1] 54 (0, 0)) (bk_ BK183) hb); have n4_ := Aside0.mk (below_step (bw1_ HB GE183.out) hb); clear HO_7; clear HO_8; clear BK183; clear HB; have HO_7 := n0_; have HO_8 := n1_; have HO211 := n2_; have BK183 := n3_; have HB := n4_; clear n0_ n1_ n2_ n3_ n4_; clear hb ho92; obtain ⟨Ao93, co93, eo93⟩ := Kd.R_slice HO211.out; subst eo93) | (go_at_call 142; (with_reducible refine (spec_EndOf.calls kj77 a0_0 _ _ l0_1 _ _ y209 x14_4 t212 _ ?side1 ?side2 ?side3 ?side4 A83.out).mono ?_); (case side1 => repeat (first | exact (Kd.C_below HR0_1.out HB.out) | (with_reducible refine Kd.C_alloc ?_ _) | (with_reducible refine Kd.C_drewN ?_ _) | (with_reducible refine Kd.C_drew ?_))); (case side2 => exact HC0_1.out); (case side3 => repeat (first | exact (Kd.R_reads' HO211.out).2.2 | (with_reducible refine Kd.C_alloc ?_ _) | (with_reducible refine Kd.C_drewN ?_ _) | (with_reducible refine Kd.C_drew ?_))); (case side4 => exact (Kd.R_reads' HO211.out).2.1); rintro e w94 ⟨rfl, hb⟩; have n0_ := Aside0.mk (Kd.R_below (kr_ HO_7) hb); have n1_ := Aside0.mk (Kd.R_below (kr_ HO_8) hb); have n2_ := Aside0.mk (Kd.R_below (kr_ HO211) hb); have n3_ := Aside0.mk (blk_below (g := gb183) (o := .cells #[.int .i64 a0_0, .slice A0_1 l0_1.length c0_1] 54 (0, 0)) (bk_ BK183) hb); have n4_ := Aside0.mk (below_step (bw1_ HB GE183.out) hb); clear HO_7; clear HO_8; clear HO211; clear BK183; clear HB; have HO_7 := n0_; have HO_8 := n1_; have HO211 := n2_; have BK183 := n3_; have HB := n4_; clear n0_ n1_ n2_ n3_ n4_; (try clear hb); (try clear hb2); (try clear hk); (try clear hi); have p213 : 0 ≤ (t212 : Int) := of_decide_eq_true (by first | (with_reducible assumption) | assumption); have q213 : t212 < (x8_3.length : Int) := of_decide_eq_true (by first | (with_reducible assumption) | assumption); obtain ⟨ad213, e213, hx213_0⟩ := Kd.at_int (Kd.R_reads' HO_8.out).2.2 t212 p213 q213; obtain rfl : (⟨go30, 0, none⟩ : Addr) = ad213 := (by injection e213); (first | simp only [add_plain] at hx213_0 | simp only [add_at] at hx213_0 | simp only [Addr.add, Nat.zero_add] at hx213_0 | skip); replace p213 := eq_true p213; replace q213 := eq_true q213; have p214 : 0 ≤ (x14_4 : Int) := of_decide_eq_true (by first | (with_reducible assumption) | assumption); have q214 : x14_4 < (x8_3.length : Int) := of_decide_eq_true (by first | (with_reducible assumption) | assumption); obtain ⟨ad214, e214, hx214_0⟩ := Kd.at_int (Kd.R_reads' HO_8.out).2.2 x14_4 p214 q214; obtain rfl : (⟨go30, 0, none⟩ : Addr) = ad214 := (by injection e214); (first | simp only [add_plain] at hx214_0 | simp only [add_at] at hx214_0 | simp only [Addr.add, Nat.zero_add] at hx214_0 | skip); replace p214 := eq_true p214; replace q214 := eq_true q214)); try go_wp2_with (first | ((with_reducible refine gate_dst (N := 136) rfl ?_); refine Kd.R_lit (Kd.int .i64) _ 3 ?hg (N := 136) ?hd (xs := ([x16_5] : List Int)) (inner := [.int .i64 x16_5]) (ok := fun _ => True) (okp := fun _ => True) ?hr ?hp (fun _ hk => hk) trivial (Below.refl _ _) (Nat.le_refl _) (by simp) ?_; (case hd => rfl); (case hg => rfl); (case hr => first | (go_simp; done) | (go_simp; rfl)); (case hp => exact (Reps.one (show Kd.M (Kd.int .i64) _ _ _ x16_5 [.int .i64 x16_5] from rfl) (Reps.none _ _))); intro v210 w91 ho92 hb hg_ hnew_; clear hg_ hnew_; (first | rw [← Ny209.out] at ho92 | (simp only [Int.reduceToNat] at ho92; rw [← Ny209.out] at ho92)); have n0_ := Aside0.mk (Kd.R_elder' (kr_ HO_7) (Kd.R_base ho92) hb); have n1_ := Aside0.mk (Kd.R_elder' (kr_ HO_8) (Kd.R_base ho92) hb); have n2_ := Aside0.mk (Kd.R_lower (Kd.R_new' (Kd.R_new' ho92 (Kd.R_lt (kr_ HO_7))) (Kd.R_lt (kr_ HO_8))) (below_size (bw1_ HB GE183.out))); have n3_ := Aside0.mk (blk_below (g := gb183) (o := .cells #[.int .i64 a0_0, .slice A0_1 l0_1.length c0_1] 54 (0, 0)) (bk_ BK183) hb); have n4_ := Aside0.mk (below_step (bw1_ HB GE183.out) hb); clear HO_7; clear HO_8; clear BK183; clear HB; have HO_7 := n0_; have HO_8 := n1_; have HO211 := n2_; have BK183 := n3_; have HB := n4_; clear n0_ n1_ n2_ n3_ n4_; clear hb ho92; obtain ⟨Ao93, co93, eo93⟩ := Kd.R_slice HO211.out; subst eo93) | (go_at_call 142; (with_reducible refine (spec_EndOf.calls kj77 a0_0 _ _ l0_1 _ _ y209 x14_4 t212 _ ?side1 ?side2 ?side3 ?side4 A83.out).mono ?_); (case side1 => repeat (first | exact (Kd.C_below HR0_1.out HB.out) | (with_reducible refine Kd.C_alloc ?_ _) | (with_reducible refine Kd.C_drewN ?_ _) | (with_reducible refine Kd.C_drew ?_))); (case side2 => exact HC0_1.out); (case side3 => repeat (first | exact (Kd.R_reads' HO211.out).2.2 | (with_reducible refine Kd.C_alloc ?_ _) | (with_reducible refine Kd.C_drewN ?_ _) | (with_reducible refine Kd.C_drew ?_))); (case side4 => exact (Kd.R_reads' HO211.out).2.1); rintro e w94 ⟨rfl, hb⟩; have n0_ := Aside0.mk (Kd.R_below (kr_ HO_7) hb); have n1_ := Aside0.mk (Kd.R_below (kr_ HO_8) hb); have n2_ := Aside0.mk (Kd.R_below (kr_ HO211) hb); have n3_ := Aside0.mk (blk_below (g := gb183) (o := .cells #[.int .i64 a0_0, .slice A0_1 l0_1.length c0_1] 54 (0, 0)) (bk_ BK183) hb); have n4_ := Aside0.mk (below_step (bw1_ HB GE183.out) hb); clear HO_7; clear HO_8; clear HO211; clear BK183; clear HB; have HO_7 := n0_; have HO_8 := n1_; have HO211 := n2_; have BK183 := n3_; have HB := n4_; clear n0_ n1_ n2_ n3_ n4_; (try clear hb); (try clear hb2); (try clear hk); (try clear hi); have p213 : 0 ≤ (t212 : Int) := of_decide_eq_true (by first | (with_reducible assumption) | assumption); have q213 : t212 < (x8_3.length : Int) := of_decide_eq_true (by first | (with_reducible assumption) | assumption); obtain ⟨ad213, e213, hx213_0⟩ := Kd.at_int (Kd.R_reads' HO_8.out).2.2 t212 p213 q213; obtain rfl : (⟨go30, 0, none⟩ : Addr) = ad213 := (by injection e213); (first | simp only [add_plain] at hx213_0 | simp only [add_at] at hx213_0 | simp only [Addr.add, Nat.zero_add] at hx213_0 | skip); replace p213 := eq_true p213; replace q213 := eq_true q213; have p214 : 0 ≤ (x14_4 : Int) := of_decide_eq_true (by first | (with_reducible assumption) | assumption); have q214 : x14_4 < (x8_3.length : Int) := of_decide_eq_true (by first | (with_reducible assumption) | assumption); obtain ⟨ad214, e214, hx214_0⟩ := Kd.at_int (Kd.R_reads' HO_8.out).2.2 x14_4 p214 q214; obtain rfl : (⟨go30, 0, none⟩ : Addr) = ad214 := (by injection e214); (first | simp only [add_plain] at hx214_0 | simp only [add_at] at hx214_0 | simp only [Addr.add, Nat.zero_add] at hx214_0 | skip); replace p214 := eq_true p214; replace q214 := eq_true q214)))
                             go_roundg kj77
                             case measure => have := HJ3.out; have := HK2.out; have := HK3.out; have := HK4.out; have := HK5.out; have := HJ77.out; omega
                             case rel => exact ⟨(x16_5), (wrap64 (x16_5 + 1)), (by first | rfl | (simp; done) | (simp [*]; done)), (by first | rfl | (simp; done) | (simp [*]; done)), H', ⟨by have := HJ3.out; have := HK2.out; have := HK3.out; have := HK4.out; have := HK5.out; have := HJ77.out; omega⟩, ⟨by (try simp only [hl8_3]); (with_reducible repeat (first | apply Kd.R_alloc | apply Kd.R_drewN | apply Kd.R_drew)); exact Kd.R_mono HO_7.out (fun _ hk => hk.1)⟩, ⟨by (try simp only [hl8_3]); (with_reducible repeat (first | apply Kd.R_alloc | apply Kd.R_drewN | apply Kd.R_drew)); exact Kd.R_mono HO_8.out (fun _ hk => hk.1)⟩, ⟨by (try simp only [hl8_3]); (with_reducible repeat (first | refine blk_drewN ?_ _ | refine blk_drew ?_ | refine blk_alloc ?_ _)); exact BK183.out⟩, ⟨bw1_ HB GE183.out⟩⟩
                            ·rw [if_neg c89] at H
                             have c89b0 : ((rd x8_3 t212) == (wrap64 ((rd x8_3 x14_4) - 1))) = false := beq_eq_false_iff_ne.mpr c89
                             have c89b1 : ((rd x8_3 t212) != (wrap64 ((rd x8_3 x14_4) - 1))) = true := bne_iff_ne.mpr c89
                             have H' := Aside0.mk H
                             clear H
                             have hcz95_0 : wc.cell? ⟨gb183, 0, none⟩ = some (.int .i64 a0_0) := (blk_cell BK183.out 0).trans rfl
                             have hcz95_1 : wc.cell? ⟨gb183, 1, none⟩ = some (.slice A0_1 l0_1.length c0_1) := (blk_cell BK183.out 1).trans rfl
                             have hfz95_0 := blk_frozen BK183.out 0
                             have hfz95_1 := blk_frozen BK183.out 1
                             go_wp2_with (first | ((with_reducible refine gate_dst (N := 136) rfl ?_); refine Kd.R_lit (Kd.int .i64) _ 3 ?hg (N := 136) ?hd (xs := ([x16_5] : List Int)) (inner := [.int .i64 x16_5]) (ok := fun _ => True) (okp := fun _ => True) ?hr ?hp (fun _ hk => hk) trivial (Below.refl _ _) (Nat.le_refl _) (by simp) ?_; (case hd => rfl); (case hg => rfl); (case hr => first | (go_simp; done) | (go_simp; rfl)); (case hp => exact (Reps.one (show Kd.M (Kd.int .i64) _ _ _ x16_5 [.int .i64 x16_5] from rfl) (Reps.none _ _))); intro v210 w96 ho97 hb hg_ hnew_; clear hg_ hnew_; (first | rw [← Ny209.out] at ho97 | (simp only [Int.reduceToNat] at ho97; rw [← Ny209.out] at ho97)); have n0_ := Aside0.mk (Kd.R_elder' (kr_ HO_7) (Kd.R_base ho97) hb); have n1_ := Aside0.mk (Kd.R_elder' (kr_ HO_8) (Kd.R_base ho97) hb); have n2_ := Aside0.mk (Kd.R_lower (Kd.R_new' (Kd.R_new' ho97 (Kd.R_lt (kr_ HO_7))) (Kd.R_lt (kr_ HO_8))) (below_size (bw1_ HB GE183.out))); have n3_ := Aside0.mk (blk_below (g := gb183) (o := .cells #[.int .i64 a0_0, .slice A0_1 l0_1.length c0_1] 54 (0, 0)) (bk_ BK183) hb); have n4_ := Aside0.mk (below_step (bw1_ HB GE183.out) hb); clear HO_7; clear HO_8; clear BK183; clear HB; have HO_7 := n0_; have HO_8 := n1_; have HO211 := n2_; have BK183 := n3_; have HB := n4_; clear n0_ n1_ n2_ n3_ n4_; clear hb ho97; obtain ⟨Ao98, co98, eo98⟩ := Kd.R_slice HO211.out; subst eo98) | (go_at_call 142; (with_reducible refine (spec_EndOf.calls kj77 a0_0 _ _ l0_1 _ _ y209 x14_4 t212 _ ?side1 ?side2 ?side3 ?side4 A83.out).mono ?_); (case side1 => repeat (first | exact (Kd.C_below HR0_1.out HB.out) | (with_reducible refine Kd.C_alloc ?_ _) | (with_reducible refine Kd.C_drewN ?_ _) | (with_reducible refine Kd.C_drew ?_))); (case side2 => exact HC0_1.out); (case side3 => repeat (first | exact (Kd.R_reads' HO211.out).2.2 | (with_reducible refine Kd.C_alloc ?_ _) | (with_reducible refine Kd.C_drewN ?_ _) | (with_reducible refine Kd.C_drew ?_))); (case side4 => exact (Kd.R_reads' HO211.out).2.1); rintro e w99 ⟨rfl, hb⟩; have n0_ := Aside0.mk (Kd.R_below (kr_ HO_7) hb); have n1_ := Aside0.mk (Kd.R_below (kr_ HO_8) hb); have n2_ := Aside0.mk (Kd.R_below (kr_ HO211) hb); have n3_ := Aside0.mk (blk_below (g := gb183) (o := .cells #[.int .i64 a0_0, .slice A0_1 l0_1.length c0_1] 54 (0, 0)) (bk_ BK183) hb); have n4_ := Aside0.mk (below_step (bw1_ HB GE183.out) hb); clear HO_7; clear HO_8; clear HO211; clear BK183; clear HB; have HO_7 := n0_; have HO_8 := n1_; have HO211 := n2_; have BK183 := n3_; have HB := n4_; clear n0_ n1_ n2_ n3_ n4_; (try clear hb); (try clear hb2); (try clear hk); (try clear hi); have p213 : 0 ≤ (t212 : Int) := of_decide_eq_true (by first | (with_reducible assumption) | assumption); have q213 : t212 < (x8_3.length : Int) := of_decide_eq_true (by first | (with_reducible assumption) | assumption); obtain ⟨ad213, e213, hx213_0⟩ := Kd.at_int (Kd.R_reads' HO_8.out).2.2 t212 p213 q213; obtain rfl : (⟨go30, 0, none⟩ : Addr) = ad213 := (by injection e213); (first | simp only [add_plain] at hx213_0 | simp only [add_at] at hx213_0 | simp only [Addr.add, Nat.zero_add] at hx213_0 | skip); replace p213 := eq_true p213; replace q213 := eq_true q213; have p214 : 0 ≤ (x14_4 : Int) := of_decide_eq_true (by first | (with_reducible assumption) | assumption); have q214 : x14_4 < (x8_3.length : Int) := of_decide_eq_true (by first | (with_reducible assumption) | assumption); obtain ⟨ad214, e214, hx214_0⟩ := Kd.at_int (Kd.R_reads' HO_8.out).2.2 x14_4 p214 q214; obtain rfl : (⟨go30, 0, none⟩ : Addr) = ad214 := (by injection e214); (first | simp only [add_plain] at hx214_0 | simp only [add_at] at hx214_0 | simp only [Addr.add, Nat.zero_add] at hx214_0 | skip); replace p214 := eq_true p214; replace q214 := eq_true q214))
                             repeat (go_quiet (first | ((with_reducible refine gate_dst (N := 136) rfl ?_); refine Kd.R_lit (Kd.int .i64) _ 3 ?hg (N := 136) ?hd (xs := ([x16_5] : List Int)) (inner := [.int .i64 x16_5]) (ok := fun _ => True) (okp := fun _ => True) ?hr ?hp (fun _ hk => hk) trivial (Below.refl _ _) (Nat.le_refl _) (by simp) ?_; (case hd => rfl); (case hg => rfl); (case hr => first | (go_simp; done) | (go_simp; rfl)); (case hp => exact (Reps.one (show Kd.M (Kd.int .i64) _ _ _ x16_5 [.int .i64 x16_5] from rfl) (Reps.none _ _))); intro v210 w96 ho97 hb hg_ hnew_; clear hg_ hnew_; (first | rw [← Ny209.out] at ho97 | (simp only [Int.reduceToNat] at ho97; rw [← Ny209.out] at ho97)); have n0_ := Aside0.mk (Kd.R_elder' (kr_ HO_7) (Kd.R_base ho97) hb); have n1_ := Aside0.mk (Kd.R_elder' (kr_ HO_8) (Kd.R_base ho97) hb); have n2_ := Aside0.mk (Kd.R_lower (Kd.R_new' (Kd.R_new' ho97 (Kd.R_lt (kr_ HO_7))) (Kd.R_lt (kr_ HO_8))) (below_size (bw1_ HB GE183.out))); have n3_ := Aside0.mk (blk_below (g := gb183) (o := .cells #[.int .i64 a0_0, .slice A0_1 l0_1.length c0_1] 54 (0, 0)) (bk_ BK183) hb); have n4_ := Aside0.mk (below_step (bw1_ HB GE183.out) hb); clear HO_7; clear HO_8; clear BK183; clear HB; have HO_7 := n0_; have HO_8 := n1_; have HO211 := n2_; have BK183 := n3_; have HB := n4_; clear n0_ n1_ n2_ n3_ n4_; clear hb ho97; obtain ⟨Ao98, co98, eo98⟩ := Kd.R_slice HO211.out; subst eo98) | (go_at_call 142; (with_reducible refine (spec_EndOf.calls kj77 a0_0 _ _ l0_1 _ _ y209 x14_4 t212 _ ?side1 ?side2 ?side3 ?side4 A83.out).mono ?_); (case side1 => repeat (first | exact (Kd.C_below HR0_1.out HB.out) | (with_reducible refine Kd.C_alloc ?_ _) | (with_reducible refine Kd.C_drewN ?_ _) | (with_reducible refine Kd.C_drew ?_))); (case side2 => exact HC0_1.out); (case side3 => repeat (first | exact (Kd.R_reads' HO211.out).2.2 | (with_reducible refine Kd.C_alloc ?_ _) | (with_reducible refine Kd.C_drewN ?_ _) | (with_reducible refine Kd.C_drew ?_))); (case side4 => exact (Kd.R_reads' HO211.out).2.1); rintro e w99 ⟨rfl, hb⟩; have n0_ := Aside0.mk (Kd.R_below (kr_ HO_7) hb); have n1_ := Aside0.mk (Kd.R_below (kr_ HO_8) hb); have n2_ := Aside0.mk (Kd.R_below (kr_ HO211) hb); have n3_ := Aside0.mk (blk_below (g := gb183) (o := .cells #[.int .i64 a0_0, .slice A0_1 l0_1.length c0_1] 54 (0, 0)) (bk_ BK183) hb); have n4_ := Aside0.mk (below_step (bw1_ HB GE183.out) hb); clear HO_7; clear HO_8; clear HO211; clear BK183; clear HB; have HO_7 := n0_; have HO_8 := n1_; have HO211 := n2_; have BK183 := n3_; have HB := n4_; clear n0_ n1_ n2_ n3_ n4_; (try clear hb); (try clear hb2); (try clear hk); (try clear hi); have p213 : 0 ≤ (t212 : Int) := of_decide_eq_true (by first | (with_reducible assumption) | assumption); have q213 : t212 < (x8_3.length : Int) := of_decide_eq_true (by first | (with_reducible assumption) | assumption); obtain ⟨ad213, e213, hx213_0⟩ := Kd.at_int (Kd.R_reads' HO_8.out).2.2 t212 p213 q213; obtain rfl : (⟨go30, 0, none⟩ : Addr) = ad213 := (by injection e213); (first | simp only [add_plain] at hx213_0 | simp only [add_at] at hx213_0 | simp only [Addr.add, Nat.zero_add] at hx213_0 | skip); replace p213 := eq_true p213; replace q213 := eq_true q213; have p214 : 0 ≤ (x14_4 : Int) := of_decide_eq_true (by first | (with_reducible assumption) | assumption); have q214 : x14_4 < (x8_3.length : Int) := of_decide_eq_true (by first | (with_reducible assumption) | assumption); obtain ⟨ad214, e214, hx214_0⟩ := Kd.at_int (Kd.R_reads' HO_8.out).2.2 x14_4 p214 q214; obtain rfl : (⟨go30, 0, none⟩ : Addr) = ad214 := (by injection e214); (first | simp only [add_plain] at hx214_0 | simp only [add_at] at hx214_0 | simp only [Addr.add, Nat.zero_add] at hx214_0 | skip); replace p214 := eq_true p214; replace q214 := eq_true q214)); try go_wp2_with (first | ((with_reducible refine gate_dst (N := 136) rfl ?_); refine Kd.R_lit (Kd.int .i64) _ 3 ?hg (N := 136) ?hd (xs := ([x16_5] : List Int)) (inner := [.int .i64 x16_5]) (ok := fun _ => True) (okp := fun _ => True) ?hr ?hp (fun _ hk => hk) trivial (Below.refl _ _) (Nat.le_refl _) (by simp) ?_; (case hd => rfl); (case hg => rfl); (case hr => first | (go_simp; done) | (go_simp; rfl)); (case hp => exact (Reps.one (show Kd.M (Kd.int .i64) _ _ _ x16_5 [.int .i64 x16_5] from rfl) (Reps.none _ _))); intro v210 w96 ho97 hb hg_ hnew_; clear hg_ hnew_; (first | rw [← Ny209.out] at ho97 | (simp only [Int.reduceToNat] at ho97; rw [← Ny209.out] at ho97)); have n0_ := Aside0.mk (Kd.R_elder' (kr_ HO_7) (Kd.R_base ho97) hb); have n1_ := Aside0.mk (Kd.R_elder' (kr_ HO_8) (Kd.R_base ho97) hb); have n2_ := Aside0.mk (Kd.R_lower (Kd.R_new' (Kd.R_new' ho97 (Kd.R_lt (kr_ HO_7))) (Kd.R_lt (kr_ HO_8))) (below_size (bw1_ HB GE183.out))); have n3_ := Aside0.mk (blk_below (g := gb183) (o := .cells #[.int .i64 a0_0, .slice A0_1 l0_1.length c0_1] 54 (0, 0)) (bk_ BK183) hb); have n4_ := Aside0.mk (below_step (bw1_ HB GE183.out) hb); clear HO_7; clear HO_8; clear BK183; clear HB; have HO_7 := n0_; have HO_8 := n1_; have HO211 := n2_; have BK183 := n3_; have HB := n4_; clear n0_ n1_ n2_ n3_ n4_; clear hb ho97; obtain ⟨Ao98, co98, eo98⟩ := Kd.R_slice HO211.out; subst eo98) | (go_at_call 142; (with_reducible refine (spec_EndOf.calls kj77 a0_0 _ _ l0_1 _ _ y209 x14_4 t212 _ ?side1 ?side2 ?side3 ?side4 A83.out).mono ?_); (case side1 => repeat (first | exact (Kd.C_below HR0_1.out HB.out) | (with_reducible refine Kd.C_alloc ?_ _) | (with_reducible refine Kd.C_drewN ?_ _) | (with_reducible refine Kd.C_drew ?_))); (case side2 => exact HC0_1.out); (case side3 => repeat (first | exact (Kd.R_reads' HO211.out).2.2 | (with_reducible refine Kd.C_alloc ?_ _) | (with_reducible refine Kd.C_drewN ?_ _) | (with_reducible refine Kd.C_drew ?_))); (case side4 => exact (Kd.R_reads' HO211.out).2.1); rintro e w99 ⟨rfl, hb⟩; have n0_ := Aside0.mk (Kd.R_below (kr_ HO_7) hb); have n1_ := Aside0.mk (Kd.R_below (kr_ HO_8) hb); have n2_ := Aside0.mk (Kd.R_below (kr_ HO211) hb); have n3_ := Aside0.mk (blk_below (g := gb183) (o := .cells #[.int .i64 a0_0, .slice A0_1 l0_1.length c0_1] 54 (0, 0)) (bk_ BK183) hb); have n4_ := Aside0.mk (below_step (bw1_ HB GE183.out) hb); clear HO_7; clear HO_8; clear HO211; clear BK183; clear HB; have HO_7 := n0_; have HO_8 := n1_; have HO211 := n2_; have BK183 := n3_; have HB := n4_; clear n0_ n1_ n2_ n3_ n4_; (try clear hb); (try clear hb2); (try clear hk); (try clear hi); have p213 : 0 ≤ (t212 : Int) := of_decide_eq_true (by first | (with_reducible assumption) | assumption); have q213 : t212 < (x8_3.length : Int) := of_decide_eq_true (by first | (with_reducible assumption) | assumption); obtain ⟨ad213, e213, hx213_0⟩ := Kd.at_int (Kd.R_reads' HO_8.out).2.2 t212 p213 q213; obtain rfl : (⟨go30, 0, none⟩ : Addr) = ad213 := (by injection e213); (first | simp only [add_plain] at hx213_0 | simp only [add_at] at hx213_0 | simp only [Addr.add, Nat.zero_add] at hx213_0 | skip); replace p213 := eq_true p213; replace q213 := eq_true q213; have p214 : 0 ≤ (x14_4 : Int) := of_decide_eq_true (by first | (with_reducible assumption) | assumption); have q214 : x14_4 < (x8_3.length : Int) := of_decide_eq_true (by first | (with_reducible assumption) | assumption); obtain ⟨ad214, e214, hx214_0⟩ := Kd.at_int (Kd.R_reads' HO_8.out).2.2 x14_4 p214 q214; obtain rfl : (⟨go30, 0, none⟩ : Addr) = ad214 := (by injection e214); (first | simp only [add_plain] at hx214_0 | simp only [add_at] at hx214_0 | simp only [Addr.add, Nat.zero_add] at hx214_0 | skip); replace p214 := eq_true p214; replace q214 := eq_true q214)))
                             go_roundg kj77
                             case measure => have := HJ3.out; have := HK2.out; have := HK3.out; have := HK4.out; have := HK5.out; have := HJ77.out; omega
                             case rel => exact ⟨(x15_5), (wrap64 (x16_5 + 1)), (by first | rfl | (simp; done) | (simp [*]; done)), (by first | rfl | (simp; done) | (simp [*]; done)), H', ⟨by have := HJ3.out; have := HK2.out; have := HK3.out; have := HK4.out; have := HK5.out; have := HJ77.out; omega⟩, ⟨by (try simp only [hl8_3]); (with_reducible repeat (first | apply Kd.R_alloc | apply Kd.R_drewN | apply Kd.R_drew)); exact Kd.R_mono HO_7.out (fun _ hk => hk.1)⟩, ⟨by (try simp only [hl8_3]); (with_reducible repeat (first | apply Kd.R_alloc | apply Kd.R_drewN | apply Kd.R_drew)); exact Kd.R_mono HO_8.out (fun _ hk => hk.1)⟩, ⟨by (try simp only [hl8_3]); (with_reducible repeat (first | refine blk_drewN ?_ _ | refine blk_drew ?_ | refine blk_alloc ?_ _)); exact BK183.out⟩, ⟨bw1_ HB GE183.out⟩⟩
                           ·rw [if_neg c88] at H
                            exact absurd H (by simp)
                          ·rw [if_neg c87] at H
                           exact absurd H (by simp)
                         ·rw [if_neg c86] at H
                          exact absurd H (by simp)
                        ·rw [if_neg c85] at H
                         exact absurd H (by simp)
                       ·rw [if_neg c84] at H
                        have c84b0 : decide (0 ≤ t212) = false := decide_eq_false c84
                        clear c84
                        have H' := Aside0.mk H
                        clear H
                        have hcz100_0 : wc.cell? ⟨gb183, 0, none⟩ = some (.int .i64 a0_0) := (blk_cell BK183.out 0).trans rfl
                        have hcz100_1 : wc.cell? ⟨gb183, 1, none⟩ = some (.slice A0_1 l0_1.length c0_1) := (blk_cell BK183.out 1).trans rfl
                        have hfz100_0 := blk_frozen BK183.out 0
                        have hfz100_1 := blk_frozen BK183.out 1
                        go_wp2_with (first | ((with_reducible refine gate_dst (N := 136) rfl ?_); refine Kd.R_lit (Kd.int .i64) _ 3 ?hg (N := 136) ?hd (xs := ([x16_5] : List Int)) (inner := [.int .i64 x16_5]) (ok := fun _ => True) (okp := fun _ => True) ?hr ?hp (fun _ hk => hk) trivial (Below.refl _ _) (Nat.le_refl _) (by simp) ?_; (case hd => rfl); (case hg => rfl); (case hr => first | (go_simp; done) | (go_simp; rfl)); (case hp => exact (Reps.one (show Kd.M (Kd.int .i64) _ _ _ x16_5 [.int .i64 x16_5] from rfl) (Reps.none _ _))); intro v210 w101 ho102 hb hg_ hnew_; clear hg_ hnew_; (first | rw [← Ny209.out] at ho102 | (simp only [Int.reduceToNat] at ho102; rw [← Ny209.out] at ho102)); have n0_ := Aside0.mk (Kd.R_elder' (kr_ HO_7) (Kd.R_base ho102) hb); have n1_ := Aside0.mk (Kd.R_elder' (kr_ HO_8) (Kd.R_base ho102) hb); have n2_ := Aside0.mk (Kd.R_lower (Kd.R_new' (Kd.R_new' ho102 (Kd.R_lt (kr_ HO_7))) (Kd.R_lt (kr_ HO_8))) (below_size (bw1_ HB GE183.out))); have n3_ := Aside0.mk (blk_below (g := gb183) (o := .cells #[.int .i64 a0_0, .slice A0_1 l0_1.length c0_1] 54 (0, 0)) (bk_ BK183) hb); have n4_ := Aside0.mk (below_step (bw1_ HB GE183.out) hb); clear HO_7; clear HO_8; clear BK183; clear HB; have HO_7 := n0_; have HO_8 := n1_; have HO211 := n2_; have BK183 := n3_; have HB := n4_; clear n0_ n1_ n2_ n3_ n4_; clear hb ho102; obtain ⟨Ao103, co103, eo103⟩ := Kd.R_slice HO211.out; subst eo103) | (go_at_call 142; (with_reducible refine (spec_EndOf.calls kj77 a0_0 _ _ l0_1 _ _ y209 x14_4 t212 _ ?side1 ?side2 ?side3 ?side4 A83.out).mono ?_); (case side1 => repeat (first | exact (Kd.C_below HR0_1.out HB.out) | (with_reducible refine Kd.C_alloc ?_ _) | (with_reducible refine Kd.C_drewN ?_ _) | (with_reducible refine Kd.C_drew ?_))); (case side2 => exact HC0_1.out); (case side3 => repeat (first | exact (Kd.R_reads' HO211.out).2.2 | (with_reducible refine Kd.C_alloc ?_ _) | (with_reducible refine Kd.C_drewN ?_ _) | (with_reducible refine Kd.C_drew ?_))); (case side4 => exact (Kd.R_reads' HO211.out).2.1); rintro e w104 ⟨rfl, hb⟩; have n0_ := Aside0.mk (Kd.R_below (kr_ HO_7) hb); have n1_ := Aside0.mk (Kd.R_below (kr_ HO_8) hb); have n2_ := Aside0.mk (Kd.R_below (kr_ HO211) hb); have n3_ := Aside0.mk (blk_below (g := gb183) (o := .cells #[.int .i64 a0_0, .slice A0_1 l0_1.length c0_1] 54 (0, 0)) (bk_ BK183) hb); have n4_ := Aside0.mk (below_step (bw1_ HB GE183.out) hb); clear HO_7; clear HO_8; clear HO211; clear BK183; clear HB; have HO_7 := n0_; have HO_8 := n1_; have HO211 := n2_; have BK183 := n3_; have HB := n4_; clear n0_ n1_ n2_ n3_ n4_; (try clear hb); (try clear hb2); (try clear hk); (try clear hi)))
                        repeat (go_quiet (first | ((with_reducible refine gate_dst (N := 136) rfl ?_); refine Kd.R_lit (Kd.int .i64) _ 3 ?hg (N := 136) ?hd (xs := ([x16_5] : List Int)) (inner := [.int .i64 x16_5]) (ok := fun _ => True) (okp := fun _ => True) ?hr ?hp (fun _ hk => hk) trivial (Below.refl _ _) (Nat.le_refl _) (by simp) ?_; (case hd => rfl); (case hg => rfl); (case hr => first | (go_simp; done) | (go_simp; rfl)); (case hp => exact (Reps.one (show Kd.M (Kd.int .i64) _ _ _ x16_5 [.int .i64 x16_5] from rfl) (Reps.none _ _))); intro v210 w101 ho102 hb hg_ hnew_; clear hg_ hnew_; (first | rw [← Ny209.out] at ho102 | (simp only [Int.reduceToNat] at ho102; rw [← Ny209.out] at ho102)); have n0_ := Aside0.mk (Kd.R_elder' (kr_ HO_7) (Kd.R_base ho102) hb); have n1_ := Aside0.mk (Kd.R_elder' (kr_ HO_8) (Kd.R_base ho102) hb); have n2_ := Aside0.mk (Kd.R_lower (Kd.R_new' (Kd.R_new' ho102 (Kd.R_lt (kr_ HO_7))) (Kd.R_lt (kr_ HO_8))) (below_size (bw1_ HB GE183.out))); have n3_ := Aside0.mk (blk_below (g := gb183) (o := .cells #[.int .i64 a0_0, .slice A0_1 l0_1.length c0_1] 54 (0, 0)) (bk_ BK183) hb); have n4_ := Aside0.mk (below_step (bw1_ HB GE183.out) hb); clear HO_7; clear HO_8; clear BK183; clear HB; have HO_7 := n0_; have HO_8 := n1_; have HO211 := n2_; have BK183 := n3_; have HB := n4_; clear n0_ n1_ n2_ n3_ n4_; clear hb ho102; obtain ⟨Ao103, co103, eo103⟩ := Kd.R_slice HO211.out; subst eo103) | (go_at_call 142; (with_reducible refine (spec_EndOf.calls kj77 a0_0 _ _ l0_1 _ _ y209 x14_4 t212 _ ?side1 ?side2 ?side3 ?side4 A83.out).mono ?_); (case side1 => repeat (first | exact (Kd.C_below HR0_1.out HB.out) | (with_reducible refine Kd.C_alloc ?_ _) | (with_reducible refine Kd.C_drewN ?_ _) | (with_reducible refine Kd.C_drew ?_))); (case side2 => exact HC0_1.out); (case side3 => repeat (first | exact (Kd.R_reads' HO211.out).2.2 | (with_reducible refine Kd.C_alloc ?_ _) | (with_reducible refine Kd.C_drewN ?_ _) | (with_reducible refine Kd.C_drew ?_))); (case side4 => exact (Kd.R_reads' HO211.out).2.1); rintro e w104 ⟨rfl, hb⟩; have n0_ := Aside0.mk (Kd.R_below (kr_ HO_7) hb); have n1_ := Aside0.mk (Kd.R_below (kr_ HO_8) hb); have n2_ := Aside0.mk (Kd.R_below (kr_ HO211) hb); have n3_ := Aside0.mk (blk_below (g := gb183) (o := .cells #[.int .i64 a0_0, .slice A0_1 l0_1.length c0_1] 54 (0, 0)) (bk_ BK183) hb); have n4_ := Aside0.mk (below_step (bw1_ HB GE183.out) hb); clear HO_7; clear HO_8; clear HO211; clear BK183; clear HB; have HO_7 := n0_; have HO_8 := n1_; have HO211 := n2_; have BK183 := n3_; have HB := n4_; clear n0_ n1_ n2_ n3_ n4_; (try clear hb); (try clear hb2); (try clear hk); (try clear hi))); try go_wp2_with (first | ((with_reducible refine gate_dst (N := 136) rfl ?_); refine Kd.R_lit (Kd.int .i64) _ 3 ?hg (N := 136) ?hd (xs := ([x16_5] : List Int)) (inner := [.int .i64 x16_5]) (ok := fun _ => True) (okp := fun _ => True) ?hr ?hp (fun _ hk => hk) trivial (Below.refl _ _) (Nat.le_refl _) (by simp) ?_; (case hd => rfl); (case hg => rfl); (case hr => first | (go_simp; done) | (go_simp; rfl)); (case hp => exact (Reps.one (show Kd.M (Kd.int .i64) _ _ _ x16_5 [.int .i64 x16_5] from rfl) (Reps.none _ _))); intro v210 w101 ho102 hb hg_ hnew_; clear hg_ hnew_; (first | rw [← Ny209.out] at ho102 | (simp only [Int.reduceToNat] at ho102; rw [← Ny209.out] at ho102)); have n0_ := Aside0.mk (Kd.R_elder' (kr_ HO_7) (Kd.R_base ho102) hb); have n1_ := Aside0.mk (Kd.R_elder' (kr_ HO_8) (Kd.R_base ho102) hb); have n2_ := Aside0.mk (Kd.R_lower (Kd.R_new' (Kd.R_new' ho102 (Kd.R_lt (kr_ HO_7))) (Kd.R_lt (kr_ HO_8))) (below_size (bw1_ HB GE183.out))); have n3_ := Aside0.mk (blk_below (g := gb183) (o := .cells #[.int .i64 a0_0, .slice A0_1 l0_1.length c0_1] 54 (0, 0)) (bk_ BK183) hb); have n4_ := Aside0.mk (below_step (bw1_ HB GE183.out) hb); clear HO_7; clear HO_8; clear BK183; clear HB; have HO_7 := n0_; have HO_8 := n1_; have HO211 := n2_; have BK183 := n3_; have HB := n4_; clear n0_ n1_ n2_ n3_ n4_; clear hb ho102; obtain ⟨Ao103, co103, eo103⟩ := Kd.R_slice HO211.out; subst eo103) | (go_at_call 142; (with_reducible refine (spec_EndOf.calls kj77 a0_0 _ _ l0_1 _ _ y209 x14_4 t212 _ ?side1 ?side2 ?side3 ?side4 A83.out).mono ?_); (case side1 => repeat (first | exact (Kd.C_below HR0_1.out HB.out) | (with_reducible refine Kd.C_alloc ?_ _) | (with_reducible refine Kd.C_drewN ?_ _) | (with_reducible refine Kd.C_drew ?_))); (case side2 => exact HC0_1.out); (case side3 => repeat (first | exact (Kd.R_reads' HO211.out).2.2 | (with_reducible refine Kd.C_alloc ?_ _) | (with_reducible refine Kd.C_drewN ?_ _) | (with_reducible refine Kd.C_drew ?_))); (case side4 => exact (Kd.R_reads' HO211.out).2.1); rintro e w104 ⟨rfl, hb⟩; have n0_ := Aside0.mk (Kd.R_below (kr_ HO_7) hb); have n1_ := Aside0.mk (Kd.R_below (kr_ HO_8) hb); have n2_ := Aside0.mk (Kd.R_below (kr_ HO211) hb); have n3_ := Aside0.mk (blk_below (g := gb183) (o := .cells #[.int .i64 a0_0, .slice A0_1 l0_1.length c0_1] 54 (0, 0)) (bk_ BK183) hb); have n4_ := Aside0.mk (below_step (bw1_ HB GE183.out) hb); clear HO_7; clear HO_8; clear HO211; clear BK183; clear HB; have HO_7 := n0_; have HO_8 := n1_; have HO211 := n2_; have BK183 := n3_; have HB := n4_; clear n0_ n1_ n2_ n3_ n4_; (try clear hb); (try clear hb2); (try clear hk); (try clear hi))))
                        go_roundg kj77
                        case measure => have := HJ3.out; have := HK2.out; have := HK3.out; have := HK4.out; have := HK5.out; have := HJ77.out; omega
                        case rel => exact ⟨(x15_5), (wrap64 (x16_5 + 1)), (by first | rfl | (simp; done) | (simp [*]; done)), (by first | rfl | (simp; done) | (simp [*]; done)), H', ⟨by have := HJ3.out; have := HK2.out; have := HK3.out; have := HK4.out; have := HK5.out; have := HJ77.out; omega⟩, ⟨by (try simp only [hl8_3]); (with_reducible repeat (first | apply Kd.R_alloc | apply Kd.R_drewN | apply Kd.R_drew)); exact Kd.R_mono HO_7.out (fun _ hk => hk.1)⟩, ⟨by (try simp only [hl8_3]); (with_reducible repeat (first | apply Kd.R_alloc | apply Kd.R_drewN | apply Kd.R_drew)); exact Kd.R_mono HO_8.out (fun _ hk => hk.1)⟩, ⟨by (try simp only [hl8_3]); (with_reducible repeat (first | refine blk_drewN ?_ _ | refine blk_drew ?_ | refine blk_alloc ?_ _)); exact BK183.out⟩, ⟨bw1_ HB GE183.out⟩⟩
                      ·replace c82 := Bool.eq_false_iff.mpr c82
                       subst c82
                       have H1 : (if x7_4.length < 17592186044416 then ((spec_EndOf.f kj77 a0_0 l0_1 (([x15_5] : List Int)) x14_4).bind fun t221 => (spec_RouteTo.l3 kj77 a2 (x7_4 ++ [x15_5]) x8_3 t221 a0_0 l0_1)) else (none)) = some r := by rw [if_neg (show ¬ (false = true) by decide)] at H; exact H
                       clear H
                       have H := H1
                       clear H1
                       by_cases c105 : x7_4.length < 17592186044416
                       ·rw [if_pos c105] at H
                        have LMc105 := Aside0.mk c105
                        clear c105
                        obtain ⟨y215, hy215⟩ : ∃ y_ : List Int, y_ = (x7_4 ++ [x15_5]) := ⟨_, rfl⟩
                        replace H : ((spec_EndOf.f kj77 a0_0 l0_1 (([x15_5] : List Int)) x14_4).bind fun t221 => (spec_RouteTo.l3 kj77 a2 y215 x8_3 t221 a0_0 l0_1)) = some r := by first | (rw [hy215]; with_reducible exact H) | (have H2_ := (Option.bind_some _ _).symm.trans H; rw [hy215]; with_reducible exact H2_) | (have H2_ := (Option.bind_some _ _).symm.trans H; with_reducible exact H2_) | with_reducible exact H | (rw [hy215]; exact H) | exact H
                        have Ny215 := Aside0.mk hy215
                        clear hy215
                        obtain ⟨y218, hy218⟩ : ∃ y_ : List Int, y_ = (([x15_5] : List Int)) := ⟨_, rfl⟩
                        replace H : ((spec_EndOf.f kj77 a0_0 l0_1 y218 x14_4).bind fun t221 => (spec_RouteTo.l3 kj77 a2 y215 x8_3 t221 a0_0 l0_1)) = some r := by first | (rw [hy218]; with_reducible exact H) | (have H2_ := (Option.bind_some _ _).symm.trans H; rw [hy218]; with_reducible exact H2_) | (have H2_ := (Option.bind_some _ _).symm.trans H; with_reducible exact H2_) | with_reducible exact H | (rw [hy218]; exact H) | exact H
                        have Ny218 := Aside0.mk hy218
                        clear hy218
                        replace H := Option.bind_eq_some_iff.mp H
                        obtain ⟨t221, A1060, H⟩ := H
                        replace H : (spec_RouteTo.l3 kj77 a2 y215 x8_3 t221 a0_0 l0_1) = some r := H
                        have A106 := Aside0.mk A1060
                        clear A1060
                        have H' := Aside0.mk H
                        clear H
                        go_wp2_with (first | ((with_reducible refine gate_builtin (b := .append) (xs := #[.tmp 154, .tmp 156]) rfl ?_); at_builtin; refine Kd.R_append (Kd.int .i64) (w0 := w) w.heap.size rfl (.tmp 154) (.tmp 156) 37 3 (.int .i64 0) 8 rfl Try.underlying37 info3 rfl (by decide) (by omega) u7 x7_4 x15_5 [.int .i64 x15_5] (fun k_ => some k_ ≠ (.slice (some ⟨go30, 0, none⟩) x8_3.length co30 : Value).ownBlock) (fun _ => False) rfl rfl ?aP (fun _ hk => hk.elim) ?aF ?aO ?aB ?aS ?aL ?_; (case aP => exact rfl); (case aB => exact (bw1_ HB GE183.out)); (case aF => exact (fun k_ hk => Kd.fresh' (Kd.R_lt (kr_ HO_8)) k_ hk)); (case aO => exact (kr_ HO_7)); (case aS => exact (below_size (bw1_ HB GE183.out))); (case aL => have := LMc105.out; omega); intro v216 w107 ho hb hg hat; rw [← Ny215.out] at ho; have n0_ := Aside0.mk (Kd.R_after (ok := (fun _ => True)) (by (with_reducible repeat (first | apply Kd.R_alloc | apply Kd.R_drewN | apply Kd.R_drew)); exact Kd.R_mono HO_8.out (fun _ hk => ⟨trivial, hk⟩)) hg hat); have n1_ := Aside0.mk (blk_grown (g := gb183) (o := .cells #[.int .i64 a0_0, .slice A0_1 l0_1.length c0_1] 54 (0, 0)) (bk_ BK183) hg (Kd.R_ne HO_7.out BK183.out (by decide))); have n2_ := Aside0.mk (hb); have n3_ := Aside0.mk (ho); clear HO_8; clear BK183; clear HB; clear HO_7; have HO_8 := n0_; have BK183 := n1_; have HB := n2_; have HO217 := n3_; clear n0_ n1_ n2_ n3_; clear ho hb hg hat; have hcz108_0 : w107.cell? ⟨gb183, 0, none⟩ = some (.int .i64 a0_0) := (blk_cell BK183.out 0).trans rfl; have hcz108_1 : w107.cell? ⟨gb183, 1, none⟩ = some (.slice A0_1 l0_1.length c0_1) := (blk_cell BK183.out 1).trans rfl; have hfz108_0 := blk_frozen BK183.out 0; have hfz108_1 := blk_frozen BK183.out 1) | ((with_reducible refine gate_dst (N := 160) rfl ?_); refine Kd.R_lit (Kd.int .i64) _ 3 ?hg (N := 160) ?hd (xs := ([x15_5] : List Int)) (inner := [.int .i64 x15_5]) (ok := fun _ => True) (okp := fun _ => True) ?hr ?hp (fun _ hk => hk) trivial (Below.refl _ _) (Nat.le_refl _) (by simp) ?_; (case hd => rfl); (case hg => rfl); (case hr => first | (go_simp; done) | (go_simp; rfl)); (case hp => exact (Reps.one (show Kd.M (Kd.int .i64) _ _ _ x15_5 [.int .i64 x15_5] from rfl) (Reps.none _ _))); intro v219 w109 ho110 hb hg_ hnew_; clear hg_ hnew_; (first | rw [← Ny218.out] at ho110 | (simp only [Int.reduceToNat] at ho110; rw [← Ny218.out] at ho110)); have n0_ := Aside0.mk (Kd.R_elder' (kr_ HO_8) (Kd.R_base ho110) hb); have n1_ := Aside0.mk (Kd.R_elder' (kr_ HO217) (Kd.R_base ho110) hb); have n2_ := Aside0.mk (Kd.R_lower (Kd.R_new' (Kd.R_new' ho110 (Kd.R_lt (kr_ HO_8))) (Kd.R_lt (kr_ HO217))) (below_size (bw1_ HB GE183.out))); have n3_ := Aside0.mk (blk_below (g := gb183) (o := .cells #[.int .i64 a0_0, .slice A0_1 l0_1.length c0_1] 54 (0, 0)) (bk_ BK183) hb); have n4_ := Aside0.mk (below_step (bw1_ HB GE183.out) hb); clear HO_8; clear HO217; clear BK183; clear HB; have HO_8 := n0_; have HO217 := n1_; have HO220 := n2_; have BK183 := n3_; have HB := n4_; clear n0_ n1_ n2_ n3_ n4_; clear hb ho110; obtain ⟨Ao111, co111, eo111⟩ := Kd.R_slice HO220.out; subst eo111) | (go_at_call 142; (with_reducible refine (spec_EndOf.calls kj77 a0_0 _ _ l0_1 _ _ y218 x14_4 t221 _ ?side1 ?side2 ?side3 ?side4 A106.out).mono ?_); (case side1 => repeat (first | exact (Kd.C_below HR0_1.out HB.out) | (with_reducible refine Kd.C_alloc ?_ _) | (with_reducible refine Kd.C_drewN ?_ _) | (with_reducible refine Kd.C_drew ?_))); (case side2 => exact HC0_1.out); (case side3 => repeat (first | exact (Kd.R_reads' HO220.out).2.2 | (with_reducible refine Kd.C_alloc ?_ _) | (with_reducible refine Kd.C_drewN ?_ _) | (with_reducible refine Kd.C_drew ?_))); (case side4 => exact (Kd.R_reads' HO220.out).2.1); rintro e w112 ⟨rfl, hb⟩; have n0_ := Aside0.mk (Kd.R_below (kr_ HO_8) hb); have n1_ := Aside0.mk (Kd.R_below (kr_ HO217) hb); have n2_ := Aside0.mk (Kd.R_below (kr_ HO220) hb); have n3_ := Aside0.mk (blk_below (g := gb183) (o := .cells #[.int .i64 a0_0, .slice A0_1 l0_1.length c0_1] 54 (0, 0)) (bk_ BK183) hb); have n4_ := Aside0.mk (below_step (bw1_ HB GE183.out) hb); clear HO_8; clear HO217; clear HO220; clear BK183; clear HB; have HO_8 := n0_; have HO217 := n1_; have HO220 := n2_; have BK183 := n3_; have HB := n4_; clear n0_ n1_ n2_ n3_ n4_; (try clear hb); (try clear hb2); (try clear hk); (try clear hi)))
                        go_roundg kj77
                        case measure => have := HJ3.out; have := HK2.out; have := HK3.out; have := HK4.out; have := HK5.out; have := HJ77.out; omega
                        case rel => exact ⟨(y215), (t221), (by first | rfl | (simp; done) | (simp [*]; done)), H', ⟨by have := HJ3.out; have := HK2.out; have := HK3.out; have := HK4.out; have := HK5.out; have := HJ77.out; omega⟩, ⟨by (try simp only [hl8_3]); (with_reducible repeat (first | apply Kd.R_alloc | apply Kd.R_drewN | apply Kd.R_drew)); exact Kd.R_mono HO217.out (fun _ hk => hk.1)⟩, ⟨by (try simp only [hl8_3]); (with_reducible repeat (first | apply Kd.R_alloc | apply Kd.R_drewN | apply Kd.R_drew)); exact Kd.R_mono HO_8.out (fun _ hk => hk.1.2)⟩, ⟨by (try simp only [hl8_3]); (with_reducible repeat (first | refine blk_drewN ?_ _ | refine blk_drew ?_ | refine blk_alloc ?_ _)); exact BK183.out⟩, ⟨bw1_ HB GE183.out⟩⟩
                       ·rw [if_neg c105] at H
                        exact absurd H (by simp)
             ·rw [if_neg c73] at H
              exact absurd H (by simp)
            ·rw [if_neg c72] at H
             exact absurd H (by simp)
        ·rw [if_neg c29] at H
         exact absurd H (by simp)
       ·rw [if_neg c28] at H
        exact absurd H (by simp)

end Go.Proofs.Ytgghhcifkgdpeaa.Z
