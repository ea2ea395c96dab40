-- Written by this session's wip/mp/mp.py out of the translation. Lean checks it.
import Derived.Test.YtcdlhjfiboomkaaZ0
import Derived.Test.YtcdlhjfiboomkaaZ2
import Derived.Test.YtcdlhjfiboomkaaZ3
namespace Go.Proofs.Ytcdlhjfiboomkaa.Z
open Go.RowKit Go.Proofs.YtcdlhjfiboomkaaW.PrintWords Go.Proofs.YtcdlhjfiboomkaaW.PrintLast Go.Proofs.YtcdlhjfiboomkaaW.PrintMore
attribute [local go_sem] max2_int min2_int max_two min_two max_three min_three max_four min_four   -- for this text's walks alone
set_option linter.unusedVariables false
set_option linter.unusedSimpArgs false

/-! ### spec_RouteTo: function 50 -/
mutual
def spec_RouteTo.j0 : Nat → Int → Int → List Int → Bool → Int → List (S64) → Option (List Int)
 | 0, _, _, _, _, _, _ => none
 | k + 1, x1, x2, x7, x37, x122000, x122001 => if x37 = true then (some x7) else (spec_RouteTo.l0 k x1 x2 x7 (([] : List Int)) 0 x122000 x122001)
def spec_RouteTo.l0 : Nat → Int → Int → List Int → List Int → Int → Int → List (S64) → Option (List Int)
 | 0, _, _, _, _, _, _, _ => none
 | k + 1, x1, x2, x7, x8, x9, x122000, x122001 => if x9 < x122000 then (if x8.length < 17592186044416 then (spec_RouteTo.l0 k x1 x2 x7 (x8 ++ [(-1)]) (wrap64 (x9 + 1)) x122000 x122001) else (none)) else (if 0 ≤ x2 then (if x2 < (x8.length : Int) then (spec_RouteTo.l1 k x1 x2 x7 (x8.set (x2 : Int).toNat 0) 0 x122000 x122001) else (none)) else (none))
def spec_RouteTo.l1 : Nat → Int → Int → List Int → List Int → Int → Int → List (S64) → Option (List Int)
 | 0, _, _, _, _, _, _, _ => none
 | k + 1, x1, x2, x7, x8, x10, x122000, x122001 => if x10 < x122000 then (spec_RouteTo.l2 k x1 x2 x7 x8 x10 0 x122000 x122001) else (if 0 ≤ x1 then (if x1 < (x8.length : Int) then (if (rd x8 x1) < 0 then (some x7) else (spec_RouteTo.l3 k x2 x7 x8 x1 x122000 x122001)) else (none)) else (none))
def spec_RouteTo.l2 : Nat → Int → Int → List Int → List Int → Int → Int → Int → List (S64) → Option (List Int)
 | 0, _, _, _, _, _, _, _, _ => none
 | k + 1, x1, x2, x7, x8, x10, x11, x122000, x122001 => if x11 < (x122001.length : Int) then (if 0 ≤ x11 then (if 0 ≤ ((rd_T64 x122001 x11).f0) then (if ((rd_T64 x122001 x11).f0) < (x8.length : Int) then (if (rd x8 ((rd_T64 x122001 x11).f0)) = x10 then (if 0 ≤ ((rd_T64 x122001 x11).f1) then (if ((rd_T64 x122001 x11).f1) < (x8.length : Int) then (spec_RouteTo.j4 k x1 x2 x7 x8 x10 x11 ((rd_T64 x122001 x11).f0) ((rd_T64 x122001 x11).f1) (decide ((rd x8 ((rd_T64 x122001 x11).f1)) < 0)) x122000 x122001) else (none)) else (none)) else (spec_RouteTo.j4 k x1 x2 x7 x8 x10 x11 ((rd_T64 x122001 x11).f0) ((rd_T64 x122001 x11).f1) false x122000 x122001)) else (none)) else (none)) else (none)) else (spec_RouteTo.l1 k x1 x2 x7 x8 (wrap64 (x10 + 1)) x122000 x122001)
def spec_RouteTo.j4 : Nat → Int → Int → List Int → List Int → Int → Int → Int → Int → Bool → Int → List (S64) → Option (List Int)
 | 0, _, _, _, _, _, _, _, _, _, _, _ => none
 | k + 1, x1, x2, x7, x8, x10, x11, x12, x13, x89, x122000, x122001 => if x89 = true then (if 0 ≤ x13 then (if x13 < (x8.length : Int) then ((some (x8.set (x13 : Int).toNat (wrap64 (x10 + 1)) : List Int)).bind fun y139 => (if (rd y139 x13) = x10 then (if 0 ≤ x12 then (if x12 < (x8.length : Int) then (if (rd y139 x12) < 0 then (spec_RouteTo.l2 k x1 x2 x7 (y139.set (x12 : Int).toNat (wrap64 (x10 + 1))) x10 (wrap64 (x11 + 1)) x122000 x122001) else (spec_RouteTo.l2 k x1 x2 x7 y139 x10 (wrap64 (x11 + 1)) x122000 x122001)) else (none)) else (none)) else (spec_RouteTo.l2 k x1 x2 x7 y139 x10 (wrap64 (x11 + 1)) x122000 x122001))) else (none)) else (none)) else (if 0 ≤ x13 then (if x13 < (x8.length : Int) then (if (rd x8 x13) = x10 then (if 0 ≤ x12 then (if x12 < (x8.length : Int) then (if (rd x8 x12) < 0 then (spec_RouteTo.l2 k x1 x2 x7 (x8.set (x12 : Int).toNat (wrap64 (x10 + 1))) x10 (wrap64 (x11 + 1)) x122000 x122001) else (spec_RouteTo.l2 k x1 x2 x7 x8 x10 (wrap64 (x11 + 1)) x122000 x122001)) else (none)) else (none)) else (spec_RouteTo.l2 k x1 x2 x7 x8 x10 (wrap64 (x11 + 1)) x122000 x122001)) else (none)) else (none))
def spec_RouteTo.l3 : Nat → Int → List Int → List Int → Int → Int → List (S64) → Option (List Int)
 | 0, _, _, _, _, _, _ => none
 | k + 1, x2, x7, x8, x14, x122000, x122001 => if x14 = x2 then (some x7) else (spec_RouteTo.l4 k x2 x7 x8 x14 (-1) 0 x122000 x122001)
def spec_RouteTo.l4 : Nat → Int → List Int → List Int → Int → Int → Int → Int → List (S64) → Option (List Int)
 | 0, _, _, _, _, _, _, _, _ => none
 | k + 1, x2, x7, x8, x14, x15, x16, x122000, x122001 => if x16 < (x122001.length : Int) then (spec_RouteTo.j7 k x2 x7 x8 x14 x15 x16 (decide (x15 < 0)) x122000 x122001) else (spec_RouteTo.j7 k x2 x7 x8 x14 x15 x16 false x122000 x122001)
def spec_RouteTo.j7 : Nat → Int → List Int → List Int → Int → Int → Int → Bool → Int → List (S64) → Option (List Int)
 | 0, _, _, _, _, _, _, _, _, _ => none
 | k + 1, x2, x7, x8, x14, x15, x16, x131, x122000, x122001 => if x131 = true then ((spec_EndOf.f k x122000 x122001 (([x16] : List Int)) x14).bind fun t150 => (if t150 ≥ 0 then (if 0 ≤ t150 then (if t150 < (x8.length : Int) then (if 0 ≤ x14 then (if x14 < (x8.length : Int) then (if (rd x8 t150) = (wrap64 ((rd x8 x14) - 1)) then (spec_RouteTo.l4 k x2 x7 x8 x14 x16 (wrap64 (x16 + 1)) x122000 x122001) else (spec_RouteTo.l4 k x2 x7 x8 x14 x15 (wrap64 (x16 + 1)) x122000 x122001)) else (none)) else (none)) else (none)) else (none)) else (spec_RouteTo.l4 k x2 x7 x8 x14 x15 (wrap64 (x16 + 1)) x122000 x122001))) else (if x7.length < 17592186044416 then ((spec_EndOf.f k x122000 x122001 (([x15] : List Int)) x14).bind fun t159 => (spec_RouteTo.l3 k x2 (x7 ++ [x15]) x8 t159 x122000 x122001)) else (none))
end
def spec_RouteTo.f (k : Nat) (a0_0 : Int) (l0_1 : List (S64)) (a1 : Int) (a2 : Int) : Option (List Int) := (some (([] : List Int) : List Int)).bind fun y122 => ((spec_IsNet.f k a0_0 l0_1).bind fun t125 => (if t125 = true then ((spec_l1In.f a1 0 (wrap64 (a0_0 - 1))).bind fun t126 => (if t126 = true then ((spec_l1In.f a2 0 (wrap64 (a0_0 - 1))).bind fun t127 => (spec_RouteTo.j0 k a1 a2 y122 (!t127) a0_0 l0_1)) else (spec_RouteTo.j0 k a1 a2 y122 true a0_0 l0_1))) else (spec_RouteTo.j0 k a1 a2 y122 true a0_0 l0_1)))
theorem spec_RouteTo.mono_l : ∀ k, (∀ y0 y1 y2 y3 y4 y5, LeO (spec_RouteTo.j0 k y0 y1 y2 y3 y4 y5) (spec_RouteTo.j0 (k + 1) y0 y1 y2 y3 y4 y5)) ∧ (∀ y0 y1 y2 y3 y4 y5 y6, LeO (spec_RouteTo.l0 k y0 y1 y2 y3 y4 y5 y6) (spec_RouteTo.l0 (k + 1) y0 y1 y2 y3 y4 y5 y6)) ∧ (∀ y0 y1 y2 y3 y4 y5 y6, LeO (spec_RouteTo.l1 k y0 y1 y2 y3 y4 y5 y6) (spec_RouteTo.l1 (k + 1) y0 y1 y2 y3 y4 y5 y6)) ∧ (∀ y0 y1 y2 y3 y4 y5 y6 y7, LeO (spec_RouteTo.l2 k y0 y1 y2 y3 y4 y5 y6 y7) (spec_RouteTo.l2 (k + 1) y0 y1 y2 y3 y4 y5 y6 y7)) ∧ (∀ y0 y1 y2 y3 y4 y5 y6 y7 y8 y9 y10, LeO (spec_RouteTo.j4 k y0 y1 y2 y3 y4 y5 y6 y7 y8 y9 y10) (spec_RouteTo.j4 (k + 1) y0 y1 y2 y3 y4 y5 y6 y7 y8 y9 y10)) ∧ (∀ y0 y1 y2 y3 y4 y5, LeO (spec_RouteTo.l3 k y0 y1 y2 y3 y4 y5) (spec_RouteTo.l3 (k + 1) y0 y1 y2 y3 y4 y5)) ∧ (∀ y0 y1 y2 y3 y4 y5 y6 y7, LeO (spec_RouteTo.l4 k y0 y1 y2 y3 y4 y5 y6 y7) (spec_RouteTo.l4 (k + 1) y0 y1 y2 y3 y4 y5 y6 y7)) ∧ (∀ y0 y1 y2 y3 y4 y5 y6 y7 y8, LeO (spec_RouteTo.j7 k y0 y1 y2 y3 y4 y5 y6 y7 y8) (spec_RouteTo.j7 (k + 1) y0 y1 y2 y3 y4 y5 y6 y7 y8))
 | 0 => ⟨fun _ _ _ _ _ _ r h => by simp [spec_RouteTo.j0] at h, fun _ _ _ _ _ _ _ r h => by simp [spec_RouteTo.l0] at h, fun _ _ _ _ _ _ _ r h => by simp [spec_RouteTo.l1] at h, fun _ _ _ _ _ _ _ _ r h => by simp [spec_RouteTo.l2] at h, fun _ _ _ _ _ _ _ _ _ _ _ r h => by simp [spec_RouteTo.j4] at h, fun _ _ _ _ _ _ r h => by simp [spec_RouteTo.l3] at h, fun _ _ _ _ _ _ _ _ r h => by simp [spec_RouteTo.l4] at h, fun _ _ _ _ _ _ _ _ _ r h => by simp [spec_RouteTo.j7] at h⟩
 | k + 1 => by
  obtain ⟨ih0, ih1, ih2, ih3, ih4, ih5, ih6, ih7⟩ := spec_RouteTo.mono_l k
  refine ⟨?_, ?_, ?_, ?_, ?_, ?_, ?_, ?_⟩
  ·intro y0 y1 y2 y3 y4 y5
   unfold spec_RouteTo.j0
   repeat' first
   | (with_reducible exact ih0 _ _ _ _ _ _)
   | (with_reducible exact ih1 _ _ _ _ _ _ _)
   | (with_reducible exact ih2 _ _ _ _ _ _ _)
   | (with_reducible exact ih3 _ _ _ _ _ _ _ _)
   | (with_reducible exact ih4 _ _ _ _ _ _ _ _ _ _ _)
   | (with_reducible exact ih5 _ _ _ _ _ _)
   | (with_reducible exact ih6 _ _ _ _ _ _ _ _)
   | (with_reducible exact ih7 _ _ _ _ _ _ _ _ _)
   | (with_reducible exact spec_EndOf.mono _ _ _ _ _)
   | (with_reducible exact spec_IsNet.mono _ _ _)
   | (with_reducible exact LeO.refl _)
   | (with_reducible exact LeO.none _)
   | (with_reducible refine LeO.ite ?_ ?_)
   | (with_reducible refine LeO.bind ?_ (fun _ => ?_))
   | exact ih0 _ _ _ _ _ _
   | exact ih1 _ _ _ _ _ _ _
   | exact ih2 _ _ _ _ _ _ _
   | exact ih3 _ _ _ _ _ _ _ _
   | exact ih4 _ _ _ _ _ _ _ _ _ _ _
   | exact ih5 _ _ _ _ _ _
   | exact ih6 _ _ _ _ _ _ _ _
   | exact ih7 _ _ _ _ _ _ _ _ _
   | exact spec_EndOf.mono _ _ _ _ _
   | exact spec_IsNet.mono _ _ _
   | exact LeO.none _
   | refine LeO.ite ?_ ?_
   | refine LeO.bind ?_ (fun _ => ?_)
  ·intro y0 y1 y2 y3 y4 y5 y6
   unfold spec_RouteTo.l0
   repeat' first
   | (with_reducible exact ih0 _ _ _ _ _ _)
   | (with_reducible exact ih1 _ _ _ _ _ _ _)
   | (with_reducible exact ih2 _ _ _ _ _ _ _)
   | (with_reducible exact ih3 _ _ _ _ _ _ _ _)
   | (with_reducible exact ih4 _ _ _ _ _ _ _ _ _ _ _)
   | (with_reducible exact ih5 _ _ _ _ _ _)
   | (with_reducible exact ih6 _ _ _ _ _ _ _ _)
   | (with_reducible exact ih7 _ _ _ _ _ _ _ _ _)
   | (with_reducible exact spec_EndOf.mono _ _ _ _ _)
   | (with_reducible exact spec_IsNet.mono _ _ _)
   | (with_reducible exact LeO.refl _)
   | (with_reducible exact LeO.none _)
   | (with_reducible refine LeO.ite ?_ ?_)
   | (with_reducible refine LeO.bind ?_ (fun _ => ?_))
   | exact ih0 _ _ _ _ _ _
   | exact ih1 _ _ _ _ _ _ _
   | exact ih2 _ _ _ _ _ _ _
   | exact ih3 _ _ _ _ _ _ _ _
   | exact ih4 _ _ _ _ _ _ _ _ _ _ _
   | exact ih5 _ _ _ _ _ _
   | exact ih6 _ _ _ _ _ _ _ _
   | exact ih7 _ _ _ _ _ _ _ _ _
   | exact spec_EndOf.mono _ _ _ _ _
   | exact spec_IsNet.mono _ _ _
   | exact LeO.none _
   | refine LeO.ite ?_ ?_
   | refine LeO.bind ?_ (fun _ => ?_)
  ·intro y0 y1 y2 y3 y4 y5 y6
   unfold spec_RouteTo.l1
   repeat' first
   | (with_reducible exact ih0 _ _ _ _ _ _)
   | (with_reducible exact ih1 _ _ _ _ _ _ _)
   | (with_reducible exact ih2 _ _ _ _ _ _ _)
   | (with_reducible exact ih3 _ _ _ _ _ _ _ _)
   | (with_reducible exact ih4 _ _ _ _ _ _ _ _ _ _ _)
   | (with_reducible exact ih5 _ _ _ _ _ _)
   | (with_reducible exact ih6 _ _ _ _ _ _ _ _)
   | (with_reducible exact ih7 _ _ _ _ _ _ _ _ _)
   | (with_reducible exact spec_EndOf.mono _ _ _ _ _)
   | (with_reducible exact spec_IsNet.mono _ _ _)
   | (with_reducible exact LeO.refl _)
   | (with_reducible exact LeO.none _)
   | (with_reducible refine LeO.ite ?_ ?_)
   | (with_reducible refine LeO.bind ?_ (fun _ => ?_))
   | exact ih0 _ _ _ _ _ _
   | exact ih1 _ _ _ _ _ _ _
   | exact ih2 _ _ _ _ _ _ _
   | exact ih3 _ _ _ _ _ _ _ _
   | exact ih4 _ _ _ _ _ _ _ _ _ _ _
   | exact ih5 _ _ _ _ _ _
   | exact ih6 _ _ _ _ _ _ _ _
   | exact ih7 _ _ _ _ _ _ _ _ _
   | exact spec_EndOf.mono _ _ _ _ _
   | exact spec_IsNet.mono _ _ _
   | exact LeO.none _
   | refine LeO.ite ?_ ?_
   | refine LeO.bind ?_ (fun _ => ?_)
  ·intro y0 y1 y2 y3 y4 y5 y6 y7
   unfold spec_RouteTo.l2
   repeat' first
   | (with_reducible exact ih0 _ _ _ _ _ _)
   | (with_reducible exact ih1 _ _ _ _ _ _ _)
   | (with_reducible exact ih2 _ _ _ _ _ _ _)
   | (with_reducible exact ih3 _ _ _ _ _ _ _ _)
   | (with_reducible exact ih4 _ _ _ _ _ _ _ _ _ _ _)
   | (with_reducible exact ih5 _ _ _ _ _ _)
   | (with_reducible exact ih6 _ _ _ _ _ _ _ _)
   | (with_reducible exact ih7 _ _ _ _ _ _ _ _ _)
   | (with_reducible exact spec_EndOf.mono _ _ _ _ _)
   | (with_reducible exact spec_IsNet.mono _ _ _)
   | (with_reducible exact LeO.refl _)
   | (with_reducible exact LeO.none _)
   | (with_reducible refine LeO.ite ?_ ?_)
   | (with_reducible refine LeO.bind ?_ (fun _ => ?_))
   | exact ih0 _ _ _ _ _ _
   | exact ih1 _ _ _ _ _ _ _
   | exact ih2 _ _ _ _ _ _ _
   | exact ih3 _ _ _ _ _ _ _ _
   | exact ih4 _ _ _ _ _ _ _ _ _ _ _
   | exact ih5 _ _ _ _ _ _
   | exact ih6 _ _ _ _ _ _ _ _
   | exact ih7 _ _ _ _ _ _ _ _ _
   | exact spec_EndOf.mono _ _ _ _ _
   | exact spec_IsNet.mono _ _ _
   | exact LeO.none _
   | refine LeO.ite ?_ ?_
   | refine LeO.bind ?_ (fun _ => ?_)
  ·intro y0 y1 y2 y3 y4 y5 y6 y7 y8 y9 y10
   unfold spec_RouteTo.j4
   repeat' first
   | (with_reducible exact ih0 _ _ _ _ _ _)
   | (with_reducible exact ih1 _ _ _ _ _ _ _)
   | (with_reducible exact ih2 _ _ _ _ _ _ _)
   | (with_reducible exact ih3 _ _ _ _ _ _ _ _)
   | (with_reducible exact ih4 _ _ _ _ _ _ _ _ _ _ _)
   | (with_reducible exact ih5 _ _ _ _ _ _)
   | (with_reducible exact ih6 _ _ _ _ _ _ _ _)
   | (with_reducible exact ih7 _ _ _ _ _ _ _ _ _)
   | (with_reducible exact spec_EndOf.mono _ _ _ _ _)
   | (with_reducible exact spec_IsNet.mono _ _ _)
   | (with_reducible exact LeO.refl _)
   | (with_reducible exact LeO.none _)
   | (with_reducible refine LeO.ite ?_ ?_)
   | (with_reducible refine LeO.bind ?_ (fun _ => ?_))
   | exact ih0 _ _ _ _ _ _
   | exact ih1 _ _ _ _ _ _ _
   | exact ih2 _ _ _ _ _ _ _
   | exact ih3 _ _ _ _ _ _ _ _
   | exact ih4 _ _ _ _ _ _ _ _ _ _ _
   | exact ih5 _ _ _ _ _ _
   | exact ih6 _ _ _ _ _ _ _ _
   | exact ih7 _ _ _ _ _ _ _ _ _
   | exact spec_EndOf.mono _ _ _ _ _
   | exact spec_IsNet.mono _ _ _
   | exact LeO.none _
   | refine LeO.ite ?_ ?_
   | refine LeO.bind ?_ (fun _ => ?_)
  ·intro y0 y1 y2 y3 y4 y5
   unfold spec_RouteTo.l3
   repeat' first
   | (with_reducible exact ih0 _ _ _ _ _ _)
   | (with_reducible exact ih1 _ _ _ _ _ _ _)
   | (with_reducible exact ih2 _ _ _ _ _ _ _)
   | (with_reducible exact ih3 _ _ _ _ _ _ _ _)
   | (with_reducible exact ih4 _ _ _ _ _ _ _ _ _ _ _)
   | (with_reducible exact ih5 _ _ _ _ _ _)
   | (with_reducible exact ih6 _ _ _ _ _ _ _ _)
   | (with_reducible exact ih7 _ _ _ _ _ _ _ _ _)
   | (with_reducible exact spec_EndOf.mono _ _ _ _ _)
   | (with_reducible exact spec_IsNet.mono _ _ _)
   | (with_reducible exact LeO.refl _)
   | (with_reducible exact LeO.none _)
   | (with_reducible refine LeO.ite ?_ ?_)
   | (with_reducible refine LeO.bind ?_ (fun _ => ?_))
   | exact ih0 _ _ _ _ _ _
   | exact ih1 _ _ _ _ _ _ _
   | exact ih2 _ _ _ _ _ _ _
   | exact ih3 _ _ _ _ _ _ _ _
   | exact ih4 _ _ _ _ _ _ _ _ _ _ _
   | exact ih5 _ _ _ _ _ _
   | exact ih6 _ _ _ _ _ _ _ _
   | exact ih7 _ _ _ _ _ _ _ _ _
   | exact spec_EndOf.mono _ _ _ _ _
   | exact spec_IsNet.mono _ _ _
   | exact LeO.none _
   | refine LeO.ite ?_ ?_
   | refine LeO.bind ?_ (fun _ => ?_)
  ·intro y0 y1 y2 y3 y4 y5 y6 y7
   unfold spec_RouteTo.l4
   repeat' first
   | (with_reducible exact ih0 _ _ _ _ _ _)
   | (with_reducible exact ih1 _ _ _ _ _ _ _)
   | (with_reducible exact ih2 _ _ _ _ _ _ _)
   | (with_reducible exact ih3 _ _ _ _ _ _ _ _)
   | (with_reducible exact ih4 _ _ _ _ _ _ _ _ _ _ _)
   | (with_reducible exact ih5 _ _ _ _ _ _)
   | (with_reducible exact ih6 _ _ _ _ _ _ _ _)
   | (with_reducible exact ih7 _ _ _ _ _ _ _ _ _)
   | (with_reducible exact spec_EndOf.mono _ _ _ _ _)
   | (with_reducible exact spec_IsNet.mono _ _ _)
   | (with_reducible exact LeO.refl _)
   | (with_reducible exact LeO.none _)
   | (with_reducible refine LeO.ite ?_ ?_)
   | (with_reducible refine LeO.bind ?_ (fun _ => ?_))
   | exact ih0 _ _ _ _ _ _
   | exact ih1 _ _ _ _ _ _ _
   | exact ih2 _ _ _ _ _ _ _
   | exact ih3 _ _ _ _ _ _ _ _
   | exact ih4 _ _ _ _ _ _ _ _ _ _ _
   | exact ih5 _ _ _ _ _ _
   | exact ih6 _ _ _ _ _ _ _ _
   | exact ih7 _ _ _ _ _ _ _ _ _
   | exact spec_EndOf.mono _ _ _ _ _
   | exact spec_IsNet.mono _ _ _
   | exact LeO.none _
   | refine LeO.ite ?_ ?_
   | refine LeO.bind ?_ (fun _ => ?_)
  ·intro y0 y1 y2 y3 y4 y5 y6 y7 y8
   unfold spec_RouteTo.j7
   repeat' first
   | (with_reducible exact ih0 _ _ _ _ _ _)
   | (with_reducible exact ih1 _ _ _ _ _ _ _)
   | (with_reducible exact ih2 _ _ _ _ _ _ _)
   | (with_reducible exact ih3 _ _ _ _ _ _ _ _)
   | (with_reducible exact ih4 _ _ _ _ _ _ _ _ _ _ _)
   | (with_reducible exact ih5 _ _ _ _ _ _)
   | (with_reducible exact ih6 _ _ _ _ _ _ _ _)
   | (with_reducible exact ih7 _ _ _ _ _ _ _ _ _)
   | (with_reducible exact spec_EndOf.mono _ _ _ _ _)
   | (with_reducible exact spec_IsNet.mono _ _ _)
   | (with_reducible exact LeO.refl _)
   | (with_reducible exact LeO.none _)
   | (with_reducible refine LeO.ite ?_ ?_)
   | (with_reducible refine LeO.bind ?_ (fun _ => ?_))
   | exact ih0 _ _ _ _ _ _
   | exact ih1 _ _ _ _ _ _ _
   | exact ih2 _ _ _ _ _ _ _
   | exact ih3 _ _ _ _ _ _ _ _
   | exact ih4 _ _ _ _ _ _ _ _ _ _ _
   | exact ih5 _ _ _ _ _ _
   | exact ih6 _ _ _ _ _ _ _ _
   | exact ih7 _ _ _ _ _ _ _ _ _
   | exact spec_EndOf.mono _ _ _ _ _
   | exact spec_IsNet.mono _ _ _
   | exact LeO.none _
   | refine LeO.ite ?_ ?_
   | refine LeO.bind ?_ (fun _ => ?_)
theorem spec_RouteTo.mono : ∀ a0 a1 a2 a3 k, LeO (spec_RouteTo.f k a0 a1 a2 a3) (spec_RouteTo.f (k + 1) a0 a1 a2 a3) := by
 intro a0 a1 a2 a3 k
 obtain ⟨ih0, ih1, ih2, ih3, ih4, ih5, ih6, ih7⟩ := spec_RouteTo.mono_l k
 unfold spec_RouteTo.f
 repeat' first
   | (with_reducible exact ih0 _ _ _ _ _ _)
   | (with_reducible exact ih1 _ _ _ _ _ _ _)
   | (with_reducible exact ih2 _ _ _ _ _ _ _)
   | (with_reducible exact ih3 _ _ _ _ _ _ _ _)
   | (with_reducible exact ih4 _ _ _ _ _ _ _ _ _ _ _)
   | (with_reducible exact ih5 _ _ _ _ _ _)
   | (with_reducible exact ih6 _ _ _ _ _ _ _ _)
   | (with_reducible exact ih7 _ _ _ _ _ _ _ _ _)
   | (with_reducible exact spec_EndOf.mono _ _ _ _ _)
   | (with_reducible exact spec_IsNet.mono _ _ _)
   | (with_reducible exact LeO.refl _)
   | (with_reducible exact LeO.none _)
   | (with_reducible refine LeO.ite ?_ ?_)
   | (with_reducible refine LeO.bind ?_ (fun _ => ?_))
   | exact ih0 _ _ _ _ _ _
   | exact ih1 _ _ _ _ _ _ _
   | exact ih2 _ _ _ _ _ _ _
   | exact ih3 _ _ _ _ _ _ _ _
   | exact ih4 _ _ _ _ _ _ _ _ _ _ _
   | exact ih5 _ _ _ _ _ _
   | exact ih6 _ _ _ _ _ _ _ _
   | exact ih7 _ _ _ _ _ _ _ _ _
   | exact spec_EndOf.mono _ _ _ _ _
   | exact spec_IsNet.mono _ _ _
   | exact LeO.none _
   | refine LeO.ite ?_ ?_
   | refine LeO.bind ?_ (fun _ => ?_)
set_option maxHeartbeats 8000000 in
set_option maxRecDepth 100000 in
theorem spec_RouteTo.calls (k : Nat) (a0_0 : Int) (A0_1 : Option Addr) (c0_1 : Nat) (l0_1 : List (S64)) (a1 : Int) (a2 : Int) (r : List Int) (w : World) (hr0_1 : Kd.C k64 w A0_1 l0_1.length l0_1) (hc0_1 : l0_1.length ≤ c0_1) (h : spec_RouteTo.f k a0_0 l0_1 a1 a2 = some r) :
  Calls Try.prog 50 #[.agg #[.int .i64 a0_0, .slice A0_1 l0_1.length c0_1], .int .i64 a1, .int .i64 a2] w fun e w' => ∃ v0_ : Value, e = .returned (v0_) ∧ Kd.R (Kd.int .i64) 3 w' w.heap.size (fun _ => True) v0_ r ∧ Below w.heap.size w w' := by
 have hu31 := Try.underlying31
 have HR0_1 := Aside0.mk hr0_1
 have HC0_1 := Aside0.mk hc0_1
 clear hr0_1 hc0_1
 have HB := Aside0.mk (Below.refl w.heap.size w)
 have H : ((some (([] : List Int) : List Int)).bind fun y122 => ((spec_IsNet.f k a0_0 l0_1).bind fun t125 => (if t125 = true then ((spec_l1In.f a1 0 (wrap64 (a0_0 - 1))).bind fun t126 => (if t126 = true then ((spec_l1In.f a2 0 (wrap64 (a0_0 - 1))).bind fun t127 => (spec_RouteTo.j0 k a1 a2 y122 (!t127) a0_0 l0_1)) else (spec_RouteTo.j0 k a1 a2 y122 true a0_0 l0_1))) else (spec_RouteTo.j0 k a1 a2 y122 true a0_0 l0_1)))) = some r := h
 clear h
 obtain ⟨y122, hy122⟩ : ∃ y_ : List Int, y_ = (([] : List Int)) := ⟨_, rfl⟩
 replace H : ((spec_IsNet.f k a0_0 l0_1).bind fun t125 => (if t125 = true then ((spec_l1In.f a1 0 (wrap64 (a0_0 - 1))).bind fun t126 => (if t126 = true then ((spec_l1In.f a2 0 (wrap64 (a0_0 - 1))).bind fun t127 => (spec_RouteTo.j0 k a1 a2 y122 (!t127) a0_0 l0_1)) else (spec_RouteTo.j0 k a1 a2 y122 true a0_0 l0_1))) else (spec_RouteTo.j0 k a1 a2 y122 true a0_0 l0_1))) = some r := by first | (rw [hy122]; with_reducible exact H) | (have H2_ := (Option.bind_some _ _).symm.trans H; rw [hy122]; with_reducible exact H2_) | (have H2_ := (Option.bind_some _ _).symm.trans H; with_reducible exact H2_) | with_reducible exact H | (rw [hy122]; exact H) | exact H
 have Ny122 := Aside0.mk hy122
 clear hy122
 have HC4 := Aside0.mk H
 clear H
 go_enter Try.func50, Try.ntmps50
 go_upto_region 2 with (first | ((with_reducible refine gate_dst (N := 3) rfl ?_); refine box_event ?hg (N := 3) ?hd (cs := #[.int .i64 a0_0, .slice A0_1 l0_1.length c0_1]) (t := 31) ?hr ?_; (case hd => rfl); (case hg => rfl); (case hr => first | (go_simp; done) | (go_simp; rfl)); intro gb121 hg w5 hbox hb; have n0_ := Aside0.mk (below_step (by repeat (first | (with_reducible first | exact HB.out | apply below_alloc | apply pw_below_drewN | apply below_drew1) | exact HB.out)) hb); have n1_ := Aside0.mk (hbox); have n2_ := Aside0.mk ((by rw [hg]; exact (below_size (by repeat (first | (with_reducible first | exact HB.out | apply below_alloc | apply pw_below_drewN | apply below_drew1) | exact HB.out))) : w.heap.size ≤ gb121)); have n3_ := Aside0.mk ((by rw [hg]; exact (below_size (by repeat (first | (with_reducible first | exact HB.out | apply below_alloc | apply pw_below_drewN | apply below_drew1) | exact HB.out))) : w.heap.size ≤ gb121)); clear HB; have HB := n0_; have BK121 := n1_; have GW121 := n2_; have GE121 := n3_; clear n0_ n1_ n2_ n3_; clear hb hbox hg) | ((with_reducible refine gate_dst (N := 18) rfl ?_); refine Kd.R_lit (Kd.int .i64) _ 3 ?hg (N := 18) ?hd (xs := ([] : List Int)) (inner := []) (ok := fun _ => True) (okp := fun _ => True) ?hr ?hp (fun _ hk => hk) trivial (Below.refl _ _) (Nat.le_refl _) (by simp) ?_; (case hd => rfl); (case hg => rfl); (case hr => first | (go_simp; done) | (go_simp; rfl)); (case hp => exact (Reps.none _ _)); intro v123 w6 ho7 hb hg_ hnew_; clear hg_ hnew_; (first | rw [← Ny122.out] at ho7 | (simp only [Int.reduceToNat] at ho7; rw [← Ny122.out] at ho7)); have n0_ := Aside0.mk (Kd.R_lower ho7 (below_size (by repeat (first | (with_reducible first | exact HB.out | apply below_alloc | apply pw_below_drewN | apply below_drew1 | refine below_set ?_ GE121.out) | exact HB.out)))); have n1_ := Aside0.mk (blk_below (g := gb121) (o := .cells #[.int .i64 a0_0, .slice A0_1 l0_1.length c0_1] 31 (0, 0)) (by (with_reducible repeat (first | refine blk_drewN ?_ _ | refine blk_drew ?_ | refine blk_alloc ?_ _)); exact BK121.out) hb); have n2_ := Aside0.mk (below_step (by repeat (first | (with_reducible first | exact HB.out | apply below_alloc | apply pw_below_drewN | apply below_drew1 | refine below_set ?_ GE121.out) | exact HB.out)) hb); clear BK121; clear HB; have HO124 := n0_; have BK121 := n1_; have HB := n2_; clear n0_ n1_ n2_; clear hb ho7))
 (try simp only [Act.put, List.setIfInBounds_toArray, List.set_cons_zero, List.set_cons_succ])
 go_cut [37] (fun v37 wc => ∃ (kq : Nat) (x37_3 : Bool), v37 = .bool x37_3 ∧ Aside0 (spec_RouteTo.j0 kq a1 a2 y122 x37_3 a0_0 l0_1 = some r) ∧ Aside0 (kq ≤ k) ∧ Aside0 (Kd.R (Kd.int .i64) 3 wc w.heap.size (fun _ => True) v123 y122) ∧ Aside0 (wc.heap[gb121]? = some (.cells #[.int .i64 a0_0, (.slice A0_1 l0_1.length c0_1)] 31 (0, 0))) ∧ Aside0 (Below w.heap.size w wc))
 case first =>
  have H := HC4.out
  clear HC4
  replace H := Option.bind_eq_some_iff.mp H
  obtain ⟨t125, A80, H⟩ := H
  replace H : (if t125 = true then ((spec_l1In.f a1 0 (wrap64 (a0_0 - 1))).bind fun t126 => (if t126 = true then ((spec_l1In.f a2 0 (wrap64 (a0_0 - 1))).bind fun t127 => (spec_RouteTo.j0 k a1 a2 y122 (!t127) a0_0 l0_1)) else (spec_RouteTo.j0 k a1 a2 y122 true a0_0 l0_1))) else (spec_RouteTo.j0 k a1 a2 y122 true a0_0 l0_1)) = some r := H
  have A8 := Aside0.mk A80
  clear A80
  by_cases c9 : t125 = true
  ·subst c9
   have H1 : ((spec_l1In.f a1 0 (wrap64 (a0_0 - 1))).bind fun t126 => (if t126 = true then ((spec_l1In.f a2 0 (wrap64 (a0_0 - 1))).bind fun t127 => (spec_RouteTo.j0 k a1 a2 y122 (!t127) a0_0 l0_1)) else (spec_RouteTo.j0 k a1 a2 y122 true a0_0 l0_1))) = some r := by rw [if_pos rfl] at H; exact H
   clear H
   have H := H1
   clear H1
   replace H := Option.bind_eq_some_iff.mp H
   obtain ⟨t126, A100, H⟩ := H
   replace H : (if t126 = true then ((spec_l1In.f a2 0 (wrap64 (a0_0 - 1))).bind fun t127 => (spec_RouteTo.j0 k a1 a2 y122 (!t127) a0_0 l0_1)) else (spec_RouteTo.j0 k a1 a2 y122 true a0_0 l0_1)) = some r := H
   have A10 := Aside0.mk A100
   clear A100
   by_cases c11 : t126 = true
   ·subst c11
    have H1 : ((spec_l1In.f a2 0 (wrap64 (a0_0 - 1))).bind fun t127 => (spec_RouteTo.j0 k a1 a2 y122 (!t127) a0_0 l0_1)) = some r := by rw [if_pos rfl] at H; exact H
    clear H
    have H := H1
    clear H1
    replace H := Option.bind_eq_some_iff.mp H
    obtain ⟨t127, A120, H⟩ := H
    replace H : (spec_RouteTo.j0 k a1 a2 y122 (!t127) a0_0 l0_1) = some r := H
    have A12 := Aside0.mk A120
    clear A120
    have H' := Aside0.mk H
    clear H
    have hcz13_0 : w6.cell? ⟨gb121, 0, none⟩ = some (.int .i64 a0_0) := (blk_cell BK121.out 0).trans rfl
    have hcz13_1 : w6.cell? ⟨gb121, 1, none⟩ = some (.slice A0_1 l0_1.length c0_1) := (blk_cell BK121.out 1).trans rfl
    have hfz13_0 := blk_frozen BK121.out 0
    have hfz13_1 := blk_frozen BK121.out 1
    go_wp2_with (first | (go_at_call 66; (with_reducible refine (spec_IsNet.calls k a0_0 _ _ l0_1 true _ ?side1 ?side2 A8.out).mono ?_); (case side1 => repeat (first | exact (Kd.C_below HR0_1.out HB.out) | (with_reducible refine Kd.C_alloc ?_ _) | (with_reducible refine Kd.C_drewN ?_ _) | (with_reducible refine Kd.C_drew ?_))); (case side2 => exact HC0_1.out); rintro e w14 ⟨rfl, hb⟩; have n0_ := Aside0.mk (Kd.R_below (by (with_reducible repeat (first | apply Kd.R_alloc | apply Kd.R_drewN | apply Kd.R_drew)); exact HO124.out) hb); have n1_ := Aside0.mk (blk_below (g := gb121) (o := .cells #[.int .i64 a0_0, .slice A0_1 l0_1.length c0_1] 31 (0, 0)) (by (with_reducible repeat (first | refine blk_drewN ?_ _ | refine blk_drew ?_ | refine blk_alloc ?_ _)); exact BK121.out) hb); have n2_ := Aside0.mk (below_step (by repeat (first | (with_reducible first | exact HB.out | apply below_alloc | apply pw_below_drewN | apply below_drew1 | refine below_set ?_ GE121.out) | exact HB.out)) hb); clear HO124; clear BK121; clear HB; have HO124 := n0_; have BK121 := n1_; have HB := n2_; clear n0_ n1_ n2_; (try clear hb); (try clear hb2); (try clear hk); (try clear hi); have hcz15_0 : w14.cell? ⟨gb121, 0, none⟩ = some (.int .i64 a0_0) := (blk_cell BK121.out 0).trans rfl; have hcz15_1 : w14.cell? ⟨gb121, 1, none⟩ = some (.slice A0_1 l0_1.length c0_1) := (blk_cell BK121.out 1).trans rfl; have hfz15_0 := blk_frozen BK121.out 0; have hfz15_1 := blk_frozen BK121.out 1) | (go_at_call 52; (with_reducible refine (spec_l1In.calls a1 0 (wrap64 (a0_0 - 1)) true _ A10.out).mono ?_); rintro e w' ⟨rfl, ⟨nd, rfl⟩⟩; (try first | exact ⟨rfl, _, World.drewN_drewN _ _ _⟩ | exact ⟨rfl, _, Eq.trans (World.drewN_drewN _ _ _) (congrArg (World.drewN _) (Nat.add_assoc _ _ _))⟩)) | (go_at_call 52; (with_reducible refine (spec_l1In.calls a2 0 (wrap64 (a0_0 - 1)) t127 _ A12.out).mono ?_); rintro e w' ⟨rfl, ⟨nd, rfl⟩⟩; (try first | exact ⟨rfl, _, World.drewN_drewN _ _ _⟩ | exact ⟨rfl, _, Eq.trans (World.drewN_drewN _ _ _) (congrArg (World.drewN _) (Nat.add_assoc _ _ _))⟩)))
    go_meet
    case rel => exact ⟨_, (!t127), (by first | rfl | (simp; done) | (simp [*]; done)), H', ⟨by first | omega | exact Nat.le_refl _⟩, ⟨by (with_reducible repeat (first | apply Kd.R_alloc | apply Kd.R_drewN | apply Kd.R_drew)); exact HO124.out⟩, ⟨by (with_reducible repeat (first | refine blk_drewN ?_ _ | refine blk_drew ?_ | refine blk_alloc ?_ _)); exact BK121.out⟩, ⟨by repeat (first | (with_reducible first | exact HB.out | apply below_alloc | apply pw_below_drewN | apply below_drew1 | refine below_set ?_ GE121.out) | exact HB.out)⟩⟩
   ·replace c11 := Bool.eq_false_iff.mpr c11
    subst c11
    have H1 : (spec_RouteTo.j0 k a1 a2 y122 true a0_0 l0_1) = some r := by rw [if_neg (show ¬ (false = true) by decide)] at H; exact H
    clear H
    have H := H1
    clear H1
    have H' := Aside0.mk H
    clear H
    have hcz16_0 : w6.cell? ⟨gb121, 0, none⟩ = some (.int .i64 a0_0) := (blk_cell BK121.out 0).trans rfl
    have hcz16_1 : w6.cell? ⟨gb121, 1, none⟩ = some (.slice A0_1 l0_1.length c0_1) := (blk_cell BK121.out 1).trans rfl
    have hfz16_0 := blk_frozen BK121.out 0
    have hfz16_1 := blk_frozen BK121.out 1
    go_wp2_with (first | (go_at_call 66; (with_reducible refine (spec_IsNet.calls k a0_0 _ _ l0_1 true _ ?side1 ?side2 A8.out).mono ?_); (case side1 => repeat (first | exact (Kd.C_below HR0_1.out HB.out) | (with_reducible refine Kd.C_alloc ?_ _) | (with_reducible refine Kd.C_drewN ?_ _) | (with_reducible refine Kd.C_drew ?_))); (case side2 => exact HC0_1.out); rintro e w17 ⟨rfl, hb⟩; have n0_ := Aside0.mk (Kd.R_below (by (with_reducible repeat (first | apply Kd.R_alloc | apply Kd.R_drewN | apply Kd.R_drew)); exact HO124.out) hb); have n1_ := Aside0.mk (blk_below (g := gb121) (o := .cells #[.int .i64 a0_0, .slice A0_1 l0_1.length c0_1] 31 (0, 0)) (by (with_reducible repeat (first | refine blk_drewN ?_ _ | refine blk_drew ?_ | refine blk_alloc ?_ _)); exact BK121.out) hb); have n2_ := Aside0.mk (below_step (by repeat (first | (with_reducible first | exact HB.out | apply below_alloc | apply pw_below_drewN | apply below_drew1 | refine below_set ?_ GE121.out) | exact HB.out)) hb); clear HO124; clear BK121; clear HB; have HO124 := n0_; have BK121 := n1_; have HB := n2_; clear n0_ n1_ n2_; (try clear hb); (try clear hb2); (try clear hk); (try clear hi); have hcz18_0 : w17.cell? ⟨gb121, 0, none⟩ = some (.int .i64 a0_0) := (blk_cell BK121.out 0).trans rfl; have hcz18_1 : w17.cell? ⟨gb121, 1, none⟩ = some (.slice A0_1 l0_1.length c0_1) := (blk_cell BK121.out 1).trans rfl; have hfz18_0 := blk_frozen BK121.out 0; have hfz18_1 := blk_frozen BK121.out 1) | (go_at_call 52; (with_reducible refine (spec_l1In.calls a1 0 (wrap64 (a0_0 - 1)) false _ A10.out).mono ?_); rintro e w' ⟨rfl, ⟨nd, rfl⟩⟩; (try first | exact ⟨rfl, _, World.drewN_drewN _ _ _⟩ | exact ⟨rfl, _, Eq.trans (World.drewN_drewN _ _ _) (congrArg (World.drewN _) (Nat.add_assoc _ _ _))⟩)))
    go_meet
    case rel => exact ⟨_, (true), (by first | rfl | (simp; done) | (simp [*]; done)), H', ⟨by first | omega | exact Nat.le_refl _⟩, ⟨by (with_reducible repeat (first | apply Kd.R_alloc | apply Kd.R_drewN | apply Kd.R_drew)); exact HO124.out⟩, ⟨by (with_reducible repeat (first | refine blk_drewN ?_ _ | refine blk_drew ?_ | refine blk_alloc ?_ _)); exact BK121.out⟩, ⟨by repeat (first | (with_reducible first | exact HB.out | apply below_alloc | apply pw_below_drewN | apply below_drew1 | refine below_set ?_ GE121.out) | exact HB.out)⟩⟩
  ·replace c9 := Bool.eq_false_iff.mpr c9
   subst c9
   have H1 : (spec_RouteTo.j0 k a1 a2 y122 true a0_0 l0_1) = some r := by rw [if_neg (show ¬ (false = true) by decide)] at H; exact H
   clear H
   have H := H1
   clear H1
   have H' := Aside0.mk H
   clear H
   have hcz19_0 : w6.cell? ⟨gb121, 0, none⟩ = some (.int .i64 a0_0) := (blk_cell BK121.out 0).trans rfl
   have hcz19_1 : w6.cell? ⟨gb121, 1, none⟩ = some (.slice A0_1 l0_1.length c0_1) := (blk_cell BK121.out 1).trans rfl
   have hfz19_0 := blk_frozen BK121.out 0
   have hfz19_1 := blk_frozen BK121.out 1
   go_wp2_with (first | (go_at_call 66; (with_reducible refine (spec_IsNet.calls k a0_0 _ _ l0_1 false _ ?side1 ?side2 A8.out).mono ?_); (case side1 => repeat (first | exact (Kd.C_below HR0_1.out HB.out) | (with_reducible refine Kd.C_alloc ?_ _) | (with_reducible refine Kd.C_drewN ?_ _) | (with_reducible refine Kd.C_drew ?_))); (case side2 => exact HC0_1.out); rintro e w20 ⟨rfl, hb⟩; have n0_ := Aside0.mk (Kd.R_below (by (with_reducible repeat (first | apply Kd.R_alloc | apply Kd.R_drewN | apply Kd.R_drew)); exact HO124.out) hb); have n1_ := Aside0.mk (blk_below (g := gb121) (o := .cells #[.int .i64 a0_0, .slice A0_1 l0_1.length c0_1] 31 (0, 0)) (by (with_reducible repeat (first | refine blk_drewN ?_ _ | refine blk_drew ?_ | refine blk_alloc ?_ _)); exact BK121.out) hb); have n2_ := Aside0.mk (below_step (by repeat (first | (with_reducible first | exact HB.out | apply below_alloc | apply pw_below_drewN | apply below_drew1 | refine below_set ?_ GE121.out) | exact HB.out)) hb); clear HO124; clear BK121; clear HB; have HO124 := n0_; have BK121 := n1_; have HB := n2_; clear n0_ n1_ n2_; (try clear hb); (try clear hb2); (try clear hk); (try clear hi)))
   go_meet
   case rel => exact ⟨_, (true), (by first | rfl | (simp; done) | (simp [*]; done)), H', ⟨by first | omega | exact Nat.le_refl _⟩, ⟨by (with_reducible repeat (first | apply Kd.R_alloc | apply Kd.R_drewN | apply Kd.R_drew)); exact HO124.out⟩, ⟨by (with_reducible repeat (first | refine blk_drewN ?_ _ | refine blk_drew ?_ | refine blk_alloc ?_ _)); exact BK121.out⟩, ⟨by repeat (first | (with_reducible first | exact HB.out | apply below_alloc | apply pw_below_drewN | apply below_drew1 | refine below_set ?_ GE121.out) | exact HB.out)⟩⟩
 case rest =>
  clear HC4
  (try clear c1); (try clear p2); (try clear c5); (try clear p6); (try clear c9); (try clear c11); (try clear hcz13_0); (try clear hcz13_1); (try clear hcz15_0); (try clear hcz15_1); (try clear hcz16_0); (try clear hcz16_1); (try clear hcz18_0); (try clear hcz18_1); (try clear hcz19_0); (try clear hcz19_1); (try clear hfz13_0); (try clear hfz13_1); (try clear hfz15_0); (try clear hfz15_1); (try clear hfz16_0); (try clear hfz16_1); (try clear hfz18_0); (try clear hfz18_1); (try clear hfz19_0); (try clear hfz19_1)
  obtain ⟨kq, x37_3, rfl, HA, HJ3, HO_7, BK121, HB⟩ := hcut
  cases kq with
  | zero => exact absurd HA.out (by simp [spec_RouteTo.j0])
  | succ kj3 =>
   have H := HA.out
   clear HA
   simp only [spec_RouteTo.j0] at H
   by_cases c21 : x37_3 = true
   ·subst c21
    have H1 : (some y122) = some r := by rw [if_pos rfl] at H; exact H
    clear H
    have H := H1
    clear H1
    obtain rfl := Option.some.inj H
    go_wp2
    go_ret
    exact ⟨_, by first | rfl | (simp [errW_none, errW_some] <;> rfl) | (simp [*, errW_none, errW_some] <;> rfl), by (with_reducible repeat (first | apply Kd.R_alloc | apply Kd.R_drewN | apply Kd.R_drew)); exact HO_7.out, by repeat (first | (with_reducible first | exact HB.out | apply below_alloc | apply pw_below_drewN | apply below_drew1 | refine below_set ?_ GE121.out) | exact HB.out)⟩
   ·replace c21 := Bool.eq_false_iff.mpr c21
    subst c21
    have H1 : (spec_RouteTo.l0 kj3 a1 a2 y122 (([] : List Int)) 0 a0_0 l0_1) = some r := by rw [if_neg (show ¬ (false = true) by decide)] at H; exact H
    clear H
    have H := H1
    clear H1
    obtain ⟨y128, hy128⟩ : ∃ y_ : List Int, y_ = (([] : List Int)) := ⟨_, rfl⟩
    replace H : (spec_RouteTo.l0 kj3 a1 a2 y122 y128 0 a0_0 l0_1) = some r := by first | (rw [hy128]; with_reducible exact H) | (have H2_ := (Option.bind_some _ _).symm.trans H; rw [hy128]; with_reducible exact H2_) | (have H2_ := (Option.bind_some _ _).symm.trans H; with_reducible exact H2_) | with_reducible exact H | (rw [hy128]; exact H) | exact H
    have Ny128 := Aside0.mk hy128
    clear hy128
    have H' := Aside0.mk H
    clear H
    go_wp2_with (first | ((with_reducible refine gate_dst (N := 39) rfl ?_); refine Kd.R_lit (Kd.int .i64) _ 3 ?hg (N := 39) ?hd (xs := ([] : List Int)) (inner := []) (ok := fun _ => True) (okp := fun _ => True) ?hr ?hp (fun _ hk => hk) trivial (Below.refl _ _) (Nat.le_refl _) (by simp) ?_; (case hd => rfl); (case hg => rfl); (case hr => first | (go_simp; done) | (go_simp; rfl)); (case hp => exact (Reps.none _ _)); intro v129 w22 ho23 hb hg_ hnew_; clear hg_ hnew_; (first | rw [← Ny128.out] at ho23 | (simp only [Int.reduceToNat] at ho23; rw [← Ny128.out] at ho23)); have n0_ := Aside0.mk (Kd.R_elder' (by (with_reducible repeat (first | apply Kd.R_alloc | apply Kd.R_drewN | apply Kd.R_drew)); exact HO_7.out) (Kd.R_base ho23) hb); have n1_ := Aside0.mk (Kd.R_lower (Kd.R_new' ho23 (Kd.R_lt (by (with_reducible repeat (first | apply Kd.R_alloc | apply Kd.R_drewN | apply Kd.R_drew)); exact HO_7.out))) (below_size (by repeat (first | (with_reducible first | exact HB.out | apply below_alloc | apply pw_below_drewN | apply below_drew1 | refine below_set ?_ GE121.out) | exact HB.out)))); have n2_ := Aside0.mk (blk_below (g := gb121) (o := .cells #[.int .i64 a0_0, .slice A0_1 l0_1.length c0_1] 31 (0, 0)) (by (with_reducible repeat (first | refine blk_drewN ?_ _ | refine blk_drew ?_ | refine blk_alloc ?_ _)); exact BK121.out) hb); have n3_ := Aside0.mk (below_step (by repeat (first | (with_reducible first | exact HB.out | apply below_alloc | apply pw_below_drewN | apply below_drew1 | refine below_set ?_ GE121.out) | exact HB.out)) hb); clear HO_7; clear BK121; clear HB; have HO_7 := n0_; have HO130 := n1_; have BK121 := n2_; have HB := n3_; clear n0_ n1_ n2_ n3_; clear hb ho23))
    go_loopg [8, 9] kj3 (fun kq v8 v9 w' => ∃ (x8_2 : List Int) (x9_2 : Int), v9 = .int .i64 x9_2 ∧ Aside0 (spec_RouteTo.l0 kq a1 a2 y122 x8_2 x9_2 a0_0 l0_1 = some r) ∧ Aside0 (kq ≤ kj3) ∧ Aside0 (Kd.R (Kd.int .i64) 3 w' w.heap.size (fun k_ => some k_ ≠ (v8 : Value).ownBlock) v123 y122) ∧ Aside0 (Kd.R (Kd.int .i64) 3 w' w.heap.size (fun k_ => some k_ ≠ (v123 : Value).ownBlock) v8 x8_2) ∧ Aside0 (w'.heap[gb121]? = some (.cells #[.int .i64 a0_0, (.slice A0_1 l0_1.length c0_1)] 31 (0, 0))) ∧ Aside0 (Below w.heap.size w w'))
    case atStart => exact ⟨(y128), (0), (by first | rfl | (simp; done) | (simp [*]; done)), H', ⟨Nat.le_refl _⟩, ⟨by (with_reducible repeat (first | apply Kd.R_alloc | apply Kd.R_drewN | apply Kd.R_drew)); exact Kd.R_mono HO_7.out (fun _ hk => hk.2)⟩, ⟨by (with_reducible repeat (first | apply Kd.R_alloc | apply Kd.R_drewN | apply Kd.R_drew)); exact Kd.R_mono HO130.out (fun _ hk => hk.2)⟩, ⟨by (with_reducible repeat (first | refine blk_drewN ?_ _ | refine blk_drew ?_ | refine blk_alloc ?_ _)); exact BK121.out⟩, ⟨by repeat (first | (with_reducible first | exact HB.out | apply below_alloc | apply pw_below_drewN | apply below_drew1 | refine below_set ?_ GE121.out) | exact HB.out)⟩⟩
    case round =>
     clear H'
     (try clear c1); (try clear c2); (try clear p2); (try clear c5); (try clear p6); (try clear c9); (try clear c11); (try clear c21); (try clear hcz13_0); (try clear hcz13_1); (try clear hcz15_0); (try clear hcz15_1); (try clear hcz16_0); (try clear hcz16_1); (try clear hcz18_0); (try clear hcz18_1); (try clear hcz19_0); (try clear hcz19_1); (try clear hfz13_0); (try clear hfz13_1); (try clear hfz15_0); (try clear hfz15_1); (try clear hfz16_0); (try clear hfz16_1); (try clear hfz18_0); (try clear hfz18_1); (try clear hfz19_0); (try clear hfz19_1); (try clear p2); (try clear p6)
     obtain ⟨x8_2, x9_2, rfl, HA, HK2, HO_7, HO_8, BK121, HB⟩ := hrel
     cases gk with
     | zero => exact absurd HA.out (by simp [spec_RouteTo.l0])
     | succ k2 =>
      have H := HA.out
      clear HA
      simp only [spec_RouteTo.l0] at H
      by_cases c24 : x9_2 < a0_0
      ·rw [if_pos c24] at H
       have c24b0 : decide (x9_2 < a0_0) = true := decide_eq_true c24
       clear c24
       by_cases c25 : x8_2.length < 17592186044416
       ·rw [if_pos c25] at H
        have LMc25 := Aside0.mk c25
        clear c25
        obtain ⟨y131, hy131⟩ : ∃ y_ : List Int, y_ = (x8_2 ++ [(-1)]) := ⟨_, rfl⟩
        replace H : (spec_RouteTo.l0 k2 a1 a2 y122 y131 (wrap64 (x9_2 + 1)) a0_0 l0_1) = some r := by first | (rw [hy131]; with_reducible exact H) | (have H2_ := (Option.bind_some _ _).symm.trans H; rw [hy131]; with_reducible exact H2_) | (have H2_ := (Option.bind_some _ _).symm.trans H; with_reducible exact H2_) | with_reducible exact H | (rw [hy131]; exact H) | exact H
        have Ny131 := Aside0.mk hy131
        clear hy131
        have H' := Aside0.mk H
        clear H
        have hcz26_0 : wr.cell? ⟨gb121, 0, none⟩ = some (.int .i64 a0_0) := (blk_cell BK121.out 0).trans rfl
        have hcz26_1 : wr.cell? ⟨gb121, 1, none⟩ = some (.slice A0_1 l0_1.length c0_1) := (blk_cell BK121.out 1).trans rfl
        have hfz26_0 := blk_frozen BK121.out 0
        have hfz26_1 := blk_frozen BK121.out 1
        go_wp2_with (first | ((with_reducible refine gate_builtin (b := .append) (xs := #[.tmp 46, .tmp 47]) rfl ?_); at_builtin; refine Kd.R_append (Kd.int .i64) (w0 := w) w.heap.size rfl (.tmp 46) (.tmp 47) 25 3 (.int .i64 0) 8 rfl Try.underlying25 info3 rfl (by decide) (by omega) u8 x8_2 (-1) [.int .i64 (-1)] (fun k_ => some k_ ≠ (v123 : Value).ownBlock) (fun _ => False) rfl rfl ?aP (fun _ hk => hk.elim) ?aF ?aO ?aB ?aS ?aL ?_; (case aP => exact rfl); (case aB => exact (by repeat (first | (with_reducible first | exact HB.out | apply below_alloc | apply pw_below_drewN | apply below_drew1 | refine below_set ?_ GE121.out) | exact HB.out))); (case aF => exact (fun k_ hk => Kd.fresh' (Kd.R_lt (by (with_reducible repeat (first | apply Kd.R_alloc | apply Kd.R_drewN | apply Kd.R_drew)); exact HO_7.out)) k_ hk)); (case aO => exact (by (with_reducible repeat (first | apply Kd.R_alloc | apply Kd.R_drewN | apply Kd.R_drew)); exact HO_8.out)); (case aS => exact (below_size (by repeat (first | (with_reducible first | exact HB.out | apply below_alloc | apply pw_below_drewN | apply below_drew1 | refine below_set ?_ GE121.out) | exact HB.out)))); (case aL => have := LMc25.out; omega); intro v132 w27 ho hb hg hat; rw [← Ny131.out] at ho; have n0_ := Aside0.mk (Kd.R_after (ok := (fun _ => True)) (by (with_reducible repeat (first | apply Kd.R_alloc | apply Kd.R_drewN | apply Kd.R_drew)); exact Kd.R_mono HO_7.out (fun _ hk => ⟨trivial, hk⟩)) hg hat); have n1_ := Aside0.mk (blk_grown (g := gb121) (o := .cells #[.int .i64 a0_0, .slice A0_1 l0_1.length c0_1] 31 (0, 0)) (by (with_reducible repeat (first | refine blk_drewN ?_ _ | refine blk_drew ?_ | refine blk_alloc ?_ _)); exact BK121.out) hg (Kd.R_ne HO_8.out BK121.out (by decide))); have n2_ := Aside0.mk (hb); have n3_ := Aside0.mk (ho); clear HO_7; clear BK121; clear HB; clear HO_8; have HO_7 := n0_; have BK121 := n1_; have HB := n2_; have HO133 := n3_; clear n0_ n1_ n2_ n3_; clear ho hb hg hat))
        go_roundg k2
        case measure => have := HJ3.out; have := HK2.out; omega
        case rel => exact ⟨(y131), (wrap64 (x9_2 + 1)), (by first | rfl | (simp; done) | (simp [*]; done)), H', ⟨by have := HJ3.out; have := HK2.out; omega⟩, ⟨by (with_reducible repeat (first | apply Kd.R_alloc | apply Kd.R_drewN | apply Kd.R_drew)); exact Kd.R_mono HO_7.out (fun _ hk => hk.2)⟩, ⟨by (with_reducible repeat (first | apply Kd.R_alloc | apply Kd.R_drewN | apply Kd.R_drew)); exact HO133.out⟩, ⟨by (with_reducible repeat (first | refine blk_drewN ?_ _ | refine blk_drew ?_ | refine blk_alloc ?_ _)); exact BK121.out⟩, ⟨by repeat (first | (with_reducible first | exact HB.out | apply below_alloc | apply pw_below_drewN | apply below_drew1 | refine below_set ?_ GE121.out) | exact HB.out)⟩⟩
       ·rw [if_neg c25] at H
        exact absurd H (by simp)
      ·rw [if_neg c24] at H
       have c24b0 : decide (x9_2 < a0_0) = false := decide_eq_false c24
       clear c24
       by_cases c28 : 0 ≤ a2
       ·rw [if_pos c28] at H
        have c28b0 : decide (0 ≤ a2) = true := decide_eq_true c28
        clear c28
        by_cases c29 : a2 < (x8_2.length : Int)
        ·rw [if_pos c29] at H
         have c29b0 : decide (a2 < (x8_2.length : Int)) = true := decide_eq_true c29
         clear c29
         obtain ⟨y134, hy134⟩ : ∃ y_ : List Int, y_ = (x8_2.set (a2 : Int).toNat 0) := ⟨_, rfl⟩
         replace H : (spec_RouteTo.l1 k2 a1 a2 y122 y134 0 a0_0 l0_1) = some r := by first | (rw [hy134]; with_reducible exact H) | (have H2_ := (Option.bind_some _ _).symm.trans H; rw [hy134]; with_reducible exact H2_) | (have H2_ := (Option.bind_some _ _).symm.trans H; with_reducible exact H2_) | with_reducible exact H | (rw [hy134]; exact H) | exact H
         have Ny134 := Aside0.mk hy134
         clear hy134
         have H' := Aside0.mk H
         clear H
         have hcz31_0 : wr.cell? ⟨gb121, 0, none⟩ = some (.int .i64 a0_0) := (blk_cell BK121.out 0).trans rfl
         have hcz31_1 : wr.cell? ⟨gb121, 1, none⟩ = some (.slice A0_1 l0_1.length c0_1) := (blk_cell BK121.out 1).trans rfl
         have hfz31_0 := blk_frozen BK121.out 0
         have hfz31_1 := blk_frozen BK121.out 1
         have p30 : 0 ≤ (a2 : Int) := of_decide_eq_true (by first | (with_reducible assumption) | assumption)
         have q30 : (a2 : Int) < ((x8_2.length : Int) : Int) := of_decide_eq_true (by first | (with_reducible assumption) | assumption)
         obtain ⟨go30, co30, eo30, gb30, gl30, cl30, HG30⟩ := Kd.R_form HO_8.out (by omega)
         (first | cases eo30 | (injection eo30 with ea_ en_ ec_; (first | subst ea_ | (injection ea_ with ea_; subst ea_)); subst ec_; clear en_))
         have GB30 := Aside0.mk gb30
         have GG30 := Aside0.mk HG30
         clear gb30 gl30 HG30
         obtain ⟨hx30_0, hf30_0⟩ := Kd.R_celln 0 HO_8.out (a2 : Int) p30 q30
         replace p30 := eq_true p30
         replace q30 := eq_true q30
         have HP32 := Kd.R_putg HO_8.out (a2 : Int) 0
         go_wp2_with (first | ((with_reducible refine gate_store (t := 3) (p := 51) rfl ?_); (try (rw [drewN_self wr]; generalize hq_ : World.drewN wr _ = wr; have n0_ := Aside0.mk (Kd.R_at hq_ HO_7.out); have n1_ := Aside0.mk (Kd.R_at hq_ HO_8.out); have n2_ := Aside0.mk (blk_at hq_ BK121.out); have n3_ := Aside0.mk (below_at hq_ HB.out); clear hq_ HO_7 HO_8 BK121 HB; have HO_7 := n0_; have HO_8 := n1_; have BK121 := n2_; have HB := n3_; clear n0_ n1_ n2_ n3_; (try (have HP32 := Kd.R_putg HO_8.out (a2 : Int) 0)))); refine store_event (t := 3) (p := 51) (v := ?vo_w33) (w1 := (wr.setCell ⟨go30, (a2 : Int).toNat, none⟩ (.int .i64 0))) ?hg ?ho ?hn ?hr ?_; (case ho => rfl); (case hg => rfl); (case hn => rfl); (case hr => first | (go_simp; done) | (go_simp; rfl)); intro w33 hw; have hg : wr.grownBy w33 (some go30) := (by rw [hw]; exact HP32.2); have hp_ : Kd.R (Kd.int .i64) 3 w33 w.heap.size (fun k_ => some k_ ≠ (v123 : Value).ownBlock) (.slice (some ⟨go30, 0, none⟩) x8_2.length co30) y134 := (by rw [hw, Ny134.out]; exact HP32.1); clear HP32; have n0_ := Aside0.mk (Kd.R_after (v := (.slice (some ⟨go30, 0, none⟩) x8_2.length co30)) (v1 := (.slice (some ⟨go30, 0, none⟩) x8_2.length co30)) (ok := (fun _ => True)) (by (with_reducible repeat (first | apply Kd.R_alloc | apply Kd.R_drewN | apply Kd.R_drew)); exact Kd.R_mono HO_7.out (fun _ hk => ⟨trivial, hk⟩)) hg (.inl rfl)); have n1_ := Aside0.mk (hp_); have n2_ := Aside0.mk (blk_grown (g := gb121) (o := .cells #[.int .i64 a0_0, .slice A0_1 l0_1.length c0_1] 31 (0, 0)) (by (with_reducible repeat (first | refine blk_drewN ?_ _ | refine blk_drew ?_ | refine blk_alloc ?_ _)); exact BK121.out) hg (Kd.R_ne HO_8.out BK121.out (by decide))); have n3_ := Aside0.mk ((by rw [hw]; exact below_set (HB.out) GB30.out : Below w.heap.size w w33)); clear HO_7; clear HO_8; clear BK121; clear HB; have HO_7 := n0_; have HO_8 := n1_; have BK121 := n2_; have HB := n3_; clear n0_ n1_ n2_ n3_; clear hg hw hp_))
         go_loopg [10] k2 (fun kq v10 w' => ∃ (x8_3 : List Int) (x10_3 : Int), v10 = .int .i64 x10_3 ∧ Aside0 (spec_RouteTo.l1 kq a1 a2 y122 x8_3 x10_3 a0_0 l0_1 = some r) ∧ Aside0 (kq ≤ k2) ∧ Aside0 (Kd.R (Kd.int .i64) 3 w' w.heap.size (fun k_ => some k_ ≠ ((.slice (some ⟨go30, 0, none⟩) x8_2.length co30) : Value).ownBlock) v123 y122) ∧ Aside0 (Kd.R (Kd.int .i64) 3 w' w.heap.size (fun k_ => some k_ ≠ (v123 : Value).ownBlock) (.slice (some ⟨go30, 0, none⟩) x8_2.length co30) x8_3) ∧ Aside0 (w'.heap[gb121]? = some (.cells #[.int .i64 a0_0, (.slice A0_1 l0_1.length c0_1)] 31 (0, 0))) ∧ Aside0 (Below w.heap.size w w'))
         case atStart => exact ⟨(y134), (0), (by first | rfl | (simp; done) | (simp [*]; done)), H', ⟨Nat.le_refl _⟩, ⟨by (with_reducible repeat (first | apply Kd.R_alloc | apply Kd.R_drewN | apply Kd.R_drew)); exact Kd.R_mono HO_7.out (fun _ hk => hk.2)⟩, ⟨by (with_reducible repeat (first | apply Kd.R_alloc | apply Kd.R_drewN | apply Kd.R_drew)); exact HO_8.out⟩, ⟨by (with_reducible repeat (first | refine blk_drewN ?_ _ | refine blk_drew ?_ | refine blk_alloc ?_ _)); exact BK121.out⟩, ⟨by repeat (first | (with_reducible first | exact HB.out | apply below_alloc | apply pw_below_drewN | apply below_drew1 | refine below_set ?_ GE121.out) | exact HB.out)⟩⟩
         case round =>
          clear H'
          (try clear c1); (try clear c2); (try clear p2); (try clear p3); (try clear q3); (try clear hx3); (try clear hf3); (try clear c5); (try clear p6); (try clear c9); (try clear c11); (try clear c21); (try clear c24); (try clear c24b0); (try clear c25); (try clear c28); (try clear c28b0); (try clear c29); (try clear c29b0); (try clear p30); (try clear q30); (try clear hx30); (try clear hf30); (try clear hcz13_0); (try clear hcz13_1); (try clear hcz15_0); (try clear hcz15_1); (try clear hcz16_0); (try clear hcz16_1); (try clear hcz18_0); (try clear hcz18_1); (try clear hcz19_0); (try clear hcz19_1); (try clear hcz26_0); (try clear hcz26_1); (try clear hcz31_0); (try clear hcz31_1); (try clear hfz13_0); (try clear hfz13_1); (try clear hfz15_0); (try clear hfz15_1); (try clear hfz16_0); (try clear hfz16_1); (try clear hfz18_0); (try clear hfz18_1); (try clear hfz19_0); (try clear hfz19_1); (try clear hfz26_0); (try clear hfz26_1); (try clear hfz31_0); (try clear hfz31_1); (try clear hx30_0); (try clear p2); (try clear p30); (try clear p6); (try clear q30)
          obtain ⟨x8_3, x10_3, rfl, HA, HK3, HO_7, HO_8, BK121, HB⟩ := hrel
          have hl8_3 := (Kd.R_reads' HO_8.out).1
          rw [hl8_3] at HO_8
          (try simp only [hl8_3])
          (try simp only [hl8_3] at BK121)
          (try simp only [hl8_3] at HO_7)
          cases gk with
          | zero => exact absurd HA.out (by simp [spec_RouteTo.l1])
          | succ k3 =>
           have H := HA.out
           clear HA
           simp only [spec_RouteTo.l1] at H
           by_cases c34 : x10_3 < a0_0
           ·rw [if_pos c34] at H
            have c34b0 : decide (x10_3 < a0_0) = true := decide_eq_true c34
            clear c34
            have H' := Aside0.mk H
            clear H
            have hcz35_0 : wr.cell? ⟨gb121, 0, none⟩ = some (.int .i64 a0_0) := (blk_cell BK121.out 0).trans rfl
            have hcz35_1 : wr.cell? ⟨gb121, 1, none⟩ = some (.slice A0_1 l0_1.length c0_1) := (blk_cell BK121.out 1).trans rfl
            have hfz35_0 := blk_frozen BK121.out 0
            have hfz35_1 := blk_frozen BK121.out 1
            go_wp2
            go_loopg [11] k3 (fun kq v11 w' => ∃ (x8_4 : List Int) (x11_4 : Int), v11 = .int .i64 x11_4 ∧ Aside0 (spec_RouteTo.l2 kq a1 a2 y122 x8_4 x10_3 x11_4 a0_0 l0_1 = some r) ∧ Aside0 (kq ≤ k3) ∧ Aside0 (Kd.R (Kd.int .i64) 3 w' w.heap.size (fun k_ => some k_ ≠ ((.slice (some ⟨go30, 0, none⟩) x8_3.length co30) : Value).ownBlock) v123 y122) ∧ Aside0 (Kd.R (Kd.int .i64) 3 w' w.heap.size (fun k_ => some k_ ≠ (v123 : Value).ownBlock) (.slice (some ⟨go30, 0, none⟩) x8_3.length co30) x8_4) ∧ Aside0 (w'.heap[gb121]? = some (.cells #[.int .i64 a0_0, (.slice A0_1 l0_1.length c0_1)] 31 (0, 0))) ∧ Aside0 (Below w.heap.size w w'))
            case atStart => exact ⟨(x8_3), (0), (by first | rfl | (simp; done) | (simp [*]; done)), H', ⟨Nat.le_refl _⟩, ⟨by (try simp only [hl8_3]); (with_reducible repeat (first | apply Kd.R_alloc | apply Kd.R_drewN | apply Kd.R_drew)); exact HO_7.out⟩, ⟨by (try simp only [hl8_3]); (with_reducible repeat (first | apply Kd.R_alloc | apply Kd.R_drewN | apply Kd.R_drew)); exact HO_8.out⟩, ⟨by (try simp only [hl8_3]); (with_reducible repeat (first | refine blk_drewN ?_ _ | refine blk_drew ?_ | refine blk_alloc ?_ _)); exact BK121.out⟩, ⟨by repeat (first | (with_reducible first | exact HB.out | apply below_alloc | apply pw_below_drewN | apply below_drew1 | refine below_set ?_ GE121.out) | exact HB.out)⟩⟩
            case round =>
             clear H'
             (try clear c1); (try clear c2); (try clear p2); (try clear c3); (try clear p3); (try clear q3); (try clear hx3); (try clear hf3); (try clear c5); (try clear p6); (try clear c9); (try clear c11); (try clear c21); (try clear c24); (try clear c24b0); (try clear c25); (try clear c28); (try clear c28b0); (try clear c29); (try clear c29b0); (try clear p30); (try clear q30); (try clear hx30); (try clear hf30); (try clear c34); (try clear c34b0); (try clear hcz13_0); (try clear hcz13_1); (try clear hcz15_0); (try clear hcz15_1); (try clear hcz16_0); (try clear hcz16_1); (try clear hcz18_0); (try clear hcz18_1); (try clear hcz19_0); (try clear hcz19_1); (try clear hcz26_0); (try clear hcz26_1); (try clear hcz31_0); (try clear hcz31_1); (try clear hcz35_0); (try clear hcz35_1); (try clear hfz13_0); (try clear hfz13_1); (try clear hfz15_0); (try clear hfz15_1); (try clear hfz16_0); (try clear hfz16_1); (try clear hfz18_0); (try clear hfz18_1); (try clear hfz19_0); (try clear hfz19_1); (try clear hfz26_0); (try clear hfz26_1); (try clear hfz31_0); (try clear hfz31_1); (try clear hfz35_0); (try clear hfz35_1); (try clear hx30_0); (try clear p2); (try clear p3); (try clear p30); (try clear p6); (try clear q3); (try clear q30)
             obtain ⟨x8_4, x11_4, rfl, HA, HK4, HO_7, HO_8, BK121, HB⟩ := hrel
             have hl8_4 := (Kd.R_reads' HO_8.out).1
             rw [hl8_4] at HO_8
             (try simp only [hl8_4])
             (try simp only [hl8_4] at BK121)
             (try simp only [hl8_4] at HO_7)
             cases gk with
             | zero => exact absurd HA.out (by simp [spec_RouteTo.l2])
             | succ k4 =>
              have H := HA.out
              clear HA
              simp only [spec_RouteTo.l2] at H
              by_cases c36 : x11_4 < (l0_1.length : Int)
              ·rw [if_pos c36] at H
               have c36b0 : decide (x11_4 < (l0_1.length : Int)) = true := decide_eq_true c36; (try (have c36b0z0 := c36b0; rw [hl8_3] at c36b0z0)); (try (have c36b0z1 := c36b0; rw [hl8_4] at c36b0z1))
               clear c36
               by_cases c37 : 0 ≤ x11_4
               ·rw [if_pos c37] at H
                have c37b0 : decide (0 ≤ x11_4) = true := decide_eq_true c37
                clear c37
                have HC38 := Aside0.mk H
                clear H
                have hcz39_0 : wr.cell? ⟨gb121, 0, none⟩ = some (.int .i64 a0_0) := (blk_cell BK121.out 0).trans rfl
                have hcz39_1 : wr.cell? ⟨gb121, 1, none⟩ = some (.slice A0_1 l0_1.length c0_1) := (blk_cell BK121.out 1).trans rfl
                have hfz39_0 := blk_frozen BK121.out 0
                have hfz39_1 := blk_frozen BK121.out 1
                have p135 : 0 ≤ (x11_4 : Int) := of_decide_eq_true (by first | (with_reducible assumption) | assumption)
                have q135 : x11_4 < (l0_1.length : Int) := of_decide_eq_true (by first | (with_reducible assumption) | assumption)
                obtain ⟨ad135, e135, hx135_0, hx135_1⟩ := at_T64 HR0_1.out x11_4 p135 q135
                cases e135
                replace hx135_0 := (HB.out.cell (World.block_lt_of_cell? w _ hx135_0)).trans hx135_0
                replace hx135_1 := (HB.out.cell (World.block_lt_of_cell? w _ hx135_1)).trans hx135_1
                replace p135 := eq_true p135
                replace q135 := eq_true q135
                have p136 : 0 ≤ (x11_4 : Int) := of_decide_eq_true (by first | (with_reducible assumption) | assumption)
                have q136 : x11_4 < (l0_1.length : Int) := of_decide_eq_true (by first | (with_reducible assumption) | assumption)
                obtain ⟨ad136, e136, hx136_0, hx136_1⟩ := at_T64 HR0_1.out x11_4 p136 q136
                obtain rfl : ad135 = ad136 := (by injection e136)
                replace hx136_0 := (HB.out.cell (World.block_lt_of_cell? w _ hx136_0)).trans hx136_0
                replace hx136_1 := (HB.out.cell (World.block_lt_of_cell? w _ hx136_1)).trans hx136_1
                replace p136 := eq_true p136
                replace q136 := eq_true q136
                go_upto_region 18 with (fail)
                go_cut [89] (fun v89 wc => ∃ (kq : Nat) (x89_37 : Bool), v89 = .bool x89_37 ∧ Aside0 (spec_RouteTo.j4 kq a1 a2 y122 x8_4 x10_3 x11_4 ((rd_T64 l0_1 x11_4).f0) ((rd_T64 l0_1 x11_4).f1) x89_37 a0_0 l0_1 = some r) ∧ Aside0 (kq ≤ k4) ∧ Aside0 (Kd.R (Kd.int .i64) 3 wc w.heap.size (fun k_ => some k_ ≠ ((.slice (some ⟨go30, 0, none⟩) x8_4.length co30) : Value).ownBlock) v123 y122) ∧ Aside0 (Kd.R (Kd.int .i64) 3 wc w.heap.size (fun k_ => some k_ ≠ (v123 : Value).ownBlock) (.slice (some ⟨go30, 0, none⟩) x8_4.length co30) x8_4) ∧ Aside0 (wc.heap[gb121]? = some (.cells #[.int .i64 a0_0, (.slice (some ad135) l0_1.length c0_1)] 31 (0, 0))) ∧ Aside0 (Below w.heap.size w wc))
                case first =>
                 have H := HC38.out
                 clear HC38
                 by_cases c40 : 0 ≤ ((rd_T64 l0_1 x11_4).f0)
                 ·rw [if_pos c40] at H
                  have c40b0 : decide (0 ≤ ((rd_T64 l0_1 x11_4).f0)) = true := decide_eq_true c40
                  clear c40
                  (first | rw [c40b0] | (simp only [i64_w, i32_w]; rw [c40b0]) | skip)
                  by_cases c41 : ((rd_T64 l0_1 x11_4).f0) < (x8_4.length : Int)
                  ·rw [if_pos c41] at H
                   have c41b0 : decide (((rd_T64 l0_1 x11_4).f0) < (x8_4.length : Int)) = true := decide_eq_true c41; (try (have c41b0z0 := c41b0; rw [hl8_3] at c41b0z0)); (try (have c41b0z1 := c41b0; rw [hl8_4] at c41b0z1))
                   clear c41
                   by_cases c42 : (rd x8_4 ((rd_T64 l0_1 x11_4).f0)) = x10_3
                   ·rw [if_pos c42] at H
                    have c42b0 : ((rd x8_4 ((rd_T64 l0_1 x11_4).f0)) == x10_3) = true := beq_iff_eq.mpr c42
                    have c42b1 : ((rd x8_4 ((rd_T64 l0_1 x11_4).f0)) != x10_3) = false := bne_eq_false_iff_eq.mpr c42
                    clear c42
                    by_cases c43 : 0 ≤ ((rd_T64 l0_1 x11_4).f1)
                    ·rw [if_pos c43] at H
                     have c43b0 : decide (0 ≤ ((rd_T64 l0_1 x11_4).f1)) = true := decide_eq_true c43
                     clear c43
                     by_cases c44 : ((rd_T64 l0_1 x11_4).f1) < (x8_4.length : Int)
                     ·rw [if_pos c44] at H
                      have c44b0 : decide (((rd_T64 l0_1 x11_4).f1) < (x8_4.length : Int)) = true := decide_eq_true c44; (try (have c44b0z0 := c44b0; rw [hl8_3] at c44b0z0)); (try (have c44b0z1 := c44b0; rw [hl8_4] at c44b0z1))
                      clear c44
                      have H' := Aside0.mk H
                      clear H
                      have p137 : 0 ≤ (((rd_T64 l0_1 x11_4).f0) : Int) := of_decide_eq_true (by first | (with_reducible assumption) | assumption)
                      have q137 : ((rd_T64 l0_1 x11_4).f0) < (x8_4.length : Int) := of_decide_eq_true (by first | (with_reducible assumption) | assumption)
                      obtain ⟨ad137, e137, hx137_0⟩ := Kd.at_int (Kd.R_reads' HO_8.out).2.2 ((rd_T64 l0_1 x11_4).f0) p137 q137
                      obtain rfl : (⟨go30, 0, none⟩ : Addr) = ad137 := (by injection e137)
                      (first | simp only [add_plain] at hx137_0 | simp only [add_at] at hx137_0 | simp only [Addr.add, Nat.zero_add] at hx137_0 | skip)
                      replace p137 := eq_true p137
                      replace q137 := eq_true q137
                      have p138 : 0 ≤ (((rd_T64 l0_1 x11_4).f1) : Int) := of_decide_eq_true (by first | (with_reducible assumption) | assumption)
                      have q138 : ((rd_T64 l0_1 x11_4).f1) < (x8_4.length : Int) := of_decide_eq_true (by first | (with_reducible assumption) | assumption)
                      obtain ⟨ad138, e138, hx138_0⟩ := Kd.at_int (Kd.R_reads' HO_8.out).2.2 ((rd_T64 l0_1 x11_4).f1) p138 q138
                      obtain rfl : (⟨go30, 0, none⟩ : Addr) = ad138 := (by injection e138)
                      (first | simp only [add_plain] at hx138_0 | simp only [add_at] at hx138_0 | simp only [Addr.add, Nat.zero_add] at hx138_0 | skip)
                      replace p138 := eq_true p138
                      replace q138 := eq_true q138
                      go_wp2
                      go_meet
                      case rel => exact ⟨_, (decide ((rd x8_4 ((rd_T64 l0_1 x11_4).f1)) < 0)), (by first | rfl | (simp; done) | (simp [*]; done)), H', ⟨by have := HJ3.out; have := HK2.out; have := HK3.out; have := HK4.out; first | omega | exact Nat.le_refl _⟩, ⟨by (try simp only [hl8_3]); (try simp only [hl8_4]); (with_reducible repeat (first | apply Kd.R_alloc | apply Kd.R_drewN | apply Kd.R_drew)); exact HO_7.out⟩, ⟨by (try simp only [hl8_3]); (try simp only [hl8_4]); (with_reducible repeat (first | apply Kd.R_alloc | apply Kd.R_drewN | apply Kd.R_drew)); exact HO_8.out⟩, ⟨by (try simp only [hl8_3]); (try simp only [hl8_4]); (with_reducible repeat (first | refine blk_drewN ?_ _ | refine blk_drew ?_ | refine blk_alloc ?_ _)); exact BK121.out⟩, ⟨by repeat (first | (with_reducible first | exact HB.out | apply below_alloc | apply pw_below_drewN | apply below_drew1 | refine below_set ?_ GE121.out) | exact HB.out)⟩⟩
                     ·rw [if_neg c44] at H
                      exact absurd H (by simp)
                    ·rw [if_neg c43] at H
                     exact absurd H (by simp)
                   ·rw [if_neg c42] at H
                    have c42b0 : ((rd x8_4 ((rd_T64 l0_1 x11_4).f0)) == x10_3) = false := beq_eq_false_iff_ne.mpr c42
                    have c42b1 : ((rd x8_4 ((rd_T64 l0_1 x11_4).f0)) != x10_3) = true := bne_iff_ne.mpr c42
                    have H' := Aside0.mk H
                    clear H
                    have p137 : 0 ≤ (((rd_T64 l0_1 x11_4).f0) : Int) := of_decide_eq_true (by first | (with_reducible assumption) | assumption)
                    have q137 : ((rd_T64 l0_1 x11_4).f0) < (x8_4.length : Int) := of_decide_eq_true (by first | (with_reducible assumption) | assumption)
                    obtain ⟨ad137, e137, hx137_0⟩ := Kd.at_int (Kd.R_reads' HO_8.out).2.2 ((rd_T64 l0_1 x11_4).f0) p137 q137
                    obtain rfl : (⟨go30, 0, none⟩ : Addr) = ad137 := (by injection e137)
                    (first | simp only [add_plain] at hx137_0 | simp only [add_at] at hx137_0 | simp only [Addr.add, Nat.zero_add] at hx137_0 | skip)
                    replace p137 := eq_true p137
                    replace q137 := eq_true q137
                    go_wp2
                    go_meet
                    case rel => exact ⟨_, (false), (by first | rfl | (simp; done) | (simp [*]; done)), H', ⟨by have := HJ3.out; have := HK2.out; have := HK3.out; have := HK4.out; first | omega | exact Nat.le_refl _⟩, ⟨by (try simp only [hl8_3]); (try simp only [hl8_4]); (with_reducible repeat (first | apply Kd.R_alloc | apply Kd.R_drewN | apply Kd.R_drew)); exact HO_7.out⟩, ⟨by (try simp only [hl8_3]); (try simp only [hl8_4]); (with_reducible repeat (first | apply Kd.R_alloc | apply Kd.R_drewN | apply Kd.R_drew)); exact HO_8.out⟩, ⟨by (try simp only [hl8_3]); (try simp only [hl8_4]); (with_reducible repeat (first | refine blk_drewN ?_ _ | refine blk_drew ?_ | refine blk_alloc ?_ _)); exact BK121.out⟩, ⟨by repeat (first | (with_reducible first | exact HB.out | apply below_alloc | apply pw_below_drewN | apply below_drew1 | refine below_set ?_ GE121.out) | exact HB.out)⟩⟩
                  ·rw [if_neg c41] at H
                   exact absurd H (by simp)
                 ·rw [if_neg c40] at H
                  exact absurd H (by simp)
                case rest =>
                 clear HC38
                 (try clear c1); (try clear p1); (try clear q1); (try clear hx1); (try clear c2); (try clear p2); (try clear c3); (try clear p3); (try clear q3); (try clear hx3); (try clear hf3); (try clear c4); (try clear c5); (try clear p6); (try clear c9); (try clear c11); (try clear p13); (try clear q13); (try clear hx13); (try clear c21); (try clear c24); (try clear c24b0); (try clear c25); (try clear c28); (try clear c28b0); (try clear c29); (try clear c29b0); (try clear p30); (try clear q30); (try clear hx30); (try clear hf30); (try clear c34); (try clear c34b0); (try clear c36); (try clear c36b0); (try clear c37); (try clear c37b0); (try clear c40); (try clear c40b0); (try clear c41); (try clear c41b0); (try clear c42); (try clear c42b0); (try clear c42b1); (try clear c43); (try clear c43b0); (try clear c44); (try clear c44b0); (try clear hcz13_0); (try clear hcz13_1); (try clear hcz15_0); (try clear hcz15_1); (try clear hcz16_0); (try clear hcz16_1); (try clear hcz18_0); (try clear hcz18_1); (try clear hcz19_0); (try clear hcz19_1); (try clear hcz26_0); (try clear hcz26_1); (try clear hcz31_0); (try clear hcz31_1); (try clear hcz35_0); (try clear hcz35_1); (try clear hcz39_0); (try clear hcz39_1); (try clear hfz13_0); (try clear hfz13_1); (try clear hfz15_0); (try clear hfz15_1); (try clear hfz16_0); (try clear hfz16_1); (try clear hfz18_0); (try clear hfz18_1); (try clear hfz19_0); (try clear hfz19_1); (try clear hfz26_0); (try clear hfz26_1); (try clear hfz31_0); (try clear hfz31_1); (try clear hfz35_0); (try clear hfz35_1); (try clear hfz39_0); (try clear hfz39_1); (try clear hx135_0); (try clear hx135_1); (try clear hx136_0); (try clear hx136_1); (try clear hx137_0); (try clear hx138_0); (try clear hx30_0); (try clear p135); (try clear p136); (try clear p137); (try clear p138); (try clear p2); (try clear p3); (try clear p30); (try clear p6); (try clear q135); (try clear q136); (try clear q137); (try clear q138); (try clear q3); (try clear q30)
                 obtain ⟨kq, x89_37, rfl, HA, HJ37, HO_7, HO_8, BK121, HB⟩ := hcut
                 cases kq with
                 | zero => exact absurd HA.out (by simp [spec_RouteTo.j4])
                 | succ kj37 =>
                  have H := HA.out
                  clear HA
                  simp only [spec_RouteTo.j4] at H
                  by_cases c45 : x89_37 = true
                  ·subst c45
                   have H1 : (if 0 ≤ ((rd_T64 l0_1 x11_4).f1) then (if ((rd_T64 l0_1 x11_4).f1) < (x8_4.length : Int) then ((some (x8_4.set (((rd_T64 l0_1 x11_4).f1) : Int).toNat (wrap64 (x10_3 + 1)) : List Int)).bind fun y139 => (if (rd y139 ((rd_T64 l0_1 x11_4).f1)) = x10_3 then (if 0 ≤ ((rd_T64 l0_1 x11_4).f0) then (if ((rd_T64 l0_1 x11_4).f0) < (x8_4.length : Int) then (if (rd y139 ((rd_T64 l0_1 x11_4).f0)) < 0 then (spec_RouteTo.l2 kj37 a1 a2 y122 (y139.set (((rd_T64 l0_1 x11_4).f0) : Int).toNat (wrap64 (x10_3 + 1))) x10_3 (wrap64 (x11_4 + 1)) a0_0 l0_1) else (spec_RouteTo.l2 kj37 a1 a2 y122 y139 x10_3 (wrap64 (x11_4 + 1)) a0_0 l0_1)) else (none)) else (none)) else (spec_RouteTo.l2 kj37 a1 a2 y122 y139 x10_3 (wrap64 (x11_4 + 1)) a0_0 l0_1))) else (none)) else (none)) = some r := by rw [if_pos rfl] at H; exact H
                   clear H
                   have H := H1
                   clear H1
                   by_cases c46 : 0 ≤ ((rd_T64 l0_1 x11_4).f1)
                   ·rw [if_pos c46] at H
                    have c46b0 : decide (0 ≤ ((rd_T64 l0_1 x11_4).f1)) = true := decide_eq_true c46
                    clear c46
                    by_cases c47 : ((rd_T64 l0_1 x11_4).f1) < (x8_4.length : Int)
                    ·rw [if_pos c47] at H
                     have c47b0 : decide (((rd_T64 l0_1 x11_4).f1) < (x8_4.length : Int)) = true := decide_eq_true c47; (try (have c47b0z0 := c47b0; rw [hl8_3] at c47b0z0)); (try (have c47b0z1 := c47b0; rw [hl8_4] at c47b0z1))
                     clear c47
                     obtain ⟨y139, hy139⟩ : ∃ y_ : List Int, y_ = (x8_4.set (((rd_T64 l0_1 x11_4).f1) : Int).toNat (wrap64 (x10_3 + 1))) := ⟨_, rfl⟩
                     replace H : (if (rd y139 ((rd_T64 l0_1 x11_4).f1)) = x10_3 then (if 0 ≤ ((rd_T64 l0_1 x11_4).f0) then (if ((rd_T64 l0_1 x11_4).f0) < (x8_4.length : Int) then (if (rd y139 ((rd_T64 l0_1 x11_4).f0)) < 0 then (spec_RouteTo.l2 kj37 a1 a2 y122 (y139.set (((rd_T64 l0_1 x11_4).f0) : Int).toNat (wrap64 (x10_3 + 1))) x10_3 (wrap64 (x11_4 + 1)) a0_0 l0_1) else (spec_RouteTo.l2 kj37 a1 a2 y122 y139 x10_3 (wrap64 (x11_4 + 1)) a0_0 l0_1)) else (none)) else (none)) else (spec_RouteTo.l2 kj37 a1 a2 y122 y139 x10_3 (wrap64 (x11_4 + 1)) a0_0 l0_1)) = some r := by first | (rw [hy139]; with_reducible exact H) | (have H2_ := (Option.bind_some _ _).symm.trans H; rw [hy139]; with_reducible exact H2_) | (have H2_ := (Option.bind_some _ _).symm.trans H; with_reducible exact H2_) | with_reducible exact H | (rw [hy139]; exact H) | exact H
                     have Ny139 := Aside0.mk hy139
                     clear hy139
                     by_cases c49 : (rd y139 ((rd_T64 l0_1 x11_4).f1)) = x10_3
                     ·rw [if_pos c49] at H
                      have c49b0 : ((rd y139 ((rd_T64 l0_1 x11_4).f1)) == x10_3) = true := beq_iff_eq.mpr c49
                      have c49b1 : ((rd y139 ((rd_T64 l0_1 x11_4).f1)) != x10_3) = false := bne_eq_false_iff_eq.mpr c49
                      clear c49
                      by_cases c50 : 0 ≤ ((rd_T64 l0_1 x11_4).f0)
                      ·rw [if_pos c50] at H
                       have c50b0 : decide (0 ≤ ((rd_T64 l0_1 x11_4).f0)) = true := decide_eq_true c50
                       clear c50
                       by_cases c51 : ((rd_T64 l0_1 x11_4).f0) < (x8_4.length : Int)
                       ·rw [if_pos c51] at H
                        have c51b0 : decide (((rd_T64 l0_1 x11_4).f0) < (x8_4.length : Int)) = true := decide_eq_true c51; (try (have c51b0z0 := c51b0; rw [hl8_3] at c51b0z0)); (try (have c51b0z1 := c51b0; rw [hl8_4] at c51b0z1))
                        clear c51
                        by_cases c52 : (rd y139 ((rd_T64 l0_1 x11_4).f0)) < 0
                        ·rw [if_pos c52] at H
                         have c52b0 : decide ((rd y139 ((rd_T64 l0_1 x11_4).f0)) < 0) = true := decide_eq_true c52
                         clear c52
                         obtain ⟨y142, hy142⟩ : ∃ y_ : List Int, y_ = (y139.set (((rd_T64 l0_1 x11_4).f0) : Int).toNat (wrap64 (x10_3 + 1))) := ⟨_, rfl⟩
                         replace H : (spec_RouteTo.l2 kj37 a1 a2 y122 y142 x10_3 (wrap64 (x11_4 + 1)) a0_0 l0_1) = some r := by first | (rw [hy142]; with_reducible exact H) | (have H2_ := (Option.bind_some _ _).symm.trans H; rw [hy142]; with_reducible exact H2_) | (have H2_ := (Option.bind_some _ _).symm.trans H; with_reducible exact H2_) | with_reducible exact H | (rw [hy142]; exact H) | exact H
                         have Ny142 := Aside0.mk hy142
                         clear hy142
                         have H' := Aside0.mk H
                         clear H
                         have p48 : 0 ≤ (((rd_T64 l0_1 x11_4).f1) : Int) := of_decide_eq_true (by first | (with_reducible assumption) | assumption)
                         have q48 : (((rd_T64 l0_1 x11_4).f1) : Int) < ((x8_4.length : Int) : Int) := of_decide_eq_true (by first | (with_reducible assumption) | assumption)
                         obtain ⟨hx48_0, hf48_0⟩ := Kd.R_celln 0 HO_8.out (((rd_T64 l0_1 x11_4).f1) : Int) p48 q48
                         replace p48 := eq_true p48
                         replace q48 := eq_true q48
                         have HP54 := Kd.R_putg HO_8.out (((rd_T64 l0_1 x11_4).f1) : Int) (wrap64 (x10_3 + 1))
                         go_wp2_with (first | ((with_reducible refine gate_store (t := 3) (p := 94) rfl ?_); (try (rw [drewN_self wc]; generalize hq_ : World.drewN wc _ = wc; have n0_ := Aside0.mk (Kd.R_at hq_ HO_7.out); have n1_ := Aside0.mk (Kd.R_at hq_ HO_8.out); have n2_ := Aside0.mk (blk_at hq_ BK121.out); have n3_ := Aside0.mk (below_at hq_ HB.out); clear hq_ HO_7 HO_8 BK121 HB; have HO_7 := n0_; have HO_8 := n1_; have BK121 := n2_; have HB := n3_; clear n0_ n1_ n2_ n3_; (try (have HP54 := Kd.R_putg HO_8.out (((rd_T64 l0_1 x11_4).f1) : Int) (wrap64 (x10_3 + 1)))))); refine store_event (t := 3) (p := 94) (v := ?vo_w55) (w1 := (wc.setCell ⟨go30, (((rd_T64 l0_1 x11_4).f1) : Int).toNat, none⟩ (.int .i64 (wrap64 (x10_3 + 1))))) ?hg ?ho ?hn ?hr ?_; (case ho => rfl); (case hg => rfl); (case hn => rfl); (case hr => first | (go_simp; done) | (go_simp; rfl)); intro w55 hw; have hg : wc.grownBy w55 (some go30) := (by rw [hw]; exact HP54.2); have hp_ : Kd.R (Kd.int .i64) 3 w55 w.heap.size (fun k_ => some k_ ≠ (v123 : Value).ownBlock) (.slice (some ⟨go30, 0, none⟩) x8_4.length co30) y139 := (by rw [hw, Ny139.out]; exact HP54.1); clear HP54; have n0_ := Aside0.mk (Kd.R_after (v := (.slice (some ⟨go30, 0, none⟩) x8_4.length co30)) (v1 := (.slice (some ⟨go30, 0, none⟩) x8_4.length co30)) (ok := (fun _ => True)) (by (with_reducible repeat (first | apply Kd.R_alloc | apply Kd.R_drewN | apply Kd.R_drew)); exact Kd.R_mono HO_7.out (fun _ hk => ⟨trivial, hk⟩)) hg (.inl rfl)); have n1_ := Aside0.mk (hp_); have n2_ := Aside0.mk (blk_grown (g := gb121) (o := .cells #[.int .i64 a0_0, .slice (some ad135) l0_1.length c0_1] 31 (0, 0)) (by (with_reducible repeat (first | refine blk_drewN ?_ _ | refine blk_drew ?_ | refine blk_alloc ?_ _)); exact BK121.out) hg (Kd.R_ne HO_8.out BK121.out (by decide))); have n3_ := Aside0.mk ((by rw [hw]; exact below_set (HB.out) GB30.out : Below w.heap.size w w55)); clear HO_7; clear HO_8; clear BK121; clear HB; have HO_7 := n0_; have HO_8 := n1_; have BK121 := n2_; have HB := n3_; clear n0_ n1_ n2_ n3_; clear hg hw hp_; have p140 : 0 ≤ (((rd_T64 l0_1 x11_4).f1) : Int) := of_decide_eq_true (by first | (with_reducible assumption) | assumption); have q140 : ((rd_T64 l0_1 x11_4).f1) < (y139.length : Int) := (by have h_ : (((rd_T64 l0_1 x11_4).f1) : Int) < ((x8_4.length : Int) : Int) := of_decide_eq_true (by first | (with_reducible assumption) | assumption); first | (have e_ := (Kd.R_reads' HO_8.out).1; omega) | simpa only [Ny139.out, List.length_set] using h_); have ql140 : ((((rd_T64 l0_1 x11_4).f1) : Int) < ((x8_4.length : Int) : Int)) = True := eq_true (of_decide_eq_true (by first | (with_reducible assumption) | assumption)); obtain ⟨ad140, e140, hx140_0⟩ := Kd.at_int (Kd.R_reads' HO_8.out).2.2 ((rd_T64 l0_1 x11_4).f1) p140 q140; obtain rfl : (⟨go30, 0, none⟩ : Addr) = ad140 := (by injection e140); (first | simp only [add_plain] at hx140_0 | simp only [add_at] at hx140_0 | simp only [Addr.add, Nat.zero_add] at hx140_0 | skip); replace p140 := eq_true p140; replace q140 := eq_true q140; have p141 : 0 ≤ (((rd_T64 l0_1 x11_4).f0) : Int) := of_decide_eq_true (by first | (with_reducible assumption) | assumption); have q141 : ((rd_T64 l0_1 x11_4).f0) < (y139.length : Int) := (by have h_ : (((rd_T64 l0_1 x11_4).f0) : Int) < ((x8_4.length : Int) : Int) := of_decide_eq_true (by first | (with_reducible assumption) | assumption); first | (have e_ := (Kd.R_reads' HO_8.out).1; omega) | simpa only [Ny139.out, List.length_set] using h_); have ql141 : ((((rd_T64 l0_1 x11_4).f0) : Int) < ((x8_4.length : Int) : Int)) = True := eq_true (of_decide_eq_true (by first | (with_reducible assumption) | assumption)); obtain ⟨ad141, e141, hx141_0⟩ := Kd.at_int (Kd.R_reads' HO_8.out).2.2 ((rd_T64 l0_1 x11_4).f0) p141 q141; obtain rfl : (⟨go30, 0, none⟩ : Addr) = ad141 := (by injection e141); (first | simp only [add_plain] at hx141_0 | simp only [add_at] at hx141_0 | simp only [Addr.add, Nat.zero_add] at hx141_0 | skip); replace p141 := eq_true p141; replace q141 := eq_true q141; have p53 : 0 ≤ (((rd_T64 l0_1 x11_4).f0) : Int) := of_decide_eq_true (by first | (with_reducible assumption) | assumption); have q53 : (((rd_T64 l0_1 x11_4).f0) : Int) < ((x8_4.length : Int) : Int) := of_decide_eq_true (by first | (with_reducible assumption) | assumption); obtain ⟨hx53_0, hf53_0⟩ := Kd.R_celln 0 HO_8.out (((rd_T64 l0_1 x11_4).f0) : Int) p53 q53; replace p53 := eq_true p53; replace q53 := eq_true q53; obtain ⟨hy56_, hz56_⟩ := Kd.R_celln 0 HO_8.out (((rd_T64 l0_1 x11_4).f0) : Int) (of_decide_eq_true (by first | (with_reducible assumption) | assumption)) (of_decide_eq_true (by first | (with_reducible assumption) | assumption)); have HP56 := Kd.R_putg HO_8.out (((rd_T64 l0_1 x11_4).f0) : Int) (wrap64 (x10_3 + 1))) | ((with_reducible refine gate_store (t := 3) (p := 112) rfl ?_); (try (rw [drewN_self w55]; generalize hq_ : World.drewN w55 _ = w55; have n0_ := Aside0.mk (Kd.R_at hq_ HO_7.out); have n1_ := Aside0.mk (Kd.R_at hq_ HO_8.out); have n2_ := Aside0.mk (blk_at hq_ BK121.out); have n3_ := Aside0.mk (below_at hq_ HB.out); clear hq_ HO_7 HO_8 BK121 HB; have HO_7 := n0_; have HO_8 := n1_; have BK121 := n2_; have HB := n3_; clear n0_ n1_ n2_ n3_; (try (obtain ⟨hy56_, hz56_⟩ := Kd.R_celln 0 HO_8.out (((rd_T64 l0_1 x11_4).f0) : Int) (of_decide_eq_true (by first | (with_reducible assumption) | assumption)) (of_decide_eq_true (by first | (with_reducible assumption) | assumption)))); (try (have HP56 := Kd.R_putg HO_8.out (((rd_T64 l0_1 x11_4).f0) : Int) (wrap64 (x10_3 + 1)))))); refine store_event (t := 3) (p := 112) (v := ?vo_w57) (w1 := (w55.setCell ⟨go30, (((rd_T64 l0_1 x11_4).f0) : Int).toNat, none⟩ (.int .i64 (wrap64 (x10_3 + 1))))) ?hg ?ho ?hn ?hr ?_; (case ho => rfl); (case hg => rfl); (case hn => rfl); (case hr => first | (go_simp; done) | (go_simp; rfl)); intro w57 hw; have hg : w55.grownBy w57 (some go30) := (by rw [hw]; exact HP56.2); have hp_ : Kd.R (Kd.int .i64) 3 w57 w.heap.size (fun k_ => some k_ ≠ (v123 : Value).ownBlock) (.slice (some ⟨go30, 0, none⟩) x8_4.length co30) y142 := (by rw [hw, Ny142.out]; exact HP56.1); clear HP56; have n0_ := Aside0.mk (Kd.R_after (v := (.slice (some ⟨go30, 0, none⟩) x8_4.length co30)) (v1 := (.slice (some ⟨go30, 0, none⟩) x8_4.length co30)) (ok := (fun _ => True)) (by (with_reducible repeat (first | apply Kd.R_alloc | apply Kd.R_drewN | apply Kd.R_drew)); exact HO_7.out) hg (.inl rfl)); have n1_ := Aside0.mk (hp_); have n2_ := Aside0.mk (blk_grown (g := gb121) (o := .cells #[.int .i64 a0_0, .slice (some ad135) l0_1.length c0_1] 31 (0, 0)) (by (with_reducible repeat (first | refine blk_drewN ?_ _ | refine blk_drew ?_ | refine blk_alloc ?_ _)); exact BK121.out) hg (Kd.R_ne HO_8.out BK121.out (by decide))); have n3_ := Aside0.mk ((by rw [hw]; exact below_set (HB.out) GB30.out : Below w.heap.size w w57)); clear HO_7; clear HO_8; clear BK121; clear HB; have HO_7 := n0_; have HO_8 := n1_; have BK121 := n2_; have HB := n3_; clear n0_ n1_ n2_ n3_; clear hg hw hp_))
                         (try simp only [← hl8_4])
                         go_roundg kj37
                         case measure => have := HJ3.out; have := HK2.out; have := HK3.out; have := HK4.out; have := HJ37.out; omega
                         case rel => exact ⟨(y142), (wrap64 (x11_4 + 1)), (by first | rfl | (simp; done) | (simp [*]; done)), H', ⟨by have := HJ3.out; have := HK2.out; have := HK3.out; have := HK4.out; have := HJ37.out; omega⟩, ⟨by (try simp only [hl8_3]); (try simp only [hl8_4]); (with_reducible repeat (first | apply Kd.R_alloc | apply Kd.R_drewN | apply Kd.R_drew)); exact Kd.R_mono HO_7.out (fun _ hk => hk.2)⟩, ⟨by (try simp only [hl8_3]); (try simp only [hl8_4]); (with_reducible repeat (first | apply Kd.R_alloc | apply Kd.R_drewN | apply Kd.R_drew)); exact HO_8.out⟩, ⟨by (try simp only [hl8_3]); (try simp only [hl8_4]); (with_reducible repeat (first | refine blk_drewN ?_ _ | refine blk_drew ?_ | refine blk_alloc ?_ _)); exact BK121.out⟩, ⟨by repeat (first | (with_reducible first | exact HB.out | apply below_alloc | apply pw_below_drewN | apply below_drew1 | refine below_set ?_ GE121.out) | exact HB.out)⟩⟩
                        ·rw [if_neg c52] at H
                         have c52b0 : decide ((rd y139 ((rd_T64 l0_1 x11_4).f0)) < 0) = false := decide_eq_false c52
                         clear c52
                         have H' := Aside0.mk H
                         clear H
                         have p48 : 0 ≤ (((rd_T64 l0_1 x11_4).f1) : Int) := of_decide_eq_true (by first | (with_reducible assumption) | assumption)
                         have q48 : (((rd_T64 l0_1 x11_4).f1) : Int) < ((x8_4.length : Int) : Int) := of_decide_eq_true (by first | (with_reducible assumption) | assumption)
                         obtain ⟨hx48_0, hf48_0⟩ := Kd.R_celln 0 HO_8.out (((rd_T64 l0_1 x11_4).f1) : Int) p48 q48
                         replace p48 := eq_true p48
                         replace q48 := eq_true q48
                         have HP58 := Kd.R_putg HO_8.out (((rd_T64 l0_1 x11_4).f1) : Int) (wrap64 (x10_3 + 1))
                         go_wp2_with (first | ((with_reducible refine gate_store (t := 3) (p := 94) rfl ?_); (try (rw [drewN_self wc]; generalize hq_ : World.drewN wc _ = wc; have n0_ := Aside0.mk (Kd.R_at hq_ HO_7.out); have n1_ := Aside0.mk (Kd.R_at hq_ HO_8.out); have n2_ := Aside0.mk (blk_at hq_ BK121.out); have n3_ := Aside0.mk (below_at hq_ HB.out); clear hq_ HO_7 HO_8 BK121 HB; have HO_7 := n0_; have HO_8 := n1_; have BK121 := n2_; have HB := n3_; clear n0_ n1_ n2_ n3_; (try (have HP58 := Kd.R_putg HO_8.out (((rd_T64 l0_1 x11_4).f1) : Int) (wrap64 (x10_3 + 1)))))); refine store_event (t := 3) (p := 94) (v := ?vo_w59) (w1 := (wc.setCell ⟨go30, (((rd_T64 l0_1 x11_4).f1) : Int).toNat, none⟩ (.int .i64 (wrap64 (x10_3 + 1))))) ?hg ?ho ?hn ?hr ?_; (case ho => rfl); (case hg => rfl); (case hn => rfl); (case hr => first | (go_simp; done) | (go_simp; rfl)); intro w59 hw; have hg : wc.grownBy w59 (some go30) := (by rw [hw]; exact HP58.2); have hp_ : Kd.R (Kd.int .i64) 3 w59 w.heap.size (fun k_ => some k_ ≠ (v123 : Value).ownBlock) (.slice (some ⟨go30, 0, none⟩) x8_4.length co30) y139 := (by rw [hw, Ny139.out]; exact HP58.1); clear HP58; have n0_ := Aside0.mk (Kd.R_after (v := (.slice (some ⟨go30, 0, none⟩) x8_4.length co30)) (v1 := (.slice (some ⟨go30, 0, none⟩) x8_4.length co30)) (ok := (fun _ => True)) (by (with_reducible repeat (first | apply Kd.R_alloc | apply Kd.R_drewN | apply Kd.R_drew)); exact Kd.R_mono HO_7.out (fun _ hk => ⟨trivial, hk⟩)) hg (.inl rfl)); have n1_ := Aside0.mk (hp_); have n2_ := Aside0.mk (blk_grown (g := gb121) (o := .cells #[.int .i64 a0_0, .slice (some ad135) l0_1.length c0_1] 31 (0, 0)) (by (with_reducible repeat (first | refine blk_drewN ?_ _ | refine blk_drew ?_ | refine blk_alloc ?_ _)); exact BK121.out) hg (Kd.R_ne HO_8.out BK121.out (by decide))); have n3_ := Aside0.mk ((by rw [hw]; exact below_set (HB.out) GB30.out : Below w.heap.size w w59)); clear HO_7; clear HO_8; clear BK121; clear HB; have HO_7 := n0_; have HO_8 := n1_; have BK121 := n2_; have HB := n3_; clear n0_ n1_ n2_ n3_; clear hg hw hp_; have p140 : 0 ≤ (((rd_T64 l0_1 x11_4).f1) : Int) := of_decide_eq_true (by first | (with_reducible assumption) | assumption); have q140 : ((rd_T64 l0_1 x11_4).f1) < (y139.length : Int) := (by have h_ : (((rd_T64 l0_1 x11_4).f1) : Int) < ((x8_4.length : Int) : Int) := of_decide_eq_true (by first | (with_reducible assumption) | assumption); first | (have e_ := (Kd.R_reads' HO_8.out).1; omega) | simpa only [Ny139.out, List.length_set] using h_); have ql140 : ((((rd_T64 l0_1 x11_4).f1) : Int) < ((x8_4.length : Int) : Int)) = True := eq_true (of_decide_eq_true (by first | (with_reducible assumption) | assumption)); obtain ⟨ad140, e140, hx140_0⟩ := Kd.at_int (Kd.R_reads' HO_8.out).2.2 ((rd_T64 l0_1 x11_4).f1) p140 q140; obtain rfl : (⟨go30, 0, none⟩ : Addr) = ad140 := (by injection e140); (first | simp only [add_plain] at hx140_0 | simp only [add_at] at hx140_0 | simp only [Addr.add, Nat.zero_add] at hx140_0 | skip); replace p140 := eq_true p140; replace q140 := eq_true q140; have p141 : 0 ≤ (((rd_T64 l0_1 x11_4).f0) : Int) := of_decide_eq_true (by first | (with_reducible assumption) | assumption); have q141 : ((rd_T64 l0_1 x11_4).f0) < (y139.length : Int) := (by have h_ : (((rd_T64 l0_1 x11_4).f0) : Int) < ((x8_4.length : Int) : Int) := of_decide_eq_true (by first | (with_reducible assumption) | assumption); first | (have e_ := (Kd.R_reads' HO_8.out).1; omega) | simpa only [Ny139.out, List.length_set] using h_); have ql141 : ((((rd_T64 l0_1 x11_4).f0) : Int) < ((x8_4.length : Int) : Int)) = True := eq_true (of_decide_eq_true (by first | (with_reducible assumption) | assumption)); obtain ⟨ad141, e141, hx141_0⟩ := Kd.at_int (Kd.R_reads' HO_8.out).2.2 ((rd_T64 l0_1 x11_4).f0) p141 q141; obtain rfl : (⟨go30, 0, none⟩ : Addr) = ad141 := (by injection e141); (first | simp only [add_plain] at hx141_0 | simp only [add_at] at hx141_0 | simp only [Addr.add, Nat.zero_add] at hx141_0 | skip); replace p141 := eq_true p141; replace q141 := eq_true q141))
                         (try simp only [← hl8_4])
                         go_roundg kj37
                         case measure => have := HJ3.out; have := HK2.out; have := HK3.out; have := HK4.out; have := HJ37.out; omega
                         case rel => exact ⟨(y139), (wrap64 (x11_4 + 1)), (by first | rfl | (simp; done) | (simp [*]; done)), H', ⟨by have := HJ3.out; have := HK2.out; have := HK3.out; have := HK4.out; have := HJ37.out; omega⟩, ⟨by (try simp only [hl8_3]); (try simp only [hl8_4]); (with_reducible repeat (first | apply Kd.R_alloc | apply Kd.R_drewN | apply Kd.R_drew)); exact Kd.R_mono HO_7.out (fun _ hk => hk.2)⟩, ⟨by (try simp only [hl8_3]); (try simp only [hl8_4]); (with_reducible repeat (first | apply Kd.R_alloc | apply Kd.R_drewN | apply Kd.R_drew)); exact HO_8.out⟩, ⟨by (try simp only [hl8_3]); (try simp only [hl8_4]); (with_reducible repeat (first | refine blk_drewN ?_ _ | refine blk_drew ?_ | refine blk_alloc ?_ _)); exact BK121.out⟩, ⟨by repeat (first | (with_reducible first | exact HB.out | apply below_alloc | apply pw_below_drewN | apply below_drew1 | refine below_set ?_ GE121.out) | exact HB.out)⟩⟩
                       ·rw [if_neg c51] at H
                        exact absurd H (by simp)
                      ·rw [if_neg c50] at H
                       exact absurd H (by simp)
                     ·rw [if_neg c49] at H
                      have c49b0 : ((rd y139 ((rd_T64 l0_1 x11_4).f1)) == x10_3) = false := beq_eq_false_iff_ne.mpr c49
                      have c49b1 : ((rd y139 ((rd_T64 l0_1 x11_4).f1)) != x10_3) = true := bne_iff_ne.mpr c49
                      have H' := Aside0.mk H
                      clear H
                      have p48 : 0 ≤ (((rd_T64 l0_1 x11_4).f1) : Int) := of_decide_eq_true (by first | (with_reducible assumption) | assumption)
                      have q48 : (((rd_T64 l0_1 x11_4).f1) : Int) < ((x8_4.length : Int) : Int) := of_decide_eq_true (by first | (with_reducible assumption) | assumption)
                      obtain ⟨hx48_0, hf48_0⟩ := Kd.R_celln 0 HO_8.out (((rd_T64 l0_1 x11_4).f1) : Int) p48 q48
                      replace p48 := eq_true p48
                      replace q48 := eq_true q48
                      have HP60 := Kd.R_putg HO_8.out (((rd_T64 l0_1 x11_4).f1) : Int) (wrap64 (x10_3 + 1))
                      go_wp2_with (first | ((with_reducible refine gate_store (t := 3) (p := 94) rfl ?_); (try (rw [drewN_self wc]; generalize hq_ : World.drewN wc _ = wc; have n0_ := Aside0.mk (Kd.R_at hq_ HO_7.out); have n1_ := Aside0.mk (Kd.R_at hq_ HO_8.out); have n2_ := Aside0.mk (blk_at hq_ BK121.out); have n3_ := Aside0.mk (below_at hq_ HB.out); clear hq_ HO_7 HO_8 BK121 HB; have HO_7 := n0_; have HO_8 := n1_; have BK121 := n2_; have HB := n3_; clear n0_ n1_ n2_ n3_; (try (have HP60 := Kd.R_putg HO_8.out (((rd_T64 l0_1 x11_4).f1) : Int) (wrap64 (x10_3 + 1)))))); refine store_event (t := 3) (p := 94) (v := ?vo_w61) (w1 := (wc.setCell ⟨go30, (((rd_T64 l0_1 x11_4).f1) : Int).toNat, none⟩ (.int .i64 (wrap64 (x10_3 + 1))))) ?hg ?ho ?hn ?hr ?_; (case ho => rfl); (case hg => rfl); (case hn => rfl); (case hr => first | (go_simp; done) | (go_simp; rfl)); intro w61 hw; have hg : wc.grownBy w61 (some go30) := (by rw [hw]; exact HP60.2); have hp_ : Kd.R (Kd.int .i64) 3 w61 w.heap.size (fun k_ => some k_ ≠ (v123 : Value).ownBlock) (.slice (some ⟨go30, 0, none⟩) x8_4.length co30) y139 := (by rw [hw, Ny139.out]; exact HP60.1); clear HP60; have n0_ := Aside0.mk (Kd.R_after (v := (.slice (some ⟨go30, 0, none⟩) x8_4.length co30)) (v1 := (.slice (some ⟨go30, 0, none⟩) x8_4.length co30)) (ok := (fun _ => True)) (by (with_reducible repeat (first | apply Kd.R_alloc | apply Kd.R_drewN | apply Kd.R_drew)); exact Kd.R_mono HO_7.out (fun _ hk => ⟨trivial, hk⟩)) hg (.inl rfl)); have n1_ := Aside0.mk (hp_); have n2_ := Aside0.mk (blk_grown (g := gb121) (o := .cells #[.int .i64 a0_0, .slice (some ad135) l0_1.length c0_1] 31 (0, 0)) (by (with_reducible repeat (first | refine blk_drewN ?_ _ | refine blk_drew ?_ | refine blk_alloc ?_ _)); exact BK121.out) hg (Kd.R_ne HO_8.out BK121.out (by decide))); have n3_ := Aside0.mk ((by rw [hw]; exact below_set (HB.out) GB30.out : Below w.heap.size w w61)); clear HO_7; clear HO_8; clear BK121; clear HB; have HO_7 := n0_; have HO_8 := n1_; have BK121 := n2_; have HB := n3_; clear n0_ n1_ n2_ n3_; clear hg hw hp_; have p140 : 0 ≤ (((rd_T64 l0_1 x11_4).f1) : Int) := of_decide_eq_true (by first | (with_reducible assumption) | assumption); have q140 : ((rd_T64 l0_1 x11_4).f1) < (y139.length : Int) := (by have h_ : (((rd_T64 l0_1 x11_4).f1) : Int) < ((x8_4.length : Int) : Int) := of_decide_eq_true (by first | (with_reducible assumption) | assumption); first | (have e_ := (Kd.R_reads' HO_8.out).1; omega) | simpa only [Ny139.out, List.length_set] using h_); have ql140 : ((((rd_T64 l0_1 x11_4).f1) : Int) < ((x8_4.length : Int) : Int)) = True := eq_true (of_decide_eq_true (by first | (with_reducible assumption) | assumption)); obtain ⟨ad140, e140, hx140_0⟩ := Kd.at_int (Kd.R_reads' HO_8.out).2.2 ((rd_T64 l0_1 x11_4).f1) p140 q140; obtain rfl : (⟨go30, 0, none⟩ : Addr) = ad140 := (by injection e140); (first | simp only [add_plain] at hx140_0 | simp only [add_at] at hx140_0 | simp only [Addr.add, Nat.zero_add] at hx140_0 | skip); replace p140 := eq_true p140; replace q140 := eq_true q140))
                      (try simp only [← hl8_4])
                      go_roundg kj37
                      case measure => have := HJ3.out; have := HK2.out; have := HK3.out; have := HK4.out; have := HJ37.out; omega
                      case rel => exact ⟨(y139), (wrap64 (x11_4 + 1)), (by first | rfl | (simp; done) | (simp [*]; done)), H', ⟨by have := HJ3.out; have := HK2.out; have := HK3.out; have := HK4.out; have := HJ37.out; omega⟩, ⟨by (try simp only [hl8_3]); (try simp only [hl8_4]); (with_reducible repeat (first | apply Kd.R_alloc | apply Kd.R_drewN | apply Kd.R_drew)); exact Kd.R_mono HO_7.out (fun _ hk => hk.2)⟩, ⟨by (try simp only [hl8_3]); (try simp only [hl8_4]); (with_reducible repeat (first | apply Kd.R_alloc | apply Kd.R_drewN | apply Kd.R_drew)); exact HO_8.out⟩, ⟨by (try simp only [hl8_3]); (try simp only [hl8_4]); (with_reducible repeat (first | refine blk_drewN ?_ _ | refine blk_drew ?_ | refine blk_alloc ?_ _)); exact BK121.out⟩, ⟨by repeat (first | (with_reducible first | exact HB.out | apply below_alloc | apply pw_below_drewN | apply below_drew1 | refine below_set ?_ GE121.out) | exact HB.out)⟩⟩
                    ·rw [if_neg c47] at H
                     exact absurd H (by simp)
                   ·rw [if_neg c46] at H
                    exact absurd H (by simp)
                  ·replace c45 := Bool.eq_false_iff.mpr c45
                   subst c45
                   have H1 : (if 0 ≤ ((rd_T64 l0_1 x11_4).f1) then (if ((rd_T64 l0_1 x11_4).f1) < (x8_4.length : Int) then (if (rd x8_4 ((rd_T64 l0_1 x11_4).f1)) = x10_3 then (if 0 ≤ ((rd_T64 l0_1 x11_4).f0) then (if ((rd_T64 l0_1 x11_4).f0) < (x8_4.length : Int) then (if (rd x8_4 ((rd_T64 l0_1 x11_4).f0)) < 0 then (spec_RouteTo.l2 kj37 a1 a2 y122 (x8_4.set (((rd_T64 l0_1 x11_4).f0) : Int).toNat (wrap64 (x10_3 + 1))) x10_3 (wrap64 (x11_4 + 1)) a0_0 l0_1) else (spec_RouteTo.l2 kj37 a1 a2 y122 x8_4 x10_3 (wrap64 (x11_4 + 1)) a0_0 l0_1)) else (none)) else (none)) else (spec_RouteTo.l2 kj37 a1 a2 y122 x8_4 x10_3 (wrap64 (x11_4 + 1)) a0_0 l0_1)) else (none)) else (none)) = some r := by rw [if_neg (show ¬ (false = true) by decide)] at H; exact H
                   clear H
                   have H := H1
                   clear H1
                   by_cases c62 : 0 ≤ ((rd_T64 l0_1 x11_4).f1)
                   ·rw [if_pos c62] at H
                    have c62b0 : decide (0 ≤ ((rd_T64 l0_1 x11_4).f1)) = true := decide_eq_true c62
                    clear c62
                    by_cases c63 : ((rd_T64 l0_1 x11_4).f1) < (x8_4.length : Int)
                    ·rw [if_pos c63] at H
                     have c63b0 : decide (((rd_T64 l0_1 x11_4).f1) < (x8_4.length : Int)) = true := decide_eq_true c63; (try (have c63b0z0 := c63b0; rw [hl8_3] at c63b0z0)); (try (have c63b0z1 := c63b0; rw [hl8_4] at c63b0z1))
                     clear c63
                     by_cases c64 : (rd x8_4 ((rd_T64 l0_1 x11_4).f1)) = x10_3
                     ·rw [if_pos c64] at H
                      have c64b0 : ((rd x8_4 ((rd_T64 l0_1 x11_4).f1)) == x10_3) = true := beq_iff_eq.mpr c64
                      have c64b1 : ((rd x8_4 ((rd_T64 l0_1 x11_4).f1)) != x10_3) = false := bne_eq_false_iff_eq.mpr c64
                      clear c64
                      by_cases c65 : 0 ≤ ((rd_T64 l0_1 x11_4).f0)
                      ·rw [if_pos c65] at H
                       have c65b0 : decide (0 ≤ ((rd_T64 l0_1 x11_4).f0)) = true := decide_eq_true c65
                       clear c65
                       by_cases c66 : ((rd_T64 l0_1 x11_4).f0) < (x8_4.length : Int)
                       ·rw [if_pos c66] at H
                        have c66b0 : decide (((rd_T64 l0_1 x11_4).f0) < (x8_4.length : Int)) = true := decide_eq_true c66; (try (have c66b0z0 := c66b0; rw [hl8_3] at c66b0z0)); (try (have c66b0z1 := c66b0; rw [hl8_4] at c66b0z1))
                        clear c66
                        by_cases c67 : (rd x8_4 ((rd_T64 l0_1 x11_4).f0)) < 0
                        ·rw [if_pos c67] at H
                         have c67b0 : decide ((rd x8_4 ((rd_T64 l0_1 x11_4).f0)) < 0) = true := decide_eq_true c67
                         clear c67
                         obtain ⟨y145, hy145⟩ : ∃ y_ : List Int, y_ = (x8_4.set (((rd_T64 l0_1 x11_4).f0) : Int).toNat (wrap64 (x10_3 + 1))) := ⟨_, rfl⟩
                         replace H : (spec_RouteTo.l2 kj37 a1 a2 y122 y145 x10_3 (wrap64 (x11_4 + 1)) a0_0 l0_1) = some r := by first | (rw [hy145]; with_reducible exact H) | (have H2_ := (Option.bind_some _ _).symm.trans H; rw [hy145]; with_reducible exact H2_) | (have H2_ := (Option.bind_some _ _).symm.trans H; with_reducible exact H2_) | with_reducible exact H | (rw [hy145]; exact H) | exact H
                         have Ny145 := Aside0.mk hy145
                         clear hy145
                         have H' := Aside0.mk H
                         clear H
                         have p143 : 0 ≤ (((rd_T64 l0_1 x11_4).f1) : Int) := of_decide_eq_true (by first | (with_reducible assumption) | assumption)
                         have q143 : ((rd_T64 l0_1 x11_4).f1) < (x8_4.length : Int) := of_decide_eq_true (by first | (with_reducible assumption) | assumption)
                         obtain ⟨ad143, e143, hx143_0⟩ := Kd.at_int (Kd.R_reads' HO_8.out).2.2 ((rd_T64 l0_1 x11_4).f1) p143 q143
                         obtain rfl : (⟨go30, 0, none⟩ : Addr) = ad143 := (by injection e143)
                         (first | simp only [add_plain] at hx143_0 | simp only [add_at] at hx143_0 | simp only [Addr.add, Nat.zero_add] at hx143_0 | skip)
                         replace p143 := eq_true p143
                         replace q143 := eq_true q143
                         have p144 : 0 ≤ (((rd_T64 l0_1 x11_4).f0) : Int) := of_decide_eq_true (by first | (with_reducible assumption) | assumption)
                         have q144 : ((rd_T64 l0_1 x11_4).f0) < (x8_4.length : Int) := of_decide_eq_true (by first | (with_reducible assumption) | assumption)
                         obtain ⟨ad144, e144, hx144_0⟩ := Kd.at_int (Kd.R_reads' HO_8.out).2.2 ((rd_T64 l0_1 x11_4).f0) p144 q144
                         obtain rfl : (⟨go30, 0, none⟩ : Addr) = ad144 := (by injection e144)
                         (first | simp only [add_plain] at hx144_0 | simp only [add_at] at hx144_0 | simp only [Addr.add, Nat.zero_add] at hx144_0 | skip)
                         replace p144 := eq_true p144
                         replace q144 := eq_true q144
                         have p68 : 0 ≤ (((rd_T64 l0_1 x11_4).f0) : Int) := of_decide_eq_true (by first | (with_reducible assumption) | assumption)
                         have q68 : (((rd_T64 l0_1 x11_4).f0) : Int) < ((x8_4.length : Int) : Int) := of_decide_eq_true (by first | (with_reducible assumption) | assumption)
                         obtain ⟨hx68_0, hf68_0⟩ := Kd.R_celln 0 HO_8.out (((rd_T64 l0_1 x11_4).f0) : Int) p68 q68
                         replace p68 := eq_true p68
                         replace q68 := eq_true q68
                         have HP69 := Kd.R_putg HO_8.out (((rd_T64 l0_1 x11_4).f0) : Int) (wrap64 (x10_3 + 1))
                         go_wp2_with (first | ((with_reducible refine gate_store (t := 3) (p := 112) rfl ?_); (try (rw [drewN_self wc]; generalize hq_ : World.drewN wc _ = wc; have n0_ := Aside0.mk (Kd.R_at hq_ HO_7.out); have n1_ := Aside0.mk (Kd.R_at hq_ HO_8.out); have n2_ := Aside0.mk (blk_at hq_ BK121.out); have n3_ := Aside0.mk (below_at hq_ HB.out); clear hq_ HO_7 HO_8 BK121 HB; have HO_7 := n0_; have HO_8 := n1_; have BK121 := n2_; have HB := n3_; clear n0_ n1_ n2_ n3_; (try (have HP69 := Kd.R_putg HO_8.out (((rd_T64 l0_1 x11_4).f0) : Int) (wrap64 (x10_3 + 1)))))); refine store_event (t := 3) (p := 112) (v := ?vo_w70) (w1 := (wc.setCell ⟨go30, (((rd_T64 l0_1 x11_4).f0) : Int).toNat, none⟩ (.int .i64 (wrap64 (x10_3 + 1))))) ?hg ?ho ?hn ?hr ?_; (case ho => rfl); (case hg => rfl); (case hn => rfl); (case hr => first | (go_simp; done) | (go_simp; rfl)); intro w70 hw; have hg : wc.grownBy w70 (some go30) := (by rw [hw]; exact HP69.2); have hp_ : Kd.R (Kd.int .i64) 3 w70 w.heap.size (fun k_ => some k_ ≠ (v123 : Value).ownBlock) (.slice (some ⟨go30, 0, none⟩) x8_4.length co30) y145 := (by rw [hw, Ny145.out]; exact HP69.1); clear HP69; have n0_ := Aside0.mk (Kd.R_after (v := (.slice (some ⟨go30, 0, none⟩) x8_4.length co30)) (v1 := (.slice (some ⟨go30, 0, none⟩) x8_4.length co30)) (ok := (fun _ => True)) (by (with_reducible repeat (first | apply Kd.R_alloc | apply Kd.R_drewN | apply Kd.R_drew)); exact Kd.R_mono HO_7.out (fun _ hk => ⟨trivial, hk⟩)) hg (.inl rfl)); have n1_ := Aside0.mk (hp_); have n2_ := Aside0.mk (blk_grown (g := gb121) (o := .cells #[.int .i64 a0_0, .slice (some ad135) l0_1.length c0_1] 31 (0, 0)) (by (with_reducible repeat (first | refine blk_drewN ?_ _ | refine blk_drew ?_ | refine blk_alloc ?_ _)); exact BK121.out) hg (Kd.R_ne HO_8.out BK121.out (by decide))); have n3_ := Aside0.mk ((by rw [hw]; exact below_set (HB.out) GB30.out : Below w.heap.size w w70)); clear HO_7; clear HO_8; clear BK121; clear HB; have HO_7 := n0_; have HO_8 := n1_; have BK121 := n2_; have HB := n3_; clear n0_ n1_ n2_ n3_; clear hg hw hp_))
                         (try simp only [← hl8_4])
                         go_roundg kj37
                         case measure => have := HJ3.out; have := HK2.out; have := HK3.out; have := HK4.out; have := HJ37.out; omega
                         case rel => exact ⟨(y145), (wrap64 (x11_4 + 1)), (by first | rfl | (simp; done) | (simp [*]; done)), H', ⟨by have := HJ3.out; have := HK2.out; have := HK3.out; have := HK4.out; have := HJ37.out; omega⟩, ⟨by (try simp only [hl8_3]); (try simp only [hl8_4]); (with_reducible repeat (first | apply Kd.R_alloc | apply Kd.R_drewN | apply Kd.R_drew)); exact Kd.R_mono HO_7.out (fun _ hk => hk.2)⟩, ⟨by (try simp only [hl8_3]); (try simp only [hl8_4]); (with_reducible repeat (first | apply Kd.R_alloc | apply Kd.R_drewN | apply Kd.R_drew)); exact HO_8.out⟩, ⟨by (try simp only [hl8_3]); (try simp only [hl8_4]); (with_reducible repeat (first | refine blk_drewN ?_ _ | refine blk_drew ?_ | refine blk_alloc ?_ _)); exact BK121.out⟩, ⟨by repeat (first | (with_reducible first | exact HB.out | apply below_alloc | apply pw_below_drewN | apply below_drew1 | refine below_set ?_ GE121.out) | exact HB.out)⟩⟩
                        ·rw [if_neg c67] at H
                         have c67b0 : decide ((rd x8_4 ((rd_T64 l0_1 x11_4).f0)) < 0) = false := decide_eq_false c67
                         clear c67
                         have H' := Aside0.mk H
                         clear H
                         have p143 : 0 ≤ (((rd_T64 l0_1 x11_4).f1) : Int) := of_decide_eq_true (by first | (with_reducible assumption) | assumption)
                         have q143 : ((rd_T64 l0_1 x11_4).f1) < (x8_4.length : Int) := of_decide_eq_true (by first | (with_reducible assumption) | assumption)
                         obtain ⟨ad143, e143, hx143_0⟩ := Kd.at_int (Kd.R_reads' HO_8.out).2.2 ((rd_T64 l0_1 x11_4).f1) p143 q143
                         obtain rfl : (⟨go30, 0, none⟩ : Addr) = ad143 := (by injection e143)
                         (first | simp only [add_plain] at hx143_0 | simp only [add_at] at hx143_0 | simp only [Addr.add, Nat.zero_add] at hx143_0 | skip)
                         replace p143 := eq_true p143
                         replace q143 := eq_true q143
                         have p144 : 0 ≤ (((rd_T64 l0_1 x11_4).f0) : Int) := of_decide_eq_true (by first | (with_reducible assumption) | assumption)
                         have q144 : ((rd_T64 l0_1 x11_4).f0) < (x8_4.length : Int) := of_decide_eq_true (by first | (with_reducible assumption) | assumption)
                         obtain ⟨ad144, e144, hx144_0⟩ := Kd.at_int (Kd.R_reads' HO_8.out).2.2 ((rd_T64 l0_1 x11_4).f0) p144 q144
                         obtain rfl : (⟨go30, 0, none⟩ : Addr) = ad144 := (by injection e144)
                         (first | simp only [add_plain] at hx144_0 | simp only [add_at] at hx144_0 | simp only [Addr.add, Nat.zero_add] at hx144_0 | skip)
                         replace p144 := eq_true p144
                         replace q144 := eq_true q144
                         go_wp2
                         (try simp only [← hl8_4])
                         go_roundg kj37
                         case measure => have := HJ3.out; have := HK2.out; have := HK3.out; have := HK4.out; have := HJ37.out; omega
                         case rel => exact ⟨(x8_4), (wrap64 (x11_4 + 1)), (by first | rfl | (simp; done) | (simp [*]; done)), H', ⟨by have := HJ3.out; have := HK2.out; have := HK3.out; have := HK4.out; have := HJ37.out; omega⟩, ⟨by (try simp only [hl8_3]); (try simp only [hl8_4]); (with_reducible repeat (first | apply Kd.R_alloc | apply Kd.R_drewN | apply Kd.R_drew)); exact HO_7.out⟩, ⟨by (try simp only [hl8_3]); (try simp only [hl8_4]); (with_reducible repeat (first | apply Kd.R_alloc | apply Kd.R_drewN | apply Kd.R_drew)); exact HO_8.out⟩, ⟨by (try simp only [hl8_3]); (try simp only [hl8_4]); (with_reducible repeat (first | refine blk_drewN ?_ _ | refine blk_drew ?_ | refine blk_alloc ?_ _)); exact BK121.out⟩, ⟨by repeat (first | (with_reducible first | exact HB.out | apply below_alloc | apply pw_below_drewN | apply below_drew1 | refine below_set ?_ GE121.out) | exact HB.out)⟩⟩
                       ·rw [if_neg c66] at H
                        exact absurd H (by simp)
                      ·rw [if_neg c65] at H
                       exact absurd H (by simp)
                     ·rw [if_neg c64] at H
                      have c64b0 : ((rd x8_4 ((rd_T64 l0_1 x11_4).f1)) == x10_3) = false := beq_eq_false_iff_ne.mpr c64
                      have c64b1 : ((rd x8_4 ((rd_T64 l0_1 x11_4).f1)) != x10_3) = true := bne_iff_ne.mpr c64
                      have H' := Aside0.mk H
                      clear H
                      have p143 : 0 ≤ (((rd_T64 l0_1 x11_4).f1) : Int) := of_decide_eq_true (by first | (with_reducible assumption) | assumption)
                      have q143 : ((rd_T64 l0_1 x11_4).f1) < (x8_4.length : Int) := of_decide_eq_true (by first | (with_reducible assumption) | assumption)
                      obtain ⟨ad143, e143, hx143_0⟩ := Kd.at_int (Kd.R_reads' HO_8.out).2.2 ((rd_T64 l0_1 x11_4).f1) p143 q143
                      obtain rfl : (⟨go30, 0, none⟩ : Addr) = ad143 := (by injection e143)
                      (first | simp only [add_plain] at hx143_0 | simp only [add_at] at hx143_0 | simp only [Addr.add, Nat.zero_add] at hx143_0 | skip)
                      replace p143 := eq_true p143
                      replace q143 := eq_true q143
                      go_wp2
                      (try simp only [← hl8_4])
                      go_roundg kj37
                      case measure => have := HJ3.out; have := HK2.out; have := HK3.out; have := HK4.out; have := HJ37.out; omega
                      case rel => exact ⟨(x8_4), (wrap64 (x11_4 + 1)), (by first | rfl | (simp; done) | (simp [*]; done)), H', ⟨by have := HJ3.out; have := HK2.out; have := HK3.out; have := HK4.out; have := HJ37.out; omega⟩, ⟨by (try simp only [hl8_3]); (try simp only [hl8_4]); (with_reducible repeat (first | apply Kd.R_alloc | apply Kd.R_drewN | apply Kd.R_drew)); exact HO_7.out⟩, ⟨by (try simp only [hl8_3]); (try simp only [hl8_4]); (with_reducible repeat (first | apply Kd.R_alloc | apply Kd.R_drewN | apply Kd.R_drew)); exact HO_8.out⟩, ⟨by (try simp only [hl8_3]); (try simp only [hl8_4]); (with_reducible repeat (first | refine blk_drewN ?_ _ | refine blk_drew ?_ | refine blk_alloc ?_ _)); exact BK121.out⟩, ⟨by repeat (first | (with_reducible first | exact HB.out | apply below_alloc | apply pw_below_drewN | apply below_drew1 | refine below_set ?_ GE121.out) | exact HB.out)⟩⟩
                    ·rw [if_neg c63] at H
                     exact absurd H (by simp)
                   ·rw [if_neg c62] at H
                    exact absurd H (by simp)
               ·rw [if_neg c37] at H
                exact absurd H (by simp)
              ·rw [if_neg c36] at H
               have c36b0 : decide (x11_4 < (l0_1.length : Int)) = false := decide_eq_false c36; (try (have c36b0z0 := c36b0; rw [hl8_3] at c36b0z0)); (try (have c36b0z1 := c36b0; rw [hl8_4] at c36b0z1))
               clear c36
               have H' := Aside0.mk H
               clear H
               have hcz71_0 : wr.cell? ⟨gb121, 0, none⟩ = some (.int .i64 a0_0) := (blk_cell BK121.out 0).trans rfl
               have hcz71_1 : wr.cell? ⟨gb121, 1, none⟩ = some (.slice A0_1 l0_1.length c0_1) := (blk_cell BK121.out 1).trans rfl
               have hfz71_0 := blk_frozen BK121.out 0
               have hfz71_1 := blk_frozen BK121.out 1
               go_wp2
               (try simp only [← hl8_3, ← hl8_4])
               go_roundg k4
               case measure => have := HJ3.out; have := HK2.out; have := HK3.out; have := HK4.out; omega
               case rel => exact ⟨(x8_4), (wrap64 (x10_3 + 1)), (by first | rfl | (simp; done) | (simp [*]; done)), H', ⟨by have := HJ3.out; have := HK2.out; have := HK3.out; have := HK4.out; omega⟩, ⟨by (try simp only [hl8_3]); (try simp only [hl8_4]); (with_reducible repeat (first | apply Kd.R_alloc | apply Kd.R_drewN | apply Kd.R_drew)); exact HO_7.out⟩, ⟨by (try simp only [hl8_3]); (try simp only [hl8_4]); (with_reducible repeat (first | apply Kd.R_alloc | apply Kd.R_drewN | apply Kd.R_drew)); exact HO_8.out⟩, ⟨by (try simp only [hl8_3]); (try simp only [hl8_4]); (with_reducible repeat (first | refine blk_drewN ?_ _ | refine blk_drew ?_ | refine blk_alloc ?_ _)); exact BK121.out⟩, ⟨by repeat (first | (with_reducible first | exact HB.out | apply below_alloc | apply pw_below_drewN | apply below_drew1 | refine below_set ?_ GE121.out) | exact HB.out)⟩⟩
           ·rw [if_neg c34] at H
            have c34b0 : decide (x10_3 < a0_0) = false := decide_eq_false c34
            clear c34
            by_cases c72 : 0 ≤ a1
            ·rw [if_pos c72] at H
             have c72b0 : decide (0 ≤ a1) = true := decide_eq_true c72
             clear c72
             by_cases c73 : a1 < (x8_3.length : Int)
             ·rw [if_pos c73] at H
              have c73b0 : decide (a1 < (x8_3.length : Int)) = true := decide_eq_true c73; (try (have c73b0z0 := c73b0; rw [hl8_3] at c73b0z0))
              clear c73
              by_cases c74 : (rd x8_3 a1) < 0
              ·rw [if_pos c74] at H
               have c74b0 : decide ((rd x8_3 a1) < 0) = true := decide_eq_true c74
               clear c74
               obtain rfl := Option.some.inj H
               have hcz75_0 : wr.cell? ⟨gb121, 0, none⟩ = some (.int .i64 a0_0) := (blk_cell BK121.out 0).trans rfl
               have hcz75_1 : wr.cell? ⟨gb121, 1, none⟩ = some (.slice A0_1 l0_1.length c0_1) := (blk_cell BK121.out 1).trans rfl
               have hfz75_0 := blk_frozen BK121.out 0
               have hfz75_1 := blk_frozen BK121.out 1
               have p146 : 0 ≤ (a1 : Int) := of_decide_eq_true (by first | (with_reducible assumption) | assumption)
               have q146 : a1 < (x8_3.length : Int) := of_decide_eq_true (by first | (with_reducible assumption) | assumption)
               obtain ⟨ad146, e146, hx146_0⟩ := Kd.at_int (Kd.R_reads' HO_8.out).2.2 a1 p146 q146
               obtain rfl : (⟨go30, 0, none⟩ : Addr) = ad146 := (by injection e146)
               (first | simp only [add_plain] at hx146_0 | simp only [add_at] at hx146_0 | simp only [Addr.add, Nat.zero_add] at hx146_0 | skip)
               replace p146 := eq_true p146
               replace q146 := eq_true q146
               go_wp2
               go_ret
               exact ⟨_, by first | rfl | (simp [errW_none, errW_some] <;> rfl) | (simp [*, errW_none, errW_some] <;> rfl), by (with_reducible repeat (first | apply Kd.R_alloc | apply Kd.R_drewN | apply Kd.R_drew)); exact Kd.R_mono HO_7.out (fun _ hk => trivial), by repeat (first | (with_reducible first | exact HB.out | apply below_alloc | apply pw_below_drewN | apply below_drew1 | refine below_set ?_ GE121.out) | exact HB.out)⟩
              ·rw [if_neg c74] at H
               have c74b0 : decide ((rd x8_3 a1) < 0) = false := decide_eq_false c74
               clear c74
               have H' := Aside0.mk H
               clear H
               have hcz76_0 : wr.cell? ⟨gb121, 0, none⟩ = some (.int .i64 a0_0) := (blk_cell BK121.out 0).trans rfl
               have hcz76_1 : wr.cell? ⟨gb121, 1, none⟩ = some (.slice A0_1 l0_1.length c0_1) := (blk_cell BK121.out 1).trans rfl
               have hfz76_0 := blk_frozen BK121.out 0
               have hfz76_1 := blk_frozen BK121.out 1
               have p146 : 0 ≤ (a1 : Int) := of_decide_eq_true (by first | (with_reducible assumption) | assumption)
               have q146 : a1 < (x8_3.length : Int) := of_decide_eq_true (by first | (with_reducible assumption) | assumption)
               obtain ⟨ad146, e146, hx146_0⟩ := Kd.at_int (Kd.R_reads' HO_8.out).2.2 a1 p146 q146
               obtain rfl : (⟨go30, 0, none⟩ : Addr) = ad146 := (by injection e146)
               (first | simp only [add_plain] at hx146_0 | simp only [add_at] at hx146_0 | simp only [Addr.add, Nat.zero_add] at hx146_0 | skip)
               replace p146 := eq_true p146
               replace q146 := eq_true q146
               go_wp2
               go_loopg [7, 14] k3 (fun kq v7 v14 w' => ∃ (x7_4 : List Int) (x14_4 : Int), v14 = .int .i64 x14_4 ∧ Aside0 (spec_RouteTo.l3 kq a2 x7_4 x8_3 x14_4 a0_0 l0_1 = some r) ∧ Aside0 (kq ≤ k3) ∧ Aside0 (Kd.R (Kd.int .i64) 3 w' w.heap.size (fun k_ => some k_ ≠ ((.slice (some ⟨go30, 0, none⟩) x8_3.length co30) : Value).ownBlock) v7 x7_4) ∧ Aside0 (Kd.R (Kd.int .i64) 3 w' w.heap.size (fun k_ => some k_ ≠ (v7 : Value).ownBlock) (.slice (some ⟨go30, 0, none⟩) x8_3.length co30) x8_3) ∧ Aside0 (w'.heap[gb121]? = some (.cells #[.int .i64 a0_0, (.slice A0_1 l0_1.length c0_1)] 31 (0, 0))) ∧ Aside0 (Below w.heap.size w w'))
               case atStart => exact ⟨(y122), (a1), (by first | rfl | (simp; done) | (simp [*]; done)), H', ⟨Nat.le_refl _⟩, ⟨by (try simp only [hl8_3]); (with_reducible repeat (first | apply Kd.R_alloc | apply Kd.R_drewN | apply Kd.R_drew)); exact HO_7.out⟩, ⟨by (try simp only [hl8_3]); (with_reducible repeat (first | apply Kd.R_alloc | apply Kd.R_drewN | apply Kd.R_drew)); exact HO_8.out⟩, ⟨by (try simp only [hl8_3]); (with_reducible repeat (first | refine blk_drewN ?_ _ | refine blk_drew ?_ | refine blk_alloc ?_ _)); exact BK121.out⟩, ⟨by repeat (first | (with_reducible first | exact HB.out | apply below_alloc | apply pw_below_drewN | apply below_drew1 | refine below_set ?_ GE121.out) | exact HB.out)⟩⟩
               case round =>
                clear H'
                (try clear c1); (try clear p1); (try clear q1); (try clear hx1); (try clear c2); (try clear p2); (try clear c3); (try clear p3); (try clear q3); (try clear hx3); (try clear hf3); (try clear c4); (try clear p4); (try clear q4); (try clear hx4); (try clear hf4); (try clear c5); (try clear p5); (try clear q5); (try clear hx5); (try clear hf5); (try clear c6); (try clear p6); (try clear q6); (try clear hx6); (try clear hf6); (try clear c7); (try clear c9); (try clear c11); (try clear p13); (try clear q13); (try clear hx13); (try clear p14); (try clear q14); (try clear hx14); (try clear c21); (try clear c24); (try clear c24b0); (try clear c25); (try clear c28); (try clear c28b0); (try clear c29); (try clear c29b0); (try clear p30); (try clear q30); (try clear hx30); (try clear hf30); (try clear c34); (try clear c34b0); (try clear c36); (try clear c36b0); (try clear c37); (try clear c37b0); (try clear c40); (try clear c40b0); (try clear c41); (try clear c41b0); (try clear c42); (try clear c42b0); (try clear c42b1); (try clear c43); (try clear c43b0); (try clear c44); (try clear c44b0); (try clear c45); (try clear c46); (try clear c46b0); (try clear c47); (try clear c47b0); (try clear p48); (try clear q48); (try clear hx48); (try clear hf48); (try clear c49); (try clear c49b0); (try clear c49b1); (try clear c50); (try clear c50b0); (try clear c51); (try clear c51b0); (try clear c52); (try clear c52b0); (try clear p53); (try clear q53); (try clear hx53); (try clear hf53); (try clear c62); (try clear c62b0); (try clear c63); (try clear c63b0); (try clear c64); (try clear c64b0); (try clear c64b1); (try clear p64); (try clear c65); (try clear c65b0); (try clear c66); (try clear c66b0); (try clear c67); (try clear c67b0); (try clear p68); (try clear q68); (try clear hx68); (try clear hf68); (try clear c72); (try clear c72b0); (try clear c73); (try clear c73b0); (try clear c74); (try clear c74b0); (try clear hcz13_0); (try clear hcz13_1); (try clear hcz15_0); (try clear hcz15_1); (try clear hcz16_0); (try clear hcz16_1); (try clear hcz18_0); (try clear hcz18_1); (try clear hcz19_0); (try clear hcz19_1); (try clear hcz26_0); (try clear hcz26_1); (try clear hcz31_0); (try clear hcz31_1); (try clear hcz35_0); (try clear hcz35_1); (try clear hcz39_0); (try clear hcz39_1); (try clear hcz71_0); (try clear hcz71_1); (try clear hcz75_0); (try clear hcz75_1); (try clear hcz76_0); (try clear hcz76_1); (try clear hfz13_0); (try clear hfz13_1); (try clear hfz15_0); (try clear hfz15_1); (try clear hfz16_0); (try clear hfz16_1); (try clear hfz18_0); (try clear hfz18_1); (try clear hfz19_0); (try clear hfz19_1); (try clear hfz26_0); (try clear hfz26_1); (try clear hfz31_0); (try clear hfz31_1); (try clear hfz35_0); (try clear hfz35_1); (try clear hfz39_0); (try clear hfz39_1); (try clear hfz71_0); (try clear hfz71_1); (try clear hfz75_0); (try clear hfz75_1); (try clear hfz76_0); (try clear hfz76_1); (try clear hx135_0); (try clear hx135_1); (try clear hx136_0); (try clear hx136_1); (try clear hx137_0); (try clear hx138_0); (try clear hx140_0); (try clear hx141_0); (try clear hx143_0); (try clear hx144_0); (try clear hx146_0); (try clear hx30_0); (try clear hx48_0); (try clear hx53_0); (try clear hx68_0); (try clear p1); (try clear p13); (try clear p135); (try clear p136); (try clear p137); (try clear p138); (try clear p140); (try clear p141); (try clear p143); (try clear p144); (try clear p146); (try clear p2); (try clear p3); (try clear p30); (try clear p48); (try clear p53); (try clear p6); (try clear p68); (try clear q1); (try clear q13); (try clear q135); (try clear q136); (try clear q137); (try clear q138); (try clear q140); (try clear q141); (try clear q143); (try clear q144); (try clear q146); (try clear q3); (try clear q30); (try clear q48); (try clear q53); (try clear q68)
                obtain ⟨x7_4, x14_4, rfl, HA, HK4, HO_7, HO_8, BK121, HB⟩ := hrel
                cases gk with
                | zero => exact absurd HA.out (by simp [spec_RouteTo.l3])
                | succ k4 =>
                 have H := HA.out
                 clear HA
                 simp only [spec_RouteTo.l3] at H
                 by_cases c77 : x14_4 = a2
                 ·rw [if_pos c77] at H
                  have c77b0 : (x14_4 == a2) = true := beq_iff_eq.mpr c77
                  have c77b1 : (x14_4 != a2) = false := bne_eq_false_iff_eq.mpr c77
                  clear c77
                  obtain rfl := Option.some.inj H
                  go_wp2
                  go_ret
                  exact ⟨_, by first | rfl | (simp [errW_none, errW_some] <;> rfl) | (simp [*, errW_none, errW_some] <;> rfl), by (with_reducible repeat (first | apply Kd.R_alloc | apply Kd.R_drewN | apply Kd.R_drew)); exact Kd.R_mono HO_7.out (fun _ hk => trivial), by repeat (first | (with_reducible first | exact HB.out | apply below_alloc | apply pw_below_drewN | apply below_drew1 | refine below_set ?_ GE121.out) | exact HB.out)⟩
                 ·rw [if_neg c77] at H
                  have c77b0 : (x14_4 == a2) = false := beq_eq_false_iff_ne.mpr c77
                  have c77b1 : (x14_4 != a2) = true := bne_iff_ne.mpr c77
                  have H' := Aside0.mk H
                  clear H
                  go_wp2
                  go_loopg [15, 16] k4 (fun kq v15 v16 w' => ∃ (x15_5 : Int) (x16_5 : Int), v15 = .int .i64 x15_5 ∧ v16 = .int .i64 x16_5 ∧ Aside0 (spec_RouteTo.l4 kq a2 x7_4 x8_3 x14_4 x15_5 x16_5 a0_0 l0_1 = some r) ∧ Aside0 (kq ≤ k4) ∧ Aside0 (Kd.R (Kd.int .i64) 3 w' w.heap.size (fun k_ => some k_ ≠ ((.slice (some ⟨go30, 0, none⟩) x8_3.length co30) : Value).ownBlock) u7 x7_4) ∧ Aside0 (Kd.R (Kd.int .i64) 3 w' w.heap.size (fun k_ => some k_ ≠ (u7 : Value).ownBlock) (.slice (some ⟨go30, 0, none⟩) x8_3.length co30) x8_3) ∧ Aside0 (w'.heap[gb121]? = some (.cells #[.int .i64 a0_0, (.slice A0_1 l0_1.length c0_1)] 31 (0, 0))) ∧ Aside0 (Below w.heap.size w w'))
                  case atStart => exact ⟨((-1)), (0), (by first | rfl | (simp; done) | (simp [*]; done)), (by first | rfl | (simp; done) | (simp [*]; done)), H', ⟨Nat.le_refl _⟩, ⟨by (try simp only [hl8_3]); (with_reducible repeat (first | apply Kd.R_alloc | apply Kd.R_drewN | apply Kd.R_drew)); exact HO_7.out⟩, ⟨by (try simp only [hl8_3]); (with_reducible repeat (first | apply Kd.R_alloc | apply Kd.R_drewN | apply Kd.R_drew)); exact HO_8.out⟩, ⟨by (try simp only [hl8_3]); (with_reducible repeat (first | refine blk_drewN ?_ _ | refine blk_drew ?_ | refine blk_alloc ?_ _)); exact BK121.out⟩, ⟨by repeat (first | (with_reducible first | exact HB.out | apply below_alloc | apply pw_below_drewN | apply below_drew1 | refine below_set ?_ GE121.out) | exact HB.out)⟩⟩
                  case round =>
                   clear H'
                   (try clear c1); (try clear p1); (try clear q1); (try clear hx1); (try clear c2); (try clear p2); (try clear c3); (try clear p3); (try clear q3); (try clear hx3); (try clear hf3); (try clear c4); (try clear p4); (try clear q4); (try clear hx4); (try clear hf4); (try clear c5); (try clear p5); (try clear q5); (try clear hx5); (try clear hf5); (try clear c6); (try clear p6); (try clear q6); (try clear hx6); (try clear hf6); (try clear c7); (try clear c9); (try clear c11); (try clear p13); (try clear q13); (try clear hx13); (try clear p14); (try clear q14); (try clear hx14); (try clear c21); (try clear c24); (try clear c24b0); (try clear c25); (try clear c28); (try clear c28b0); (try clear c29); (try clear c29b0); (try clear p30); (try clear q30); (try clear hx30); (try clear hf30); (try clear c34); (try clear c34b0); (try clear c36); (try clear c36b0); (try clear c37); (try clear c37b0); (try clear c40); (try clear c40b0); (try clear c41); (try clear c41b0); (try clear c42); (try clear c42b0); (try clear c42b1); (try clear c43); (try clear c43b0); (try clear c44); (try clear c44b0); (try clear c45); (try clear c46); (try clear c46b0); (try clear c47); (try clear c47b0); (try clear p48); (try clear q48); (try clear hx48); (try clear hf48); (try clear c49); (try clear c49b0); (try clear c49b1); (try clear c50); (try clear c50b0); (try clear c51); (try clear c51b0); (try clear c52); (try clear c52b0); (try clear p53); (try clear q53); (try clear hx53); (try clear hf53); (try clear c62); (try clear c62b0); (try clear c63); (try clear c63b0); (try clear c64); (try clear c64b0); (try clear c64b1); (try clear p64); (try clear c65); (try clear c65b0); (try clear c66); (try clear c66b0); (try clear c67); (try clear c67b0); (try clear p68); (try clear q68); (try clear hx68); (try clear hf68); (try clear c72); (try clear c72b0); (try clear c73); (try clear c73b0); (try clear c74); (try clear c74b0); (try clear c77); (try clear c77b0); (try clear c77b1); (try clear hcz13_0); (try clear hcz13_1); (try clear hcz15_0); (try clear hcz15_1); (try clear hcz16_0); (try clear hcz16_1); (try clear hcz18_0); (try clear hcz18_1); (try clear hcz19_0); (try clear hcz19_1); (try clear hcz26_0); (try clear hcz26_1); (try clear hcz31_0); (try clear hcz31_1); (try clear hcz35_0); (try clear hcz35_1); (try clear hcz39_0); (try clear hcz39_1); (try clear hcz71_0); (try clear hcz71_1); (try clear hcz75_0); (try clear hcz75_1); (try clear hcz76_0); (try clear hcz76_1); (try clear hfz13_0); (try clear hfz13_1); (try clear hfz15_0); (try clear hfz15_1); (try clear hfz16_0); (try clear hfz16_1); (try clear hfz18_0); (try clear hfz18_1); (try clear hfz19_0); (try clear hfz19_1); (try clear hfz26_0); (try clear hfz26_1); (try clear hfz31_0); (try clear hfz31_1); (try clear hfz35_0); (try clear hfz35_1); (try clear hfz39_0); (try clear hfz39_1); (try clear hfz71_0); (try clear hfz71_1); (try clear hfz75_0); (try clear hfz75_1); (try clear hfz76_0); (try clear hfz76_1); (try clear hx135_0); (try clear hx135_1); (try clear hx136_0); (try clear hx136_1); (try clear hx137_0); (try clear hx138_0); (try clear hx140_0); (try clear hx141_0); (try clear hx143_0); (try clear hx144_0); (try clear hx146_0); (try clear hx30_0); (try clear hx48_0); (try clear hx53_0); (try clear hx68_0); (try clear p1); (try clear p13); (try clear p135); (try clear p136); (try clear p137); (try clear p138); (try clear p14); (try clear p140); (try clear p141); (try clear p143); (try clear p144); (try clear p146); (try clear p2); (try clear p3); (try clear p30); (try clear p4); (try clear p48); (try clear p5); (try clear p53); (try clear p6); (try clear p64); (try clear p68); (try clear q1); (try clear q13); (try clear q135); (try clear q136); (try clear q137); (try clear q138); (try clear q14); (try clear q140); (try clear q141); (try clear q143); (try clear q144); (try clear q146); (try clear q3); (try clear q30); (try clear q4); (try clear q48); (try clear q5); (try clear q53); (try clear q6); (try clear q68)
                   obtain ⟨x15_5, x16_5, rfl, rfl, HA, HK5, HO_7, HO_8, BK121, HB⟩ := hrel
                   cases gk with
                   | zero => exact absurd HA.out (by simp [spec_RouteTo.l4])
                   | succ k5 =>
                    have H := HA.out
                    clear HA
                    simp only [spec_RouteTo.l4] at H
                    have HC78 := Aside0.mk H
                    clear H
                    go_upto_region 28 with (fail)
                    go_cut [131] (fun v131 wc => ∃ (kq : Nat) (x131_77 : Bool), v131 = .bool x131_77 ∧ Aside0 (spec_RouteTo.j7 kq a2 x7_4 x8_3 x14_4 x15_5 x16_5 x131_77 a0_0 l0_1 = some r) ∧ Aside0 (kq ≤ k5) ∧ Aside0 (Kd.R (Kd.int .i64) 3 wc w.heap.size (fun k_ => some k_ ≠ ((.slice (some ⟨go30, 0, none⟩) x8_3.length co30) : Value).ownBlock) u7 x7_4) ∧ Aside0 (Kd.R (Kd.int .i64) 3 wc w.heap.size (fun k_ => some k_ ≠ (u7 : Value).ownBlock) (.slice (some ⟨go30, 0, none⟩) x8_3.length co30) x8_3) ∧ Aside0 (wc.heap[gb121]? = some (.cells #[.int .i64 a0_0, (.slice A0_1 l0_1.length c0_1)] 31 (0, 0))) ∧ Aside0 (Below w.heap.size w wc))
                    case first =>
                     have H := HC78.out
                     clear HC78
                     by_cases c79 : x16_5 < (l0_1.length : Int)
                     ·rw [if_pos c79] at H
                      have c79b0 : decide (x16_5 < (l0_1.length : Int)) = true := decide_eq_true c79; (try (have c79b0z0 := c79b0; rw [hl8_3] at c79b0z0))
                      clear c79
                      (first | rw [c79b0] | (simp only [i64_w, i32_w]; rw [c79b0]) | skip)
                      have H' := Aside0.mk H
                      clear H
                      have hcz80_0 : wr.cell? ⟨gb121, 0, none⟩ = some (.int .i64 a0_0) := (blk_cell BK121.out 0).trans rfl
                      have hcz80_1 : wr.cell? ⟨gb121, 1, none⟩ = some (.slice A0_1 l0_1.length c0_1) := (blk_cell BK121.out 1).trans rfl
                      have hfz80_0 := blk_frozen BK121.out 0
                      have hfz80_1 := blk_frozen BK121.out 1
                      go_wp2
                      go_meet
                      case rel => exact ⟨_, (decide (x15_5 < 0)), (by first | rfl | (simp; done) | (simp [*]; done)), H', ⟨by have := HJ3.out; have := HK2.out; have := HK3.out; have := HK4.out; have := HK5.out; first | omega | exact Nat.le_refl _⟩, ⟨by (try simp only [hl8_3]); (with_reducible repeat (first | apply Kd.R_alloc | apply Kd.R_drewN | apply Kd.R_drew)); exact HO_7.out⟩, ⟨by (try simp only [hl8_3]); (with_reducible repeat (first | apply Kd.R_alloc | apply Kd.R_drewN | apply Kd.R_drew)); exact HO_8.out⟩, ⟨by (try simp only [hl8_3]); (with_reducible repeat (first | refine blk_drewN ?_ _ | refine blk_drew ?_ | refine blk_alloc ?_ _)); exact BK121.out⟩, ⟨by repeat (first | (with_reducible first | exact HB.out | apply below_alloc | apply pw_below_drewN | apply below_drew1 | refine below_set ?_ GE121.out) | exact HB.out)⟩⟩
                     ·rw [if_neg c79] at H
                      have c79b0 : decide (x16_5 < (l0_1.length : Int)) = false := decide_eq_false c79; (try (have c79b0z0 := c79b0; rw [hl8_3] at c79b0z0))
                      clear c79
                      (first | rw [c79b0] | (simp only [i64_w, i32_w]; rw [c79b0]) | skip)
                      have H' := Aside0.mk H
                      clear H
                      have hcz81_0 : wr.cell? ⟨gb121, 0, none⟩ = some (.int .i64 a0_0) := (blk_cell BK121.out 0).trans rfl
                      have hcz81_1 : wr.cell? ⟨gb121, 1, none⟩ = some (.slice A0_1 l0_1.length c0_1) := (blk_cell BK121.out 1).trans rfl
                      have hfz81_0 := blk_frozen BK121.out 0
                      have hfz81_1 := blk_frozen BK121.out 1
                      go_wp2
                      go_meet
                      case rel => exact ⟨_, (false), (by first | rfl | (simp; done) | (simp [*]; done)), H', ⟨by have := HJ3.out; have := HK2.out; have := HK3.out; have := HK4.out; have := HK5.out; first | omega | exact Nat.le_refl _⟩, ⟨by (try simp only [hl8_3]); (with_reducible repeat (first | apply Kd.R_alloc | apply Kd.R_drewN | apply Kd.R_drew)); exact HO_7.out⟩, ⟨by (try simp only [hl8_3]); (with_reducible repeat (first | apply Kd.R_alloc | apply Kd.R_drewN | apply Kd.R_drew)); exact HO_8.out⟩, ⟨by (try simp only [hl8_3]); (with_reducible repeat (first | refine blk_drewN ?_ _ | refine blk_drew ?_ | refine blk_alloc ?_ _)); exact BK121.out⟩, ⟨by repeat (first | (with_reducible first | exact HB.out | apply below_alloc | apply pw_below_drewN | apply below_drew1 | refine below_set ?_ GE121.out) | exact HB.out)⟩⟩
                    case rest =>
                     clear HC78
                     (try clear c1); (try clear p1); (try clear q1); (try clear hx1); (try clear c2); (try clear p2); (try clear c3); (try clear p3); (try clear q3); (try clear hx3); (try clear hf3); (try clear c4); (try clear p4); (try clear q4); (try clear hx4); (try clear hf4); (try clear c5); (try clear p5); (try clear q5); (try clear hx5); (try clear hf5); (try clear c6); (try clear p6); (try clear q6); (try clear hx6); (try clear hf6); (try clear c7); (try clear c9); (try clear c11); (try clear p13); (try clear q13); (try clear hx13); (try clear p14); (try clear q14); (try clear hx14); (try clear c21); (try clear c24); (try clear c24b0); (try clear c25); (try clear c28); (try clear c28b0); (try clear c29); (try clear c29b0); (try clear p30); (try clear q30); (try clear hx30); (try clear hf30); (try clear c34); (try clear c34b0); (try clear c36); (try clear c36b0); (try clear c37); (try clear c37b0); (try clear c40); (try clear c40b0); (try clear c41); (try clear c41b0); (try clear c42); (try clear c42b0); (try clear c42b1); (try clear c43); (try clear c43b0); (try clear c44); (try clear c44b0); (try clear c45); (try clear c46); (try clear c46b0); (try clear c47); (try clear c47b0); (try clear p48); (try clear q48); (try clear hx48); (try clear hf48); (try clear c49); (try clear c49b0); (try clear c49b1); (try clear c50); (try clear c50b0); (try clear c51); (try clear c51b0); (try clear c52); (try clear c52b0); (try clear p53); (try clear q53); (try clear hx53); (try clear hf53); (try clear c62); (try clear c62b0); (try clear c63); (try clear c63b0); (try clear c64); (try clear c64b0); (try clear c64b1); (try clear p64); (try clear c65); (try clear c65b0); (try clear c66); (try clear c66b0); (try clear c67); (try clear c67b0); (try clear p68); (try clear q68); (try clear hx68); (try clear hf68); (try clear c72); (try clear c72b0); (try clear c73); (try clear c73b0); (try clear c74); (try clear c74b0); (try clear c77); (try clear c77b0); (try clear c77b1); (try clear c79); (try clear c79b0); (try clear hcz13_0); (try clear hcz13_1); (try clear hcz15_0); (try clear hcz15_1); (try clear hcz16_0); (try clear hcz16_1); (try clear hcz18_0); (try clear hcz18_1); (try clear hcz19_0); (try clear hcz19_1); (try clear hcz26_0); (try clear hcz26_1); (try clear hcz31_0); (try clear hcz31_1); (try clear hcz35_0); (try clear hcz35_1); (try clear hcz39_0); (try clear hcz39_1); (try clear hcz71_0); (try clear hcz71_1); (try clear hcz75_0); (try clear hcz75_1); (try clear hcz76_0); (try clear hcz76_1); (try clear hcz80_0); (try clear hcz80_1); (try clear hcz81_0); (try clear hcz81_1); (try clear hfz13_0); (try clear hfz13_1); (try clear hfz15_0); (try clear hfz15_1); (try clear hfz16_0); (try clear hfz16_1); (try clear hfz18_0); (try clear hfz18_1); (try clear hfz19_0); (try clear hfz19_1); (try clear hfz26_0); (try clear hfz26_1); (try clear hfz31_0); (try clear hfz31_1); (try clear hfz35_0); (try clear hfz35_1); (try clear hfz39_0); (try clear hfz39_1); (try clear hfz71_0); (try clear hfz71_1); (try clear hfz75_0); (try clear hfz75_1); (try clear hfz76_0); (try clear hfz76_1); (try clear hfz80_0); (try clear hfz80_1); (try clear hfz81_0); (try clear hfz81_1); (try clear hx135_0); (try clear hx135_1); (try clear hx136_0); (try clear hx136_1); (try clear hx137_0); (try clear hx138_0); (try clear hx140_0); (try clear hx141_0); (try clear hx143_0); (try clear hx144_0); (try clear hx146_0); (try clear hx30_0); (try clear hx48_0); (try clear hx53_0); (try clear hx68_0); (try clear p1); (try clear p13); (try clear p135); (try clear p136); (try clear p137); (try clear p138); (try clear p14); (try clear p140); (try clear p141); (try clear p143); (try clear p144); (try clear p146); (try clear p2); (try clear p3); (try clear p30); (try clear p4); (try clear p48); (try clear p5); (try clear p53); (try clear p6); (try clear p64); (try clear p68); (try clear q1); (try clear q13); (try clear q135); (try clear q136); (try clear q137); (try clear q138); (try clear q14); (try clear q140); (try clear q141); (try clear q143); (try clear q144); (try clear q146); (try clear q3); (try clear q30); (try clear q4); (try clear q48); (try clear q5); (try clear q53); (try clear q6); (try clear q68)
                     obtain ⟨kq, x131_77, rfl, HA, HJ77, HO_7, HO_8, BK121, HB⟩ := hcut
                     cases kq with
                     | zero => exact absurd HA.out (by simp [spec_RouteTo.j7])
                     | succ kj77 =>
                      have H := HA.out
                      clear HA
                      simp only [spec_RouteTo.j7] at H
                      by_cases c82 : x131_77 = true
                      ·subst c82
                       have H1 : ((spec_EndOf.f kj77 a0_0 l0_1 (([x16_5] : List Int)) x14_4).bind fun t150 => (if t150 ≥ 0 then (if 0 ≤ t150 then (if t150 < (x8_3.length : Int) then (if 0 ≤ x14_4 then (if x14_4 < (x8_3.length : Int) then (if (rd x8_3 t150) = (wrap64 ((rd x8_3 x14_4) - 1)) then (spec_RouteTo.l4 kj77 a2 x7_4 x8_3 x14_4 x16_5 (wrap64 (x16_5 + 1)) a0_0 l0_1) else (spec_RouteTo.l4 kj77 a2 x7_4 x8_3 x14_4 x15_5 (wrap64 (x16_5 + 1)) a0_0 l0_1)) else (none)) else (none)) else (none)) else (none)) else (spec_RouteTo.l4 kj77 a2 x7_4 x8_3 x14_4 x15_5 (wrap64 (x16_5 + 1)) a0_0 l0_1))) = some r := by rw [if_pos rfl] at H; exact H
                       clear H
                       have H := H1
                       clear H1
                       obtain ⟨y147, hy147⟩ : ∃ y_ : List Int, y_ = (([x16_5] : List Int)) := ⟨_, rfl⟩
                       replace H : ((spec_EndOf.f kj77 a0_0 l0_1 y147 x14_4).bind fun t150 => (if t150 ≥ 0 then (if 0 ≤ t150 then (if t150 < (x8_3.length : Int) then (if 0 ≤ x14_4 then (if x14_4 < (x8_3.length : Int) then (if (rd x8_3 t150) = (wrap64 ((rd x8_3 x14_4) - 1)) then (spec_RouteTo.l4 kj77 a2 x7_4 x8_3 x14_4 x16_5 (wrap64 (x16_5 + 1)) a0_0 l0_1) else (spec_RouteTo.l4 kj77 a2 x7_4 x8_3 x14_4 x15_5 (wrap64 (x16_5 + 1)) a0_0 l0_1)) else (none)) else (none)) else (none)) else (none)) else (spec_RouteTo.l4 kj77 a2 x7_4 x8_3 x14_4 x15_5 (wrap64 (x16_5 + 1)) a0_0 l0_1))) = some r := by first | (rw [hy147]; with_reducible exact H) | (have H2_ := (Option.bind_some _ _).symm.trans H; rw [hy147]; with_reducible exact H2_) | (have H2_ := (Option.bind_some _ _).symm.trans H; with_reducible exact H2_) | with_reducible exact H | (rw [hy147]; exact H) | exact H
                       have Ny147 := Aside0.mk hy147
                       clear hy147
                       replace H := Option.bind_eq_some_iff.mp H
                       obtain ⟨t150, A830, H⟩ := H
                       replace H : (if t150 ≥ 0 then (if 0 ≤ t150 then (if t150 < (x8_3.length : Int) then (if 0 ≤ x14_4 then (if x14_4 < (x8_3.length : Int) then (if (rd x8_3 t150) = (wrap64 ((rd x8_3 x14_4) - 1)) then (spec_RouteTo.l4 kj77 a2 x7_4 x8_3 x14_4 x16_5 (wrap64 (x16_5 + 1)) a0_0 l0_1) else (spec_RouteTo.l4 kj77 a2 x7_4 x8_3 x14_4 x15_5 (wrap64 (x16_5 + 1)) a0_0 l0_1)) else (none)) else (none)) else (none)) else (none)) else (spec_RouteTo.l4 kj77 a2 x7_4 x8_3 x14_4 x15_5 (wrap64 (x16_5 + 1)) a0_0 l0_1)) = some r := H
                       have A83 := Aside0.mk A830
                       clear A830
                       by_cases c84 : t150 ≥ 0
                       ·rw [if_pos c84] at H
                        have c84b0 : decide (0 ≤ t150) = true := decide_eq_true c84
                        clear c84
                        by_cases c85 : 0 ≤ t150
                        ·rw [if_pos c85] at H
                         have c85b0 : decide (0 ≤ t150) = true := decide_eq_true c85
                         clear c85
                         by_cases c86 : t150 < (x8_3.length : Int)
                         ·rw [if_pos c86] at H
                          have c86b0 : decide (t150 < (x8_3.length : Int)) = true := decide_eq_true c86; (try (have c86b0z0 := c86b0; rw [hl8_3] at c86b0z0))
                          clear c86
                          by_cases c87 : 0 ≤ x14_4
                          ·rw [if_pos c87] at H
                           have c87b0 : decide (0 ≤ x14_4) = true := decide_eq_true c87
                           clear c87
                           by_cases c88 : x14_4 < (x8_3.length : Int)
                           ·rw [if_pos c88] at H
                            have c88b0 : decide (x14_4 < (x8_3.length : Int)) = true := decide_eq_true c88; (try (have c88b0z0 := c88b0; rw [hl8_3] at c88b0z0))
                            clear c88
                            by_cases c89 : (rd x8_3 t150) = (wrap64 ((rd x8_3 x14_4) - 1))
                            ·rw [if_pos c89] at H
                             have c89b0 : ((rd x8_3 t150) == (wrap64 ((rd x8_3 x14_4) - 1))) = true := beq_iff_eq.mpr c89
                             have c89b1 : ((rd x8_3 t150) != (wrap64 ((rd x8_3 x14_4) - 1))) = false := bne_eq_false_iff_eq.mpr c89
                             clear c89
                             have H' := Aside0.mk H
                             clear H
                             have hcz90_0 : wc.cell? ⟨gb121, 0, none⟩ = some (.int .i64 a0_0) := (blk_cell BK121.out 0).trans rfl
                             have hcz90_1 : wc.cell? ⟨gb121, 1, none⟩ = some (.slice A0_1 l0_1.length c0_1) := (blk_cell BK121.out 1).trans rfl
                             have hfz90_0 := blk_frozen BK121.out 0
                             have hfz90_1 := blk_frozen BK121.out 1
                             go_wp2_with (first | ((with_reducible refine gate_dst (N := 136) rfl ?_); refine Kd.R_lit (Kd.int .i64) _ 3 ?hg (N := 136) ?hd (xs := ([x16_5] : List Int)) (inner := [.int .i64 x16_5]) (ok := fun _ => True) (okp := fun _ => True) ?hr ?hp (fun _ hk => hk) trivial (Below.refl _ _) (Nat.le_refl _) (by simp) ?_; (case hd => rfl); (case hg => rfl); (case hr => first | (go_simp; done) | (go_simp; rfl)); (case hp => exact (Reps.one (show Kd.M (Kd.int .i64) _ _ _ x16_5 [.int .i64 x16_5] from rfl) (Reps.none _ _))); intro v148 w91 ho92 hb hg_ hnew_; clear hg_ hnew_; (first | rw [← Ny147.out] at ho92 | (simp only [Int.reduceToNat] at ho92; rw [← Ny147.out] at ho92)); have n0_ := Aside0.mk (Kd.R_elder' (by (with_reducible repeat (first | apply Kd.R_alloc | apply Kd.R_drewN | apply Kd.R_drew)); exact HO_7.out) (Kd.R_base ho92) hb); have n1_ := Aside0.mk (Kd.R_elder' (by (with_reducible repeat (first | apply Kd.R_alloc | apply Kd.R_drewN | apply Kd.R_drew)); exact HO_8.out) (Kd.R_base ho92) hb); have n2_ := Aside0.mk (Kd.R_lower (Kd.R_new' (Kd.R_new' ho92 (Kd.R_lt (by (with_reducible repeat (first | apply Kd.R_alloc | apply Kd.R_drewN | apply Kd.R_drew)); exact HO_7.out))) (Kd.R_lt (by (with_reducible repeat (first | apply Kd.R_alloc | apply Kd.R_drewN | apply Kd.R_drew)); exact HO_8.out))) (below_size (by repeat (first | (with_reducible first | exact HB.out | apply below_alloc | apply pw_below_drewN | apply below_drew1 | refine below_set ?_ GE121.out) | exact HB.out)))); have n3_ := Aside0.mk (blk_below (g := gb121) (o := .cells #[.int .i64 a0_0, .slice A0_1 l0_1.length c0_1] 31 (0, 0)) (by (with_reducible repeat (first | refine blk_drewN ?_ _ | refine blk_drew ?_ | refine blk_alloc ?_ _)); exact BK121.out) hb); have n4_ := Aside0.mk (below_step (by repeat (first | (with_reducible first | exact HB.out | apply below_alloc | apply pw_below_drewN | apply below_drew1 | refine below_set ?_ GE121.out) | exact HB.out)) hb); clear HO_7; clear HO_8; clear BK121; clear HB; have HO_7 := n0_; have HO_8 := n1_; have HO149 := n2_; have BK121 := n3_; have HB := n4_; clear n0_ n1_ n2_ n3_ n4_; clear hb ho92; obtain ⟨Ao93, co93, eo93⟩ := Kd.R_slice HO149.out; subst eo93) | (go_at_call 67; (with_reducible refine (spec_EndOf.calls kj77 a0_0 _ _ l0_1 _ _ y147 x14_4 t150 _ ?side1 ?side2 ?side3 ?side4 A83.out).mono ?_); (case side1 => repeat (first | exact (Kd.C_below HR0_1.out HB.out) | (with_reducible refine Kd.C_alloc ?_ _) | (with_reducible refine Kd.C_drewN ?_ _) | (with_reducible refine Kd.C_drew ?_))); (case side2 => exact HC0_1.out); (case side3 => repeat (first | exact (Kd.R_reads' HO149.out).2.2 | (with_reducible refine Kd.C_alloc ?_ _) | (with_reducible refine Kd.C_drewN ?_ _) | (with_reducible refine Kd.C_drew ?_))); (case side4 => exact (Kd.R_reads' HO149.out).2.1); rintro e w94 ⟨rfl, hb⟩; have n0_ := Aside0.mk (Kd.R_below (by (with_reducible repeat (first | apply Kd.R_alloc | apply Kd.R_drewN | apply Kd.R_drew)); exact HO_7.out) hb); have n1_ := Aside0.mk (Kd.R_below (by (with_reducible repeat (first | apply Kd.R_alloc | apply Kd.R_drewN | apply Kd.R_drew)); exact HO_8.out) hb); have n2_ := Aside0.mk (Kd.R_below (by (with_reducible repeat (first | apply Kd.R_alloc | apply Kd.R_drewN | apply Kd.R_drew)); exact HO149.out) hb); have n3_ := Aside0.mk (blk_below (g := gb121) (o := .cells #[.int .i64 a0_0, .slice A0_1 l0_1.length c0_1] 31 (0, 0)) (by (with_reducible repeat (first | refine blk_drewN ?_ _ | refine blk_drew ?_ | refine blk_alloc ?_ _)); exact BK121.out) hb); have n4_ := Aside0.mk (below_step (by repeat (first | (with_reducible first | exact HB.out | apply below_alloc | apply pw_below_drewN | apply below_drew1 | refine below_set ?_ GE121.out) | exact HB.out)) hb); clear HO_7; clear HO_8; clear HO149; clear BK121; clear HB; have HO_7 := n0_; have HO_8 := n1_; have HO149 := n2_; have BK121 := n3_; have HB := n4_; clear n0_ n1_ n2_ n3_ n4_; (try clear hb); (try clear hb2); (try clear hk); (try clear hi); have p151 : 0 ≤ (t150 : Int) := of_decide_eq_true (by first | (with_reducible assumption) | assumption); have q151 : t150 < (x8_3.length : Int) := of_decide_eq_true (by first | (with_reducible assumption) | assumption); obtain ⟨ad151, e151, hx151_0⟩ := Kd.at_int (Kd.R_reads' HO_8.out).2.2 t150 p151 q151; obtain rfl : (⟨go30, 0, none⟩ : Addr) = ad151 := (by injection e151); (first | simp only [add_plain] at hx151_0 | simp only [add_at] at hx151_0 | simp only [Addr.add, Nat.zero_add] at hx151_0 | skip); replace p151 := eq_true p151; replace q151 := eq_true q151; have p152 : 0 ≤ (x14_4 : Int) := of_decide_eq_true (by first | (with_reducible assumption) | assumption); have q152 : x14_4 < (x8_3.length : Int) := of_decide_eq_true (by first | (with_reducible assumption) | assumption); obtain ⟨ad152, e152, hx152_0⟩ := Kd.at_int (Kd.R_reads' HO_8.out).2.2 x14_4 p152 q152; obtain rfl : (⟨go30, 0, none⟩ : Addr) = ad152 := (by injection e152); (first | simp only [add_plain] at hx152_0 | simp only [add_at] at hx152_0 | simp only [Addr.add, Nat.zero_add] at hx152_0 | skip); replace p152 := eq_true p152; replace q152 := eq_true q152))
                             repeat (go_quiet (first | ((with_reducible refine gate_dst (N := 136) rfl ?_); refine Kd.R_lit (Kd.int .i64) _ 3 ?hg (N := 136) ?hd (xs := ([x16_5] : List Int)) (inner := [.int .i64 x16_5]) (ok := fun _ => True) (okp := fun _ => True) ?hr ?hp (fun _ hk => hk) trivial (Below.refl _ _) (Nat.le_refl _) (by simp) ?_; (case hd => rfl); (case hg => rfl); (case hr => first | (go_simp; done) | (go_simp; rfl)); (case hp => exact (Reps.one (show Kd.M (Kd.int .i64) _ _ _ x16_5 [.int .i64 x16_5] from rfl) (Reps.none _ _))); intro v148 w91 ho92 hb hg_ hnew_; clear hg_ hnew_; (first | rw [← Ny147.out] at ho92 | (simp only [Int.reduceToNat] at ho92; rw [← Ny147.out] at ho92)); have n0_ := Aside0.mk (Kd.R_elder' (by (with_reducible repeat (first | apply Kd.R_alloc | apply Kd.R_drewN | apply Kd.R_drew)); exact HO_7.out) (Kd.R_base ho92) hb); have n1_ := Aside0.mk (Kd.R_elder' (by (with_reducible repeat (first | apply Kd.R_alloc | apply Kd.R_drewN | apply Kd.R_drew)); exact HO_8.out) (Kd.R_base ho92) hb); have n2_ := Aside0.mk (Kd.R_lower (Kd.R_new' (Kd.R_new' ho92 (Kd.R_lt (by (with_reducible repeat (first | apply Kd.R_alloc | apply Kd.R_drewN | apply Kd.R_drew)); exact HO_7.out))) (Kd.R_lt (by (with_reducible repeat (first | apply Kd.R_alloc | apply Kd.R_drewN | apply Kd.R_drew)); exact HO_8.out))) (below_size (by repeat (first | (with_reducible first | exact HB.out | apply below_alloc | apply pw_below_drewN | apply below_drew1 | refine below_set ?_ GE121.out) | exact HB.out)))); have n3_ := Aside0.mk (blk_below (g := gb121) (o := .cells #[.int .i64 a0_0, .slice A0_1 l0_1.length c0_1] 31 (0, 0)) (by (with_reducible repeat (first | refine blk_drewN ?_ _ | refine blk_drew ?_ | refine blk_alloc ?_ _)); exact BK121.out) hb); have n4_ := Aside0.mk (below_step (by repeat (first | (with_reducible first | exact HB.out | apply below_alloc | apply pw_below_drewN | apply below_drew1 | refine below_set ?_ GE121.out) | exact HB.out)) hb); clear HO_7; clear HO_8; clear BK121; clear HB; have HO_7 := n0_; have HO_8 := n1_; have HO149 := n2_; have BK121 := n3_; have HB := n4_; clear n0_ n1_ n2_ n3_ n4_; clear hb ho92; obtain ⟨Ao93, co93, eo93⟩ := Kd.R_slice HO149.out; subst eo93) | (go_at_call 67; (with_reducible refine (spec_EndOf.calls kj77 a0_0 _ _ l0_1 _ _ y147 x14_4 t150 _ ?side1 ?side2 ?side3 ?side4 A83.out).mono ?_); (case side1 => repeat (first | exact (Kd.C_below HR0_1.out HB.out) | (with_reducible refine Kd.C_alloc ?_ _) | (with_reducible refine Kd.C_drewN ?_ _) | (with_reducible refine Kd.C_drew ?_))); (case side2 => exact HC0_1.out); (case side3 => repeat (first | exact (Kd.R_reads' HO149.out).2.2 | (with_reducible refine Kd.C_alloc ?_ _) | (with_reducible refine Kd.C_drewN ?_ _) | (with_reducible refine Kd.C_drew ?_))); (case side4 => exact (Kd.R_reads' HO149.out).2.1); rintro e w94 ⟨rfl, hb⟩; have n0_ := Aside0.mk (Kd.R_below (by (with_reducible repeat (first | apply Kd.R_alloc | apply Kd.R_drewN | apply Kd.R_drew)); exact HO_7.out) hb); have n1_ := Aside0.mk (Kd.R_below (by (with_reducible repeat (first | apply Kd.R_alloc | apply Kd.R_drewN | apply Kd.R_drew)); exact HO_8.out) hb); have n2_ := Aside0.mk (Kd.R_below (by (with_reducible repeat (first | apply Kd.R_alloc | apply Kd.R_drewN | apply Kd.R_drew)); exact HO149.out) hb); have n3_ := Aside0.mk (blk_below (g := gb121) (o := .cells #[.int .i64 a0_0, .slice A0_1 l0_1.length c0_1] 31 (0, 0)) (by (with_reducible repeat (first | refine blk_drewN ?_ _ | refine blk_drew ?_ | refine blk_alloc ?_ _)); exact BK121.out) hb); have n4_ := Aside0.mk (below_step (by repeat (first | (with_reducible first | exact HB.out | apply below_alloc | apply pw_below_drewN | apply below_drew1 | refine below_set ?_ GE121.out) | exact HB.out)) hb); clear HO_7; clear HO_8; clear HO149; clear BK121; clear HB; have HO_7 := n0_; have HO_8 := n1_; have HO149 := n2_; have BK121 := n3_; have HB := n4_; clear n0_ n1_ n2_ n3_ n4_; (try clear hb); (try clear hb2); (try clear hk); (try clear hi); have p151 : 0 ≤ (t150 : Int) := of_decide_eq_true (by first | (with_reducible assumption) | assumption); have q151 : t150 < (x8_3.length : Int) := of_decide_eq_true (by first | (with_reducible assumption) | assumption); obtain ⟨ad151, e151, hx151_0⟩ := Kd.at_int (Kd.R_reads' HO_8.out).2.2 t150 p151 q151; obtain rfl : (⟨go30, 0, none⟩ : Addr) = ad151 := (by injection e151); (first | simp only [add_plain] at hx151_0 | simp only [add_at] at hx151_0 | simp only [Addr.add, Nat.zero_add] at hx151_0 | skip); replace p151 := eq_true p151; replace q151 := eq_true q151; have p152 : 0 ≤ (x14_4 : Int) := of_decide_eq_true (by first | (with_reducible assumption) | assumption); have q152 : x14_4 < (x8_3.length : Int) := of_decide_eq_true (by first | (with_reducible assumption) | assumption); obtain ⟨ad152, e152, hx152_0⟩ := Kd.at_int (Kd.R_reads' HO_8.out).2.2 x14_4 p152 q152; obtain rfl : (⟨go30, 0, none⟩ : Addr) = ad152 := (by injection e152); (first | simp only [add_plain] at hx152_0 | simp only [add_at] at hx152_0 | simp only [Addr.add, Nat.zero_add] at hx152_0 | skip); replace p152 := eq_true p152; replace q152 := eq_true q152)); try go_wp2_with (first | ((with_reducible refine gate_dst (N := 136) rfl ?_); refine Kd.R_lit (Kd.int .i64) _ 3 ?hg (N := 136) ?hd (xs := ([x16_5] : List Int)) (inner := [.int .i64 x16_5]) (ok := fun _ => True) (okp := fun _ => True) ?hr ?hp (fun _ hk => hk) trivial (Below.refl _ _) (Nat.le_refl _) (by simp) ?_; (case hd => rfl); (case hg => rfl); (case hr => first | (go_simp; done) | (go_simp; rfl)); (case hp => exact (Reps.one (show Kd.M (Kd.int .i64) _ _ _ x16_5 [.int .i64 x16_5] from rfl) (Reps.none _ _))); intro v148 w91 ho92 hb hg_ hnew_; clear hg_ hnew_; (first | rw [← Ny147.out] at ho92 | (simp only [Int.reduceToNat] at ho92; rw [← Ny147.out] at ho92)); have n0_ := Aside0.mk (Kd.R_elder' (by (with_reducible repeat (first | apply Kd.R_alloc | apply Kd.R_drewN | apply Kd.R_drew)); exact HO_7.out) (Kd.R_base ho92) hb); have n1_ := Aside0.mk (Kd.R_elder' (by (with_reducible repeat (first | apply Kd.R_alloc | apply Kd.R_drewN | apply Kd.R_drew)); exact HO_8.out) (Kd.R_base ho92) hb); have n2_ := Aside0.mk (Kd.R_lower (Kd.R_new' (Kd.R_new' ho92 (Kd.R_lt (by (with_reducible repeat (first | apply Kd.R_alloc | apply Kd.R_drewN | apply Kd.R_drew)); exact HO_7.out))) (Kd.R_lt (by (with_reducible repeat (first | apply Kd.R_alloc | apply Kd.R_drewN | apply Kd.R_drew)); exact HO_8.out))) (below_size (by repeat (first | (with_reducible first | exact HB.out | apply below_alloc | apply pw_below_drewN | apply below_drew1 | refine below_set ?_ GE121.out) | exact HB.out)))); have n3_ := Aside0.mk (blk_below (g := gb121) (o := .cells #[.int .i64 a0_0, .slice A0_1 l0_1.length c0_1] 31 (0, 0)) (by (with_reducible repeat (first | refine blk_drewN ?_ _ | refine blk_drew ?_ | refine blk_alloc ?_ _)); exact BK121.out) hb); have n4_ := Aside0.mk (below_step (by repeat (first | (with_reducible first | exact HB.out | apply below_alloc | apply pw_below_drewN | apply below_drew1 | refine below_set ?_ GE121.out) | exact HB.out)) hb); clear HO_7; clear HO_8; clear BK121; clear HB; have HO_7 := n0_; have HO_8 := n1_; have HO149 := n2_; have BK121 := n3_; have HB := n4_; clear n0_ n1_ n2_ n3_ n4_; clear hb ho92; obtain ⟨Ao93, co93, eo93⟩ := Kd.R_slice HO149.out; subst eo93) | (go_at_call 67; (with_reducible refine (spec_EndOf.calls kj77 a0_0 _ _ l0_1 _ _ y147 x14_4 t150 _ ?side1 ?side2 ?side3 ?side4 A83.out).mono ?_); (case side1 => repeat (first | exact (Kd.C_below HR0_1.out HB.out) | (with_reducible refine Kd.C_alloc ?_ _) | (with_reducible refine Kd.C_drewN ?_ _) | (with_reducible refine Kd.C_drew ?_))); (case side2 => exact HC0_1.out); (case side3 => repeat (first | exact (Kd.R_reads' HO149.out).2.2 | (with_reducible refine Kd.C_alloc ?_ _) | (with_reducible refine Kd.C_drewN ?_ _) | (with_reducible refine Kd.C_drew ?_))); (case side4 => exact (Kd.R_reads' HO149.out).2.1); rintro e w94 ⟨rfl, hb⟩; have n0_ := Aside0.mk (Kd.R_below (by (with_reducible repeat (first | apply Kd.R_alloc | apply Kd.R_drewN | apply Kd.R_drew)); exact HO_7.out) hb); have n1_ := Aside0.mk (Kd.R_below (by (with_reducible repeat (first | apply Kd.R_alloc | apply Kd.R_drewN | apply Kd.R_drew)); exact HO_8.out) hb); have n2_ := Aside0.mk (Kd.R_below (by (with_reducible repeat (first | apply Kd.R_alloc | apply Kd.R_drewN | apply Kd.R_drew)); exact HO149.out) hb); have n3_ := Aside0.mk (blk_below (g := gb121) (o := .cells #[.int .i64 a0_0, .slice A0_1 l0_1.length c0_1] 31 (0, 0)) (by (with_reducible repeat (first | refine blk_drewN ?_ _ | refine blk_drew ?_ | refine blk_alloc ?_ _)); exact BK121.out) hb); have n4_ := Aside0.mk (below_step (by repeat (first | (with_reducible first | exact HB.out | apply below_alloc | apply pw_below_drewN | apply below_drew1 | refine below_set ?_ GE121.out) | exact HB.out)) hb); clear HO_7; clear HO_8; clear HO149; clear BK121; clear HB; have HO_7 := n0_; have HO_8 := n1_; have HO149 := n2_; have BK121 := n3_; have HB := n4_; clear n0_ n1_ n2_ n3_ n4_; (try clear hb); (try clear hb2); (try clear hk); (try clear hi); have p151 : 0 ≤ (t150 : Int) := of_decide_eq_true (by first | (with_reducible assumption) | assumption); have q151 : t150 < (x8_3.length : Int) := of_decide_eq_true (by first | (with_reducible assumption) | assumption); obtain ⟨ad151, e151, hx151_0⟩ := Kd.at_int (Kd.R_reads' HO_8.out).2.2 t150 p151 q151; obtain rfl : (⟨go30, 0, none⟩ : Addr) = ad151 := (by injection e151); (first | simp only [add_plain] at hx151_0 | simp only [add_at] at hx151_0 | simp only [Addr.add, Nat.zero_add] at hx151_0 | skip); replace p151 := eq_true p151; replace q151 := eq_true q151; have p152 : 0 ≤ (x14_4 : Int) := of_decide_eq_true (by first | (with_reducible assumption) | assumption); have q152 : x14_4 < (x8_3.length : Int) := of_decide_eq_true (by first | (with_reducible assumption) | assumption); obtain ⟨ad152, e152, hx152_0⟩ := Kd.at_int (Kd.R_reads' HO_8.out).2.2 x14_4 p152 q152; obtain rfl : (⟨go30, 0, none⟩ : Addr) = ad152 := (by injection e152); (first | simp only [add_plain] at hx152_0 | simp only [add_at] at hx152_0 | simp only [Addr.add, Nat.zero_add] at hx152_0 | skip); replace p152 := eq_true p152; replace q152 := eq_true q152)))
                             go_roundg kj77
                             case measure => have := HJ3.out; have := HK2.out; have := HK3.out; have := HK4.out; have := HK5.out; have := HJ77.out; omega
                             case rel => exact ⟨(x16_5), (wrap64 (x16_5 + 1)), (by first | rfl | (simp; done) | (simp [*]; done)), (by first | rfl | (simp; done) | (simp [*]; done)), H', ⟨by have := HJ3.out; have := HK2.out; have := HK3.out; have := HK4.out; have := HK5.out; have := HJ77.out; omega⟩, ⟨by (try simp only [hl8_3]); (with_reducible repeat (first | apply Kd.R_alloc | apply Kd.R_drewN | apply Kd.R_drew)); exact Kd.R_mono HO_7.out (fun _ hk => hk.1)⟩, ⟨by (try simp only [hl8_3]); (with_reducible repeat (first | apply Kd.R_alloc | apply Kd.R_drewN | apply Kd.R_drew)); exact Kd.R_mono HO_8.out (fun _ hk => hk.1)⟩, ⟨by (try simp only [hl8_3]); (with_reducible repeat (first | refine blk_drewN ?_ _ | refine blk_drew ?_ | refine blk_alloc ?_ _)); exact BK121.out⟩, ⟨by repeat (first | (with_reducible first | exact HB.out | apply below_alloc | apply pw_below_drewN | apply below_drew1 | refine below_set ?_ GE121.out) | exact HB.out)⟩⟩
                            ·rw [if_neg c89] at H
                             have c89b0 : ((rd x8_3 t150) == (wrap64 ((rd x8_3 x14_4) - 1))) = false := beq_eq_false_iff_ne.mpr c89
                             have c89b1 : ((rd x8_3 t150) != (wrap64 ((rd x8_3 x14_4) - 1))) = true := bne_iff_ne.mpr c89
                             have H' := Aside0.mk H
                             clear H
                             have hcz95_0 : wc.cell? ⟨gb121, 0, none⟩ = some (.int .i64 a0_0) := (blk_cell BK121.out 0).trans rfl
                             have hcz95_1 : wc.cell? ⟨gb121, 1, none⟩ = some (.slice A0_1 l0_1.length c0_1) := (blk_cell BK121.out 1).trans rfl
                             have hfz95_0 := blk_frozen BK121.out 0
                             have hfz95_1 := blk_frozen BK121.out 1
                             go_wp2_with (first | ((with_reducible refine gate_dst (N := 136) rfl ?_); refine Kd.R_lit (Kd.int .i64) _ 3 ?hg (N := 136) ?hd (xs := ([x16_5] : List Int)) (inner := [.int .i64 x16_5]) (ok := fun _ => True) (okp := fun _ => True) ?hr ?hp (fun _ hk => hk) trivial (Below.refl _ _) (Nat.le_refl _) (by simp) ?_; (case hd => rfl); (case hg => rfl); (case hr => first | (go_simp; done) | (go_simp; rfl)); (case hp => exact (Reps.one (show Kd.M (Kd.int .i64) _ _ _ x16_5 [.int .i64 x16_5] from rfl) (Reps.none _ _))); intro v148 w96 ho97 hb hg_ hnew_; clear hg_ hnew_; (first | rw [← Ny147.out] at ho97 | (simp only [Int.reduceToNat] at ho97; rw [← Ny147.out] at ho97)); have n0_ := Aside0.mk (Kd.R_elder' (by (with_reducible repeat (first | apply Kd.R_alloc | apply Kd.R_drewN | apply Kd.R_drew)); exact HO_7.out) (Kd.R_base ho97) hb); have n1_ := Aside0.mk (Kd.R_elder' (by (with_reducible repeat (first | apply Kd.R_alloc | apply Kd.R_drewN | apply Kd.R_drew)); exact HO_8.out) (Kd.R_base ho97) hb); have n2_ := Aside0.mk (Kd.R_lower (Kd.R_new' (Kd.R_new' ho97 (Kd.R_lt (by (with_reducible repeat (first | apply Kd.R_alloc | apply Kd.R_drewN | apply Kd.R_drew)); exact HO_7.out))) (Kd.R_lt (by (with_reducible repeat (first | apply Kd.R_alloc | apply Kd.R_drewN | apply Kd.R_drew)); exact HO_8.out))) (below_size (by repeat (first | (with_reducible first | exact HB.out | apply below_alloc | apply pw_below_drewN | apply below_drew1 | refine below_set ?_ GE121.out) | exact HB.out)))); have n3_ := Aside0.mk (blk_below (g := gb121) (o := .cells #[.int .i64 a0_0, .slice A0_1 l0_1.length c0_1] 31 (0, 0)) (by (with_reducible repeat (first | refine blk_drewN ?_ _ | refine blk_drew ?_ | refine blk_alloc ?_ _)); exact BK121.out) hb); have n4_ := Aside0.mk (below_step (by repeat (first | (with_reducible first | exact HB.out | apply below_alloc | apply pw_below_drewN | apply below_drew1 | refine below_set ?_ GE121.out) | exact HB.out)) hb); clear HO_7; clear HO_8; clear BK121; clear HB; have HO_7 := n0_; have HO_8 := n1_; have HO149 := n2_; have BK121 := n3_; have HB := n4_; clear n0_ n1_ n2_ n3_ n4_; clear hb ho97; obtain ⟨Ao98, co98, eo98⟩ := Kd.R_slice HO149.out; subst eo98) | (go_at_call 67; (with_reducible refine (spec_EndOf.calls kj77 a0_0 _ _ l0_1 _ _ y147 x14_4 t150 _ ?side1 ?side2 ?side3 ?side4 A83.out).mono ?_); (case side1 => repeat (first | exact (Kd.C_below HR0_1.out HB.out) | (with_reducible refine Kd.C_alloc ?_ _) | (with_reducible refine Kd.C_drewN ?_ _) | (with_reducible refine Kd.C_drew ?_))); (case side2 => exact HC0_1.out); (case side3 => repeat (first | exact (Kd.R_reads' HO149.out).2.2 | (with_reducible refine Kd.C_alloc ?_ _) | (with_reducible refine Kd.C_drewN ?_ _) | (with_reducible refine Kd.C_drew ?_))); (case side4 => exact (Kd.R_reads' HO149.out).2.1); rintro e w99 ⟨rfl, hb⟩; have n0_ := Aside0.mk (Kd.R_below (by (with_reducible repeat (first | apply Kd.R_alloc | apply Kd.R_drewN | apply Kd.R_drew)); exact HO_7.out) hb); have n1_ := Aside0.mk (Kd.R_below (by (with_reducible repeat (first | apply Kd.R_alloc | apply Kd.R_drewN | apply Kd.R_drew)); exact HO_8.out) hb); have n2_ := Aside0.mk (Kd.R_below (by (with_reducible repeat (first | apply Kd.R_alloc | apply Kd.R_drewN | apply Kd.R_drew)); exact HO149.out) hb); have n3_ := Aside0.mk (blk_below (g := gb121) (o := .cells #[.int .i64 a0_0, .slice A0_1 l0_1.length c0_1] 31 (0, 0)) (by (with_reducible repeat (first | refine blk_drewN ?_ _ | refine blk_drew ?_ | refine blk_alloc ?_ _)); exact BK121.out) hb); have n4_ := Aside0.mk (below_step (by repeat (first | (with_reducible first | exact HB.out | apply below_alloc | apply pw_below_drewN | apply below_drew1 | refine below_set ?_ GE121.out) | exact HB.out)) hb); clear HO_7; clear HO_8; clear HO149; clear BK121; clear HB; have HO_7 := n0_; have HO_8 := n1_; have HO149 := n2_; have BK121 := n3_; have HB := n4_; clear n0_ n1_ n2_ n3_ n4_; (try clear hb); (try clear hb2); (try clear hk); (try clear hi); have p151 : 0 ≤ (t150 : Int) := of_decide_eq_true (by first | (with_reducible assumption) | assumption); have q151 : t150 < (x8_3.length : Int) := of_decide_eq_true (by first | (with_reducible assumption) | assumption); obtain ⟨ad151, e151, hx151_0⟩ := Kd.at_int (Kd.R_reads' HO_8.out).2.2 t150 p151 q151; obtain rfl : (⟨go30, 0, none⟩ : Addr) = ad151 := (by injection e151); (first | simp only [add_plain] at hx151_0 | simp only [add_at] at hx151_0 | simp only [Addr.add, Nat.zero_add] at hx151_0 | skip); replace p151 := eq_true p151; replace q151 := eq_true q151; have p152 : 0 ≤ (x14_4 : Int) := of_decide_eq_true (by first | (with_reducible assumption) | assumption); have q152 : x14_4 < (x8_3.length : Int) := of_decide_eq_true (by first | (with_reducible assumption) | assumption); obtain ⟨ad152, e152, hx152_0⟩ := Kd.at_int (Kd.R_reads' HO_8.out).2.2 x14_4 p152 q152; obtain rfl : (⟨go30, 0, none⟩ : Addr) = ad152 := (by injection e152); (first | simp only [add_plain] at hx152_0 | simp only [add_at] at hx152_0 | simp only [Addr.add, Nat.zero_add] at hx152_0 | skip); replace p152 := eq_true p152; replace q152 := eq_true q152))
                             repeat (go_quiet (first | ((with_reducible refine gate_dst (N := 136) rfl ?_); refine Kd.R_lit (Kd.int .i64) _ 3 ?hg (N := 136) ?hd (xs := ([x16_5] : List Int)) (inner := [.int .i64 x16_5]) (ok := fun _ => True) (okp := fun _ => True) ?hr ?hp (fun _ hk => hk) trivial (Below.refl _ _) (Nat.le_refl _) (by simp) ?_; (case hd => rfl); (case hg => rfl); (case hr => first | (go_simp; done) | (go_simp; rfl)); (case hp => exact (Reps.one (show Kd.M (Kd.int .i64) _ _ _ x16_5 [.int .i64 x16_5] from rfl) (Reps.none _ _))); intro v148 w96 ho97 hb hg_ hnew_; clear hg_ hnew_; (first | rw [← Ny147.out] at ho97 | (simp only [Int.reduceToNat] at ho97; rw [← Ny147.out] at ho97)); have n0_ := Aside0.mk (Kd.R_elder' (by (with_reducible repeat (first | apply Kd.R_alloc | apply Kd.R_drewN | apply Kd.R_drew)); exact HO_7.out) (Kd.R_base ho97) hb); have n1_ := Aside0.mk (Kd.R_elder' (by (with_reducible repeat (first | apply Kd.R_alloc | apply Kd.R_drewN | apply Kd.R_drew)); exact HO_8.out) (Kd.R_base ho97) hb); have n2_ := Aside0.mk (Kd.R_lower (Kd.R_new' (Kd.R_new' ho97 (Kd.R_lt (by (with_reducible repeat (first | apply Kd.R_alloc | apply Kd.R_drewN | apply Kd.R_drew)); exact HO_7.out))) (Kd.R_lt (by (with_reducible repeat (first | apply Kd.R_alloc | apply Kd.R_drewN | apply Kd.R_drew)); exact HO_8.out))) (below_size (by repeat (first | (with_reducible first | exact HB.out | apply below_alloc | apply pw_below_drewN | apply below_drew1 | refine below_set ?_ GE121.out) | exact HB.out)))); have n3_ := Aside0.mk (blk_below (g := gb121) (o := .cells #[.int .i64 a0_0, .slice A0_1 l0_1.length c0_1] 31 (0, 0)) (by (with_reducible repeat (first | refine blk_drewN ?_ _ | refine blk_drew ?_ | refine blk_alloc ?_ _)); exact BK121.out) hb); have n4_ := Aside0.mk (below_step (by repeat (first | (with_reducible first | exact HB.out | apply below_alloc | apply pw_below_drewN | apply below_drew1 | refine below_set ?_ GE121.out) | exact HB.out)) hb); clear HO_7; clear HO_8; clear BK121; clear HB; have HO_7 := n0_; have HO_8 := n1_; have HO149 := n2_; have BK121 := n3_; have HB := n4_; clear n0_ n1_ n2_ n3_ n4_; clear hb ho97; obtain ⟨Ao98, co98, eo98⟩ := Kd.R_slice HO149.out; subst eo98) | (go_at_call 67; (with_reducible refine (spec_EndOf.calls kj77 a0_0 _ _ l0_1 _ _ y147 x14_4 t150 _ ?side1 ?side2 ?side3 ?side4 A83.out).mono ?_); (case side1 => repeat (first | exact (Kd.C_below HR0_1.out HB.out) | (with_reducible refine Kd.C_alloc ?_ _) | (with_reducible refine Kd.C_drewN ?_ _) | (with_reducible refine Kd.C_drew ?_))); (case side2 => exact HC0_1.out); (case side3 => repeat (first | exact (Kd.R_reads' HO149.out).2.2 | (with_reducible refine Kd.C_alloc ?_ _) | (with_reducible refine Kd.C_drewN ?_ _) | (with_reducible refine Kd.C_drew ?_))); (case side4 => exact (Kd.R_reads' HO149.out).2.1); rintro e w99 ⟨rfl, hb⟩; have n0_ := Aside0.mk (Kd.R_below (by (with_reducible repeat (first | apply Kd.R_alloc | apply Kd.R_drewN | apply Kd.R_drew)); exact HO_7.out) hb); have n1_ := Aside0.mk (Kd.R_below (by (with_reducible repeat (first | apply Kd.R_alloc | apply Kd.R_drewN | apply Kd.R_drew)); exact HO_8.out) hb); have n2_ := Aside0.mk (Kd.R_below (by (with_reducible repeat (first | apply Kd.R_alloc | apply Kd.R_drewN | apply Kd.R_drew)); exact HO149.out) hb); have n3_ := Aside0.mk (blk_below (g := gb121) (o := .cells #[.int .i64 a0_0, .slice A0_1 l0_1.length c0_1] 31 (0, 0)) (by (with_reducible repeat (first | refine blk_drewN ?_ _ | refine blk_drew ?_ | refine blk_alloc ?_ _)); exact BK121.out) hb); have n4_ := Aside0.mk (below_step (by repeat (first | (with_reducible first | exact HB.out | apply below_alloc | apply pw_below_drewN | apply below_drew1 | refine below_set ?_ GE121.out) | exact HB.out)) hb); clear HO_7; clear HO_8; clear HO149; clear BK121; clear HB; have HO_7 := n0_; have HO_8 := n1_; have HO149 := n2_; have BK121 := n3_; have HB := n4_; clear n0_ n1_ n2_ n3_ n4_; (try clear hb); (try clear hb2); (try clear hk); (try clear hi); have p151 : 0 ≤ (t150 : Int) := of_decide_eq_true (by first | (with_reducible assumption) | assumption); have q151 : t150 < (x8_3.length : Int) := of_decide_eq_true (by first | (with_reducible assumption) | assumption); obtain ⟨ad151, e151, hx151_0⟩ := Kd.at_int (Kd.R_reads' HO_8.out).2.2 t150 p151 q151; obtain rfl : (⟨go30, 0, none⟩ : Addr) = ad151 := (by injection e151); (first | simp only [add_plain] at hx151_0 | simp only [add_at] at hx151_0 | simp only [Addr.add, Nat.zero_add] at hx151_0 | skip); replace p151 := eq_true p151; replace q151 := eq_true q151; have p152 : 0 ≤ (x14_4 : Int) := of_decide_eq_true (by first | (with_reducible assumption) | assumption); have q152 : x14_4 < (x8_3.length : Int) := of_decide_eq_true (by first | (with_reducible assumption) | assumption); obtain ⟨ad152, e152, hx152_0⟩ := Kd.at_int (Kd.R_reads' HO_8.out).2.2 x14_4 p152 q152; obtain rfl : (⟨go30, 0, none⟩ : Addr) = ad152 := (by injection e152); (first | simp only [add_plain] at hx152_0 | simp only [add_at] at hx152_0 | simp only [Addr.add, Nat.zero_add] at hx152_0 | skip); replace p152 := eq_true p152; replace q152 := eq_true q152)); try go_wp2_with (first | ((with_reducible refine gate_dst (N := 136) rfl ?_); refine Kd.R_lit (Kd.int .i64) _ 3 ?hg (N := 136) ?hd (xs := ([x16_5] : List Int)) (inner := [.int .i64 x16_5]) (ok := fun _ => True) (okp := fun _ => True) ?hr ?hp (fun _ hk => hk) trivial (Below.refl _ _) (Nat.le_refl _) (by simp) ?_; (case hd => rfl); (case hg => rfl); (case hr => first | (go_simp; done) | (go_simp; rfl)); (case hp => exact (Reps.one (show Kd.M (Kd.int .i64) _ _ _ x16_5 [.int .i64 x16_5] from rfl) (Reps.none _ _))); intro v148 w96 ho97 hb hg_ hnew_; clear hg_ hnew_; (first | rw [← Ny147.out] at ho97 | (simp only [Int.reduceToNat] at ho97; rw [← Ny147.out] at ho97)); have n0_ := Aside0.mk (Kd.R_elder' (by (with_reducible repeat (first | apply Kd.R_alloc | apply Kd.R_drewN | apply Kd.R_drew)); exact HO_7.out) (Kd.R_base ho97) hb); have n1_ := Aside0.mk (Kd.R_elder' (by (with_reducible repeat (first | apply Kd.R_alloc | apply Kd.R_drewN | apply Kd.R_drew)); exact HO_8.out) (Kd.R_base ho97) hb); have n2_ := Aside0.mk (Kd.R_lower (Kd.R_new' (Kd.R_new' ho97 (Kd.R_lt (by (with_reducible repeat (first | apply Kd.R_alloc | apply Kd.R_drewN | apply Kd.R_drew)); exact HO_7.out))) (Kd.R_lt (by (with_reducible repeat (first | apply Kd.R_alloc | apply Kd.R_drewN | apply Kd.R_drew)); exact HO_8.out))) (below_size (by repeat (first | (with_reducible first | exact HB.out | apply below_alloc | apply pw_below_drewN | apply below_drew1 | refine below_set ?_ GE121.out) | exact HB.out)))); have n3_ := Aside0.mk (blk_below (g := gb121) (o := .cells #[.int .i64 a0_0, .slice A0_1 l0_1.length c0_1] 31 (0, 0)) (by (with_reducible repeat (first | refine blk_drewN ?_ _ | refine blk_drew ?_ | refine blk_alloc ?_ _)); exact BK121.out) hb); have n4_ := Aside0.mk (below_step (by repeat (first | (with_reducible first | exact HB.out | apply below_alloc | apply pw_below_drewN | apply below_drew1 | refine below_set ?_ GE121.out) | exact HB.out)) hb); clear HO_7; clear HO_8; clear BK121; clear HB; have HO_7 := n0_; have HO_8 := n1_; have HO149 := n2_; have BK121 := n3_; have HB := n4_; clear n0_ n1_ n2_ n3_ n4_; clear hb ho97; obtain ⟨Ao98, co98, eo98⟩ := Kd.R_slice HO149.out; subst eo98) | (go_at_call 67; (with_reducible refine (spec_EndOf.calls kj77 a0_0 _ _ l0_1 _ _ y147 x14_4 t150 _ ?side1 ?side2 ?side3 ?side4 A83.out).mono ?_); (case side1 => repeat (first | exact (Kd.C_below HR0_1.out HB.out) | (with_reducible refine Kd.C_alloc ?_ _) | (with_reducible refine Kd.C_drewN ?_ _) | (with_reducible refine Kd.C_drew ?_))); (case side2 => exact HC0_1.out); (case side3 => repeat (first | exact (Kd.R_reads' HO149.out).2.2 | (with_reducible refine Kd.C_alloc ?_ _) | (with_reducible refine Kd.C_drewN ?_ _) | (with_reducible refine Kd.C_drew ?_))); (case side4 => exact (Kd.R_reads' HO149.out).2.1); rintro e w99 ⟨rfl, hb⟩; have n0_ := Aside0.mk (Kd.R_below (by (with_reducible repeat (first | apply Kd.R_alloc | apply Kd.R_drewN | apply Kd.R_drew)); exact HO_7.out) hb); have n1_ := Aside0.mk (Kd.R_below (by (with_reducible repeat (first | apply Kd.R_alloc | apply Kd.R_drewN | apply Kd.R_drew)); exact HO_8.out) hb); have n2_ := Aside0.mk (Kd.R_below (by (with_reducible repeat (first | apply Kd.R_alloc | apply Kd.R_drewN | apply Kd.R_drew)); exact HO149.out) hb); have n3_ := Aside0.mk (blk_below (g := gb121) (o := .cells #[.int .i64 a0_0, .slice A0_1 l0_1.length c0_1] 31 (0, 0)) (by (with_reducible repeat (first | refine blk_drewN ?_ _ | refine blk_drew ?_ | refine blk_alloc ?_ _)); exact BK121.out) hb); have n4_ := Aside0.mk (below_step (by repeat (first | (with_reducible first | exact HB.out | apply below_alloc | apply pw_below_drewN | apply below_drew1 | refine below_set ?_ GE121.out) | exact HB.out)) hb); clear HO_7; clear HO_8; clear HO149; clear BK121; clear HB; have HO_7 := n0_; have HO_8 := n1_; have HO149 := n2_; have BK121 := n3_; have HB := n4_; clear n0_ n1_ n2_ n3_ n4_; (try clear hb); (try clear hb2); (try clear hk); (try clear hi); have p151 : 0 ≤ (t150 : Int) := of_decide_eq_true (by first | (with_reducible assumption) | assumption); have q151 : t150 < (x8_3.length : Int) := of_decide_eq_true (by first | (with_reducible assumption) | assumption); obtain ⟨ad151, e151, hx151_0⟩ := Kd.at_int (Kd.R_reads' HO_8.out).2.2 t150 p151 q151; obtain rfl : (⟨go30, 0, none⟩ : Addr) = ad151 := (by injection e151); (first | simp only [add_plain] at hx151_0 | simp only [add_at] at hx151_0 | simp only [Addr.add, Nat.zero_add] at hx151_0 | skip); replace p151 := eq_true p151; replace q151 := eq_true q151; have p152 : 0 ≤ (x14_4 : Int) := of_decide_eq_true (by first | (with_reducible assumption) | assumption); have q152 : x14_4 < (x8_3.length : Int) := of_decide_eq_true (by first | (with_reducible assumption) | assumption); obtain ⟨ad152, e152, hx152_0⟩ := Kd.at_int (Kd.R_reads' HO_8.out).2.2 x14_4 p152 q152; obtain rfl : (⟨go30, 0, none⟩ : Addr) = ad152 := (by injection e152); (first | simp only [add_plain] at hx152_0 | simp only [add_at] at hx152_0 | simp only [Addr.add, Nat.zero_add] at hx152_0 | skip); replace p152 := eq_true p152; replace q152 := eq_true q152)))
                             go_roundg kj77
                             case measure => have := HJ3.out; have := HK2.out; have := HK3.out; have := HK4.out; have := HK5.out; have := HJ77.out; omega
                             case rel => exact ⟨(x15_5), (wrap64 (x16_5 + 1)), (by first | rfl | (simp; done) | (simp [*]; done)), (by first | rfl | (simp; done) | (simp [*]; done)), H', ⟨by have := HJ3.out; have := HK2.out; have := HK3.out; have := HK4.out; have := HK5.out; have := HJ77.out; omega⟩, ⟨by (try simp only [hl8_3]); (with_reducible repeat (first | apply Kd.R_alloc | apply Kd.R_drewN | apply Kd.R_drew)); exact Kd.R_mono HO_7.out (fun _ hk => hk.1)⟩, ⟨by (try simp only [hl8_3]); (with_reducible repeat (first | apply Kd.R_alloc | apply Kd.R_drewN | apply Kd.R_drew)); exact Kd.R_mono HO_8.out (fun _ hk => hk.1)⟩, ⟨by (try simp only [hl8_3]); (with_reducible repeat (first | refine blk_drewN ?_ _ | refine blk_drew ?_ | refine blk_alloc ?_ _)); exact BK121.out⟩, ⟨by repeat (first | (with_reducible first | exact HB.out | apply below_alloc | apply pw_below_drewN | apply below_drew1 | refine below_set ?_ GE121.out) | exact HB.out)⟩⟩
                           ·rw [if_neg c88] at H
                            exact absurd H (by simp)
                          ·rw [if_neg c87] at H
                           exact absurd H (by simp)
                         ·rw [if_neg c86] at H
                          exact absurd H (by simp)
                        ·rw [if_neg c85] at H
                         exact absurd H (by simp)
                       ·rw [if_neg c84] at H
                        have c84b0 : decide (0 ≤ t150) = false := decide_eq_false c84
                        clear c84
                        have H' := Aside0.mk H
                        clear H
                        have hcz100_0 : wc.cell? ⟨gb121, 0, none⟩ = some (.int .i64 a0_0) := (blk_cell BK121.out 0).trans rfl
                        have hcz100_1 : wc.cell? ⟨gb121, 1, none⟩ = some (.slice A0_1 l0_1.length c0_1) := (blk_cell BK121.out 1).trans rfl
                        have hfz100_0 := blk_frozen BK121.out 0
                        have hfz100_1 := blk_frozen BK121.out 1
                        go_wp2_with (first | ((with_reducible refine gate_dst (N := 136) rfl ?_); refine Kd.R_lit (Kd.int .i64) _ 3 ?hg (N := 136) ?hd (xs := ([x16_5] : List Int)) (inner := [.int .i64 x16_5]) (ok := fun _ => True) (okp := fun _ => True) ?hr ?hp (fun _ hk => hk) trivial (Below.refl _ _) (Nat.le_refl _) (by simp) ?_; (case hd => rfl); (case hg => rfl); (case hr => first | (go_simp; done) | (go_simp; rfl)); (case hp => exact (Reps.one (show Kd.M (Kd.int .i64) _ _ _ x16_5 [.int .i64 x16_5] from rfl) (Reps.none _ _))); intro v148 w101 ho102 hb hg_ hnew_; clear hg_ hnew_; (first | rw [← Ny147.out] at ho102 | (simp only [Int.reduceToNat] at ho102; rw [← Ny147.out] at ho102)); have n0_ := Aside0.mk (Kd.R_elder' (by (with_reducible repeat (first | apply Kd.R_alloc | apply Kd.R_drewN | apply Kd.R_drew)); exact HO_7.out) (Kd.R_base ho102) hb); have n1_ := Aside0.mk (Kd.R_elder' (by (with_reducible repeat (first | apply Kd.R_alloc | apply Kd.R_drewN | apply Kd.R_drew)); exact HO_8.out) (Kd.R_base ho102) hb); have n2_ := Aside0.mk (Kd.R_lower (Kd.R_new' (Kd.R_new' ho102 (Kd.R_lt (by (with_reducible repeat (first | apply Kd.R_alloc | apply Kd.R_drewN | apply Kd.R_drew)); exact HO_7.out))) (Kd.R_lt (by (with_reducible repeat (first | apply Kd.R_alloc | apply Kd.R_drewN | apply Kd.R_drew)); exact HO_8.out))) (below_size (by repeat (first | (with_reducible first | exact HB.out | apply below_alloc | apply pw_below_drewN | apply below_drew1 | refine below_set ?_ GE121.out) | exact HB.out)))); have n3_ := Aside0.mk (blk_below (g := gb121) (o := .cells #[.int .i64 a0_0, .slice A0_1 l0_1.length c0_1] 31 (0, 0)) (by (with_reducible repeat (first | refine blk_drewN ?_ _ | refine blk_drew ?_ | refine blk_alloc ?_ _)); exact BK121.out) hb); have n4_ := Aside0.mk (below_step (by repeat (first | (with_reducible first | exact HB.out | apply below_alloc | apply pw_below_drewN | apply below_drew1 | refine below_set ?_ GE121.out) | exact HB.out)) hb); clear HO_7; clear HO_8; clear BK121; clear HB; have HO_7 := n0_; have HO_8 := n1_; have HO149 := n2_; have BK121 := n3_; have HB := n4_; clear n0_ n1_ n2_ n3_ n4_; clear hb ho102; obtain ⟨Ao103, co103, eo103⟩ := Kd.R_slice HO149.out; subst eo103) | (go_at_call 67; (with_reducible refine (spec_EndOf.calls kj77 a0_0 _ _ l0_1 _ _ y147 x14_4 t150 _ ?side1 ?side2 ?side3 ?side4 A83.out).mono ?_); (case side1 => repeat (first | exact (Kd.C_below HR0_1.out HB.out) | (with_reducible refine Kd.C_alloc ?_ _) | (with_reducible refine Kd.C_drewN ?_ _) | (with_reducible refine Kd.C_drew ?_))); (case side2 => exact HC0_1.out); (case side3 => repeat (first | exact (Kd.R_reads' HO149.out).2.2 | (with_reducible refine Kd.C_alloc ?_ _) | (with_reducible refine Kd.C_drewN ?_ _) | (with_reducible refine Kd.C_drew ?_))); (case side4 => exact (Kd.R_reads' HO149.out).2.1); rintro e w104 ⟨rfl, hb⟩; have n0_ := Aside0.mk (Kd.R_below (by (with_reducible repeat (first | apply Kd.R_alloc | apply Kd.R_drewN | apply Kd.R_drew)); exact HO_7.out) hb); have n1_ := Aside0.mk (Kd.R_below (by (with_reducible repeat (first | apply Kd.R_alloc | apply Kd.R_drewN | apply Kd.R_drew)); exact HO_8.out) hb); have n2_ := Aside0.mk (Kd.R_below (by (with_reducible repeat (first | apply Kd.R_alloc | apply Kd.R_drewN | apply Kd.R_drew)); exact HO149.out) hb); have n3_ := Aside0.mk (blk_below (g := gb121) (o := .cells #[.int .i64 a0_0, .slice A0_1 l0_1.length c0_1] 31 (0, 0)) (by (with_reducible repeat (first | refine blk_drewN ?_ _ | refine blk_drew ?_ | refine blk_alloc ?_ _)); exact BK121.out) hb); have n4_ := Aside0.mk (below_step (by repeat (first | (with_reducible first | exact HB.out | apply below_alloc | apply pw_below_drewN | apply below_drew1 | refine below_set ?_ GE121.out) | exact HB.out)) hb); clear HO_7; clear HO_8; clear HO149; clear BK121; clear HB; have HO_7 := n0_; have HO_8 := n1_; have HO149 := n2_; have BK121 := n3_; have HB := n4_; clear n0_ n1_ n2_ n3_ n4_; (try clear hb); (try clear hb2); (try clear hk); (try clear hi)))
                        repeat (go_quiet (first | ((with_reducible refine gate_dst (N := 136) rfl ?_); refine Kd.R_lit (Kd.int .i64) _ 3 ?hg (N := 136) ?hd (xs := ([x16_5] : List Int)) (inner := [.int .i64 x16_5]) (ok := fun _ => True) (okp := fun _ => True) ?hr ?hp (fun _ hk => hk) trivial (Below.refl _ _) (Nat.le_refl _) (by simp) ?_; (case hd => rfl); (case hg => rfl); (case hr => first | (go_simp; done) | (go_simp; rfl)); (case hp => exact (Reps.one (show Kd.M (Kd.int .i64) _ _ _ x16_5 [.int .i64 x16_5] from rfl) (Reps.none _ _))); intro v148 w101 ho102 hb hg_ hnew_; clear hg_ hnew_; (first | rw [← Ny147.out] at ho102 | (simp only [Int.reduceToNat] at ho102; rw [← Ny147.out] at ho102)); have n0_ := Aside0.mk (Kd.R_elder' (by (with_reducible repeat (first | apply Kd.R_alloc | apply Kd.R_drewN | apply Kd.R_drew)); exact HO_7.out) (Kd.R_base ho102) hb); have n1_ := Aside0.mk (Kd.R_elder' (by (with_reducible repeat (first | apply Kd.R_alloc | apply Kd.R_drewN | apply Kd.R_drew)); exact HO_8.out) (Kd.R_base ho102) hb); have n2_ := Aside0.mk (Kd.R_lower (Kd.R_new' (Kd.R_new' ho102 (Kd.R_lt (by (with_reducible repeat (first | apply Kd.R_alloc | apply Kd.R_drewN | apply Kd.R_drew)); exact HO_7.out))) (Kd.R_lt (by (with_reducible repeat (first | apply Kd.R_alloc | apply Kd.R_drewN | apply Kd.R_drew)); exact HO_8.out))) (below_size (by repeat (first | (with_reducible first | exact HB.out | apply below_alloc | apply pw_below_drewN | apply below_drew1 | refine below_set ?_ GE121.out) | exact HB.out)))); have n3_ := Aside0.mk (blk_below (g := gb121) (o := .cells #[.int .i64 a0_0, .slice A0_1 l0_1.length c0_1] 31 (0, 0)) (by (with_reducible repeat (first | refine blk_drewN ?_ _ | refine blk_drew ?_ | refine blk_alloc ?_ _)); exact BK121.out) hb); have n4_ := Aside0.mk (below_step (by repeat (first | (with_reducible first | exact HB.out | apply below_alloc | apply pw_below_drewN | apply below_drew1 | refine below_set ?_ GE121.out) | exact HB.out)) hb); clear HO_7; clear HO_8; clear BK121; clear HB; have HO_7 := n0_; have HO_8 := n1_; have HO149 := n2_; have BK121 := n3_; have HB := n4_; clear n0_ n1_ n2_ n3_ n4_; clear hb ho102; obtain ⟨Ao103, co103, eo103⟩ := Kd.R_slice HO149.out; subst eo103) | (go_at_call 67; (with_reducible refine (spec_EndOf.calls kj77 a0_0 _ _ l0_1 _ _ y147 x14_4 t150 _ ?side1 ?side2 ?side3 ?side4 A83.out).mono ?_); (case side1 => repeat (first | exact (Kd.C_below HR0_1.out HB.out) | (with_reducible refine Kd.C_alloc ?_ _) | (with_reducible refine Kd.C_drewN ?_ _) | (with_reducible refine Kd.C_drew ?_))); (case side2 => exact HC0_1.out); (case side3 => repeat (first | exact (Kd.R_reads' HO149.out).2.2 | (with_reducible refine Kd.C_alloc ?_ _) | (with_reducible refine Kd.C_drewN ?_ _) | (with_reducible refine Kd.C_drew ?_))); (case side4 => exact (Kd.R_reads' HO149.out).2.1); rintro e w104 ⟨rfl, hb⟩; have n0_ := Aside0.mk (Kd.R_below (by (with_reducible repeat (first | apply Kd.R_alloc | apply Kd.R_drewN | apply Kd.R_drew)); exact HO_7.out) hb); have n1_ := Aside0.mk (Kd.R_below (by (with_reducible repeat (first | apply Kd.R_alloc | apply Kd.R_drewN | apply Kd.R_drew)); exact HO_8.out) hb); have n2_ := Aside0.mk (Kd.R_below (by (with_reducible repeat (first | apply Kd.R_alloc | apply Kd.R_drewN | apply Kd.R_drew)); exact HO149.out) hb); have n3_ := Aside0.mk (blk_below (g := gb121) (o := .cells #[.int .i64 a0_0, .slice A0_1 l0_1.length c0_1] 31 (0, 0)) (by (with_reducible repeat (first | refine blk_drewN ?_ _ | refine blk_drew ?_ | refine blk_alloc ?_ _)); exact BK121.out) hb); have n4_ := Aside0.mk (below_step (by repeat (first | (with_reducible first | exact HB.out | apply below_alloc | apply pw_below_drewN | apply below_drew1 | refine below_set ?_ GE121.out) | exact HB.out)) hb); clear HO_7; clear HO_8; clear HO149; clear BK121; clear HB; have HO_7 := n0_; have HO_8 := n1_; have HO149 := n2_; have BK121 := n3_; have HB := n4_; clear n0_ n1_ n2_ n3_ n4_; (try clear hb); (try clear hb2); (try clear hk); (try clear hi))); try go_wp2_with (first | ((with_reducible refine gate_dst (N := 136) rfl ?_); refine Kd.R_lit (Kd.int .i64) _ 3 ?hg (N := 136) ?hd (xs := ([x16_5] : List Int)) (inner := [.int .i64 x16_5]) (ok := fun _ => True) (okp := fun _ => True) ?hr ?hp (fun _ hk => hk) trivial (Below.refl _ _) (Nat.le_refl _) (by simp) ?_; (case hd => rfl); (case hg => rfl); (case hr => first | (go_simp; done) | (go_simp; rfl)); (case hp => exact (Reps.one (show Kd.M (Kd.int .i64) _ _ _ x16_5 [.int .i64 x16_5] from rfl) (Reps.none _ _))); intro v148 w101 ho102 hb hg_ hnew_; clear hg_ hnew_; (first | rw [← Ny147.out] at ho102 | (simp only [Int.reduceToNat] at ho102; rw [← Ny147.out] at ho102)); have n0_ := Aside0.mk (Kd.R_elder' (by (with_reducible repeat (first | apply Kd.R_alloc | apply Kd.R_drewN | apply Kd.R_drew)); exact HO_7.out) (Kd.R_base ho102) hb); have n1_ := Aside0.mk (Kd.R_elder' (by (with_reducible repeat (first | apply Kd.R_alloc | apply Kd.R_drewN | apply Kd.R_drew)); exact HO_8.out) (Kd.R_base ho102) hb); have n2_ := Aside0.mk (Kd.R_lower (Kd.R_new' (Kd.R_new' ho102 (Kd.R_lt (by (with_reducible repeat (first | apply Kd.R_alloc | apply Kd.R_drewN | apply Kd.R_drew)); exact HO_7.out))) (Kd.R_lt (by (with_reducible repeat (first | apply Kd.R_alloc | apply Kd.R_drewN | apply Kd.R_drew)); exact HO_8.out))) (below_size (by repeat (first | (with_reducible first | exact HB.out | apply below_alloc | apply pw_below_drewN | apply below_drew1 | refine below_set ?_ GE121.out) | exact HB.out)))); have n3_ := Aside0.mk (blk_below (g := gb121) (o := .cells #[.int .i64 a0_0, .slice A0_1 l0_1.length c0_1] 31 (0, 0)) (by (with_reducible repeat (first | refine blk_drewN ?_ _ | refine blk_drew ?_ | refine blk_alloc ?_ _)); exact BK121.out) hb); have n4_ := Aside0.mk (below_step (by repeat (first | (with_reducible first | exact HB.out | apply below_alloc | apply pw_below_drewN | apply below_drew1 | refine below_set ?_ GE121.out) | exact HB.out)) hb); clear HO_7; clear HO_8; clear BK121; clear HB; have HO_7 := n0_; have HO_8 := n1_; have HO149 := n2_; have BK121 := n3_; have HB := n4_; clear n0_ n1_ n2_ n3_ n4_; clear hb ho102; obtain ⟨Ao103, co103, eo103⟩ := Kd.R_slice HO149.out; subst eo103) | (go_at_call 67; (with_reducible refine (spec_EndOf.calls kj77 a0_0 _ _ l0_1 _ _ y147 x14_4 t150 _ ?side1 ?side2 ?side3 ?side4 A83.out).mono ?_); (case side1 => repeat (first | exact (Kd.C_below HR0_1.out HB.out) | (with_reducible refine Kd.C_alloc ?_ _) | (with_reducible refine Kd.C_drewN ?_ _) | (with_reducible refine Kd.C_drew ?_))); (case side2 => exact HC0_1.out); (case side3 => repeat (first | exact (Kd.R_reads' HO149.out).2.2 | (with_reducible refine Kd.C_alloc ?_ _) | (with_reducible refine Kd.C_drewN ?_ _) | (with_reducible refine Kd.C_drew ?_))); (case side4 => exact (Kd.R_reads' HO149.out).2.1); rintro e w104 ⟨rfl, hb⟩; have n0_ := Aside0.mk (Kd.R_below (by (with_reducible repeat (first | apply Kd.R_alloc | apply Kd.R_drewN | apply Kd.R_drew)); exact HO_7.out) hb); have n1_ := Aside0.mk (Kd.R_below (by (with_reducible repeat (first | apply Kd.R_alloc | apply Kd.R_drewN | apply Kd.R_drew)); exact HO_8.out) hb); have n2_ := Aside0.mk (Kd.R_below (by (with_reducible repeat (first | apply Kd.R_alloc | apply Kd.R_drewN | apply Kd.R_drew)); exact HO149.out) hb); have n3_ := Aside0.mk (blk_below (g := gb121) (o := .cells #[.int .i64 a0_0, .slice A0_1 l0_1.length c0_1] 31 (0, 0)) (by (with_reducible repeat (first | refine blk_drewN ?_ _ | refine blk_drew ?_ | refine blk_alloc ?_ _)); exact BK121.out) hb); have n4_ := Aside0.mk (below_step (by repeat (first | (with_reducible first | exact HB.out | apply below_alloc | apply pw_below_drewN | apply below_drew1 | refine below_set ?_ GE121.out) | exact HB.out)) hb); clear HO_7; clear HO_8; clear HO149; clear BK121; clear HB; have HO_7 := n0_; have HO_8 := n1_; have HO149 := n2_; have BK121 := n3_; have HB := n4_; clear n0_ n1_ n2_ n3_ n4_; (try clear hb); (try clear hb2); (try clear hk); (try clear hi))))
                        go_roundg kj77
                        case measure => have := HJ3.out; have := HK2.out; have := HK3.out; have := HK4.out; have := HK5.out; have := HJ77.out; omega
                        case rel => exact ⟨(x15_5), (wrap64 (x16_5 + 1)), (by first | rfl | (simp; done) | (simp [*]; done)), (by first | rfl | (simp; done) | (simp [*]; done)), H', ⟨by have := HJ3.out; have := HK2.out; have := HK3.out; have := HK4.out; have := HK5.out; have := HJ77.out; omega⟩, ⟨by (try simp only [hl8_3]); (with_reducible repeat (first | apply Kd.R_alloc | apply Kd.R_drewN | apply Kd.R_drew)); exact Kd.R_mono HO_7.out (fun _ hk => hk.1)⟩, ⟨by (try simp only [hl8_3]); (with_reducible repeat (first | apply Kd.R_alloc | apply Kd.R_drewN | apply Kd.R_drew)); exact Kd.R_mono HO_8.out (fun _ hk => hk.1)⟩, ⟨by (try simp only [hl8_3]); (with_reducible repeat (first | refine blk_drewN ?_ _ | refine blk_drew ?_ | refine blk_alloc ?_ _)); exact BK121.out⟩, ⟨by repeat (first | (with_reducible first | exact HB.out | apply below_alloc | apply pw_below_drewN | apply below_drew1 | refine below_set ?_ GE121.out) | exact HB.out)⟩⟩
                      ·replace c82 := Bool.eq_false_iff.mpr c82
                       subst c82
                       have H1 : (if x7_4.length < 17592186044416 then ((spec_EndOf.f kj77 a0_0 l0_1 (([x15_5] : List Int)) x14_4).bind fun t159 => (spec_RouteTo.l3 kj77 a2 (x7_4 ++ [x15_5]) x8_3 t159 a0_0 l0_1)) else (none)) = some r := by rw [if_neg (show ¬ (false = true) by decide)] at H; exact H
                       clear H
                       have H := H1
                       clear H1
                       by_cases c105 : x7_4.length < 17592186044416
                       ·rw [if_pos c105] at H
                        have LMc105 := Aside0.mk c105
                        clear c105
                        obtain ⟨y153, hy153⟩ : ∃ y_ : List Int, y_ = (x7_4 ++ [x15_5]) := ⟨_, rfl⟩
                        replace H : ((spec_EndOf.f kj77 a0_0 l0_1 (([x15_5] : List Int)) x14_4).bind fun t159 => (spec_RouteTo.l3 kj77 a2 y153 x8_3 t159 a0_0 l0_1)) = some r := by first | (rw [hy153]; with_reducible exact H) | (have H2_ := (Option.bind_some _ _).symm.trans H; rw [hy153]; with_reducible exact H2_) | (have H2_ := (Option.bind_some _ _).symm.trans H; with_reducible exact H2_) | with_reducible exact H | (rw [hy153]; exact H) | exact H
                        have Ny153 := Aside0.mk hy153
                        clear hy153
                        obtain ⟨y156, hy156⟩ : ∃ y_ : List Int, y_ = (([x15_5] : List Int)) := ⟨_, rfl⟩
                        replace H : ((spec_EndOf.f kj77 a0_0 l0_1 y156 x14_4).bind fun t159 => (spec_RouteTo.l3 kj77 a2 y153 x8_3 t159 a0_0 l0_1)) = some r := by first | (rw [hy156]; with_reducible exact H) | (have H2_ := (Option.bind_some _ _).symm.trans H; rw [hy156]; with_reducible exact H2_) | (have H2_ := (Option.bind_some _ _).symm.trans H; with_reducible exact H2_) | with_reducible exact H | (rw [hy156]; exact H) | exact H
                        have Ny156 := Aside0.mk hy156
                        clear hy156
                        replace H := Option.bind_eq_some_iff.mp H
                        obtain ⟨t159, A1060, H⟩ := H
                        replace H : (spec_RouteTo.l3 kj77 a2 y153 x8_3 t159 a0_0 l0_1) = some r := H
                        have A106 := Aside0.mk A1060
                        clear A1060
                        have H' := Aside0.mk H
                        clear H
                        go_wp2_with (first | ((with_reducible refine gate_builtin (b := .append) (xs := #[.tmp 154, .tmp 156]) rfl ?_); at_builtin; refine Kd.R_append (Kd.int .i64) (w0 := w) w.heap.size rfl (.tmp 154) (.tmp 156) 25 3 (.int .i64 0) 8 rfl Try.underlying25 info3 rfl (by decide) (by omega) u7 x7_4 x15_5 [.int .i64 x15_5] (fun k_ => some k_ ≠ (.slice (some ⟨go30, 0, none⟩) x8_3.length co30 : Value).ownBlock) (fun _ => False) rfl rfl ?aP (fun _ hk => hk.elim) ?aF ?aO ?aB ?aS ?aL ?_; (case aP => exact rfl); (case aB => exact (by repeat (first | (with_reducible first | exact HB.out | apply below_alloc | apply pw_below_drewN | apply below_drew1 | refine below_set ?_ GE121.out) | exact HB.out))); (case aF => exact (fun k_ hk => Kd.fresh' (Kd.R_lt (by (with_reducible repeat (first | apply Kd.R_alloc | apply Kd.R_drewN | apply Kd.R_drew)); exact HO_8.out)) k_ hk)); (case aO => exact (by (with_reducible repeat (first | apply Kd.R_alloc | apply Kd.R_drewN | apply Kd.R_drew)); exact HO_7.out)); (case aS => exact (below_size (by repeat (first | (with_reducible first | exact HB.out | apply below_alloc | apply pw_below_drewN | apply below_drew1 | refine below_set ?_ GE121.out) | exact HB.out)))); (case aL => have := LMc105.out; omega); intro v154 w107 ho hb hg hat; rw [← Ny153.out] at ho; have n0_ := Aside0.mk (Kd.R_after (ok := (fun _ => True)) (by (with_reducible repeat (first | apply Kd.R_alloc | apply Kd.R_drewN | apply Kd.R_drew)); exact Kd.R_mono HO_8.out (fun _ hk => ⟨trivial, hk⟩)) hg hat); have n1_ := Aside0.mk (blk_grown (g := gb121) (o := .cells #[.int .i64 a0_0, .slice A0_1 l0_1.length c0_1] 31 (0, 0)) (by (with_reducible repeat (first | refine blk_drewN ?_ _ | refine blk_drew ?_ | refine blk_alloc ?_ _)); exact BK121.out) hg (Kd.R_ne HO_7.out BK121.out (by decide))); have n2_ := Aside0.mk (hb); have n3_ := Aside0.mk (ho); clear HO_8; clear BK121; clear HB; clear HO_7; have HO_8 := n0_; have BK121 := n1_; have HB := n2_; have HO155 := n3_; clear n0_ n1_ n2_ n3_; clear ho hb hg hat; have hcz108_0 : w107.cell? ⟨gb121, 0, none⟩ = some (.int .i64 a0_0) := (blk_cell BK121.out 0).trans rfl; have hcz108_1 : w107.cell? ⟨gb121, 1, none⟩ = some (.slice A0_1 l0_1.length c0_1) := (blk_cell BK121.out 1).trans rfl; have hfz108_0 := blk_frozen BK121.out 0; have hfz108_1 := blk_frozen BK121.out 1) | ((with_reducible refine gate_dst (N := 160) rfl ?_); refine Kd.R_lit (Kd.int .i64) _ 3 ?hg (N := 160) ?hd (xs := ([x15_5] : List Int)) (inner := [.int .i64 x15_5]) (ok := fun _ => True) (okp := fun _ => True) ?hr ?hp (fun _ hk => hk) trivial (Below.refl _ _) (Nat.le_refl _) (by simp) ?_; (case hd => rfl); (case hg => rfl); (case hr => first | (go_simp; done) | (go_simp; rfl)); (case hp => exact (Reps.one (show Kd.M (Kd.int .i64) _ _ _ x15_5 [.int .i64 x15_5] from rfl) (Reps.none _ _))); intro v157 w109 ho110 hb hg_ hnew_; clear hg_ hnew_; (first | rw [← Ny156.out] at ho110 | (simp only [Int.reduceToNat] at ho110; rw [← Ny156.out] at ho110)); have n0_ := Aside0.mk (Kd.R_elder' (by (with_reducible repeat (first | apply Kd.R_alloc | apply Kd.R_drewN | apply Kd.R_drew)); exact HO_8.out) (Kd.R_base ho110) hb); have n1_ := Aside0.mk (Kd.R_elder' (by (with_reducible repeat (first | apply Kd.R_alloc | apply Kd.R_drewN | apply Kd.R_drew)); exact HO155.out) (Kd.R_base ho110) hb); have n2_ := Aside0.mk (Kd.R_lower (Kd.R_new' (Kd.R_new' ho110 (Kd.R_lt (by (with_reducible repeat (first | apply Kd.R_alloc | apply Kd.R_drewN | apply Kd.R_drew)); exact HO_8.out))) (Kd.R_lt (by (with_reducible repeat (first | apply Kd.R_alloc | apply Kd.R_drewN | apply Kd.R_drew)); exact HO155.out))) (below_size (by repeat (first | (with_reducible first | exact HB.out | apply below_alloc | apply pw_below_drewN | apply below_drew1 | refine below_set ?_ GE121.out) | exact HB.out)))); have n3_ := Aside0.mk (blk_below (g := gb121) (o := .cells #[.int .i64 a0_0, .slice A0_1 l0_1.length c0_1] 31 (0, 0)) (by (with_reducible repeat (first | refine blk_drewN ?_ _ | refine blk_drew ?_ | refine blk_alloc ?_ _)); exact BK121.out) hb); have n4_ := Aside0.mk (below_step (by repeat (first | (with_reducible first | exact HB.out | apply below_alloc | apply pw_below_drewN | apply below_drew1 | refine below_set ?_ GE121.out) | exact HB.out)) hb); clear HO_8; clear HO155; clear BK121; clear HB; have HO_8 := n0_; have HO155 := n1_; have HO158 := n2_; have BK121 := n3_; have HB := n4_; clear n0_ n1_ n2_ n3_ n4_; clear hb ho110; obtain ⟨Ao111, co111, eo111⟩ := Kd.R_slice HO158.out; subst eo111) | (go_at_call 67; (with_reducible refine (spec_EndOf.calls kj77 a0_0 _ _ l0_1 _ _ y156 x14_4 t159 _ ?side1 ?side2 ?side3 ?side4 A106.out).mono ?_); (case side1 => repeat (first | exact (Kd.C_below HR0_1.out HB.out) | (with_reducible refine Kd.C_alloc ?_ _) | (with_reducible refine Kd.C_drewN ?_ _) | (with_reducible refine Kd.C_drew ?_))); (case side2 => exact HC0_1.out); (case side3 => repeat (first | exact (Kd.R_reads' HO158.out).2.2 | (with_reducible refine Kd.C_alloc ?_ _) | (with_reducible refine Kd.C_drewN ?_ _) | (with_reducible refine Kd.C_drew ?_))); (case side4 => exact (Kd.R_reads' HO158.out).2.1); rintro e w112 ⟨rfl, hb⟩; have n0_ := Aside0.mk (Kd.R_below (by (with_reducible repeat (first | apply Kd.R_alloc | apply Kd.R_drewN | apply Kd.R_drew)); exact HO_8.out) hb); have n1_ := Aside0.mk (Kd.R_below (by (with_reducible repeat (first | apply Kd.R_alloc | apply Kd.R_drewN | apply Kd.R_drew)); exact HO155.out) hb); have n2_ := Aside0.mk (Kd.R_below (by (with_reducible repeat (first | apply Kd.R_alloc | apply Kd.R_drewN | apply Kd.R_drew)); exact HO158.out) hb); have n3_ := Aside0.mk (blk_below (g := gb121) (o := .cells #[.int .i64 a0_0, .slice A0_1 l0_1.length c0_1] 31 (0, 0)) (by (with_reducible repeat (first | refine blk_drewN ?_ _ | refine blk_drew ?_ | refine blk_alloc ?_ _)); exact BK121.out) hb); have n4_ := Aside0.mk (below_step (by repeat (first | (with_reducible first | exact HB.out | apply below_alloc | apply pw_below_drewN | apply below_drew1 | refine below_set ?_ GE121.out) | exact HB.out)) hb); clear HO_8; clear HO155; clear HO158; clear BK121; clear HB; have HO_8 := n0_; have HO155 := n1_; have HO158 := n2_; have BK121 := n3_; have HB := n4_; clear n0_ n1_ n2_ n3_ n4_; (try clear hb); (try clear hb2); (try clear hk); (try clear hi)))
                        go_roundg kj77
                        case measure => have := HJ3.out; have := HK2.out; have := HK3.out; have := HK4.out; have := HK5.out; have := HJ77.out; omega
                        case rel => exact ⟨(y153), (t159), (by first | rfl | (simp; done) | (simp [*]; done)), H', ⟨by have := HJ3.out; have := HK2.out; have := HK3.out; have := HK4.out; have := HK5.out; have := HJ77.out; omega⟩, ⟨by (try simp only [hl8_3]); (with_reducible repeat (first | apply Kd.R_alloc | apply Kd.R_drewN | apply Kd.R_drew)); exact Kd.R_mono HO155.out (fun _ hk => hk.1)⟩, ⟨by (try simp only [hl8_3]); (with_reducible repeat (first | apply Kd.R_alloc | apply Kd.R_drewN | apply Kd.R_drew)); exact Kd.R_mono HO_8.out (fun _ hk => hk.1.2)⟩, ⟨by (try simp only [hl8_3]); (with_reducible repeat (first | refine blk_drewN ?_ _ | refine blk_drew ?_ | refine blk_alloc ?_ _)); exact BK121.out⟩, ⟨by repeat (first | (with_reducible first | exact HB.out | apply below_alloc | apply pw_below_drewN | apply below_drew1 | refine below_set ?_ GE121.out) | exact HB.out)⟩⟩
                       ·rw [if_neg c105] at H
                        exact absurd H (by simp)
             ·rw [if_neg c73] at H
              exact absurd H (by simp)
            ·rw [if_neg c72] at H
             exact absurd H (by simp)
        ·rw [if_neg c29] at H
         exact absurd H (by simp)
       ·rw [if_neg c28] at H
        exact absurd H (by simp)

end Go.Proofs.Ytcdlhjfiboomkaa.Z
