-- Written by this session's wip/mp/mp.py out of the translation. Lean checks it.
import Derived.Test.YthfnnlbppkhhjaaZ0
import Derived.Test.YthfnnlbppkhhjaaZ1
import Derived.Test.YthfnnlbppkhhjaaZ2
import Derived.Test.YthfnnlbppkhhjaaZ3
import Derived.Test.YthfnnlbppkhhjaaZ5
namespace Go.Proofs.Ythfnnlbppkhhjaa.Z
open Go.RowKit Go.Proofs.YthfnnlbppkhhjaaW.PrintWords Go.Proofs.YthfnnlbppkhhjaaW.PrintLast Go.Proofs.YthfnnlbppkhhjaaW.PrintMore
attribute [local go_sem] max2_int min2_int max_two min_two max_three min_three max_four min_four   -- for this text's walks alone
set_option linter.unusedVariables false
set_option linter.unusedSimpArgs false

/-! ### laws_FnClocks: function 7 -/
mutual
def laws_FnClocks.j0 : Nat → List Int → Int → Int → Int → Bool → Int → Int → Option (Bool)
  | 0, _, _, _, _, _, _, _ => none
  | k + 1, x0, x3, x4, x8, x81, x215000, x215001 => if x81 = true then (some false) else ((impl_OneWay.f k x3 x8 x215000 x215001).bind fun bt216 => (if bt216.2.2 = true then (if bt216.1 > x4 then (laws_FnClocks.j1 k x0 true) else (laws_FnClocks.j1 k x0 (decide (bt216.2.1 < x4)))) else (laws_FnClocks.j1 k x0 true)))
def laws_FnClocks.j1 : Nat → List Int → Bool → Option (Bool)
  | 0, _, _ => none
  | k + 1, x0, x102 => if x102 = true then (some false) else ((spec_DrawMeetAll.f k x0).bind fun t220 => ((impl_MeetAll.f k t220).bind fun bt223 => (laws_FnClocks.l0 k t220 bt223.2.2 (-15) bt223.1 bt223.2.1)))
def laws_FnClocks.l0 : Nat → List (S25) → Bool → Int → Int → Int → Option (Bool)
  | 0, _, _, _, _, _ => none
  | k + 1, x15, x17, x18, x227000, x227001 => if x18 ≤ 65 then (laws_FnClocks.l1 k x15 x17 x18 (decide ((x15.length : Int) > 0)) 0 x227000 x227001) else (some true)
def laws_FnClocks.l1 : Nat → List (S25) → Bool → Int → Bool → Int → Int → Int → Option (Bool)
  | 0, _, _, _, _, _, _, _ => none
  | k + 1, x15, x17, x18, x19, x20, x227000, x227001 => if x20 < (x15.length : Int) then (if x19 = true then (if 0 ≤ x20 then ((impl_IsInterval.f ((rd_T25 x15 x20).f0) ((rd_T25 x15 x20).f1)).bind fun t228 => (if t228 = true then (if ((rd_T25 x15 x20).f0) ≤ x18 then (laws_FnClocks.l1 k x15 x17 x18 (decide (x18 ≤ ((rd_T25 x15 x20).f1))) (wrap64 (x20 + 1)) x227000 x227001) else (laws_FnClocks.l1 k x15 x17 x18 false (wrap64 (x20 + 1)) x227000 x227001)) else (laws_FnClocks.l1 k x15 x17 x18 false (wrap64 (x20 + 1)) x227000 x227001))) else (none)) else (laws_FnClocks.l1 k x15 x17 x18 false (wrap64 (x20 + 1)) x227000 x227001)) else (if x17 = true then (if x227000 ≤ x18 then (if (x19 != (decide (x18 ≤ x227001))) = true then (some false) else (laws_FnClocks.l0 k x15 x17 (wrap64 (x18 + 1)) x227000 x227001)) else (if (x19 != false) = true then (some false) else (laws_FnClocks.l0 k x15 x17 (wrap64 (x18 + 1)) x227000 x227001))) else (if (x19 != false) = true then (some false) else (laws_FnClocks.l0 k x15 x17 (wrap64 (x18 + 1)) x227000 x227001)))
end
def laws_FnClocks.f (k : Nat) (l0 : List Int) : Option (Bool) := (laws_big.f l0).bind fun t205 => (if t205 = true then (some true) else ((laws_at.f l0 0).bind fun t206 => ((laws_at.f l0 1).bind fun t207 => ((laws_at.f l0 2).bind fun t208 => ((laws_at.f l0 3).bind fun t209 => ((laws_at.f l0 4).bind fun t210 => ((impl_OffsetOf.f k (wrap64 (300 + t206)) (wrap64 ((wrap64 ((wrap64 (300 + t206)) + (Int.tmod t207 50))) + (wrap64 ((Int.tmod t209 200) - 100)))) (wrap64 ((wrap64 ((wrap64 ((wrap64 (300 + t206)) + (Int.tmod t207 50))) + (wrap64 ((Int.tmod t209 200) - 100)))) + (Int.tmod t210 20))) (wrap64 ((wrap64 ((wrap64 ((wrap64 ((wrap64 ((wrap64 (300 + t206)) + (Int.tmod t207 50))) + (wrap64 ((Int.tmod t209 200) - 100)))) + (Int.tmod t210 20))) - (wrap64 ((Int.tmod t209 200) - 100)))) + (Int.tmod t208 50)))).bind fun bt211 => (if bt211.2.2 = true then (if bt211.1 > (wrap64 ((Int.tmod t209 200) - 100)) then (laws_FnClocks.j0 k l0 (wrap64 (300 + t206)) (Int.tmod t207 50) (wrap64 ((wrap64 ((wrap64 (300 + t206)) + (Int.tmod t207 50))) + (wrap64 ((Int.tmod t209 200) - 100)))) true bt211.1 bt211.2.1) else (if bt211.2.1 < (wrap64 ((Int.tmod t209 200) - 100)) then (laws_FnClocks.j0 k l0 (wrap64 (300 + t206)) (Int.tmod t207 50) (wrap64 ((wrap64 ((wrap64 (300 + t206)) + (Int.tmod t207 50))) + (wrap64 ((Int.tmod t209 200) - 100)))) true bt211.1 bt211.2.1) else ((impl_WidthOf.f bt211.1 bt211.2.1).bind fun t215 => (laws_FnClocks.j0 k l0 (wrap64 (300 + t206)) (Int.tmod t207 50) (wrap64 ((wrap64 ((wrap64 (300 + t206)) + (Int.tmod t207 50))) + (wrap64 ((Int.tmod t209 200) - 100)))) (t215 != (wrap64 ((Int.tmod t207 50) + (Int.tmod t208 50)))) bt211.1 bt211.2.1)))) else (laws_FnClocks.j0 k l0 (wrap64 (300 + t206)) (Int.tmod t207 50) (wrap64 ((wrap64 ((wrap64 (300 + t206)) + (Int.tmod t207 50))) + (wrap64 ((Int.tmod t209 200) - 100)))) true bt211.1 bt211.2.1)))))))))
theorem laws_FnClocks.mono_l : ∀ k, (∀ y0 y1 y2 y3 y4 y5 y6, LeO (laws_FnClocks.j0 k y0 y1 y2 y3 y4 y5 y6) (laws_FnClocks.j0 (k + 1) y0 y1 y2 y3 y4 y5 y6)) ∧ (∀ y0 y1, LeO (laws_FnClocks.j1 k y0 y1) (laws_FnClocks.j1 (k + 1) y0 y1)) ∧ (∀ y0 y1 y2 y3 y4, LeO (laws_FnClocks.l0 k y0 y1 y2 y3 y4) (laws_FnClocks.l0 (k + 1) y0 y1 y2 y3 y4)) ∧ (∀ y0 y1 y2 y3 y4 y5 y6, LeO (laws_FnClocks.l1 k y0 y1 y2 y3 y4 y5 y6) (laws_FnClocks.l1 (k + 1) y0 y1 y2 y3 y4 y5 y6))
  | 0 => ⟨fun _ _ _ _ _ _ _ r h => by simp [laws_FnClocks.j0] at h, fun _ _ r h => by simp [laws_FnClocks.j1] at h, fun _ _ _ _ _ r h => by simp [laws_FnClocks.l0] at h, fun _ _ _ _ _ _ _ r h => by simp [laws_FnClocks.l1] at h⟩
  | k + 1 => by
    obtain ⟨ih0, ih1, ih2, ih3⟩ := laws_FnClocks.mono_l k
    refine ⟨?_, ?_, ?_, ?_⟩
    · intro y0 y1 y2 y3 y4 y5 y6
      unfold laws_FnClocks.j0
      repeat' first
      | (with_reducible exact ih0 _ _ _ _ _ _ _)
      | (with_reducible exact ih1 _ _)
      | (with_reducible exact ih2 _ _ _ _ _)
      | (with_reducible exact ih3 _ _ _ _ _ _ _)
      | (with_reducible exact impl_MeetAll.mono _ _)
      | (with_reducible exact impl_OffsetOf.mono _ _ _ _ _)
      | (with_reducible exact impl_OneWay.mono _ _ _ _ _)
      | (with_reducible exact spec_DrawMeetAll.mono _ _)
      | (with_reducible exact LeO.refl _)
      | (with_reducible exact LeO.none _)
      | (with_reducible refine LeO.ite ?_ ?_)
      | (with_reducible refine LeO.bind ?_ (fun _ => ?_))
      | exact ih0 _ _ _ _ _ _ _
      | exact ih1 _ _
      | exact ih2 _ _ _ _ _
      | exact ih3 _ _ _ _ _ _ _
      | exact impl_MeetAll.mono _ _
      | exact impl_OffsetOf.mono _ _ _ _ _
      | exact impl_OneWay.mono _ _ _ _ _
      | exact spec_DrawMeetAll.mono _ _
      | exact LeO.none _
      | refine LeO.ite ?_ ?_
      | refine LeO.bind ?_ (fun _ => ?_)
    · intro y0 y1
      unfold laws_FnClocks.j1
      repeat' first
      | (with_reducible exact ih0 _ _ _ _ _ _ _)
      | (with_reducible exact ih1 _ _)
      | (with_reducible exact ih2 _ _ _ _ _)
      | (with_reducible exact ih3 _ _ _ _ _ _ _)
      | (with_reducible exact impl_MeetAll.mono _ _)
      | (with_reducible exact impl_OffsetOf.mono _ _ _ _ _)
      | (with_reducible exact impl_OneWay.mono _ _ _ _ _)
      | (with_reducible exact spec_DrawMeetAll.mono _ _)
      | (with_reducible exact LeO.refl _)
      | (with_reducible exact LeO.none _)
      | (with_reducible refine LeO.ite ?_ ?_)
      | (with_reducible refine LeO.bind ?_ (fun _ => ?_))
      | exact ih0 _ _ _ _ _ _ _
      | exact ih1 _ _
      | exact ih2 _ _ _ _ _
      | exact ih3 _ _ _ _ _ _ _
      | exact impl_MeetAll.mono _ _
      | exact impl_OffsetOf.mono _ _ _ _ _
      | exact impl_OneWay.mono _ _ _ _ _
      | exact spec_DrawMeetAll.mono _ _
      | exact LeO.none _
      | refine LeO.ite ?_ ?_
      | refine LeO.bind ?_ (fun _ => ?_)
    · intro y0 y1 y2 y3 y4
      unfold laws_FnClocks.l0
      repeat' first
      | (with_reducible exact ih0 _ _ _ _ _ _ _)
      | (with_reducible exact ih1 _ _)
      | (with_reducible exact ih2 _ _ _ _ _)
      | (with_reducible exact ih3 _ _ _ _ _ _ _)
      | (with_reducible exact impl_MeetAll.mono _ _)
      | (with_reducible exact impl_OffsetOf.mono _ _ _ _ _)
      | (with_reducible exact impl_OneWay.mono _ _ _ _ _)
      | (with_reducible exact spec_DrawMeetAll.mono _ _)
      | (with_reducible exact LeO.refl _)
      | (with_reducible exact LeO.none _)
      | (with_reducible refine LeO.ite ?_ ?_)
      | (with_reducible refine LeO.bind ?_ (fun _ => ?_))
      | exact ih0 _ _ _ _ _ _ _
      | exact ih1 _ _
      | exact ih2 _ _ _ _ _
      | exact ih3 _ _ _ _ _ _ _
      | exact impl_MeetAll.mono _ _
      | exact impl_OffsetOf.mono _ _ _ _ _
      | exact impl_OneWay.mono _ _ _ _ _
      | exact spec_DrawMeetAll.mono _ _
      | exact LeO.none _
      | refine LeO.ite ?_ ?_
      | refine LeO.bind ?_ (fun _ => ?_)
    · intro y0 y1 y2 y3 y4 y5 y6
      unfold laws_FnClocks.l1
      repeat' first
      | (with_reducible exact ih0 _ _ _ _ _ _ _)
      | (with_reducible exact ih1 _ _)
      | (with_reducible exact ih2 _ _ _ _ _)
      | (with_reducible exact ih3 _ _ _ _ _ _ _)
      | (with_reducible exact impl_MeetAll.mono _ _)
      | (with_reducible exact impl_OffsetOf.mono _ _ _ _ _)
      | (with_reducible exact impl_OneWay.mono _ _ _ _ _)
      | (with_reducible exact spec_DrawMeetAll.mono _ _)
      | (with_reducible exact LeO.refl _)
      | (with_reducible exact LeO.none _)
      | (with_reducible refine LeO.ite ?_ ?_)
      | (with_reducible refine LeO.bind ?_ (fun _ => ?_))
      | exact ih0 _ _ _ _ _ _ _
      | exact ih1 _ _
      | exact ih2 _ _ _ _ _
      | exact ih3 _ _ _ _ _ _ _
      | exact impl_MeetAll.mono _ _
      | exact impl_OffsetOf.mono _ _ _ _ _
      | exact impl_OneWay.mono _ _ _ _ _
      | exact spec_DrawMeetAll.mono _ _
      | exact LeO.none _
      | refine LeO.ite ?_ ?_
      | refine LeO.bind ?_ (fun _ => ?_)
theorem laws_FnClocks.mono : ∀ a0 k, LeO (laws_FnClocks.f k a0) (laws_FnClocks.f (k + 1) a0) := by
  intro a0 k
  obtain ⟨ih0, ih1, ih2, ih3⟩ := laws_FnClocks.mono_l k
  unfold laws_FnClocks.f
  repeat' first
      | (with_reducible exact ih0 _ _ _ _ _ _ _)
      | (with_reducible exact ih1 _ _)
      | (with_reducible exact ih2 _ _ _ _ _)
      | (with_reducible exact ih3 _ _ _ _ _ _ _)
      | (with_reducible exact impl_MeetAll.mono _ _)
      | (with_reducible exact impl_OffsetOf.mono _ _ _ _ _)
      | (with_reducible exact impl_OneWay.mono _ _ _ _ _)
      | (with_reducible exact spec_DrawMeetAll.mono _ _)
      | (with_reducible exact LeO.refl _)
      | (with_reducible exact LeO.none _)
      | (with_reducible refine LeO.ite ?_ ?_)
      | (with_reducible refine LeO.bind ?_ (fun _ => ?_))
      | exact ih0 _ _ _ _ _ _ _
      | exact ih1 _ _
      | exact ih2 _ _ _ _ _
      | exact ih3 _ _ _ _ _ _ _
      | exact impl_MeetAll.mono _ _
      | exact impl_OffsetOf.mono _ _ _ _ _
      | exact impl_OneWay.mono _ _ _ _ _
      | exact spec_DrawMeetAll.mono _ _
      | exact LeO.none _
      | refine LeO.ite ?_ ?_
      | refine LeO.bind ?_ (fun _ => ?_)
set_option maxHeartbeats 8000000 in
set_option maxRecDepth 100000 in
theorem laws_FnClocks.calls (k : Nat) (A0 : Option Addr) (c0 : Nat) (l0 : List Int) (r : Bool) (w : World) (hr0 : Kd.C (Kd.int .u8) w A0 l0.length l0) (hc0 : l0.length ≤ c0) (h : laws_FnClocks.f k l0 = some r) (hrt : Aside0 (r = true)) :
    Calls Try.prog 7 #[.slice A0 l0.length c0] w fun e w' => e = .returned (.bool r) ∧ Below w.heap.size w w' := by
  have hu25 := Try.underlying25
  have HR0 := Aside0.mk hr0
  have HC0 := Aside0.mk hc0
  clear hr0 hc0
  have HB := Aside0.mk (Below.refl w.heap.size w)
  have H : ((laws_big.f l0).bind fun t205 => (if t205 = true then (some true) else ((laws_at.f l0 0).bind fun t206 => ((laws_at.f l0 1).bind fun t207 => ((laws_at.f l0 2).bind fun t208 => ((laws_at.f l0 3).bind fun t209 => ((laws_at.f l0 4).bind fun t210 => ((impl_OffsetOf.f k (wrap64 (300 + t206)) (wrap64 ((wrap64 ((wrap64 (300 + t206)) + (Int.tmod t207 50))) + (wrap64 ((Int.tmod t209 200) - 100)))) (wrap64 ((wrap64 ((wrap64 ((wrap64 (300 + t206)) + (Int.tmod t207 50))) + (wrap64 ((Int.tmod t209 200) - 100)))) + (Int.tmod t210 20))) (wrap64 ((wrap64 ((wrap64 ((wrap64 ((wrap64 ((wrap64 (300 + t206)) + (Int.tmod t207 50))) + (wrap64 ((Int.tmod t209 200) - 100)))) + (Int.tmod t210 20))) - (wrap64 ((Int.tmod t209 200) - 100)))) + (Int.tmod t208 50)))).bind fun bt211 => (if bt211.2.2 = true then (if bt211.1 > (wrap64 ((Int.tmod t209 200) - 100)) then (laws_FnClocks.j0 k l0 (wrap64 (300 + t206)) (Int.tmod t207 50) (wrap64 ((wrap64 ((wrap64 (300 + t206)) + (Int.tmod t207 50))) + (wrap64 ((Int.tmod t209 200) - 100)))) true bt211.1 bt211.2.1) else (if bt211.2.1 < (wrap64 ((Int.tmod t209 200) - 100)) then (laws_FnClocks.j0 k l0 (wrap64 (300 + t206)) (Int.tmod t207 50) (wrap64 ((wrap64 ((wrap64 (300 + t206)) + (Int.tmod t207 50))) + (wrap64 ((Int.tmod t209 200) - 100)))) true bt211.1 bt211.2.1) else ((impl_WidthOf.f bt211.1 bt211.2.1).bind fun t215 => (laws_FnClocks.j0 k l0 (wrap64 (300 + t206)) (Int.tmod t207 50) (wrap64 ((wrap64 ((wrap64 (300 + t206)) + (Int.tmod t207 50))) + (wrap64 ((Int.tmod t209 200) - 100)))) (t215 != (wrap64 ((Int.tmod t207 50) + (Int.tmod t208 50)))) bt211.1 bt211.2.1)))) else (laws_FnClocks.j0 k l0 (wrap64 (300 + t206)) (Int.tmod t207 50) (wrap64 ((wrap64 ((wrap64 (300 + t206)) + (Int.tmod t207 50))) + (wrap64 ((Int.tmod t209 200) - 100)))) true bt211.1 bt211.2.1)))))))))) = some r := h
  clear h
  replace H := Option.bind_eq_some_iff.mp H
  obtain ⟨t205, A20, H⟩ := H
  replace H : (if t205 = true then (some true) else ((laws_at.f l0 0).bind fun t206 => ((laws_at.f l0 1).bind fun t207 => ((laws_at.f l0 2).bind fun t208 => ((laws_at.f l0 3).bind fun t209 => ((laws_at.f l0 4).bind fun t210 => ((impl_OffsetOf.f k (wrap64 (300 + t206)) (wrap64 ((wrap64 ((wrap64 (300 + t206)) + (Int.tmod t207 50))) + (wrap64 ((Int.tmod t209 200) - 100)))) (wrap64 ((wrap64 ((wrap64 ((wrap64 (300 + t206)) + (Int.tmod t207 50))) + (wrap64 ((Int.tmod t209 200) - 100)))) + (Int.tmod t210 20))) (wrap64 ((wrap64 ((wrap64 ((wrap64 ((wrap64 ((wrap64 (300 + t206)) + (Int.tmod t207 50))) + (wrap64 ((Int.tmod t209 200) - 100)))) + (Int.tmod t210 20))) - (wrap64 ((Int.tmod t209 200) - 100)))) + (Int.tmod t208 50)))).bind fun bt211 => (if bt211.2.2 = true then (if bt211.1 > (wrap64 ((Int.tmod t209 200) - 100)) then (laws_FnClocks.j0 k l0 (wrap64 (300 + t206)) (Int.tmod t207 50) (wrap64 ((wrap64 ((wrap64 (300 + t206)) + (Int.tmod t207 50))) + (wrap64 ((Int.tmod t209 200) - 100)))) true bt211.1 bt211.2.1) else (if bt211.2.1 < (wrap64 ((Int.tmod t209 200) - 100)) then (laws_FnClocks.j0 k l0 (wrap64 (300 + t206)) (Int.tmod t207 50) (wrap64 ((wrap64 ((wrap64 (300 + t206)) + (Int.tmod t207 50))) + (wrap64 ((Int.tmod t209 200) - 100)))) true bt211.1 bt211.2.1) else ((impl_WidthOf.f bt211.1 bt211.2.1).bind fun t215 => (laws_FnClocks.j0 k l0 (wrap64 (300 + t206)) (Int.tmod t207 50) (wrap64 ((wrap64 ((wrap64 (300 + t206)) + (Int.tmod t207 50))) + (wrap64 ((Int.tmod t209 200) - 100)))) (t215 != (wrap64 ((Int.tmod t207 50) + (Int.tmod t208 50)))) bt211.1 bt211.2.1)))) else (laws_FnClocks.j0 k l0 (wrap64 (300 + t206)) (Int.tmod t207 50) (wrap64 ((wrap64 ((wrap64 (300 + t206)) + (Int.tmod t207 50))) + (wrap64 ((Int.tmod t209 200) - 100)))) true bt211.1 bt211.2.1))))))))) = some r := H
  have A2 := Aside0.mk A20
  clear A20
  by_cases c3 : t205 = true
  · subst c3
    have H1 : (some true) = some r := by rw [if_pos rfl] at H; exact H
    clear H
    have H := H1
    clear H1
    obtain rfl := Option.some.inj H
    go_enter Try.func7, Try.ntmps7
    go_wp2_with (first | ((with_reducible refine gate_callee (f := 31) rfl ?_); refine goesL_ (some 22) rfl rfl Try.func31 (by kernel_rfl) rfl #[.slice A0 l0.length c0] rfl (by (try simp only [List.map_toArray, List.map_cons, List.map_nil]); first | done | rfl | (simp only [List.length_drop, List.length_take]; rfl)) ?_; (with_reducible refine (laws_big.calls _ _ l0 true _ ?side1 ?side2 A2.out).mono ?_); (case side1 => repeat (first | exact HR0.out | (with_reducible refine Kd.C_alloc ?_ _) | (with_reducible refine Kd.C_drewN ?_ _) | (with_reducible refine Kd.C_drew ?_))); (case side2 => exact HC0.out); rintro e w' ⟨rfl, ⟨nd, rfl⟩⟩; refine ⟨_, rfl, ?_⟩))
    go_ret
    exact ⟨by first | rfl | (simp [errW_none, errW_some] <;> rfl) | (simp [*, errW_none, errW_some] <;> rfl), by repeat (first | (with_reducible first | exact HB.out | apply below_alloc | apply pw_below_drewN | apply below_drew1) | exact HB.out)⟩
  · replace c3 := Bool.eq_false_iff.mpr c3
    subst c3
    have H1 : ((laws_at.f l0 0).bind fun t206 => ((laws_at.f l0 1).bind fun t207 => ((laws_at.f l0 2).bind fun t208 => ((laws_at.f l0 3).bind fun t209 => ((laws_at.f l0 4).bind fun t210 => ((impl_OffsetOf.f k (wrap64 (300 + t206)) (wrap64 ((wrap64 ((wrap64 (300 + t206)) + (Int.tmod t207 50))) + (wrap64 ((Int.tmod t209 200) - 100)))) (wrap64 ((wrap64 ((wrap64 ((wrap64 (300 + t206)) + (Int.tmod t207 50))) + (wrap64 ((Int.tmod t209 200) - 100)))) + (Int.tmod t210 20))) (wrap64 ((wrap64 ((wrap64 ((wrap64 ((wrap64 ((wrap64 (300 + t206)) + (Int.tmod t207 50))) + (wrap64 ((Int.tmod t209 200) - 100)))) + (Int.tmod t210 20))) - (wrap64 ((Int.tmod t209 200) - 100)))) + (Int.tmod t208 50)))).bind fun bt211 => (if bt211.2.2 = true then (if bt211.1 > (wrap64 ((Int.tmod t209 200) - 100)) then (laws_FnClocks.j0 k l0 (wrap64 (300 + t206)) (Int.tmod t207 50) (wrap64 ((wrap64 ((wrap64 (300 + t206)) + (Int.tmod t207 50))) + (wrap64 ((Int.tmod t209 200) - 100)))) true bt211.1 bt211.2.1) else (if bt211.2.1 < (wrap64 ((Int.tmod t209 200) - 100)) then (laws_FnClocks.j0 k l0 (wrap64 (300 + t206)) (Int.tmod t207 50) (wrap64 ((wrap64 ((wrap64 (300 + t206)) + (Int.tmod t207 50))) + (wrap64 ((Int.tmod t209 200) - 100)))) true bt211.1 bt211.2.1) else ((impl_WidthOf.f bt211.1 bt211.2.1).bind fun t215 => (laws_FnClocks.j0 k l0 (wrap64 (300 + t206)) (Int.tmod t207 50) (wrap64 ((wrap64 ((wrap64 (300 + t206)) + (Int.tmod t207 50))) + (wrap64 ((Int.tmod t209 200) - 100)))) (t215 != (wrap64 ((Int.tmod t207 50) + (Int.tmod t208 50)))) bt211.1 bt211.2.1)))) else (laws_FnClocks.j0 k l0 (wrap64 (300 + t206)) (Int.tmod t207 50) (wrap64 ((wrap64 ((wrap64 (300 + t206)) + (Int.tmod t207 50))) + (wrap64 ((Int.tmod t209 200) - 100)))) true bt211.1 bt211.2.1)))))))) = some r := by rw [if_neg (show ¬ (false = true) by decide)] at H; exact H
    clear H
    have H := H1
    clear H1
    replace H := Option.bind_eq_some_iff.mp H
    obtain ⟨t206, A40, H⟩ := H
    replace H : ((laws_at.f l0 1).bind fun t207 => ((laws_at.f l0 2).bind fun t208 => ((laws_at.f l0 3).bind fun t209 => ((laws_at.f l0 4).bind fun t210 => ((impl_OffsetOf.f k (wrap64 (300 + t206)) (wrap64 ((wrap64 ((wrap64 (300 + t206)) + (Int.tmod t207 50))) + (wrap64 ((Int.tmod t209 200) - 100)))) (wrap64 ((wrap64 ((wrap64 ((wrap64 (300 + t206)) + (Int.tmod t207 50))) + (wrap64 ((Int.tmod t209 200) - 100)))) + (Int.tmod t210 20))) (wrap64 ((wrap64 ((wrap64 ((wrap64 ((wrap64 ((wrap64 (300 + t206)) + (Int.tmod t207 50))) + (wrap64 ((Int.tmod t209 200) - 100)))) + (Int.tmod t210 20))) - (wrap64 ((Int.tmod t209 200) - 100)))) + (Int.tmod t208 50)))).bind fun bt211 => (if bt211.2.2 = true then (if bt211.1 > (wrap64 ((Int.tmod t209 200) - 100)) then (laws_FnClocks.j0 k l0 (wrap64 (300 + t206)) (Int.tmod t207 50) (wrap64 ((wrap64 ((wrap64 (300 + t206)) + (Int.tmod t207 50))) + (wrap64 ((Int.tmod t209 200) - 100)))) true bt211.1 bt211.2.1) else (if bt211.2.1 < (wrap64 ((Int.tmod t209 200) - 100)) then (laws_FnClocks.j0 k l0 (wrap64 (300 + t206)) (Int.tmod t207 50) (wrap64 ((wrap64 ((wrap64 (300 + t206)) + (Int.tmod t207 50))) + (wrap64 ((Int.tmod t209 200) - 100)))) true bt211.1 bt211.2.1) else ((impl_WidthOf.f bt211.1 bt211.2.1).bind fun t215 => (laws_FnClocks.j0 k l0 (wrap64 (300 + t206)) (Int.tmod t207 50) (wrap64 ((wrap64 ((wrap64 (300 + t206)) + (Int.tmod t207 50))) + (wrap64 ((Int.tmod t209 200) - 100)))) (t215 != (wrap64 ((Int.tmod t207 50) + (Int.tmod t208 50)))) bt211.1 bt211.2.1)))) else (laws_FnClocks.j0 k l0 (wrap64 (300 + t206)) (Int.tmod t207 50) (wrap64 ((wrap64 ((wrap64 (300 + t206)) + (Int.tmod t207 50))) + (wrap64 ((Int.tmod t209 200) - 100)))) true bt211.1 bt211.2.1))))))) = some r := H
    have A4 := Aside0.mk A40
    clear A40
    replace H := Option.bind_eq_some_iff.mp H
    obtain ⟨t207, A50, H⟩ := H
    replace H : ((laws_at.f l0 2).bind fun t208 => ((laws_at.f l0 3).bind fun t209 => ((laws_at.f l0 4).bind fun t210 => ((impl_OffsetOf.f k (wrap64 (300 + t206)) (wrap64 ((wrap64 ((wrap64 (300 + t206)) + (Int.tmod t207 50))) + (wrap64 ((Int.tmod t209 200) - 100)))) (wrap64 ((wrap64 ((wrap64 ((wrap64 (300 + t206)) + (Int.tmod t207 50))) + (wrap64 ((Int.tmod t209 200) - 100)))) + (Int.tmod t210 20))) (wrap64 ((wrap64 ((wrap64 ((wrap64 ((wrap64 ((wrap64 (300 + t206)) + (Int.tmod t207 50))) + (wrap64 ((Int.tmod t209 200) - 100)))) + (Int.tmod t210 20))) - (wrap64 ((Int.tmod t209 200) - 100)))) + (Int.tmod t208 50)))).bind fun bt211 => (if bt211.2.2 = true then (if bt211.1 > (wrap64 ((Int.tmod t209 200) - 100)) then (laws_FnClocks.j0 k l0 (wrap64 (300 + t206)) (Int.tmod t207 50) (wrap64 ((wrap64 ((wrap64 (300 + t206)) + (Int.tmod t207 50))) + (wrap64 ((Int.tmod t209 200) - 100)))) true bt211.1 bt211.2.1) else (if bt211.2.1 < (wrap64 ((Int.tmod t209 200) - 100)) then (laws_FnClocks.j0 k l0 (wrap64 (300 + t206)) (Int.tmod t207 50) (wrap64 ((wrap64 ((wrap64 (300 + t206)) + (Int.tmod t207 50))) + (wrap64 ((Int.tmod t209 200) - 100)))) true bt211.1 bt211.2.1) else ((impl_WidthOf.f bt211.1 bt211.2.1).bind fun t215 => (laws_FnClocks.j0 k l0 (wrap64 (300 + t206)) (Int.tmod t207 50) (wrap64 ((wrap64 ((wrap64 (300 + t206)) + (Int.tmod t207 50))) + (wrap64 ((Int.tmod t209 200) - 100)))) (t215 != (wrap64 ((Int.tmod t207 50) + (Int.tmod t208 50)))) bt211.1 bt211.2.1)))) else (laws_FnClocks.j0 k l0 (wrap64 (300 + t206)) (Int.tmod t207 50) (wrap64 ((wrap64 ((wrap64 (300 + t206)) + (Int.tmod t207 50))) + (wrap64 ((Int.tmod t209 200) - 100)))) true bt211.1 bt211.2.1)))))) = some r := H
    have A5 := Aside0.mk A50
    clear A50
    replace H := Option.bind_eq_some_iff.mp H
    obtain ⟨t208, A60, H⟩ := H
    replace H : ((laws_at.f l0 3).bind fun t209 => ((laws_at.f l0 4).bind fun t210 => ((impl_OffsetOf.f k (wrap64 (300 + t206)) (wrap64 ((wrap64 ((wrap64 (300 + t206)) + (Int.tmod t207 50))) + (wrap64 ((Int.tmod t209 200) - 100)))) (wrap64 ((wrap64 ((wrap64 ((wrap64 (300 + t206)) + (Int.tmod t207 50))) + (wrap64 ((Int.tmod t209 200) - 100)))) + (Int.tmod t210 20))) (wrap64 ((wrap64 ((wrap64 ((wrap64 ((wrap64 ((wrap64 (300 + t206)) + (Int.tmod t207 50))) + (wrap64 ((Int.tmod t209 200) - 100)))) + (Int.tmod t210 20))) - (wrap64 ((Int.tmod t209 200) - 100)))) + (Int.tmod t208 50)))).bind fun bt211 => (if bt211.2.2 = true then (if bt211.1 > (wrap64 ((Int.tmod t209 200) - 100)) then (laws_FnClocks.j0 k l0 (wrap64 (300 + t206)) (Int.tmod t207 50) (wrap64 ((wrap64 ((wrap64 (300 + t206)) + (Int.tmod t207 50))) + (wrap64 ((Int.tmod t209 200) - 100)))) true bt211.1 bt211.2.1) else (if bt211.2.1 < (wrap64 ((Int.tmod t209 200) - 100)) then (laws_FnClocks.j0 k l0 (wrap64 (300 + t206)) (Int.tmod t207 50) (wrap64 ((wrap64 ((wrap64 (300 + t206)) + (Int.tmod t207 50))) + (wrap64 ((Int.tmod t209 200) - 100)))) true bt211.1 bt211.2.1) else ((impl_WidthOf.f bt211.1 bt211.2.1).bind fun t215 => (laws_FnClocks.j0 k l0 (wrap64 (300 + t206)) (Int.tmod t207 50) (wrap64 ((wrap64 ((wrap64 (300 + t206)) + (Int.tmod t207 50))) + (wrap64 ((Int.tmod t209 200) - 100)))) (t215 != (wrap64 ((Int.tmod t207 50) + (Int.tmod t208 50)))) bt211.1 bt211.2.1)))) else (laws_FnClocks.j0 k l0 (wrap64 (300 + t206)) (Int.tmod t207 50) (wrap64 ((wrap64 ((wrap64 (300 + t206)) + (Int.tmod t207 50))) + (wrap64 ((Int.tmod t209 200) - 100)))) true bt211.1 bt211.2.1))))) = some r := H
    have A6 := Aside0.mk A60
    clear A60
    replace H := Option.bind_eq_some_iff.mp H
    obtain ⟨t209, A70, H⟩ := H
    replace H : ((laws_at.f l0 4).bind fun t210 => ((impl_OffsetOf.f k (wrap64 (300 + t206)) (wrap64 ((wrap64 ((wrap64 (300 + t206)) + (Int.tmod t207 50))) + (wrap64 ((Int.tmod t209 200) - 100)))) (wrap64 ((wrap64 ((wrap64 ((wrap64 (300 + t206)) + (Int.tmod t207 50))) + (wrap64 ((Int.tmod t209 200) - 100)))) + (Int.tmod t210 20))) (wrap64 ((wrap64 ((wrap64 ((wrap64 ((wrap64 ((wrap64 (300 + t206)) + (Int.tmod t207 50))) + (wrap64 ((Int.tmod t209 200) - 100)))) + (Int.tmod t210 20))) - (wrap64 ((Int.tmod t209 200) - 100)))) + (Int.tmod t208 50)))).bind fun bt211 => (if bt211.2.2 = true then (if bt211.1 > (wrap64 ((Int.tmod t209 200) - 100)) then (laws_FnClocks.j0 k l0 (wrap64 (300 + t206)) (Int.tmod t207 50) (wrap64 ((wrap64 ((wrap64 (300 + t206)) + (Int.tmod t207 50))) + (wrap64 ((Int.tmod t209 200) - 100)))) true bt211.1 bt211.2.1) else (if bt211.2.1 < (wrap64 ((Int.tmod t209 200) - 100)) then (laws_FnClocks.j0 k l0 (wrap64 (300 + t206)) (Int.tmod t207 50) (wrap64 ((wrap64 ((wrap64 (300 + t206)) + (Int.tmod t207 50))) + (wrap64 ((Int.tmod t209 200) - 100)))) true bt211.1 bt211.2.1) else ((impl_WidthOf.f bt211.1 bt211.2.1).bind fun t215 => (laws_FnClocks.j0 k l0 (wrap64 (300 + t206)) (Int.tmod t207 50) (wrap64 ((wrap64 ((wrap64 (300 + t206)) + (Int.tmod t207 50))) + (wrap64 ((Int.tmod t209 200) - 100)))) (t215 != (wrap64 ((Int.tmod t207 50) + (Int.tmod t208 50)))) bt211.1 bt211.2.1)))) else (laws_FnClocks.j0 k l0 (wrap64 (300 + t206)) (Int.tmod t207 50) (wrap64 ((wrap64 ((wrap64 (300 + t206)) + (Int.tmod t207 50))) + (wrap64 ((Int.tmod t209 200) - 100)))) true bt211.1 bt211.2.1)))) = some r := H
    have A7 := Aside0.mk A70
    clear A70
    replace H := Option.bind_eq_some_iff.mp H
    obtain ⟨t210, A80, H⟩ := H
    replace H : ((impl_OffsetOf.f k (wrap64 (300 + t206)) (wrap64 ((wrap64 ((wrap64 (300 + t206)) + (Int.tmod t207 50))) + (wrap64 ((Int.tmod t209 200) - 100)))) (wrap64 ((wrap64 ((wrap64 ((wrap64 (300 + t206)) + (Int.tmod t207 50))) + (wrap64 ((Int.tmod t209 200) - 100)))) + (Int.tmod t210 20))) (wrap64 ((wrap64 ((wrap64 ((wrap64 ((wrap64 ((wrap64 (300 + t206)) + (Int.tmod t207 50))) + (wrap64 ((Int.tmod t209 200) - 100)))) + (Int.tmod t210 20))) - (wrap64 ((Int.tmod t209 200) - 100)))) + (Int.tmod t208 50)))).bind fun bt211 => (if bt211.2.2 = true then (if bt211.1 > (wrap64 ((Int.tmod t209 200) - 100)) then (laws_FnClocks.j0 k l0 (wrap64 (300 + t206)) (Int.tmod t207 50) (wrap64 ((wrap64 ((wrap64 (300 + t206)) + (Int.tmod t207 50))) + (wrap64 ((Int.tmod t209 200) - 100)))) true bt211.1 bt211.2.1) else (if bt211.2.1 < (wrap64 ((Int.tmod t209 200) - 100)) then (laws_FnClocks.j0 k l0 (wrap64 (300 + t206)) (Int.tmod t207 50) (wrap64 ((wrap64 ((wrap64 (300 + t206)) + (Int.tmod t207 50))) + (wrap64 ((Int.tmod t209 200) - 100)))) true bt211.1 bt211.2.1) else ((impl_WidthOf.f bt211.1 bt211.2.1).bind fun t215 => (laws_FnClocks.j0 k l0 (wrap64 (300 + t206)) (Int.tmod t207 50) (wrap64 ((wrap64 ((wrap64 (300 + t206)) + (Int.tmod t207 50))) + (wrap64 ((Int.tmod t209 200) - 100)))) (t215 != (wrap64 ((Int.tmod t207 50) + (Int.tmod t208 50)))) bt211.1 bt211.2.1)))) else (laws_FnClocks.j0 k l0 (wrap64 (300 + t206)) (Int.tmod t207 50) (wrap64 ((wrap64 ((wrap64 (300 + t206)) + (Int.tmod t207 50))) + (wrap64 ((Int.tmod t209 200) - 100)))) true bt211.1 bt211.2.1))) = some r := H
    have A8 := Aside0.mk A80
    clear A80
    replace H := Option.bind_eq_some_iff.mp H
    obtain ⟨⟨t211, t212, t213⟩, A90, H⟩ := H
    replace H : (if t213 = true then (if t211 > (wrap64 ((Int.tmod t209 200) - 100)) then (laws_FnClocks.j0 k l0 (wrap64 (300 + t206)) (Int.tmod t207 50) (wrap64 ((wrap64 ((wrap64 (300 + t206)) + (Int.tmod t207 50))) + (wrap64 ((Int.tmod t209 200) - 100)))) true t211 t212) else (if t212 < (wrap64 ((Int.tmod t209 200) - 100)) then (laws_FnClocks.j0 k l0 (wrap64 (300 + t206)) (Int.tmod t207 50) (wrap64 ((wrap64 ((wrap64 (300 + t206)) + (Int.tmod t207 50))) + (wrap64 ((Int.tmod t209 200) - 100)))) true t211 t212) else ((impl_WidthOf.f t211 t212).bind fun t215 => (laws_FnClocks.j0 k l0 (wrap64 (300 + t206)) (Int.tmod t207 50) (wrap64 ((wrap64 ((wrap64 (300 + t206)) + (Int.tmod t207 50))) + (wrap64 ((Int.tmod t209 200) - 100)))) (t215 != (wrap64 ((Int.tmod t207 50) + (Int.tmod t208 50)))) t211 t212)))) else (laws_FnClocks.j0 k l0 (wrap64 (300 + t206)) (Int.tmod t207 50) (wrap64 ((wrap64 ((wrap64 (300 + t206)) + (Int.tmod t207 50))) + (wrap64 ((Int.tmod t209 200) - 100)))) true t211 t212)) = some r := H
    have A9 := Aside0.mk A90
    clear A90
    have HC10 := Aside0.mk H
    clear H
    go_enter Try.func7, Try.ntmps7
    go_upto_region 12 with (first | ((with_reducible refine gate_callee (f := 31) rfl ?_); refine goesL_ (some 22) rfl rfl Try.func31 (by kernel_rfl) rfl #[.slice A0 l0.length c0] rfl (by (try simp only [List.map_toArray, List.map_cons, List.map_nil]); first | done | rfl | (simp only [List.length_drop, List.length_take]; rfl)) ?_; (with_reducible refine (laws_big.calls _ _ l0 false _ ?side1 ?side2 A2.out).mono ?_); (case side1 => repeat (first | exact HR0.out | (with_reducible refine Kd.C_alloc ?_ _) | (with_reducible refine Kd.C_drewN ?_ _) | (with_reducible refine Kd.C_drew ?_))); (case side2 => exact HC0.out); rintro e w' ⟨rfl, ⟨nd, rfl⟩⟩; refine ⟨_, rfl, ?_⟩) | ((with_reducible refine gate_callee (f := 32) rfl ?_); refine goesL_ (some 24) rfl rfl Try.func32 (by kernel_rfl) rfl #[.slice A0 l0.length c0, .int .i64 0] rfl (by (try simp only [List.map_toArray, List.map_cons, List.map_nil]); first | done | rfl | (simp only [List.length_drop, List.length_take]; rfl)) ?_; (with_reducible refine (laws_at.calls _ _ l0 0 t206 _ ?side1 ?side2 A4.out).mono ?_); (case side1 => repeat (first | exact HR0.out | (with_reducible refine Kd.C_alloc ?_ _) | (with_reducible refine Kd.C_drewN ?_ _) | (with_reducible refine Kd.C_drew ?_))); (case side2 => exact HC0.out); rintro e w' ⟨rfl, ⟨nd, rfl⟩⟩; refine ⟨_, rfl, ?_⟩) | ((with_reducible refine gate_callee (f := 32) rfl ?_); refine goesL_ (some 27) rfl rfl Try.func32 (by kernel_rfl) rfl #[.slice A0 l0.length c0, .int .i64 1] rfl (by (try simp only [List.map_toArray, List.map_cons, List.map_nil]); first | done | rfl | (simp only [List.length_drop, List.length_take]; rfl)) ?_; (with_reducible refine (laws_at.calls _ _ l0 1 t207 _ ?side1 ?side2 A5.out).mono ?_); (case side1 => repeat (first | exact HR0.out | (with_reducible refine Kd.C_alloc ?_ _) | (with_reducible refine Kd.C_drewN ?_ _) | (with_reducible refine Kd.C_drew ?_))); (case side2 => exact HC0.out); rintro e w' ⟨rfl, ⟨nd, rfl⟩⟩; refine ⟨_, rfl, ?_⟩) | ((with_reducible refine gate_callee (f := 32) rfl ?_); refine goesL_ (some 30) rfl rfl Try.func32 (by kernel_rfl) rfl #[.slice A0 l0.length c0, .int .i64 2] rfl (by (try simp only [List.map_toArray, List.map_cons, List.map_nil]); first | done | rfl | (simp only [List.length_drop, List.length_take]; rfl)) ?_; (with_reducible refine (laws_at.calls _ _ l0 2 t208 _ ?side1 ?side2 A6.out).mono ?_); (case side1 => repeat (first | exact HR0.out | (with_reducible refine Kd.C_alloc ?_ _) | (with_reducible refine Kd.C_drewN ?_ _) | (with_reducible refine Kd.C_drew ?_))); (case side2 => exact HC0.out); rintro e w' ⟨rfl, ⟨nd, rfl⟩⟩; refine ⟨_, rfl, ?_⟩) | ((with_reducible refine gate_callee (f := 32) rfl ?_); refine goesL_ (some 33) rfl rfl Try.func32 (by kernel_rfl) rfl #[.slice A0 l0.length c0, .int .i64 3] rfl (by (try simp only [List.map_toArray, List.map_cons, List.map_nil]); first | done | rfl | (simp only [List.length_drop, List.length_take]; rfl)) ?_; (with_reducible refine (laws_at.calls _ _ l0 3 t209 _ ?side1 ?side2 A7.out).mono ?_); (case side1 => repeat (first | exact HR0.out | (with_reducible refine Kd.C_alloc ?_ _) | (with_reducible refine Kd.C_drewN ?_ _) | (with_reducible refine Kd.C_drew ?_))); (case side2 => exact HC0.out); rintro e w' ⟨rfl, ⟨nd, rfl⟩⟩; refine ⟨_, rfl, ?_⟩) | ((with_reducible refine gate_callee (f := 32) rfl ?_); refine goesL_ (some 37) rfl rfl Try.func32 (by kernel_rfl) rfl #[.slice A0 l0.length c0, .int .i64 4] rfl (by (try simp only [List.map_toArray, List.map_cons, List.map_nil]); first | done | rfl | (simp only [List.length_drop, List.length_take]; rfl)) ?_; (with_reducible refine (laws_at.calls _ _ l0 4 t210 _ ?side1 ?side2 A8.out).mono ?_); (case side1 => repeat (first | exact HR0.out | (with_reducible refine Kd.C_alloc ?_ _) | (with_reducible refine Kd.C_drewN ?_ _) | (with_reducible refine Kd.C_drew ?_))); (case side2 => exact HC0.out); rintro e w' ⟨rfl, ⟨nd, rfl⟩⟩; refine ⟨_, rfl, ?_⟩) | ((with_reducible refine gate_callee (f := 33) rfl ?_); refine goesL_ (some 57) rfl rfl Try.func33 (by kernel_rfl) rfl #[.int .i64 (wrap64 (300 + t206)), .int .i64 (wrap64 ((wrap64 ((wrap64 (300 + t206)) + (Int.tmod t207 50))) + (wrap64 ((Int.tmod t209 200) - 100)))), .int .i64 (wrap64 ((wrap64 ((wrap64 ((wrap64 (300 + t206)) + (Int.tmod t207 50))) + (wrap64 ((Int.tmod t209 200) - 100)))) + (Int.tmod t210 20))), .int .i64 (wrap64 ((wrap64 ((wrap64 ((wrap64 ((wrap64 ((wrap64 (300 + t206)) + (Int.tmod t207 50))) + (wrap64 ((Int.tmod t209 200) - 100)))) + (Int.tmod t210 20))) - (wrap64 ((Int.tmod t209 200) - 100)))) + (Int.tmod t208 50)))] rfl (by (try simp only [List.map_toArray, List.map_cons, List.map_nil]); first | done | rfl | (simp only [List.length_drop, List.length_take]; rfl)) ?_; (with_reducible refine (impl_OffsetOf.calls k (wrap64 (300 + t206)) (wrap64 ((wrap64 ((wrap64 (300 + t206)) + (Int.tmod t207 50))) + (wrap64 ((Int.tmod t209 200) - 100)))) (wrap64 ((wrap64 ((wrap64 ((wrap64 (300 + t206)) + (Int.tmod t207 50))) + (wrap64 ((Int.tmod t209 200) - 100)))) + (Int.tmod t210 20))) (wrap64 ((wrap64 ((wrap64 ((wrap64 ((wrap64 ((wrap64 (300 + t206)) + (Int.tmod t207 50))) + (wrap64 ((Int.tmod t209 200) - 100)))) + (Int.tmod t210 20))) - (wrap64 ((Int.tmod t209 200) - 100)))) + (Int.tmod t208 50))) t211 t212 t213 _ A9.out).mono ?_); rintro e w11 ⟨rfl, hb⟩; refine ⟨_, rfl, ?_⟩; have n0_ := Aside0.mk (below_step (by repeat (first | (with_reducible first | exact HB.out | apply below_alloc | apply pw_below_drewN | apply below_drew1) | exact HB.out)) hb); clear HB; have HB := n0_; clear n0_; (try clear hb); (try clear hb2); (try clear hk); (try clear hi)) | ((with_reducible refine gate_dst (N := 11) rfl ?_); refine box_event ?hg (N := 11) ?hd (cs := #[.int .i64 0, .int .i64 0]) (t := 25) ?hr ?_; (case hd => rfl); (case hg => rfl); (case hr => first | (go_simp; done) | (go_simp; rfl)); intro gb214 hg w12 hbox hb; have n0_ := Aside0.mk (below_step (by repeat (first | (with_reducible first | exact HB.out | apply below_alloc | apply pw_below_drewN | apply below_drew1) | exact HB.out)) hb); have n1_ := Aside0.mk (hbox); have n2_ := Aside0.mk ((by rw [hg]; exact (below_size (by repeat (first | (with_reducible first | exact HB.out | apply below_alloc | apply pw_below_drewN | apply below_drew1) | exact HB.out))) : w.heap.size ≤ gb214)); have n3_ := Aside0.mk ((by rw [hg]; exact (below_size (by repeat (first | (with_reducible first | exact HB.out | apply below_alloc | apply pw_below_drewN | apply below_drew1) | exact HB.out))) : w.heap.size ≤ gb214)); clear HB; have HB := n0_; have BK214 := n1_; have GW214 := n2_; have GE214 := n3_; clear n0_ n1_ n2_ n3_; clear hb hbox hg; have hcz13_0 : w12.cell? ⟨gb214, 0, none⟩ = some (.int .i64 0) := (blk_cell BK214.out 0).trans rfl; have hcz13_1 : w12.cell? ⟨gb214, 1, none⟩ = some (.int .i64 0) := (blk_cell BK214.out 1).trans rfl; have hfz13_0 := blk_frozen BK214.out 0; have hfz13_1 := blk_frozen BK214.out 1))
    (try simp only [Act.put, List.setIfInBounds_toArray, List.set_cons_zero, List.set_cons_succ])
    go_cut [81] (fun v81 wc => ∃ (kq : Nat) (x81_9 : Bool), v81 = .bool x81_9 ∧ Aside0 (laws_FnClocks.j0 kq l0 (wrap64 (300 + t206)) (Int.tmod t207 50) (wrap64 ((wrap64 ((wrap64 (300 + t206)) + (Int.tmod t207 50))) + (wrap64 ((Int.tmod t209 200) - 100)))) x81_9 t211 t212 = some r) ∧ Aside0 (kq ≤ k) ∧ Aside0 (wc.heap[gb214]? = some (.cells #[.int .i64 t211, .int .i64 t212] 25 (0, 0))) ∧ Aside0 (Below w.heap.size w wc))
    case first =>
      have H := HC10.out
      clear HC10
      by_cases c14 : t213 = true
      · subst c14
        have H1 : (if t211 > (wrap64 ((Int.tmod t209 200) - 100)) then (laws_FnClocks.j0 k l0 (wrap64 (300 + t206)) (Int.tmod t207 50) (wrap64 ((wrap64 ((wrap64 (300 + t206)) + (Int.tmod t207 50))) + (wrap64 ((Int.tmod t209 200) - 100)))) true t211 t212) else (if t212 < (wrap64 ((Int.tmod t209 200) - 100)) then (laws_FnClocks.j0 k l0 (wrap64 (300 + t206)) (Int.tmod t207 50) (wrap64 ((wrap64 ((wrap64 (300 + t206)) + (Int.tmod t207 50))) + (wrap64 ((Int.tmod t209 200) - 100)))) true t211 t212) else ((impl_WidthOf.f t211 t212).bind fun t215 => (laws_FnClocks.j0 k l0 (wrap64 (300 + t206)) (Int.tmod t207 50) (wrap64 ((wrap64 ((wrap64 (300 + t206)) + (Int.tmod t207 50))) + (wrap64 ((Int.tmod t209 200) - 100)))) (t215 != (wrap64 ((Int.tmod t207 50) + (Int.tmod t208 50)))) t211 t212)))) = some r := by rw [if_pos rfl] at H; exact H
        clear H
        have H := H1
        clear H1
        by_cases c15 : t211 > (wrap64 ((Int.tmod t209 200) - 100))
        · rw [if_pos c15] at H
          have c15b0 : decide ((wrap64 ((Int.tmod t209 200) - 100)) < t211) = true := decide_eq_true c15
          clear c15
          (first | rw [c15b0] | (simp only [i64_w, i32_w]; rw [c15b0]) | skip)
          have H' := Aside0.mk H
          clear H
          have hcz16_0 : w12.cell? ⟨gb214, 0, none⟩ = some (.int .i64 0) := (blk_cell BK214.out 0).trans rfl
          have hcz16_1 : w12.cell? ⟨gb214, 1, none⟩ = some (.int .i64 0) := (blk_cell BK214.out 1).trans rfl
          have hfz16_0 := blk_frozen BK214.out 0
          have hfz16_1 := blk_frozen BK214.out 1
          go_wp2
          go_meet
          case rel => exact ⟨_, (true), (by first | rfl | (simp; done) | (simp [*]; done)), H', ⟨by first | omega | exact Nat.le_refl _⟩, ⟨by (with_reducible repeat (first | refine blk_drewN ?_ _ | refine blk_drew ?_ | refine blk_alloc ?_ _)); refine blk_put (cs := #[.int .i64 t211, .int .i64 0]) ?_ 1 _ rfl; (with_reducible repeat (first | refine blk_drewN ?_ _ | refine blk_drew ?_ | refine blk_alloc ?_ _)); refine blk_put (cs := #[.int .i64 0, .int .i64 0]) ?_ 0 _ rfl; (with_reducible repeat (first | refine blk_drewN ?_ _ | refine blk_drew ?_ | refine blk_alloc ?_ _)); exact BK214.out⟩, ⟨by repeat (first | (with_reducible first | exact HB.out | apply below_alloc | apply pw_below_drewN | apply below_drew1 | refine below_set ?_ GE214.out) | exact HB.out)⟩⟩
        · rw [if_neg c15] at H
          have c15b0 : decide ((wrap64 ((Int.tmod t209 200) - 100)) < t211) = false := decide_eq_false c15
          clear c15
          (first | rw [c15b0] | (simp only [i64_w, i32_w]; rw [c15b0]) | skip)
          by_cases c17 : t212 < (wrap64 ((Int.tmod t209 200) - 100))
          · rw [if_pos c17] at H
            have c17b0 : decide (t212 < (wrap64 ((Int.tmod t209 200) - 100))) = true := decide_eq_true c17
            clear c17
            have H' := Aside0.mk H
            clear H
            have hcz18_0 : w12.cell? ⟨gb214, 0, none⟩ = some (.int .i64 0) := (blk_cell BK214.out 0).trans rfl
            have hcz18_1 : w12.cell? ⟨gb214, 1, none⟩ = some (.int .i64 0) := (blk_cell BK214.out 1).trans rfl
            have hfz18_0 := blk_frozen BK214.out 0
            have hfz18_1 := blk_frozen BK214.out 1
            go_wp2
            go_meet
            case rel => exact ⟨_, (true), (by first | rfl | (simp; done) | (simp [*]; done)), H', ⟨by first | omega | exact Nat.le_refl _⟩, ⟨by (with_reducible repeat (first | refine blk_drewN ?_ _ | refine blk_drew ?_ | refine blk_alloc ?_ _)); refine blk_put (cs := #[.int .i64 t211, .int .i64 0]) ?_ 1 _ rfl; (with_reducible repeat (first | refine blk_drewN ?_ _ | refine blk_drew ?_ | refine blk_alloc ?_ _)); refine blk_put (cs := #[.int .i64 0, .int .i64 0]) ?_ 0 _ rfl; (with_reducible repeat (first | refine blk_drewN ?_ _ | refine blk_drew ?_ | refine blk_alloc ?_ _)); exact BK214.out⟩, ⟨by repeat (first | (with_reducible first | exact HB.out | apply below_alloc | apply pw_below_drewN | apply below_drew1 | refine below_set ?_ GE214.out) | exact HB.out)⟩⟩
          · rw [if_neg c17] at H
            have c17b0 : decide (t212 < (wrap64 ((Int.tmod t209 200) - 100))) = false := decide_eq_false c17
            clear c17
            replace H := Option.bind_eq_some_iff.mp H
            obtain ⟨t215, A190, H⟩ := H
            replace H : (laws_FnClocks.j0 k l0 (wrap64 (300 + t206)) (Int.tmod t207 50) (wrap64 ((wrap64 ((wrap64 (300 + t206)) + (Int.tmod t207 50))) + (wrap64 ((Int.tmod t209 200) - 100)))) (t215 != (wrap64 ((Int.tmod t207 50) + (Int.tmod t208 50)))) t211 t212) = some r := H
            have A19 := Aside0.mk A190
            clear A190
            have H' := Aside0.mk H
            clear H
            have hcz20_0 : w12.cell? ⟨gb214, 0, none⟩ = some (.int .i64 0) := (blk_cell BK214.out 0).trans rfl
            have hcz20_1 : w12.cell? ⟨gb214, 1, none⟩ = some (.int .i64 0) := (blk_cell BK214.out 1).trans rfl
            have hfz20_0 := blk_frozen BK214.out 0
            have hfz20_1 := blk_frozen BK214.out 1
            go_wp2_with (first | (go_at_call 34; (with_reducible refine (impl_WidthOf.calls t211 t212 t215 _ A19.out).mono ?_); rintro e w21 ⟨rfl, hb⟩; have n0_ := Aside0.mk (blk_below (g := gb214) (o := .cells #[.int .i64 t211, .int .i64 t212] 25 (0, 0)) (by (with_reducible repeat (first | refine blk_drewN ?_ _ | refine blk_drew ?_ | refine blk_alloc ?_ _)); refine blk_put (cs := #[.int .i64 t211, .int .i64 0]) ?_ 1 _ rfl; (with_reducible repeat (first | refine blk_drewN ?_ _ | refine blk_drew ?_ | refine blk_alloc ?_ _)); refine blk_put (cs := #[.int .i64 0, .int .i64 0]) ?_ 0 _ rfl; (with_reducible repeat (first | refine blk_drewN ?_ _ | refine blk_drew ?_ | refine blk_alloc ?_ _)); exact BK214.out) hb); have n1_ := Aside0.mk (below_step (by repeat (first | (with_reducible first | exact HB.out | apply below_alloc | apply pw_below_drewN | apply below_drew1 | refine below_set ?_ GE214.out) | exact HB.out)) hb); clear BK214; clear HB; have BK214 := n0_; have HB := n1_; clear n0_ n1_; (try clear hb); (try clear hb2); (try clear hk); (try clear hi)))
            go_meet
            case rel => exact ⟨_, ((t215 != (wrap64 ((Int.tmod t207 50) + (Int.tmod t208 50))))), (by first | rfl | (simp; done) | (simp [*]; done)), H', ⟨by first | omega | exact Nat.le_refl _⟩, ⟨by (with_reducible repeat (first | refine blk_drewN ?_ _ | refine blk_drew ?_ | refine blk_alloc ?_ _)); exact BK214.out⟩, ⟨by repeat (first | (with_reducible first | exact HB.out | apply below_alloc | apply pw_below_drewN | apply below_drew1 | refine below_set ?_ GE214.out) | exact HB.out)⟩⟩
      · replace c14 := Bool.eq_false_iff.mpr c14
        subst c14
        have H1 : (laws_FnClocks.j0 k l0 (wrap64 (300 + t206)) (Int.tmod t207 50) (wrap64 ((wrap64 ((wrap64 (300 + t206)) + (Int.tmod t207 50))) + (wrap64 ((Int.tmod t209 200) - 100)))) true t211 t212) = some r := by rw [if_neg (show ¬ (false = true) by decide)] at H; exact H
        clear H
        have H := H1
        clear H1
        have H' := Aside0.mk H
        clear H
        go_wp2
        go_meet
        case rel => exact ⟨_, (true), (by first | rfl | (simp; done) | (simp [*]; done)), H', ⟨by first | omega | exact Nat.le_refl _⟩, ⟨by (with_reducible repeat (first | refine blk_drewN ?_ _ | refine blk_drew ?_ | refine blk_alloc ?_ _)); refine blk_put (cs := #[.int .i64 t211, .int .i64 0]) ?_ 1 _ rfl; (with_reducible repeat (first | refine blk_drewN ?_ _ | refine blk_drew ?_ | refine blk_alloc ?_ _)); refine blk_put (cs := #[.int .i64 0, .int .i64 0]) ?_ 0 _ rfl; (with_reducible repeat (first | refine blk_drewN ?_ _ | refine blk_drew ?_ | refine blk_alloc ?_ _)); exact BK214.out⟩, ⟨by repeat (first | (with_reducible first | exact HB.out | apply below_alloc | apply pw_below_drewN | apply below_drew1 | refine below_set ?_ GE214.out) | exact HB.out)⟩⟩
    case rest =>
      clear HC10
      try clear c1
      try clear p2
      try clear c3
      try clear p6
      try clear c7
      try clear c14
      try clear c15
      try clear c15b0
      try clear c17
      try clear c17b0
      try clear hcz13_0
      try clear hcz13_1
      try clear hcz16_0
      try clear hcz16_1
      try clear hcz18_0
      try clear hcz18_1
      try clear hcz20_0
      try clear hcz20_1
      try clear hfz13_0
      try clear hfz13_1
      try clear hfz16_0
      try clear hfz16_1
      try clear hfz18_0
      try clear hfz18_1
      try clear hfz20_0
      try clear hfz20_1
      obtain ⟨kq, x81_9, rfl, HA, HJ9, BK214, HB⟩ := hcut
      cases kq with
      | zero => exact absurd HA.out (by simp [laws_FnClocks.j0])
      | succ kj9 =>
        have H := HA.out
        clear HA
        simp only [laws_FnClocks.j0] at H
        by_cases c22 : x81_9 = true
        · subst c22
          have H1 : (some false) = some r := by rw [if_pos rfl] at H; exact H
          clear H
          have H := H1
          clear H1
          exact absurd ((Option.some.inj H).trans hrt.out) (by decide)
        · replace c22 := Bool.eq_false_iff.mpr c22
          subst c22
          have H1 : ((impl_OneWay.f kj9 (wrap64 (300 + t206)) (wrap64 ((wrap64 ((wrap64 (300 + t206)) + (Int.tmod t207 50))) + (wrap64 ((Int.tmod t209 200) - 100)))) t211 t212).bind fun bt216 => (if bt216.2.2 = true then (if bt216.1 > (Int.tmod t207 50) then (laws_FnClocks.j1 kj9 l0 true) else (laws_FnClocks.j1 kj9 l0 (decide (bt216.2.1 < (Int.tmod t207 50))))) else (laws_FnClocks.j1 kj9 l0 true))) = some r := by rw [if_neg (show ¬ (false = true) by decide)] at H; exact H
          clear H
          have H := H1
          clear H1
          replace H := Option.bind_eq_some_iff.mp H
          obtain ⟨⟨t216, t217, t218⟩, A230, H⟩ := H
          replace H : (if t218 = true then (if t216 > (Int.tmod t207 50) then (laws_FnClocks.j1 kj9 l0 true) else (laws_FnClocks.j1 kj9 l0 (decide (t217 < (Int.tmod t207 50))))) else (laws_FnClocks.j1 kj9 l0 true)) = some r := H
          have A23 := Aside0.mk A230
          clear A230
          have HC24 := Aside0.mk H
          clear H
          have hcz25_0 : wc.cell? ⟨gb214, 0, none⟩ = some (.int .i64 t211) := (blk_cell BK214.out 0).trans rfl
          have hcz25_1 : wc.cell? ⟨gb214, 1, none⟩ = some (.int .i64 t212) := (blk_cell BK214.out 1).trans rfl
          have hfz25_0 := blk_frozen BK214.out 0
          have hfz25_1 := blk_frozen BK214.out 1
          go_upto_region 15 with (first | ((with_reducible refine gate_callee (f := 35) rfl ?_); refine goesL_ (some 86) rfl rfl Try.func35 (by kernel_rfl) rfl #[.int .i64 (wrap64 (300 + t206)), .int .i64 (wrap64 ((wrap64 ((wrap64 (300 + t206)) + (Int.tmod t207 50))) + (wrap64 ((Int.tmod t209 200) - 100)))), .agg #[.int .i64 t211, .int .i64 t212]] rfl (by (try simp only [List.map_toArray, List.map_cons, List.map_nil]); first | done | rfl | (simp only [List.length_drop, List.length_take]; rfl)) ?_; (with_reducible refine (impl_OneWay.calls kj9 (wrap64 (300 + t206)) (wrap64 ((wrap64 ((wrap64 (300 + t206)) + (Int.tmod t207 50))) + (wrap64 ((Int.tmod t209 200) - 100)))) t211 t212 t216 t217 t218 _ A23.out).mono ?_); rintro e w26 ⟨rfl, hb⟩; refine ⟨_, rfl, ?_⟩; have n0_ := Aside0.mk (blk_below (g := gb214) (o := .cells #[.int .i64 t211, .int .i64 t212] 25 (0, 0)) (by (with_reducible repeat (first | refine blk_drewN ?_ _ | refine blk_drew ?_ | refine blk_alloc ?_ _)); exact BK214.out) hb); have n1_ := Aside0.mk (below_step (by repeat (first | (with_reducible first | exact HB.out | apply below_alloc | apply pw_below_drewN | apply below_drew1 | refine below_set ?_ GE214.out) | exact HB.out)) hb); clear BK214; clear HB; have BK214 := n0_; have HB := n1_; clear n0_ n1_; (try clear hb); (try clear hb2); (try clear hk); (try clear hi)) | ((with_reducible refine gate_dst (N := 13) rfl ?_); refine box_event ?hg (N := 13) ?hd (cs := #[.int .i64 0, .int .i64 0]) (t := 25) ?hr ?_; (case hd => rfl); (case hg => rfl); (case hr => first | (go_simp; done) | (go_simp; rfl)); intro gb219 hg w27 hbox hb; have n0_ := Aside0.mk (blk_below (g := gb214) (o := .cells #[.int .i64 t211, .int .i64 t212] 25 (0, 0)) (by (with_reducible repeat (first | refine blk_drewN ?_ _ | refine blk_drew ?_ | refine blk_alloc ?_ _)); exact BK214.out) hb); have n1_ := Aside0.mk (below_step (by repeat (first | (with_reducible first | exact HB.out | apply below_alloc | apply pw_below_drewN | apply below_drew1 | refine below_set ?_ GE214.out) | exact HB.out)) hb); have n2_ := Aside0.mk (hbox); have n3_ := Aside0.mk ((by rw [hg]; exact (below_size (by repeat (first | (with_reducible first | exact HB.out | apply below_alloc | apply pw_below_drewN | apply below_drew1 | refine below_set ?_ GE214.out) | exact HB.out))) : w.heap.size ≤ gb219)); have n4_ := Aside0.mk ((by rw [hg]; exact (below_size (by repeat (first | (with_reducible first | exact HB.out | apply below_alloc | apply pw_below_drewN | apply below_drew1 | refine below_set ?_ GE214.out) | exact HB.out))) : w.heap.size ≤ gb219)); have n5_ := Aside0.mk ((by rw [hg]; exact Nat.ne_of_lt (blk_lt (g := gb214) (o := .cells #[.int .i64 t211, .int .i64 t212] 25 (0, 0)) (by (with_reducible repeat (first | refine blk_drewN ?_ _ | refine blk_drew ?_ | refine blk_alloc ?_ _)); exact BK214.out)) : gb214 ≠ gb219)); have n6_ := Aside0.mk ((by rw [hg]; exact Nat.ne_of_gt (blk_lt (g := gb214) (o := .cells #[.int .i64 t211, .int .i64 t212] 25 (0, 0)) (by (with_reducible repeat (first | refine blk_drewN ?_ _ | refine blk_drew ?_ | refine blk_alloc ?_ _)); exact BK214.out)) : gb219 ≠ gb214)); clear BK214; clear HB; have BK214 := n0_; have HB := n1_; have BK219 := n2_; have GW219 := n3_; have GE219 := n4_; have NB214_219 := n5_; have NB219_214 := n6_; clear n0_ n1_ n2_ n3_ n4_ n5_ n6_; clear hb hbox hg; have hnb28 := NB219_214.out; have hnc28 := NB214_219.out; have hcz29_0 : w27.cell? ⟨gb219, 0, none⟩ = some (.int .i64 0) := (blk_cell BK219.out 0).trans rfl; have hcz29_1 : w27.cell? ⟨gb219, 1, none⟩ = some (.int .i64 0) := (blk_cell BK219.out 1).trans rfl; have hfz29_0 := blk_frozen BK219.out 0; have hfz29_1 := blk_frozen BK219.out 1))
          (try simp only [Act.put, List.setIfInBounds_toArray, List.set_cons_zero, List.set_cons_succ])
          go_cut [102] (fun v102 wc => ∃ (kq : Nat) (x102_23 : Bool), v102 = .bool x102_23 ∧ Aside0 (laws_FnClocks.j1 kq l0 x102_23 = some r) ∧ Aside0 (kq ≤ kj9) ∧ Aside0 (wc.heap[gb214]? = some (.cells #[.int .i64 t211, .int .i64 t212] 25 (0, 0))) ∧ Aside0 (wc.heap[gb219]? = some (.cells #[.int .i64 t216, .int .i64 t217] 25 (0, 0))) ∧ Aside0 (Below w.heap.size w wc))
          case first =>
            have H := HC24.out
            clear HC24
            by_cases c30 : t218 = true
            · subst c30
              have H1 : (if t216 > (Int.tmod t207 50) then (laws_FnClocks.j1 kj9 l0 true) else (laws_FnClocks.j1 kj9 l0 (decide (t217 < (Int.tmod t207 50))))) = some r := by rw [if_pos rfl] at H; exact H
              clear H
              have H := H1
              clear H1
              by_cases c31 : t216 > (Int.tmod t207 50)
              · rw [if_pos c31] at H
                have c31b0 : decide ((Int.tmod t207 50) < t216) = true := decide_eq_true c31
                clear c31
                (first | rw [c31b0] | (simp only [i64_w, i32_w]; rw [c31b0]) | skip)
                have H' := Aside0.mk H
                clear H
                have hnb32 := NB219_214.out
                have hnc32 := NB214_219.out
                have hcz33_0 : w27.cell? ⟨gb219, 0, none⟩ = some (.int .i64 0) := (blk_cell BK219.out 0).trans rfl
                have hcz33_1 : w27.cell? ⟨gb219, 1, none⟩ = some (.int .i64 0) := (blk_cell BK219.out 1).trans rfl
                have hfz33_0 := blk_frozen BK219.out 0
                have hfz33_1 := blk_frozen BK219.out 1
                go_wp2
                go_meet
                case rel => exact ⟨_, (true), (by first | rfl | (simp; done) | (simp [*]; done)), H', ⟨by have := HJ9.out; first | omega | exact Nat.le_refl _⟩, ⟨by (with_reducible repeat (first | refine blk_drewN ?_ _ | refine blk_drew ?_ | refine blk_alloc ?_ _)); refine blk_far ?_ NB214_219.out _; (with_reducible repeat (first | refine blk_drewN ?_ _ | refine blk_drew ?_ | refine blk_alloc ?_ _)); refine blk_far ?_ NB214_219.out _; (with_reducible repeat (first | refine blk_drewN ?_ _ | refine blk_drew ?_ | refine blk_alloc ?_ _)); exact BK214.out⟩, ⟨by (with_reducible repeat (first | refine blk_drewN ?_ _ | refine blk_drew ?_ | refine blk_alloc ?_ _)); refine blk_put (cs := #[.int .i64 t216, .int .i64 0]) ?_ 1 _ rfl; (with_reducible repeat (first | refine blk_drewN ?_ _ | refine blk_drew ?_ | refine blk_alloc ?_ _)); refine blk_put (cs := #[.int .i64 0, .int .i64 0]) ?_ 0 _ rfl; (with_reducible repeat (first | refine blk_drewN ?_ _ | refine blk_drew ?_ | refine blk_alloc ?_ _)); exact BK219.out⟩, ⟨by repeat (first | (with_reducible first | exact HB.out | apply below_alloc | apply pw_below_drewN | apply below_drew1 | refine below_set ?_ GE214.out | refine below_set ?_ GE219.out) | exact HB.out)⟩⟩
              · rw [if_neg c31] at H
                have c31b0 : decide ((Int.tmod t207 50) < t216) = false := decide_eq_false c31
                clear c31
                (first | rw [c31b0] | (simp only [i64_w, i32_w]; rw [c31b0]) | skip)
                have H' := Aside0.mk H
                clear H
                have hnb34 := NB219_214.out
                have hnc34 := NB214_219.out
                have hcz35_0 : w27.cell? ⟨gb219, 0, none⟩ = some (.int .i64 0) := (blk_cell BK219.out 0).trans rfl
                have hcz35_1 : w27.cell? ⟨gb219, 1, none⟩ = some (.int .i64 0) := (blk_cell BK219.out 1).trans rfl
                have hfz35_0 := blk_frozen BK219.out 0
                have hfz35_1 := blk_frozen BK219.out 1
                go_wp2
                go_meet
                case rel => exact ⟨_, (decide (t217 < (Int.tmod t207 50))), (by first | rfl | (simp; done) | (simp [*]; done)), H', ⟨by have := HJ9.out; first | omega | exact Nat.le_refl _⟩, ⟨by (with_reducible repeat (first | refine blk_drewN ?_ _ | refine blk_drew ?_ | refine blk_alloc ?_ _)); refine blk_far ?_ NB214_219.out _; (with_reducible repeat (first | refine blk_drewN ?_ _ | refine blk_drew ?_ | refine blk_alloc ?_ _)); refine blk_far ?_ NB214_219.out _; (with_reducible repeat (first | refine blk_drewN ?_ _ | refine blk_drew ?_ | refine blk_alloc ?_ _)); exact BK214.out⟩, ⟨by (with_reducible repeat (first | refine blk_drewN ?_ _ | refine blk_drew ?_ | refine blk_alloc ?_ _)); refine blk_put (cs := #[.int .i64 t216, .int .i64 0]) ?_ 1 _ rfl; (with_reducible repeat (first | refine blk_drewN ?_ _ | refine blk_drew ?_ | refine blk_alloc ?_ _)); refine blk_put (cs := #[.int .i64 0, .int .i64 0]) ?_ 0 _ rfl; (with_reducible repeat (first | refine blk_drewN ?_ _ | refine blk_drew ?_ | refine blk_alloc ?_ _)); exact BK219.out⟩, ⟨by repeat (first | (with_reducible first | exact HB.out | apply below_alloc | apply pw_below_drewN | apply below_drew1 | refine below_set ?_ GE214.out | refine below_set ?_ GE219.out) | exact HB.out)⟩⟩
            · replace c30 := Bool.eq_false_iff.mpr c30
              subst c30
              have H1 : (laws_FnClocks.j1 kj9 l0 true) = some r := by rw [if_neg (show ¬ (false = true) by decide)] at H; exact H
              clear H
              have H := H1
              clear H1
              have H' := Aside0.mk H
              clear H
              go_wp2
              go_meet
              case rel => exact ⟨_, (true), (by first | rfl | (simp; done) | (simp [*]; done)), H', ⟨by have := HJ9.out; first | omega | exact Nat.le_refl _⟩, ⟨by (with_reducible repeat (first | refine blk_drewN ?_ _ | refine blk_drew ?_ | refine blk_alloc ?_ _)); refine blk_far ?_ NB214_219.out _; (with_reducible repeat (first | refine blk_drewN ?_ _ | refine blk_drew ?_ | refine blk_alloc ?_ _)); refine blk_far ?_ NB214_219.out _; (with_reducible repeat (first | refine blk_drewN ?_ _ | refine blk_drew ?_ | refine blk_alloc ?_ _)); exact BK214.out⟩, ⟨by (with_reducible repeat (first | refine blk_drewN ?_ _ | refine blk_drew ?_ | refine blk_alloc ?_ _)); refine blk_put (cs := #[.int .i64 t216, .int .i64 0]) ?_ 1 _ rfl; (with_reducible repeat (first | refine blk_drewN ?_ _ | refine blk_drew ?_ | refine blk_alloc ?_ _)); refine blk_put (cs := #[.int .i64 0, .int .i64 0]) ?_ 0 _ rfl; (with_reducible repeat (first | refine blk_drewN ?_ _ | refine blk_drew ?_ | refine blk_alloc ?_ _)); exact BK219.out⟩, ⟨by repeat (first | (with_reducible first | exact HB.out | apply below_alloc | apply pw_below_drewN | apply below_drew1 | refine below_set ?_ GE214.out | refine below_set ?_ GE219.out) | exact HB.out)⟩⟩
          case rest =>
            clear HC24
            try clear c1
            try clear c2
            try clear p2
            try clear c3
            try clear p6
            try clear c7
            try clear c14
            try clear c15
            try clear c15b0
            try clear c17
            try clear c17b0
            try clear c22
            try clear c28
            try clear c30
            try clear c31
            try clear c31b0
            try clear c32
            try clear c33
            try clear c34
            try clear c35
            try clear hcz13_0
            try clear hcz13_1
            try clear hcz16_0
            try clear hcz16_1
            try clear hcz18_0
            try clear hcz18_1
            try clear hcz20_0
            try clear hcz20_1
            try clear hcz25_0
            try clear hcz25_1
            try clear hcz29_0
            try clear hcz29_1
            try clear hcz33_0
            try clear hcz33_1
            try clear hcz35_0
            try clear hcz35_1
            try clear hfz13_0
            try clear hfz13_1
            try clear hfz16_0
            try clear hfz16_1
            try clear hfz18_0
            try clear hfz18_1
            try clear hfz20_0
            try clear hfz20_1
            try clear hfz25_0
            try clear hfz25_1
            try clear hfz29_0
            try clear hfz29_1
            try clear hfz33_0
            try clear hfz33_1
            try clear hfz35_0
            try clear hfz35_1
            try clear p2
            try clear p6
            obtain ⟨kq, x102_23, rfl, HA, HJ23, BK214, BK219, HB⟩ := hcut
            cases kq with
            | zero => exact absurd HA.out (by simp [laws_FnClocks.j1])
            | succ kj23 =>
              have H := HA.out
              clear HA
              simp only [laws_FnClocks.j1] at H
              by_cases c36 : x102_23 = true
              · subst c36
                have H1 : (some false) = some r := by rw [if_pos rfl] at H; exact H
                clear H
                have H := H1
                clear H1
                exact absurd ((Option.some.inj H).trans hrt.out) (by decide)
              · replace c36 := Bool.eq_false_iff.mpr c36
                subst c36
                have H1 : ((spec_DrawMeetAll.f kj23 l0).bind fun t220 => ((impl_MeetAll.f kj23 t220).bind fun bt223 => (laws_FnClocks.l0 kj23 t220 bt223.2.2 (-15) bt223.1 bt223.2.1))) = some r := by rw [if_neg (show ¬ (false = true) by decide)] at H; exact H
                clear H
                have H := H1
                clear H1
                replace H := Option.bind_eq_some_iff.mp H
                obtain ⟨t220, A370, H⟩ := H
                replace H : ((impl_MeetAll.f kj23 t220).bind fun bt223 => (laws_FnClocks.l0 kj23 t220 bt223.2.2 (-15) bt223.1 bt223.2.1)) = some r := H
                have A37 := Aside0.mk A370
                clear A370
                replace H := Option.bind_eq_some_iff.mp H
                obtain ⟨⟨t223, t224, t225⟩, A380, H⟩ := H
                replace H : (laws_FnClocks.l0 kj23 t220 t225 (-15) t223 t224) = some r := H
                have A38 := Aside0.mk A380
                clear A380
                have H' := Aside0.mk H
                clear H
                go_wp2_with (first | ((with_reducible refine gate_callee (f := 36) rfl ?_); refine goesL_ (some 104) rfl rfl Try.func36 (by kernel_rfl) rfl #[.slice A0 l0.length c0] rfl (by (try simp only [List.map_toArray, List.map_cons, List.map_nil]); first | done | rfl | (simp only [List.length_drop, List.length_take]; rfl)) ?_; (with_reducible refine (spec_DrawMeetAll.calls kj23 _ _ l0 t220 _ ?side1 ?side2 A37.out).mono ?_); (case side1 => repeat (first | exact (Kd.C_below HR0.out HB.out) | (with_reducible refine Kd.C_alloc ?_ _) | (with_reducible refine Kd.C_drewN ?_ _) | (with_reducible refine Kd.C_drew ?_))); (case side2 => exact HC0.out); rintro e w39 ⟨v221, rfl, ho0, hb⟩; refine ⟨_, rfl, ?_⟩; have n0_ := Aside0.mk (Kd.R_lower (Kd.R_newB (Kd.R_newB ho0 (g := gb214) (o := .cells #[.int .i64 t211, .int .i64 t212] 25 (0, 0)) (by (with_reducible repeat (first | refine blk_drewN ?_ _ | refine blk_drew ?_ | refine blk_alloc ?_ _)); exact BK214.out)) (g := gb219) (o := .cells #[.int .i64 t216, .int .i64 t217] 25 (0, 0)) (by (with_reducible repeat (first | refine blk_drewN ?_ _ | refine blk_drew ?_ | refine blk_alloc ?_ _)); exact BK219.out)) (below_size (by repeat (first | (with_reducible first | exact HB.out | apply below_alloc | apply pw_below_drewN | apply below_drew1 | refine below_set ?_ GE214.out | refine below_set ?_ GE219.out) | exact HB.out)))); have n1_ := Aside0.mk (blk_below (g := gb214) (o := .cells #[.int .i64 t211, .int .i64 t212] 25 (0, 0)) (by (with_reducible repeat (first | refine blk_drewN ?_ _ | refine blk_drew ?_ | refine blk_alloc ?_ _)); exact BK214.out) hb); have n2_ := Aside0.mk (blk_below (g := gb219) (o := .cells #[.int .i64 t216, .int .i64 t217] 25 (0, 0)) (by (with_reducible repeat (first | refine blk_drewN ?_ _ | refine blk_drew ?_ | refine blk_alloc ?_ _)); exact BK219.out) hb); have n3_ := Aside0.mk (below_step (by repeat (first | (with_reducible first | exact HB.out | apply below_alloc | apply pw_below_drewN | apply below_drew1 | refine below_set ?_ GE214.out | refine below_set ?_ GE219.out) | exact HB.out)) hb); clear BK214; clear BK219; clear HB; have HO222 := n0_; have BK214 := n1_; have BK219 := n2_; have HB := n3_; clear n0_ n1_ n2_ n3_; (try clear hb); (try clear hb2); (try clear hk); (try clear hi); (try clear ho0); obtain ⟨Ao40, co40, eo40⟩ := Kd.R_slice HO222.out; subst eo40) | ((with_reducible refine gate_callee (f := 14) rfl ?_); refine goesL_ (some 107) rfl rfl Try.func14 (by kernel_rfl) rfl #[.slice Ao40 t220.length co40] rfl (by (try simp only [List.map_toArray, List.map_cons, List.map_nil]); first | done | rfl | (simp only [List.length_drop, List.length_take]; rfl)) ?_; (with_reducible refine (impl_MeetAll.calls kj23 _ _ t220 t223 t224 t225 _ ?side1 ?side2 A38.out).mono ?_); (case side1 => repeat (first | exact (Kd.R_reads' HO222.out).2.2 | (with_reducible refine Kd.C_alloc ?_ _) | (with_reducible refine Kd.C_drewN ?_ _) | (with_reducible refine Kd.C_drew ?_))); (case side2 => exact (Kd.R_reads' HO222.out).2.1); rintro e w41 ⟨rfl, hb⟩; refine ⟨_, rfl, ?_⟩; have n0_ := Aside0.mk (Kd.R_below (by (with_reducible repeat (first | apply Kd.R_alloc | apply Kd.R_drewN | apply Kd.R_drew)); exact HO222.out) hb); have n1_ := Aside0.mk (blk_below (g := gb214) (o := .cells #[.int .i64 t211, .int .i64 t212] 25 (0, 0)) (by (with_reducible repeat (first | refine blk_drewN ?_ _ | refine blk_drew ?_ | refine blk_alloc ?_ _)); exact BK214.out) hb); have n2_ := Aside0.mk (blk_below (g := gb219) (o := .cells #[.int .i64 t216, .int .i64 t217] 25 (0, 0)) (by (with_reducible repeat (first | refine blk_drewN ?_ _ | refine blk_drew ?_ | refine blk_alloc ?_ _)); exact BK219.out) hb); have n3_ := Aside0.mk (below_step (by repeat (first | (with_reducible first | exact HB.out | apply below_alloc | apply pw_below_drewN | apply below_drew1 | refine below_set ?_ GE214.out | refine below_set ?_ GE219.out) | exact HB.out)) hb); clear HO222; clear BK214; clear BK219; clear HB; have HO222 := n0_; have BK214 := n1_; have BK219 := n2_; have HB := n3_; clear n0_ n1_ n2_ n3_; (try clear hb); (try clear hb2); (try clear hk); (try clear hi)) | ((with_reducible refine gate_dst (N := 16) rfl ?_); refine box_event ?hg (N := 16) ?hd (cs := #[.int .i64 0, .int .i64 0]) (t := 25) ?hr ?_; (case hd => rfl); (case hg => rfl); (case hr => first | (go_simp; done) | (go_simp; rfl)); intro gb226 hg w42 hbox hb; have n0_ := Aside0.mk (Kd.R_below (Kd.R_elderB (by (with_reducible repeat (first | apply Kd.R_alloc | apply Kd.R_drewN | apply Kd.R_drew)); exact HO222.out) gb226 (Nat.le_of_eq hg.symm)) hb); have n1_ := Aside0.mk (blk_below (g := gb214) (o := .cells #[.int .i64 t211, .int .i64 t212] 25 (0, 0)) (by (with_reducible repeat (first | refine blk_drewN ?_ _ | refine blk_drew ?_ | refine blk_alloc ?_ _)); exact BK214.out) hb); have n2_ := Aside0.mk (blk_below (g := gb219) (o := .cells #[.int .i64 t216, .int .i64 t217] 25 (0, 0)) (by (with_reducible repeat (first | refine blk_drewN ?_ _ | refine blk_drew ?_ | refine blk_alloc ?_ _)); exact BK219.out) hb); have n3_ := Aside0.mk (below_step (by repeat (first | (with_reducible first | exact HB.out | apply below_alloc | apply pw_below_drewN | apply below_drew1 | refine below_set ?_ GE214.out | refine below_set ?_ GE219.out) | exact HB.out)) hb); have n4_ := Aside0.mk (hbox); have n5_ := Aside0.mk ((by rw [hg]; exact (below_size (by repeat (first | (with_reducible first | exact HB.out | apply below_alloc | apply pw_below_drewN | apply below_drew1 | refine below_set ?_ GE214.out | refine below_set ?_ GE219.out) | exact HB.out))) : w.heap.size ≤ gb226)); have n6_ := Aside0.mk ((by rw [hg]; exact (below_size (by repeat (first | (with_reducible first | exact HB.out | apply below_alloc | apply pw_below_drewN | apply below_drew1 | refine below_set ?_ GE214.out | refine below_set ?_ GE219.out) | exact HB.out))) : w.heap.size ≤ gb226)); have n7_ := Aside0.mk ((by rw [hg]; exact Nat.ne_of_lt (blk_lt (g := gb214) (o := .cells #[.int .i64 t211, .int .i64 t212] 25 (0, 0)) (by (with_reducible repeat (first | refine blk_drewN ?_ _ | refine blk_drew ?_ | refine blk_alloc ?_ _)); exact BK214.out)) : gb214 ≠ gb226)); have n8_ := Aside0.mk ((by rw [hg]; exact Nat.ne_of_gt (blk_lt (g := gb214) (o := .cells #[.int .i64 t211, .int .i64 t212] 25 (0, 0)) (by (with_reducible repeat (first | refine blk_drewN ?_ _ | refine blk_drew ?_ | refine blk_alloc ?_ _)); exact BK214.out)) : gb226 ≠ gb214)); have n9_ := Aside0.mk ((by rw [hg]; exact Nat.ne_of_lt (blk_lt (g := gb219) (o := .cells #[.int .i64 t216, .int .i64 t217] 25 (0, 0)) (by (with_reducible repeat (first | refine blk_drewN ?_ _ | refine blk_drew ?_ | refine blk_alloc ?_ _)); exact BK219.out)) : gb219 ≠ gb226)); have n10_ := Aside0.mk ((by rw [hg]; exact Nat.ne_of_gt (blk_lt (g := gb219) (o := .cells #[.int .i64 t216, .int .i64 t217] 25 (0, 0)) (by (with_reducible repeat (first | refine blk_drewN ?_ _ | refine blk_drew ?_ | refine blk_alloc ?_ _)); exact BK219.out)) : gb226 ≠ gb219)); clear HO222; clear BK214; clear BK219; clear HB; have HO222 := n0_; have BK214 := n1_; have BK219 := n2_; have HB := n3_; have BK226 := n4_; have GW226 := n5_; have GE226 := n6_; have NB214_226 := n7_; have NB226_214 := n8_; have NB219_226 := n9_; have NB226_219 := n10_; clear n0_ n1_ n2_ n3_ n4_ n5_ n6_ n7_ n8_ n9_ n10_; clear hb hbox hg; have hnb43 := NB226_214.out; have hnc43 := NB214_226.out; have hnb44 := NB226_219.out; have hnc44 := NB219_226.out; have hcz45_0 : w42.cell? ⟨gb226, 0, none⟩ = some (.int .i64 0) := (blk_cell BK226.out 0).trans rfl; have hcz45_1 : w42.cell? ⟨gb226, 1, none⟩ = some (.int .i64 0) := (blk_cell BK226.out 1).trans rfl; have hfz45_0 := blk_frozen BK226.out 0; have hfz45_1 := blk_frozen BK226.out 1))
                go_loopg [18] kj23 (fun kq v18 w' => ∃ (x18_3 : Int), v18 = .int .i64 x18_3 ∧ Aside0 (laws_FnClocks.l0 kq t220 t225 x18_3 t223 t224 = some r) ∧ Aside0 (kq ≤ kj23) ∧ Aside0 (Kd.R k25 25 w' w.heap.size (fun k_ => k_ ≠ gb214 ∧ k_ ≠ gb219 ∧ k_ ≠ gb226) (.slice Ao40 t220.length co40) t220) ∧ Aside0 (w'.heap[gb214]? = some (.cells #[.int .i64 t211, .int .i64 t212] 25 (0, 0))) ∧ Aside0 (w'.heap[gb219]? = some (.cells #[.int .i64 t216, .int .i64 t217] 25 (0, 0))) ∧ Aside0 (w'.heap[gb226]? = some (.cells #[.int .i64 t223, .int .i64 t224] 25 (0, 0))) ∧ Aside0 (Below w.heap.size w w'))
                case atStart => exact ⟨((-15)), (by first | rfl | (simp; done) | (simp [*]; done)), H', ⟨Nat.le_refl _⟩, ⟨by (with_reducible repeat (first | apply Kd.R_alloc | apply Kd.R_drewN | apply Kd.R_drew)); exact Kd.R_mono (Kd.R_far (p := ⟨gb226, 1, none⟩) (Kd.R_far (p := ⟨gb226, 0, none⟩) (Kd.R_mono HO222.out (fun k_ hk => (⟨hk, hk.2⟩ : _ ∧ k_ ≠ gb226))) (fun _ hk => hk.2) (.int .i64 t223)) (fun _ hk => hk.2) (.int .i64 t224)) (fun _ hk => ⟨hk.1.1.1.2, ⟨hk.1.1.2, hk.1.2⟩⟩)⟩, ⟨by (with_reducible repeat (first | refine blk_drewN ?_ _ | refine blk_drew ?_ | refine blk_alloc ?_ _)); refine blk_far ?_ NB214_226.out _; (with_reducible repeat (first | refine blk_drewN ?_ _ | refine blk_drew ?_ | refine blk_alloc ?_ _)); refine blk_far ?_ NB214_226.out _; (with_reducible repeat (first | refine blk_drewN ?_ _ | refine blk_drew ?_ | refine blk_alloc ?_ _)); exact BK214.out⟩, ⟨by (with_reducible repeat (first | refine blk_drewN ?_ _ | refine blk_drew ?_ | refine blk_alloc ?_ _)); refine blk_far ?_ NB219_226.out _; (with_reducible repeat (first | refine blk_drewN ?_ _ | refine blk_drew ?_ | refine blk_alloc ?_ _)); refine blk_far ?_ NB219_226.out _; (with_reducible repeat (first | refine blk_drewN ?_ _ | refine blk_drew ?_ | refine blk_alloc ?_ _)); exact BK219.out⟩, ⟨by (with_reducible repeat (first | refine blk_drewN ?_ _ | refine blk_drew ?_ | refine blk_alloc ?_ _)); refine blk_put (cs := #[.int .i64 t223, .int .i64 0]) ?_ 1 _ rfl; (with_reducible repeat (first | refine blk_drewN ?_ _ | refine blk_drew ?_ | refine blk_alloc ?_ _)); refine blk_put (cs := #[.int .i64 0, .int .i64 0]) ?_ 0 _ rfl; (with_reducible repeat (first | refine blk_drewN ?_ _ | refine blk_drew ?_ | refine blk_alloc ?_ _)); exact BK226.out⟩, ⟨by repeat (first | (with_reducible first | exact HB.out | apply below_alloc | apply pw_below_drewN | apply below_drew1 | refine below_set ?_ GE214.out | refine below_set ?_ GE219.out | refine below_set ?_ GE226.out) | exact HB.out)⟩⟩
                case round =>
                  clear H'
                  try clear c1
                  try clear c2
                  try clear p2
                  try clear c3
                  try clear c4
                  try clear p6
                  try clear c7
                  try clear c14
                  try clear c15
                  try clear c15b0
                  try clear c17
                  try clear c17b0
                  try clear c22
                  try clear c28
                  try clear c30
                  try clear c31
                  try clear c31b0
                  try clear c32
                  try clear c33
                  try clear c34
                  try clear c35
                  try clear c36
                  try clear c43
                  try clear c44
                  try clear hcz13_0
                  try clear hcz13_1
                  try clear hcz16_0
                  try clear hcz16_1
                  try clear hcz18_0
                  try clear hcz18_1
                  try clear hcz20_0
                  try clear hcz20_1
                  try clear hcz25_0
                  try clear hcz25_1
                  try clear hcz29_0
                  try clear hcz29_1
                  try clear hcz33_0
                  try clear hcz33_1
                  try clear hcz35_0
                  try clear hcz35_1
                  try clear hcz45_0
                  try clear hcz45_1
                  try clear hfz13_0
                  try clear hfz13_1
                  try clear hfz16_0
                  try clear hfz16_1
                  try clear hfz18_0
                  try clear hfz18_1
                  try clear hfz20_0
                  try clear hfz20_1
                  try clear hfz25_0
                  try clear hfz25_1
                  try clear hfz29_0
                  try clear hfz29_1
                  try clear hfz33_0
                  try clear hfz33_1
                  try clear hfz35_0
                  try clear hfz35_1
                  try clear hfz45_0
                  try clear hfz45_1
                  try clear p2
                  try clear p6
                  obtain ⟨x18_3, rfl, HA, HK3, HO_15, BK214, BK219, BK226, HB⟩ := hrel
                  cases gk with
                  | zero => exact absurd HA.out (by simp [laws_FnClocks.l0])
                  | succ k3 =>
                    have H := HA.out
                    clear HA
                    simp only [laws_FnClocks.l0] at H
                    by_cases c46 : x18_3 ≤ 65
                    · rw [if_pos c46] at H
                      have c46b0 : decide (x18_3 ≤ 65) = true := decide_eq_true c46
                      clear c46
                      have H' := Aside0.mk H
                      clear H
                      go_wp2
                      go_loopg [19, 20] k3 (fun kq v19 v20 w' => ∃ (x19_4 : Bool) (x20_4 : Int), v19 = .bool x19_4 ∧ v20 = .int .i64 x20_4 ∧ Aside0 (laws_FnClocks.l1 kq t220 t225 x18_3 x19_4 x20_4 t223 t224 = some r) ∧ Aside0 (kq ≤ k3) ∧ Aside0 (Kd.R k25 25 w' w.heap.size (fun k_ => k_ ≠ gb214 ∧ k_ ≠ gb219 ∧ k_ ≠ gb226) (.slice Ao40 t220.length co40) t220) ∧ Aside0 (w'.heap[gb214]? = some (.cells #[.int .i64 t211, .int .i64 t212] 25 (0, 0))) ∧ Aside0 (w'.heap[gb219]? = some (.cells #[.int .i64 t216, .int .i64 t217] 25 (0, 0))) ∧ Aside0 (w'.heap[gb226]? = some (.cells #[.int .i64 t223, .int .i64 t224] 25 (0, 0))) ∧ Aside0 (Below w.heap.size w w'))
                      case atStart => exact ⟨(decide ((t220.length : Int) > 0)), (0), (by first | rfl | (simp; done) | (simp [*]; done)), (by first | rfl | (simp; done) | (simp [*]; done)), H', ⟨Nat.le_refl _⟩, ⟨by (with_reducible repeat (first | apply Kd.R_alloc | apply Kd.R_drewN | apply Kd.R_drew)); exact HO_15.out⟩, ⟨by (with_reducible repeat (first | refine blk_drewN ?_ _ | refine blk_drew ?_ | refine blk_alloc ?_ _)); exact BK214.out⟩, ⟨by (with_reducible repeat (first | refine blk_drewN ?_ _ | refine blk_drew ?_ | refine blk_alloc ?_ _)); exact BK219.out⟩, ⟨by (with_reducible repeat (first | refine blk_drewN ?_ _ | refine blk_drew ?_ | refine blk_alloc ?_ _)); exact BK226.out⟩, ⟨by repeat (first | (with_reducible first | exact HB.out | apply below_alloc | apply pw_below_drewN | apply below_drew1 | refine below_set ?_ GE214.out | refine below_set ?_ GE219.out | refine below_set ?_ GE226.out) | exact HB.out)⟩⟩
                      case round =>
                        clear H'
                        try clear c1
                        try clear c2
                        try clear p2
                        try clear c3
                        try clear c4
                        try clear p6
                        try clear c7
                        try clear c14
                        try clear c15
                        try clear c15b0
                        try clear c17
                        try clear c17b0
                        try clear c22
                        try clear c28
                        try clear c30
                        try clear c31
                        try clear c31b0
                        try clear c32
                        try clear c33
                        try clear c34
                        try clear c35
                        try clear c36
                        try clear c43
                        try clear c44
                        try clear c46
                        try clear c46b0
                        try clear hcz13_0
                        try clear hcz13_1
                        try clear hcz16_0
                        try clear hcz16_1
                        try clear hcz18_0
                        try clear hcz18_1
                        try clear hcz20_0
                        try clear hcz20_1
                        try clear hcz25_0
                        try clear hcz25_1
                        try clear hcz29_0
                        try clear hcz29_1
                        try clear hcz33_0
                        try clear hcz33_1
                        try clear hcz35_0
                        try clear hcz35_1
                        try clear hcz45_0
                        try clear hcz45_1
                        try clear hfz13_0
                        try clear hfz13_1
                        try clear hfz16_0
                        try clear hfz16_1
                        try clear hfz18_0
                        try clear hfz18_1
                        try clear hfz20_0
                        try clear hfz20_1
                        try clear hfz25_0
                        try clear hfz25_1
                        try clear hfz29_0
                        try clear hfz29_1
                        try clear hfz33_0
                        try clear hfz33_1
                        try clear hfz35_0
                        try clear hfz35_1
                        try clear hfz45_0
                        try clear hfz45_1
                        try clear p2
                        try clear p6
                        obtain ⟨x19_4, x20_4, rfl, rfl, HA, HK4, HO_15, BK214, BK219, BK226, HB⟩ := hrel
                        cases gk with
                        | zero => exact absurd HA.out (by simp [laws_FnClocks.l1])
                        | succ k4 =>
                          have H := HA.out
                          clear HA
                          simp only [laws_FnClocks.l1] at H
                          by_cases c47 : x20_4 < (t220.length : Int)
                          · rw [if_pos c47] at H
                            have c47b0 : decide (x20_4 < (t220.length : Int)) = true := decide_eq_true c47
                            clear c47
                            by_cases c48 : x19_4 = true
                            · subst c48
                              have H1 : (if 0 ≤ x20_4 then ((impl_IsInterval.f ((rd_T25 t220 x20_4).f0) ((rd_T25 t220 x20_4).f1)).bind fun t228 => (if t228 = true then (if ((rd_T25 t220 x20_4).f0) ≤ x18_3 then (laws_FnClocks.l1 k4 t220 t225 x18_3 (decide (x18_3 ≤ ((rd_T25 t220 x20_4).f1))) (wrap64 (x20_4 + 1)) t223 t224) else (laws_FnClocks.l1 k4 t220 t225 x18_3 false (wrap64 (x20_4 + 1)) t223 t224)) else (laws_FnClocks.l1 k4 t220 t225 x18_3 false (wrap64 (x20_4 + 1)) t223 t224))) else (none)) = some r := by rw [if_pos rfl] at H; exact H
                              clear H
                              have H := H1
                              clear H1
                              by_cases c49 : 0 ≤ x20_4
                              · rw [if_pos c49] at H
                                have c49b0 : decide (0 ≤ x20_4) = true := decide_eq_true c49
                                clear c49
                                replace H := Option.bind_eq_some_iff.mp H
                                obtain ⟨t228, A500, H⟩ := H
                                replace H : (if t228 = true then (if ((rd_T25 t220 x20_4).f0) ≤ x18_3 then (laws_FnClocks.l1 k4 t220 t225 x18_3 (decide (x18_3 ≤ ((rd_T25 t220 x20_4).f1))) (wrap64 (x20_4 + 1)) t223 t224) else (laws_FnClocks.l1 k4 t220 t225 x18_3 false (wrap64 (x20_4 + 1)) t223 t224)) else (laws_FnClocks.l1 k4 t220 t225 x18_3 false (wrap64 (x20_4 + 1)) t223 t224)) = some r := H
                                have A50 := Aside0.mk A500
                                clear A500
                                by_cases c51 : t228 = true
                                · subst c51
                                  have H1 : (if ((rd_T25 t220 x20_4).f0) ≤ x18_3 then (laws_FnClocks.l1 k4 t220 t225 x18_3 (decide (x18_3 ≤ ((rd_T25 t220 x20_4).f1))) (wrap64 (x20_4 + 1)) t223 t224) else (laws_FnClocks.l1 k4 t220 t225 x18_3 false (wrap64 (x20_4 + 1)) t223 t224)) = some r := by rw [if_pos rfl] at H; exact H
                                  clear H
                                  have H := H1
                                  clear H1
                                  by_cases c52 : ((rd_T25 t220 x20_4).f0) ≤ x18_3
                                  · rw [if_pos c52] at H
                                    have c52b0 : decide (((rd_T25 t220 x20_4).f0) ≤ x18_3) = true := decide_eq_true c52
                                    clear c52
                                    have H' := Aside0.mk H
                                    clear H
                                    have p227 : 0 ≤ (x20_4 : Int) := of_decide_eq_true (by first | (with_reducible assumption) | assumption)
                                    have q227 : x20_4 < (t220.length : Int) := of_decide_eq_true (by first | (with_reducible assumption) | assumption)
                                    obtain ⟨ad227, e227, hx227_0, hx227_1⟩ := at_T25 (Kd.R_reads' HO_15.out).2.2 x20_4 p227 q227
                                    cases e227
                                    replace p227 := eq_true p227
                                    replace q227 := eq_true q227
                                    go_wp2_with (first | (go_at_call 37; (with_reducible refine (impl_IsInterval.calls ((rd_T25 t220 x20_4).f0) ((rd_T25 t220 x20_4).f1) true _ A50.out).mono ?_); rintro e w53 ⟨rfl, hb⟩; have n0_ := Aside0.mk (Kd.R_below (by (with_reducible repeat (first | apply Kd.R_alloc | apply Kd.R_drewN | apply Kd.R_drew)); exact HO_15.out) hb); have n1_ := Aside0.mk (blk_below (g := gb214) (o := .cells #[.int .i64 t211, .int .i64 t212] 25 (0, 0)) (by (with_reducible repeat (first | refine blk_drewN ?_ _ | refine blk_drew ?_ | refine blk_alloc ?_ _)); exact BK214.out) hb); have n2_ := Aside0.mk (blk_below (g := gb219) (o := .cells #[.int .i64 t216, .int .i64 t217] 25 (0, 0)) (by (with_reducible repeat (first | refine blk_drewN ?_ _ | refine blk_drew ?_ | refine blk_alloc ?_ _)); exact BK219.out) hb); have n3_ := Aside0.mk (blk_below (g := gb226) (o := .cells #[.int .i64 t223, .int .i64 t224] 25 (0, 0)) (by (with_reducible repeat (first | refine blk_drewN ?_ _ | refine blk_drew ?_ | refine blk_alloc ?_ _)); exact BK226.out) hb); have n4_ := Aside0.mk (below_step (by repeat (first | (with_reducible first | exact HB.out | apply below_alloc | apply pw_below_drewN | apply below_drew1 | refine below_set ?_ GE214.out | refine below_set ?_ GE219.out | refine below_set ?_ GE226.out) | exact HB.out)) hb); clear HO_15; clear BK214; clear BK219; clear BK226; clear HB; have HO_15 := n0_; have BK214 := n1_; have BK219 := n2_; have BK226 := n3_; have HB := n4_; clear n0_ n1_ n2_ n3_ n4_; (try clear hb); (try clear hb2); (try clear hk); (try clear hi); have p229 : 0 ≤ (x20_4 : Int) := of_decide_eq_true (by first | (with_reducible assumption) | assumption); have q229 : x20_4 < (t220.length : Int) := of_decide_eq_true (by first | (with_reducible assumption) | assumption); obtain ⟨ad229, e229, hx229_0, hx229_1⟩ := at_T25 (Kd.R_reads' HO_15.out).2.2 x20_4 p229 q229; obtain rfl : ad227 = ad229 := (by injection e229); replace p229 := eq_true p229; replace q229 := eq_true q229; have p230 : 0 ≤ (x20_4 : Int) := of_decide_eq_true (by first | (with_reducible assumption) | assumption); have q230 : x20_4 < (t220.length : Int) := of_decide_eq_true (by first | (with_reducible assumption) | assumption); obtain ⟨ad230, e230, hx230_0, hx230_1⟩ := at_T25 (Kd.R_reads' HO_15.out).2.2 x20_4 p230 q230; obtain rfl : ad227 = ad230 := (by injection e230); replace p230 := eq_true p230; replace q230 := eq_true q230))
                                    go_roundg k4
                                    case measure => have := HJ9.out; have := HJ23.out; have := HK3.out; have := HK4.out; omega
                                    case rel => exact ⟨(decide (x18_3 ≤ ((rd_T25 t220 x20_4).f1))), (wrap64 (x20_4 + 1)), (by first | rfl | (simp; done) | (simp [*]; done)), (by first | rfl | (simp; done) | (simp [*]; done)), H', ⟨by have := HJ9.out; have := HJ23.out; have := HK3.out; have := HK4.out; omega⟩, ⟨by (with_reducible repeat (first | apply Kd.R_alloc | apply Kd.R_drewN | apply Kd.R_drew)); exact HO_15.out⟩, ⟨by (with_reducible repeat (first | refine blk_drewN ?_ _ | refine blk_drew ?_ | refine blk_alloc ?_ _)); exact BK214.out⟩, ⟨by (with_reducible repeat (first | refine blk_drewN ?_ _ | refine blk_drew ?_ | refine blk_alloc ?_ _)); exact BK219.out⟩, ⟨by (with_reducible repeat (first | refine blk_drewN ?_ _ | refine blk_drew ?_ | refine blk_alloc ?_ _)); exact BK226.out⟩, ⟨by repeat (first | (with_reducible first | exact HB.out | apply below_alloc | apply pw_below_drewN | apply below_drew1 | refine below_set ?_ GE214.out | refine below_set ?_ GE219.out | refine below_set ?_ GE226.out) | exact HB.out)⟩⟩
                                  · rw [if_neg c52] at H
                                    have c52b0 : decide (((rd_T25 t220 x20_4).f0) ≤ x18_3) = false := decide_eq_false c52
                                    clear c52
                                    have H' := Aside0.mk H
                                    clear H
                                    have p227 : 0 ≤ (x20_4 : Int) := of_decide_eq_true (by first | (with_reducible assumption) | assumption)
                                    have q227 : x20_4 < (t220.length : Int) := of_decide_eq_true (by first | (with_reducible assumption) | assumption)
                                    obtain ⟨ad227, e227, hx227_0, hx227_1⟩ := at_T25 (Kd.R_reads' HO_15.out).2.2 x20_4 p227 q227
                                    cases e227
                                    replace p227 := eq_true p227
                                    replace q227 := eq_true q227
                                    go_wp2_with (first | (go_at_call 37; (with_reducible refine (impl_IsInterval.calls ((rd_T25 t220 x20_4).f0) ((rd_T25 t220 x20_4).f1) true _ A50.out).mono ?_); rintro e w54 ⟨rfl, hb⟩; have n0_ := Aside0.mk (Kd.R_below (by (with_reducible repeat (first | apply Kd.R_alloc | apply Kd.R_drewN | apply Kd.R_drew)); exact HO_15.out) hb); have n1_ := Aside0.mk (blk_below (g := gb214) (o := .cells #[.int .i64 t211, .int .i64 t212] 25 (0, 0)) (by (with_reducible repeat (first | refine blk_drewN ?_ _ | refine blk_drew ?_ | refine blk_alloc ?_ _)); exact BK214.out) hb); have n2_ := Aside0.mk (blk_below (g := gb219) (o := .cells #[.int .i64 t216, .int .i64 t217] 25 (0, 0)) (by (with_reducible repeat (first | refine blk_drewN ?_ _ | refine blk_drew ?_ | refine blk_alloc ?_ _)); exact BK219.out) hb); have n3_ := Aside0.mk (blk_below (g := gb226) (o := .cells #[.int .i64 t223, .int .i64 t224] 25 (0, 0)) (by (with_reducible repeat (first | refine blk_drewN ?_ _ | refine blk_drew ?_ | refine blk_alloc ?_ _)); exact BK226.out) hb); have n4_ := Aside0.mk (below_step (by repeat (first | (with_reducible first | exact HB.out | apply below_alloc | apply pw_below_drewN | apply below_drew1 | refine below_set ?_ GE214.out | refine below_set ?_ GE219.out | refine below_set ?_ GE226.out) | exact HB.out)) hb); clear HO_15; clear BK214; clear BK219; clear BK226; clear HB; have HO_15 := n0_; have BK214 := n1_; have BK219 := n2_; have BK226 := n3_; have HB := n4_; clear n0_ n1_ n2_ n3_ n4_; (try clear hb); (try clear hb2); (try clear hk); (try clear hi); have p229 : 0 ≤ (x20_4 : Int) := of_decide_eq_true (by first | (with_reducible assumption) | assumption); have q229 : x20_4 < (t220.length : Int) := of_decide_eq_true (by first | (with_reducible assumption) | assumption); obtain ⟨ad229, e229, hx229_0, hx229_1⟩ := at_T25 (Kd.R_reads' HO_15.out).2.2 x20_4 p229 q229; obtain rfl : ad227 = ad229 := (by injection e229); replace p229 := eq_true p229; replace q229 := eq_true q229))
                                    go_roundg k4
                                    case measure => have := HJ9.out; have := HJ23.out; have := HK3.out; have := HK4.out; omega
                                    case rel => exact ⟨(false), (wrap64 (x20_4 + 1)), (by first | rfl | (simp; done) | (simp [*]; done)), (by first | rfl | (simp; done) | (simp [*]; done)), H', ⟨by have := HJ9.out; have := HJ23.out; have := HK3.out; have := HK4.out; omega⟩, ⟨by (with_reducible repeat (first | apply Kd.R_alloc | apply Kd.R_drewN | apply Kd.R_drew)); exact HO_15.out⟩, ⟨by (with_reducible repeat (first | refine blk_drewN ?_ _ | refine blk_drew ?_ | refine blk_alloc ?_ _)); exact BK214.out⟩, ⟨by (with_reducible repeat (first | refine blk_drewN ?_ _ | refine blk_drew ?_ | refine blk_alloc ?_ _)); exact BK219.out⟩, ⟨by (with_reducible repeat (first | refine blk_drewN ?_ _ | refine blk_drew ?_ | refine blk_alloc ?_ _)); exact BK226.out⟩, ⟨by repeat (first | (with_reducible first | exact HB.out | apply below_alloc | apply pw_below_drewN | apply below_drew1 | refine below_set ?_ GE214.out | refine below_set ?_ GE219.out | refine below_set ?_ GE226.out) | exact HB.out)⟩⟩
                                · replace c51 := Bool.eq_false_iff.mpr c51
                                  subst c51
                                  have H1 : (laws_FnClocks.l1 k4 t220 t225 x18_3 false (wrap64 (x20_4 + 1)) t223 t224) = some r := by rw [if_neg (show ¬ (false = true) by decide)] at H; exact H
                                  clear H
                                  have H := H1
                                  clear H1
                                  have H' := Aside0.mk H
                                  clear H
                                  have p227 : 0 ≤ (x20_4 : Int) := of_decide_eq_true (by first | (with_reducible assumption) | assumption)
                                  have q227 : x20_4 < (t220.length : Int) := of_decide_eq_true (by first | (with_reducible assumption) | assumption)
                                  obtain ⟨ad227, e227, hx227_0, hx227_1⟩ := at_T25 (Kd.R_reads' HO_15.out).2.2 x20_4 p227 q227
                                  cases e227
                                  replace p227 := eq_true p227
                                  replace q227 := eq_true q227
                                  go_wp2_with (first | (go_at_call 37; (with_reducible refine (impl_IsInterval.calls ((rd_T25 t220 x20_4).f0) ((rd_T25 t220 x20_4).f1) false _ A50.out).mono ?_); rintro e w55 ⟨rfl, hb⟩; have n0_ := Aside0.mk (Kd.R_below (by (with_reducible repeat (first | apply Kd.R_alloc | apply Kd.R_drewN | apply Kd.R_drew)); exact HO_15.out) hb); have n1_ := Aside0.mk (blk_below (g := gb214) (o := .cells #[.int .i64 t211, .int .i64 t212] 25 (0, 0)) (by (with_reducible repeat (first | refine blk_drewN ?_ _ | refine blk_drew ?_ | refine blk_alloc ?_ _)); exact BK214.out) hb); have n2_ := Aside0.mk (blk_below (g := gb219) (o := .cells #[.int .i64 t216, .int .i64 t217] 25 (0, 0)) (by (with_reducible repeat (first | refine blk_drewN ?_ _ | refine blk_drew ?_ | refine blk_alloc ?_ _)); exact BK219.out) hb); have n3_ := Aside0.mk (blk_below (g := gb226) (o := .cells #[.int .i64 t223, .int .i64 t224] 25 (0, 0)) (by (with_reducible repeat (first | refine blk_drewN ?_ _ | refine blk_drew ?_ | refine blk_alloc ?_ _)); exact BK226.out) hb); have n4_ := Aside0.mk (below_step (by repeat (first | (with_reducible first | exact HB.out | apply below_alloc | apply pw_below_drewN | apply below_drew1 | refine below_set ?_ GE214.out | refine below_set ?_ GE219.out | refine below_set ?_ GE226.out) | exact HB.out)) hb); clear HO_15; clear BK214; clear BK219; clear BK226; clear HB; have HO_15 := n0_; have BK214 := n1_; have BK219 := n2_; have BK226 := n3_; have HB := n4_; clear n0_ n1_ n2_ n3_ n4_; (try clear hb); (try clear hb2); (try clear hk); (try clear hi)))
                                  go_roundg k4
                                  case measure => have := HJ9.out; have := HJ23.out; have := HK3.out; have := HK4.out; omega
                                  case rel => exact ⟨(false), (wrap64 (x20_4 + 1)), (by first | rfl | (simp; done) | (simp [*]; done)), (by first | rfl | (simp; done) | (simp [*]; done)), H', ⟨by have := HJ9.out; have := HJ23.out; have := HK3.out; have := HK4.out; omega⟩, ⟨by (with_reducible repeat (first | apply Kd.R_alloc | apply Kd.R_drewN | apply Kd.R_drew)); exact HO_15.out⟩, ⟨by (with_reducible repeat (first | refine blk_drewN ?_ _ | refine blk_drew ?_ | refine blk_alloc ?_ _)); exact BK214.out⟩, ⟨by (with_reducible repeat (first | refine blk_drewN ?_ _ | refine blk_drew ?_ | refine blk_alloc ?_ _)); exact BK219.out⟩, ⟨by (with_reducible repeat (first | refine blk_drewN ?_ _ | refine blk_drew ?_ | refine blk_alloc ?_ _)); exact BK226.out⟩, ⟨by repeat (first | (with_reducible first | exact HB.out | apply below_alloc | apply pw_below_drewN | apply below_drew1 | refine below_set ?_ GE214.out | refine below_set ?_ GE219.out | refine below_set ?_ GE226.out) | exact HB.out)⟩⟩
                              · rw [if_neg c49] at H
                                exact absurd H (by simp)
                            · replace c48 := Bool.eq_false_iff.mpr c48
                              subst c48
                              have H1 : (laws_FnClocks.l1 k4 t220 t225 x18_3 false (wrap64 (x20_4 + 1)) t223 t224) = some r := by rw [if_neg (show ¬ (false = true) by decide)] at H; exact H
                              clear H
                              have H := H1
                              clear H1
                              have H' := Aside0.mk H
                              clear H
                              go_wp2
                              go_roundg k4
                              case measure => have := HJ9.out; have := HJ23.out; have := HK3.out; have := HK4.out; omega
                              case rel => exact ⟨(false), (wrap64 (x20_4 + 1)), (by first | rfl | (simp; done) | (simp [*]; done)), (by first | rfl | (simp; done) | (simp [*]; done)), H', ⟨by have := HJ9.out; have := HJ23.out; have := HK3.out; have := HK4.out; omega⟩, ⟨by (with_reducible repeat (first | apply Kd.R_alloc | apply Kd.R_drewN | apply Kd.R_drew)); exact HO_15.out⟩, ⟨by (with_reducible repeat (first | refine blk_drewN ?_ _ | refine blk_drew ?_ | refine blk_alloc ?_ _)); exact BK214.out⟩, ⟨by (with_reducible repeat (first | refine blk_drewN ?_ _ | refine blk_drew ?_ | refine blk_alloc ?_ _)); exact BK219.out⟩, ⟨by (with_reducible repeat (first | refine blk_drewN ?_ _ | refine blk_drew ?_ | refine blk_alloc ?_ _)); exact BK226.out⟩, ⟨by repeat (first | (with_reducible first | exact HB.out | apply below_alloc | apply pw_below_drewN | apply below_drew1 | refine below_set ?_ GE214.out | refine below_set ?_ GE219.out | refine below_set ?_ GE226.out) | exact HB.out)⟩⟩
                          · rw [if_neg c47] at H
                            have c47b0 : decide (x20_4 < (t220.length : Int)) = false := decide_eq_false c47
                            clear c47
                            by_cases c56 : t225 = true
                            · subst c56
                              have H1 : (if t223 ≤ x18_3 then (if (x19_4 != (decide (x18_3 ≤ t224))) = true then (some false) else (laws_FnClocks.l0 k4 t220 true (wrap64 (x18_3 + 1)) t223 t224)) else (if (x19_4 != false) = true then (some false) else (laws_FnClocks.l0 k4 t220 true (wrap64 (x18_3 + 1)) t223 t224))) = some r := by rw [if_pos rfl] at H; exact H
                              clear H
                              have H := H1
                              clear H1
                              by_cases c57 : t223 ≤ x18_3
                              · rw [if_pos c57] at H
                                have c57b0 : decide (t223 ≤ x18_3) = true := decide_eq_true c57
                                clear c57
                                by_cases c58 : (x19_4 != (decide (x18_3 ≤ t224))) = true
                                · rw [if_pos c58] at H
                                  have c58b0 : (x19_4 != (decide (x18_3 ≤ t224))) = true := c58
                                  (try (have c58b1 : decide (x19_4 = (decide (x18_3 ≤ t224))) = false := by simpa using c58))
                                  (try (have c58b2 : (x19_4 == (decide (x18_3 ≤ t224))) = false := by simpa using c58))
                                  (try (have c58b3 : ¬ (x19_4 = (decide (x18_3 ≤ t224))) := by simpa using c58))
                                  clear c58
                                  exact absurd ((Option.some.inj H).trans hrt.out) (by decide)
                                · rw [if_neg c58] at H
                                  have c58b0 : (x19_4 != (decide (x18_3 ≤ t224))) = false := by simpa using c58
                                  (try (have c58b1 : decide (x19_4 = (decide (x18_3 ≤ t224))) = true := by simpa using c58))
                                  (try (have c58b2 : (x19_4 == (decide (x18_3 ≤ t224))) = true := by simpa using c58))
                                  clear c58
                                  have H' := Aside0.mk H
                                  clear H
                                  have hnb59 := NB226_214.out
                                  have hnc59 := NB214_226.out
                                  have hnb60 := NB226_219.out
                                  have hnc60 := NB219_226.out
                                  have hcz61_0 : wr.cell? ⟨gb226, 0, none⟩ = some (.int .i64 t223) := (blk_cell BK226.out 0).trans rfl
                                  have hcz61_1 : wr.cell? ⟨gb226, 1, none⟩ = some (.int .i64 t224) := (blk_cell BK226.out 1).trans rfl
                                  have hfz61_0 := blk_frozen BK226.out 0
                                  have hfz61_1 := blk_frozen BK226.out 1
                                  go_wp2
                                  go_roundg k4
                                  case measure => have := HJ9.out; have := HJ23.out; have := HK3.out; have := HK4.out; omega
                                  case rel => exact ⟨(wrap64 (x18_3 + 1)), (by first | rfl | (simp; done) | (simp [*]; done)), H', ⟨by have := HJ9.out; have := HJ23.out; have := HK3.out; have := HK4.out; omega⟩, ⟨by (with_reducible repeat (first | apply Kd.R_alloc | apply Kd.R_drewN | apply Kd.R_drew)); exact HO_15.out⟩, ⟨by (with_reducible repeat (first | refine blk_drewN ?_ _ | refine blk_drew ?_ | refine blk_alloc ?_ _)); exact BK214.out⟩, ⟨by (with_reducible repeat (first | refine blk_drewN ?_ _ | refine blk_drew ?_ | refine blk_alloc ?_ _)); exact BK219.out⟩, ⟨by (with_reducible repeat (first | refine blk_drewN ?_ _ | refine blk_drew ?_ | refine blk_alloc ?_ _)); exact BK226.out⟩, ⟨by repeat (first | (with_reducible first | exact HB.out | apply below_alloc | apply pw_below_drewN | apply below_drew1 | refine below_set ?_ GE214.out | refine below_set ?_ GE219.out | refine below_set ?_ GE226.out) | exact HB.out)⟩⟩
                              · rw [if_neg c57] at H
                                have c57b0 : decide (t223 ≤ x18_3) = false := decide_eq_false c57
                                clear c57
                                by_cases c62 : (x19_4 != false) = true
                                · rw [if_pos c62] at H
                                  have c62b0 : (x19_4 != false) = true := c62
                                  (try (have c62b1 : decide (x19_4 = false) = false := by simpa using c62))
                                  (try (have c62b2 : (x19_4 == false) = false := by simpa using c62))
                                  (try (have c62b3 : ¬ (x19_4 = false) := by simpa using c62))
                                  clear c62
                                  exact absurd ((Option.some.inj H).trans hrt.out) (by decide)
                                · rw [if_neg c62] at H
                                  have c62b0 : (x19_4 != false) = false := by simpa using c62
                                  (try (have c62b1 : decide (x19_4 = false) = true := by simpa using c62))
                                  (try (have c62b2 : (x19_4 == false) = true := by simpa using c62))
                                  clear c62
                                  have H' := Aside0.mk H
                                  clear H
                                  have hnb63 := NB226_214.out
                                  have hnc63 := NB214_226.out
                                  have hnb64 := NB226_219.out
                                  have hnc64 := NB219_226.out
                                  have hcz65_0 : wr.cell? ⟨gb226, 0, none⟩ = some (.int .i64 t223) := (blk_cell BK226.out 0).trans rfl
                                  have hcz65_1 : wr.cell? ⟨gb226, 1, none⟩ = some (.int .i64 t224) := (blk_cell BK226.out 1).trans rfl
                                  have hfz65_0 := blk_frozen BK226.out 0
                                  have hfz65_1 := blk_frozen BK226.out 1
                                  go_wp2
                                  go_roundg k4
                                  case measure => have := HJ9.out; have := HJ23.out; have := HK3.out; have := HK4.out; omega
                                  case rel => exact ⟨(wrap64 (x18_3 + 1)), (by first | rfl | (simp; done) | (simp [*]; done)), H', ⟨by have := HJ9.out; have := HJ23.out; have := HK3.out; have := HK4.out; omega⟩, ⟨by (with_reducible repeat (first | apply Kd.R_alloc | apply Kd.R_drewN | apply Kd.R_drew)); exact HO_15.out⟩, ⟨by (with_reducible repeat (first | refine blk_drewN ?_ _ | refine blk_drew ?_ | refine blk_alloc ?_ _)); exact BK214.out⟩, ⟨by (with_reducible repeat (first | refine blk_drewN ?_ _ | refine blk_drew ?_ | refine blk_alloc ?_ _)); exact BK219.out⟩, ⟨by (with_reducible repeat (first | refine blk_drewN ?_ _ | refine blk_drew ?_ | refine blk_alloc ?_ _)); exact BK226.out⟩, ⟨by repeat (first | (with_reducible first | exact HB.out | apply below_alloc | apply pw_below_drewN | apply below_drew1 | refine below_set ?_ GE214.out | refine below_set ?_ GE219.out | refine below_set ?_ GE226.out) | exact HB.out)⟩⟩
                            · replace c56 := Bool.eq_false_iff.mpr c56
                              subst c56
                              have H1 : (if (x19_4 != false) = true then (some false) else (laws_FnClocks.l0 k4 t220 false (wrap64 (x18_3 + 1)) t223 t224)) = some r := by rw [if_neg (show ¬ (false = true) by decide)] at H; exact H
                              clear H
                              have H := H1
                              clear H1
                              by_cases c66 : (x19_4 != false) = true
                              · rw [if_pos c66] at H
                                have c66b0 : (x19_4 != false) = true := c66
                                (try (have c66b1 : decide (x19_4 = false) = false := by simpa using c66))
                                (try (have c66b2 : (x19_4 == false) = false := by simpa using c66))
                                (try (have c66b3 : ¬ (x19_4 = false) := by simpa using c66))
                                clear c66
                                exact absurd ((Option.some.inj H).trans hrt.out) (by decide)
                              · rw [if_neg c66] at H
                                have c66b0 : (x19_4 != false) = false := by simpa using c66
                                (try (have c66b1 : decide (x19_4 = false) = true := by simpa using c66))
                                (try (have c66b2 : (x19_4 == false) = true := by simpa using c66))
                                clear c66
                                have H' := Aside0.mk H
                                clear H
                                go_wp2
                                go_roundg k4
                                case measure => have := HJ9.out; have := HJ23.out; have := HK3.out; have := HK4.out; omega
                                case rel => exact ⟨(wrap64 (x18_3 + 1)), (by first | rfl | (simp; done) | (simp [*]; done)), H', ⟨by have := HJ9.out; have := HJ23.out; have := HK3.out; have := HK4.out; omega⟩, ⟨by (with_reducible repeat (first | apply Kd.R_alloc | apply Kd.R_drewN | apply Kd.R_drew)); exact HO_15.out⟩, ⟨by (with_reducible repeat (first | refine blk_drewN ?_ _ | refine blk_drew ?_ | refine blk_alloc ?_ _)); exact BK214.out⟩, ⟨by (with_reducible repeat (first | refine blk_drewN ?_ _ | refine blk_drew ?_ | refine blk_alloc ?_ _)); exact BK219.out⟩, ⟨by (with_reducible repeat (first | refine blk_drewN ?_ _ | refine blk_drew ?_ | refine blk_alloc ?_ _)); exact BK226.out⟩, ⟨by repeat (first | (with_reducible first | exact HB.out | apply below_alloc | apply pw_below_drewN | apply below_drew1 | refine below_set ?_ GE214.out | refine below_set ?_ GE219.out | refine below_set ?_ GE226.out) | exact HB.out)⟩⟩
                    · rw [if_neg c46] at H
                      have c46b0 : decide (x18_3 ≤ 65) = false := decide_eq_false c46
                      clear c46
                      obtain rfl := Option.some.inj H
                      go_wp2
                      go_ret
                      exact ⟨by first | rfl | (simp [errW_none, errW_some] <;> rfl) | (simp [*, errW_none, errW_some] <;> rfl), by repeat (first | (with_reducible first | exact HB.out | apply below_alloc | apply pw_below_drewN | apply below_drew1 | refine below_set ?_ GE214.out | refine below_set ?_ GE219.out | refine below_set ?_ GE226.out) | exact HB.out)⟩

end Go.Proofs.Ythfnnlbppkhhjaa.Z
