-- Written by this session's wip/mp/mp.py out of the translation. Lean checks it.
import Derived.Test.YtgghhcifkgdpeaaZ0
import Derived.Test.YtgghhcifkgdpeaaZ2
import Derived.Test.YtgghhcifkgdpeaaZ4
import Derived.Test.YtgghhcifkgdpeaaZ5
import Derived.Test.YtgghhcifkgdpeaaZ8
import Derived.Test.YtgghhcifkgdpeaaZ9
import Derived.Test.YtgghhcifkgdpeaaZ10
import Derived.Test.YtgghhcifkgdpeaaZ11
namespace Go.Proofs.Ytgghhcifkgdpeaa.Z
open Go.RowKit Go.Proofs.YtgghhcifkgdpeaaW.PrintWords Go.Proofs.YtgghhcifkgdpeaaW.PrintLast Go.Proofs.YtgghhcifkgdpeaaW.PrintMore
attribute [local go_sem] max2_int min2_int max_two min_two max_three min_three max_four min_four   -- for this text's walks alone
set_option linter.unusedVariables false
set_option linter.unusedSimpArgs false

/-! ### laws_FnAliases: function 4 -/
mutual
def laws_FnAliases.l0 : Nat → List (S68) → List (List Int) → List Int → Int → Int → Option (Bool)
  | 0, _, _, _, _, _ => none
  | k + 1, x3, x4, x5, x6, x7 => if x7 < (x4.length : Int) then (if 0 ≤ x7 then (if ((rd_L4 x4 x7).length : Int) = 0 then (laws_FnAliases.j1 k x3 x4 x5 (wrap64 (x6 + ((rd_L4 x4 x7).length : Int))) x7 true) else (if ((rd_L4 x4 x7).length : Int) > 1 then ((impl_MayBeOne.f k x3 (rd_L4 x4 x7)).bind fun t246 => (laws_FnAliases.j1 k x3 x4 x5 (wrap64 (x6 + ((rd_L4 x4 x7).length : Int))) x7 (!t246))) else (laws_FnAliases.j1 k x3 x4 x5 (wrap64 (x6 + ((rd_L4 x4 x7).length : Int))) x7 false))) else (none)) else (some (x6 == (x5.length : Int)))
def laws_FnAliases.j1 : Nat → List (S68) → List (List Int) → List Int → Int → Int → Bool → Option (Bool)
  | 0, _, _, _, _, _, _ => none
  | k + 1, x3, x4, x5, x6, x7, x64 => if x64 = true then (some false) else (laws_FnAliases.l1 k x3 x4 x5 x6 x7 0)
def laws_FnAliases.l1 : Nat → List (S68) → List (List Int) → List Int → Int → Int → Int → Option (Bool)
  | 0, _, _, _, _, _, _ => none
  | k + 1, x3, x4, x5, x6, x7, x8 => if 0 ≤ x7 then (if x7 < (x4.length : Int) then (if x8 < ((rd_L4 x4 x7).length : Int) then (if 0 ≤ x8 then ((laws_contains.f k x5 (rd (rd_L4 x4 x7) x8)).bind fun t250 => (if t250 = true then (laws_FnAliases.l2 k x3 x4 x5 x6 x7 x8 0) else (some false))) else (none)) else (laws_FnAliases.l0 k x3 x4 x5 x6 (wrap64 (x7 + 1)))) else (none)) else (none)
def laws_FnAliases.l2 : Nat → List (S68) → List (List Int) → List Int → Int → Int → Int → Int → Option (Bool)
  | 0, _, _, _, _, _, _, _ => none
  | k + 1, x3, x4, x5, x6, x7, x8, x9 => if x9 < x8 then (if 0 ≤ x7 then (if x7 < (x4.length : Int) then (if 0 ≤ x9 then (if x9 < ((rd_L4 x4 x7).length : Int) then (if 0 ≤ x8 then (if x8 < ((rd_L4 x4 x7).length : Int) then ((impl_SurelyApart.f k x3 (rd (rd_L4 x4 x7) x9) (rd (rd_L4 x4 x7) x8)).bind fun t255 => (if t255 = true then (some false) else (if (rd (rd_L4 x4 x7) x9) ≥ (rd (rd_L4 x4 x7) x8) then (some false) else (laws_FnAliases.l2 k x3 x4 x5 x6 x7 x8 (wrap64 (x9 + 1)))))) else (none)) else (none)) else (none)) else (none)) else (none)) else (none)) else (laws_FnAliases.l1 k x3 x4 x5 x6 x7 (wrap64 (x8 + 1)))
end
def laws_FnAliases.f (k : Nat) (l0 : List Int) : Option (Bool) := (laws_big.f l0).bind fun t229 => (if t229 = true then (some true) else ((spec_DrawGroupsOf.f k l0).bind fun t230 => ((impl_GroupsOf.f k t230).bind fun t233 => ((impl_AreReplies.f t230).bind fun t236 => ((spec_AreReplies.f k t230).bind fun t237 => (if (t236 != t237) = true then (some false) else ((impl_AreReplies.f t230).bind fun t238 => (if t238 = true then ((impl_AddressesOf.f k t230).bind fun t239 => (laws_FnAliases.l0 k t230 t233 t239 0 0)) else (some ((t233.length : Int) == 0))))))))))
theorem laws_FnAliases.mono_l : ∀ k, (∀ y0 y1 y2 y3 y4, LeO (laws_FnAliases.l0 k y0 y1 y2 y3 y4) (laws_FnAliases.l0 (k + 1) y0 y1 y2 y3 y4)) ∧ (∀ y0 y1 y2 y3 y4 y5, LeO (laws_FnAliases.j1 k y0 y1 y2 y3 y4 y5) (laws_FnAliases.j1 (k + 1) y0 y1 y2 y3 y4 y5)) ∧ (∀ y0 y1 y2 y3 y4 y5, LeO (laws_FnAliases.l1 k y0 y1 y2 y3 y4 y5) (laws_FnAliases.l1 (k + 1) y0 y1 y2 y3 y4 y5)) ∧ (∀ y0 y1 y2 y3 y4 y5 y6, LeO (laws_FnAliases.l2 k y0 y1 y2 y3 y4 y5 y6) (laws_FnAliases.l2 (k + 1) y0 y1 y2 y3 y4 y5 y6))
  | 0 => ⟨fun _ _ _ _ _ r h => by simp [laws_FnAliases.l0] at h, fun _ _ _ _ _ _ r h => by simp [laws_FnAliases.j1] at h, fun _ _ _ _ _ _ r h => by simp [laws_FnAliases.l1] at h, fun _ _ _ _ _ _ _ r h => by simp [laws_FnAliases.l2] at h⟩
  | k + 1 => by
    obtain ⟨ih0, ih1, ih2, ih3⟩ := laws_FnAliases.mono_l k
    refine ⟨?_, ?_, ?_, ?_⟩
    · intro y0 y1 y2 y3 y4
      unfold laws_FnAliases.l0
      repeat' first
      | (with_reducible exact ih0 _ _ _ _ _)
      | (with_reducible exact ih1 _ _ _ _ _ _)
      | (with_reducible exact ih2 _ _ _ _ _ _)
      | (with_reducible exact ih3 _ _ _ _ _ _ _)
      | (with_reducible exact impl_AddressesOf.mono _ _)
      | (with_reducible exact impl_GroupsOf.mono _ _)
      | (with_reducible exact impl_MayBeOne.mono _ _ _)
      | (with_reducible exact impl_SurelyApart.mono _ _ _ _)
      | (with_reducible exact laws_contains.mono _ _ _)
      | (with_reducible exact spec_AreReplies.mono _ _)
      | (with_reducible exact spec_DrawGroupsOf.mono _ _)
      | (with_reducible exact LeO.refl _)
      | (with_reducible exact LeO.none _)
      | (with_reducible refine LeO.ite ?_ ?_)
      | (with_reducible refine LeO.bind ?_ (fun _ => ?_))
      | exact ih0 _ _ _ _ _
      | exact ih1 _ _ _ _ _ _
      | exact ih2 _ _ _ _ _ _
      | exact ih3 _ _ _ _ _ _ _
      | exact impl_AddressesOf.mono _ _
      | exact impl_GroupsOf.mono _ _
      | exact impl_MayBeOne.mono _ _ _
      | exact impl_SurelyApart.mono _ _ _ _
      | exact laws_contains.mono _ _ _
      | exact spec_AreReplies.mono _ _
      | exact spec_DrawGroupsOf.mono _ _
      | exact LeO.none _
      | refine LeO.ite ?_ ?_
      | refine LeO.bind ?_ (fun _ => ?_)
    · intro y0 y1 y2 y3 y4 y5
      unfold laws_FnAliases.j1
      repeat' first
      | (with_reducible exact ih0 _ _ _ _ _)
      | (with_reducible exact ih1 _ _ _ _ _ _)
      | (with_reducible exact ih2 _ _ _ _ _ _)
      | (with_reducible exact ih3 _ _ _ _ _ _ _)
      | (with_reducible exact impl_AddressesOf.mono _ _)
      | (with_reducible exact impl_GroupsOf.mono _ _)
      | (with_reducible exact impl_MayBeOne.mono _ _ _)
      | (with_reducible exact impl_SurelyApart.mono _ _ _ _)
      | (with_reducible exact laws_contains.mono _ _ _)
      | (with_reducible exact spec_AreReplies.mono _ _)
      | (with_reducible exact spec_DrawGroupsOf.mono _ _)
      | (with_reducible exact LeO.refl _)
      | (with_reducible exact LeO.none _)
      | (with_reducible refine LeO.ite ?_ ?_)
      | (with_reducible refine LeO.bind ?_ (fun _ => ?_))
      | exact ih0 _ _ _ _ _
      | exact ih1 _ _ _ _ _ _
      | exact ih2 _ _ _ _ _ _
      | exact ih3 _ _ _ _ _ _ _
      | exact impl_AddressesOf.mono _ _
      | exact impl_GroupsOf.mono _ _
      | exact impl_MayBeOne.mono _ _ _
      | exact impl_SurelyApart.mono _ _ _ _
      | exact laws_contains.mono _ _ _
      | exact spec_AreReplies.mono _ _
      | exact spec_DrawGroupsOf.mono _ _
      | exact LeO.none _
      | refine LeO.ite ?_ ?_
      | refine LeO.bind ?_ (fun _ => ?_)
    · intro y0 y1 y2 y3 y4 y5
      unfold laws_FnAliases.l1
      repeat' first
      | (with_reducible exact ih0 _ _ _ _ _)
      | (with_reducible exact ih1 _ _ _ _ _ _)
      | (with_reducible exact ih2 _ _ _ _ _ _)
      | (with_reducible exact ih3 _ _ _ _ _ _ _)
      | (with_reducible exact impl_AddressesOf.mono _ _)
      | (with_reducible exact impl_GroupsOf.mono _ _)
      | (with_reducible exact impl_MayBeOne.mono _ _ _)
      | (with_reducible exact impl_SurelyApart.mono _ _ _ _)
      | (with_reducible exact laws_contains.mono _ _ _)
      | (with_reducible exact spec_AreReplies.mono _ _)
      | (with_reducible exact spec_DrawGroupsOf.mono _ _)
      | (with_reducible exact LeO.refl _)
      | (with_reducible exact LeO.none _)
      | (with_reducible refine LeO.ite ?_ ?_)
      | (with_reducible refine LeO.bind ?_ (fun _ => ?_))
      | exact ih0 _ _ _ _ _
      | exact ih1 _ _ _ _ _ _
      | exact ih2 _ _ _ _ _ _
      | exact ih3 _ _ _ _ _ _ _
      | exact impl_AddressesOf.mono _ _
      | exact impl_GroupsOf.mono _ _
      | exact impl_MayBeOne.mono _ _ _
      | exact impl_SurelyApart.mono _ _ _ _
      | exact laws_contains.mono _ _ _
      | exact spec_AreReplies.mono _ _
      | exact spec_DrawGroupsOf.mono _ _
      | exact LeO.none _
      | refine LeO.ite ?_ ?_
      | refine LeO.bind ?_ (fun _ => ?_)
    · intro y0 y1 y2 y3 y4 y5 y6
      unfold laws_FnAliases.l2
      repeat' first
      | (with_reducible exact ih0 _ _ _ _ _)
      | (with_reducible exact ih1 _ _ _ _ _ _)
      | (with_reducible exact ih2 _ _ _ _ _ _)
      | (with_reducible exact ih3 _ _ _ _ _ _ _)
      | (with_reducible exact impl_AddressesOf.mono _ _)
      | (with_reducible exact impl_GroupsOf.mono _ _)
      | (with_reducible exact impl_MayBeOne.mono _ _ _)
      | (with_reducible exact impl_SurelyApart.mono _ _ _ _)
      | (with_reducible exact laws_contains.mono _ _ _)
      | (with_reducible exact spec_AreReplies.mono _ _)
      | (with_reducible exact spec_DrawGroupsOf.mono _ _)
      | (with_reducible exact LeO.refl _)
      | (with_reducible exact LeO.none _)
      | (with_reducible refine LeO.ite ?_ ?_)
      | (with_reducible refine LeO.bind ?_ (fun _ => ?_))
      | exact ih0 _ _ _ _ _
      | exact ih1 _ _ _ _ _ _
      | exact ih2 _ _ _ _ _ _
      | exact ih3 _ _ _ _ _ _ _
      | exact impl_AddressesOf.mono _ _
      | exact impl_GroupsOf.mono _ _
      | exact impl_MayBeOne.mono _ _ _
      | exact impl_SurelyApart.mono _ _ _ _
      | exact laws_contains.mono _ _ _
      | exact spec_AreReplies.mono _ _
      | exact spec_DrawGroupsOf.mono _ _
      | exact LeO.none _
      | refine LeO.ite ?_ ?_
      | refine LeO.bind ?_ (fun _ => ?_)
theorem laws_FnAliases.mono : ∀ a0 k, LeO (laws_FnAliases.f k a0) (laws_FnAliases.f (k + 1) a0) := by
  intro a0 k
  obtain ⟨ih0, ih1, ih2, ih3⟩ := laws_FnAliases.mono_l k
  unfold laws_FnAliases.f
  repeat' first
      | (with_reducible exact ih0 _ _ _ _ _)
      | (with_reducible exact ih1 _ _ _ _ _ _)
      | (with_reducible exact ih2 _ _ _ _ _ _)
      | (with_reducible exact ih3 _ _ _ _ _ _ _)
      | (with_reducible exact impl_AddressesOf.mono _ _)
      | (with_reducible exact impl_GroupsOf.mono _ _)
      | (with_reducible exact impl_MayBeOne.mono _ _ _)
      | (with_reducible exact impl_SurelyApart.mono _ _ _ _)
      | (with_reducible exact laws_contains.mono _ _ _)
      | (with_reducible exact spec_AreReplies.mono _ _)
      | (with_reducible exact spec_DrawGroupsOf.mono _ _)
      | (with_reducible exact LeO.refl _)
      | (with_reducible exact LeO.none _)
      | (with_reducible refine LeO.ite ?_ ?_)
      | (with_reducible refine LeO.bind ?_ (fun _ => ?_))
      | exact ih0 _ _ _ _ _
      | exact ih1 _ _ _ _ _ _
      | exact ih2 _ _ _ _ _ _
      | exact ih3 _ _ _ _ _ _ _
      | exact impl_AddressesOf.mono _ _
      | exact impl_GroupsOf.mono _ _
      | exact impl_MayBeOne.mono _ _ _
      | exact impl_SurelyApart.mono _ _ _ _
      | exact laws_contains.mono _ _ _
      | exact spec_AreReplies.mono _ _
      | exact spec_DrawGroupsOf.mono _ _
      | exact LeO.none _
      | refine LeO.ite ?_ ?_
      | refine LeO.bind ?_ (fun _ => ?_)
def laws_FnAliases.T25 : Bool × List (List Nat × List Nat) := (true, [([], []), ([], []), ([], []), ([1, 2], [1, 2]), ([3], [3]), ([], []), ([4, 5], [4, 5]), ([6], [6]), ([], []), ([], []), ([8, 9], [8, 9]), ([10], [10]), ([], []), ([11, 12], [11, 12]), ([13], [13]), ([0, 7, 14], [0, 7, 14]), ([15, 15], [15]), ([16], [16]), ([16], [16]), ([17, 18, 16], [16, 17, 18]), ([19, 16], [16, 19]), ([16], [16]), ([20, 21, 16], [16, 20, 21]), ([22, 16], [16, 22]), ([16], [16]), ([16], [16]), ([24, 25, 16], [16, 24, 25]), ([26, 16], [16, 26]), ([16], [16]), ([27, 28, 16], [16, 27, 28]), ([29, 16], [16, 29]), ([23, 30, 16], [16, 23, 30]), ([16, 31], [16, 31])])
def laws_FnAliases.B25 : List Nat := [0, 0, 0, 6, 14, 0, 62, 126, 0, 0, 768, 1792, 0, 7936, 16128, 32767, 65535, 131071, 131071, 524287, 1048575, 131071, 4194303, 8388607, 131071, 131071, 50462719, 117571583, 131071, 520224767, 1057095679, 2147483647, 4294967295]
theorem laws_FnAliases.tab25 : rtab .any (opsOf Try.f4 25) = laws_FnAliases.T25 := by kernel_rfl
theorem laws_FnAliases.bits25 : waitsOk laws_FnAliases.T25.2 laws_FnAliases.B25 = true := by kernel_rfl
set_option maxHeartbeats 8000000 in
set_option maxRecDepth 100000 in
theorem laws_FnAliases.calls (k : Nat) (A0 : Option Addr) (c0 : Nat) (l0 : List Int) (r : Bool) (w : World) (hr0 : Kd.C (Kd.int .u8) w A0 l0.length l0) (hc0 : l0.length ≤ c0) (h : laws_FnAliases.f k l0 = some r) (hrt : Aside0 (r = true)) :
    Calls Try.prog 4 #[.slice A0 l0.length c0] w fun e w' => e = .returned (.bool r) ∧ Below w.heap.size w w' := by
  have HR0 := Aside0.mk hr0
  have HC0 := Aside0.mk hc0
  clear hr0 hc0
  have HB := Aside0.mk (Below.refl w.heap.size w)
  have H : ((laws_big.f l0).bind fun t229 => (if t229 = true then (some true) else ((spec_DrawGroupsOf.f k l0).bind fun t230 => ((impl_GroupsOf.f k t230).bind fun t233 => ((impl_AreReplies.f t230).bind fun t236 => ((spec_AreReplies.f k t230).bind fun t237 => (if (t236 != t237) = true then (some false) else ((impl_AreReplies.f t230).bind fun t238 => (if t238 = true then ((impl_AddressesOf.f k t230).bind fun t239 => (laws_FnAliases.l0 k t230 t233 t239 0 0)) else (some ((t233.length : Int) == 0))))))))))) = some r := h
  clear h
  replace H := Option.bind_eq_some_iff.mp H
  obtain ⟨t229, A20, H⟩ := H
  replace H : (if t229 = true then (some true) else ((spec_DrawGroupsOf.f k l0).bind fun t230 => ((impl_GroupsOf.f k t230).bind fun t233 => ((impl_AreReplies.f t230).bind fun t236 => ((spec_AreReplies.f k t230).bind fun t237 => (if (t236 != t237) = true then (some false) else ((impl_AreReplies.f t230).bind fun t238 => (if t238 = true then ((impl_AddressesOf.f k t230).bind fun t239 => (laws_FnAliases.l0 k t230 t233 t239 0 0)) else (some ((t233.length : Int) == 0)))))))))) = some r := H
  have A2 := Aside0.mk A20
  clear A20
  by_cases c3 : t229 = true
  · subst c3
    have H1 : (some true) = some r := by rw [if_pos rfl] at H; exact H
    clear H
    have H := H1
    clear H1
    obtain rfl := Option.some.inj H
    go_enter Try.func4, Try.ntmps4
    go_wp2_with (first | ((with_reducible refine gate_callee (f := 16) rfl ?_); refine goesL_ (some 11) rfl rfl Try.func16 (by kernel_rfl) rfl #[.slice A0 l0.length c0] rfl (by (try simp only [List.map_toArray, List.map_cons, List.map_nil]); first | done | rfl | (simp only [List.length_drop, List.length_take]; rfl)) ?_; (with_reducible refine (laws_big.calls _ _ l0 true _ ?side1 ?side2 A2.out).mono ?_); (case side1 => repeat (first | exact HR0.out | (with_reducible refine Kd.C_alloc ?_ _) | (with_reducible refine Kd.C_drewN ?_ _) | (with_reducible refine Kd.C_drew ?_))); (case side2 => exact HC0.out); rintro e w' ⟨rfl, ⟨nd, rfl⟩⟩; refine ⟨_, rfl, ?_⟩))
    go_ret
    exact ⟨by first | rfl | (simp [errW_none, errW_some] <;> rfl) | (simp [*, errW_none, errW_some] <;> rfl), by repeat (first | (with_reducible first | exact HB.out | apply below_alloc | apply pw_below_drewN | apply below_drew1) | exact HB.out)⟩
  · replace c3 := Bool.eq_false_iff.mpr c3
    subst c3
    have H1 : ((spec_DrawGroupsOf.f k l0).bind fun t230 => ((impl_GroupsOf.f k t230).bind fun t233 => ((impl_AreReplies.f t230).bind fun t236 => ((spec_AreReplies.f k t230).bind fun t237 => (if (t236 != t237) = true then (some false) else ((impl_AreReplies.f t230).bind fun t238 => (if t238 = true then ((impl_AddressesOf.f k t230).bind fun t239 => (laws_FnAliases.l0 k t230 t233 t239 0 0)) else (some ((t233.length : Int) == 0))))))))) = some r := by rw [if_neg (show ¬ (false = true) by decide)] at H; exact H
    clear H
    have H := H1
    clear H1
    replace H := Option.bind_eq_some_iff.mp H
    obtain ⟨t230, A40, H⟩ := H
    replace H : ((impl_GroupsOf.f k t230).bind fun t233 => ((impl_AreReplies.f t230).bind fun t236 => ((spec_AreReplies.f k t230).bind fun t237 => (if (t236 != t237) = true then (some false) else ((impl_AreReplies.f t230).bind fun t238 => (if t238 = true then ((impl_AddressesOf.f k t230).bind fun t239 => (laws_FnAliases.l0 k t230 t233 t239 0 0)) else (some ((t233.length : Int) == 0)))))))) = some r := H
    have A4 := Aside0.mk A40
    clear A40
    replace H := Option.bind_eq_some_iff.mp H
    obtain ⟨t233, A50, H⟩ := H
    replace H : ((impl_AreReplies.f t230).bind fun t236 => ((spec_AreReplies.f k t230).bind fun t237 => (if (t236 != t237) = true then (some false) else ((impl_AreReplies.f t230).bind fun t238 => (if t238 = true then ((impl_AddressesOf.f k t230).bind fun t239 => (laws_FnAliases.l0 k t230 t233 t239 0 0)) else (some ((t233.length : Int) == 0))))))) = some r := H
    have A5 := Aside0.mk A50
    clear A50
    replace H := Option.bind_eq_some_iff.mp H
    obtain ⟨t236, A60, H⟩ := H
    replace H : ((spec_AreReplies.f k t230).bind fun t237 => (if (t236 != t237) = true then (some false) else ((impl_AreReplies.f t230).bind fun t238 => (if t238 = true then ((impl_AddressesOf.f k t230).bind fun t239 => (laws_FnAliases.l0 k t230 t233 t239 0 0)) else (some ((t233.length : Int) == 0)))))) = some r := H
    have A6 := Aside0.mk A60
    clear A60
    replace H := Option.bind_eq_some_iff.mp H
    obtain ⟨t237, A70, H⟩ := H
    replace H : (if (t236 != t237) = true then (some false) else ((impl_AreReplies.f t230).bind fun t238 => (if t238 = true then ((impl_AddressesOf.f k t230).bind fun t239 => (laws_FnAliases.l0 k t230 t233 t239 0 0)) else (some ((t233.length : Int) == 0))))) = some r := H
    have A7 := Aside0.mk A70
    clear A70
    by_cases c8 : (t236 != t237) = true
    · rw [if_pos c8] at H
      have c8b0 : (t236 != t237) = true := c8
      (try (have c8b1 : decide (t236 = t237) = false := by simpa using c8))
      (try (have c8b2 : (t236 == t237) = false := by simpa using c8))
      (try (have c8b3 : ¬ (t236 = t237) := by simpa using c8))
      clear c8
      exact absurd ((Option.some.inj H).trans hrt.out) (by decide)
    · rw [if_neg c8] at H
      have c8b0 : (t236 != t237) = false := by simpa using c8
      (try (have c8b1 : decide (t236 = t237) = true := by simpa using c8))
      (try (have c8b2 : (t236 == t237) = true := by simpa using c8))
      clear c8
      replace H := Option.bind_eq_some_iff.mp H
      obtain ⟨t238, A90, H⟩ := H
      replace H : (if t238 = true then ((impl_AddressesOf.f k t230).bind fun t239 => (laws_FnAliases.l0 k t230 t233 t239 0 0)) else (some ((t233.length : Int) == 0))) = some r := H
      have A9 := Aside0.mk A90
      clear A90
      by_cases c10 : t238 = true
      · subst c10
        have H1 : ((impl_AddressesOf.f k t230).bind fun t239 => (laws_FnAliases.l0 k t230 t233 t239 0 0)) = some r := by rw [if_pos rfl] at H; exact H
        clear H
        have H := H1
        clear H1
        replace H := Option.bind_eq_some_iff.mp H
        obtain ⟨t239, A110, H⟩ := H
        replace H : (laws_FnAliases.l0 k t230 t233 t239 0 0) = some r := H
        have A11 := Aside0.mk A110
        clear A110
        have H' := Aside0.mk H
        clear H
        go_enter Try.func4, Try.ntmps4
        go_wp2_with (first | ((with_reducible refine gate_callee (f := 16) rfl ?_); refine goesL_ (some 11) rfl rfl Try.func16 (by kernel_rfl) rfl #[.slice A0 l0.length c0] rfl (by (try simp only [List.map_toArray, List.map_cons, List.map_nil]); first | done | rfl | (simp only [List.length_drop, List.length_take]; rfl)) ?_; (with_reducible refine (laws_big.calls _ _ l0 false _ ?side1 ?side2 A2.out).mono ?_); (case side1 => repeat (first | exact HR0.out | (with_reducible refine Kd.C_alloc ?_ _) | (with_reducible refine Kd.C_drewN ?_ _) | (with_reducible refine Kd.C_drew ?_))); (case side2 => exact HC0.out); rintro e w' ⟨rfl, ⟨nd, rfl⟩⟩; refine ⟨_, rfl, ?_⟩) | ((with_reducible refine gate_callee (f := 17) rfl ?_); refine goesL_ (some 13) rfl rfl Try.func17 (by kernel_rfl) rfl #[.slice A0 l0.length c0] rfl (by (try simp only [List.map_toArray, List.map_cons, List.map_nil]); first | done | rfl | (simp only [List.length_drop, List.length_take]; rfl)) ?_; (with_reducible refine (spec_DrawGroupsOf.calls k _ _ l0 t230 _ ?side1 ?side2 A4.out).mono ?_); (case side1 => repeat (first | exact HR0.out | (with_reducible refine Kd.C_alloc ?_ _) | (with_reducible refine Kd.C_drewN ?_ _) | (with_reducible refine Kd.C_drew ?_))); (case side2 => exact HC0.out); rintro e w12 ⟨v231, rfl, ho0, hb⟩; refine ⟨_, rfl, ?_⟩; have n0_ := Aside0.mk (Kd.R_lower ho0 (below_size (by repeat (first | (with_reducible first | exact HB.out | apply below_alloc | apply pw_below_drewN | apply below_drew1) | exact HB.out)))); have n1_ := Aside0.mk (below_step (by repeat (first | (with_reducible first | exact HB.out | apply below_alloc | apply pw_below_drewN | apply below_drew1) | exact HB.out)) hb); clear HB; have HO232 := n0_; have HB := n1_; clear n0_ n1_; (try clear hb); (try clear hb2); (try clear hk); (try clear hi); (try clear ho0); obtain ⟨Ao13, co13, eo13⟩ := Kd.R_slice HO232.out; subst eo13) | ((with_reducible refine gate_callee (f := 10) rfl ?_); refine goesL_ (some 15) rfl rfl Try.func10 (by kernel_rfl) rfl #[.slice Ao13 t230.length co13] rfl (by (try simp only [List.map_toArray, List.map_cons, List.map_nil]); first | done | rfl | (simp only [List.length_drop, List.length_take]; rfl)) ?_; (with_reducible refine (impl_GroupsOf.calls k _ _ t230 t233 _ ?side1 ?side2 A5.out).mono ?_); (case side1 => repeat (first | exact (Kd.R_reads' HO232.out).2.2 | (with_reducible refine Kd.C_alloc ?_ _) | (with_reducible refine Kd.C_drewN ?_ _) | (with_reducible refine Kd.C_drew ?_))); (case side2 => exact (Kd.R_reads' HO232.out).2.1); rintro e w14 ⟨v234, rfl, ho0, hb⟩; refine ⟨_, rfl, ?_⟩; have n0_ := Aside0.mk (Kd.R_below (by (with_reducible repeat (first | apply Kd.R_alloc | apply Kd.R_drewN | apply Kd.R_drew)); exact HO232.out) hb); have n1_ := Aside0.mk (Kd.S_lower ho0 (below_size (by repeat (first | (with_reducible first | exact HB.out | apply below_alloc | apply pw_below_drewN | apply below_drew1) | exact HB.out)))); have n2_ := Aside0.mk (below_step (by repeat (first | (with_reducible first | exact HB.out | apply below_alloc | apply pw_below_drewN | apply below_drew1) | exact HB.out)) hb); clear HO232; clear HB; have HO232 := n0_; have HO235 := n1_; have HB := n2_; clear n0_ n1_ n2_; (try clear hb); (try clear hb2); (try clear hk); (try clear hi); (try clear ho0)) | ((with_reducible refine gate_callee (f := 18) rfl ?_); refine goesL_ (some 17) rfl rfl Try.func18 (by kernel_rfl) rfl #[.slice Ao13 t230.length co13] rfl (by (try simp only [List.map_toArray, List.map_cons, List.map_nil]); first | done | rfl | (simp only [List.length_drop, List.length_take]; rfl)) ?_; (with_reducible refine (impl_AreReplies.calls _ _ t230 t236 _ ?side1 ?side2 A6.out).mono ?_); (case side1 => repeat (first | exact (Kd.R_reads' HO232.out).2.2 | (with_reducible refine Kd.C_alloc ?_ _) | (with_reducible refine Kd.C_drewN ?_ _) | (with_reducible refine Kd.C_drew ?_))); (case side2 => exact (Kd.R_reads' HO232.out).2.1); rintro e w15 ⟨rfl, hb⟩; refine ⟨_, rfl, ?_⟩; have n0_ := Aside0.mk (Kd.R_below (by (with_reducible repeat (first | apply Kd.R_alloc | apply Kd.R_drewN | apply Kd.R_drew)); exact HO232.out) hb); have n1_ := Aside0.mk (Kd.S_below (by (with_reducible repeat (first | apply Kd.S_alloc | apply Kd.S_drewN | apply Kd.S_drew)); exact HO235.out) hb); have n2_ := Aside0.mk (below_step (by repeat (first | (with_reducible first | exact HB.out | apply below_alloc | apply pw_below_drewN | apply below_drew1) | exact HB.out)) hb); clear HO232; clear HO235; clear HB; have HO232 := n0_; have HO235 := n1_; have HB := n2_; clear n0_ n1_ n2_; (try clear hb); (try clear hb2); (try clear hk); (try clear hi)) | ((with_reducible refine gate_callee (f := 19) rfl ?_); refine goesL_ (some 19) rfl rfl Try.func19 (by kernel_rfl) rfl #[.slice Ao13 t230.length co13] rfl (by (try simp only [List.map_toArray, List.map_cons, List.map_nil]); first | done | rfl | (simp only [List.length_drop, List.length_take]; rfl)) ?_; (with_reducible refine (spec_AreReplies.calls k _ _ t230 t237 _ ?side1 ?side2 A7.out).mono ?_); (case side1 => repeat (first | exact (Kd.R_reads' HO232.out).2.2 | (with_reducible refine Kd.C_alloc ?_ _) | (with_reducible refine Kd.C_drewN ?_ _) | (with_reducible refine Kd.C_drew ?_))); (case side2 => exact (Kd.R_reads' HO232.out).2.1); rintro e w' ⟨rfl, ⟨nd, rfl⟩⟩; refine ⟨_, rfl, ?_⟩) | ((with_reducible refine gate_callee (f := 18) rfl ?_); refine goesL_ (some 22) rfl rfl Try.func18 (by kernel_rfl) rfl #[.slice Ao13 t230.length co13] rfl (by (try simp only [List.map_toArray, List.map_cons, List.map_nil]); first | done | rfl | (simp only [List.length_drop, List.length_take]; rfl)) ?_; (with_reducible refine (impl_AreReplies.calls _ _ t230 true _ ?side1 ?side2 A9.out).mono ?_); (case side1 => repeat (first | exact (Kd.R_reads' HO232.out).2.2 | (with_reducible refine Kd.C_alloc ?_ _) | (with_reducible refine Kd.C_drewN ?_ _) | (with_reducible refine Kd.C_drew ?_))); (case side2 => exact (Kd.R_reads' HO232.out).2.1); rintro e w16 ⟨rfl, hb⟩; refine ⟨_, rfl, ?_⟩; have n0_ := Aside0.mk (Kd.R_below (by (with_reducible repeat (first | apply Kd.R_alloc | apply Kd.R_drewN | apply Kd.R_drew)); exact HO232.out) hb); have n1_ := Aside0.mk (Kd.S_below (by (with_reducible repeat (first | apply Kd.S_alloc | apply Kd.S_drewN | apply Kd.S_drew)); exact HO235.out) hb); have n2_ := Aside0.mk (below_step (by repeat (first | (with_reducible first | exact HB.out | apply below_alloc | apply pw_below_drewN | apply below_drew1) | exact HB.out)) hb); clear HO232; clear HO235; clear HB; have HO232 := n0_; have HO235 := n1_; have HB := n2_; clear n0_ n1_ n2_; (try clear hb); (try clear hb2); (try clear hk); (try clear hi)) | ((with_reducible refine gate_callee (f := 20) rfl ?_); refine goesL_ (some 28) rfl rfl Try.func20 (by kernel_rfl) rfl #[.slice Ao13 t230.length co13] rfl (by (try simp only [List.map_toArray, List.map_cons, List.map_nil]); first | done | rfl | (simp only [List.length_drop, List.length_take]; rfl)) ?_; (with_reducible refine (impl_AddressesOf.calls k _ _ t230 t239 _ ?side1 ?side2 A11.out).mono ?_); (case side1 => repeat (first | exact (Kd.R_reads' HO232.out).2.2 | (with_reducible refine Kd.C_alloc ?_ _) | (with_reducible refine Kd.C_drewN ?_ _) | (with_reducible refine Kd.C_drew ?_))); (case side2 => exact (Kd.R_reads' HO232.out).2.1); rintro e w17 ⟨v240, rfl, ho0, hb⟩; refine ⟨_, rfl, ?_⟩; have n0_ := Aside0.mk (Kd.R_below (by (with_reducible repeat (first | apply Kd.R_alloc | apply Kd.R_drewN | apply Kd.R_drew)); exact HO232.out) hb); have n1_ := Aside0.mk (Kd.S_elder' (by (with_reducible repeat (first | apply Kd.S_alloc | apply Kd.S_drewN | apply Kd.S_drew)); exact HO235.out) (Kd.R_base ho0) hb); have n2_ := Aside0.mk (Kd.R_lower ho0 (below_size (by repeat (first | (with_reducible first | exact HB.out | apply below_alloc | apply pw_below_drewN | apply below_drew1) | exact HB.out)))); have n3_ := Aside0.mk (below_step (by repeat (first | (with_reducible first | exact HB.out | apply below_alloc | apply pw_below_drewN | apply below_drew1) | exact HB.out)) hb); clear HO232; clear HO235; clear HB; have HO232 := n0_; have HO235 := n1_; have HO241 := n2_; have HB := n3_; clear n0_ n1_ n2_ n3_; (try clear hb); (try clear hb2); (try clear hk); (try clear hi); (try clear ho0)))
        go_loopg [6, 7] k (fun kq v6 v7 w' => ∃ (x6_1 : Int) (x7_1 : Int), v6 = .int .i64 x6_1 ∧ v7 = .int .i64 x7_1 ∧ Aside0 (laws_FnAliases.l0 kq t230 t233 t239 x6_1 x7_1 = some r) ∧ Aside0 (kq ≤ k) ∧ Aside0 (Kd.R k68 68 w' w.heap.size (fun _ => True) (.slice Ao13 t230.length co13) t230) ∧ Aside0 (Kd.S (Kd.slice 3 (Kd.int .i64)) 37 w' w.heap.size (fun k_ => some k_ ≠ (v240 : Value).ownBlock) v234 t233) ∧ Aside0 (Kd.R (Kd.int .i64) 3 w' w.heap.size (fun _ => True) v240 t239) ∧ Aside0 (Below w.heap.size w w'))
        case atStart => exact ⟨(0), (0), (by first | rfl | (simp; done) | (simp [*]; done)), (by first | rfl | (simp; done) | (simp [*]; done)), H', ⟨Nat.le_refl _⟩, ⟨by (with_reducible repeat (first | apply Kd.R_alloc | apply Kd.R_drewN | apply Kd.R_drew)); exact HO232.out⟩, ⟨by (with_reducible repeat (first | apply Kd.S_alloc | apply Kd.S_drewN | apply Kd.S_drew)); exact Kd.S_mono HO235.out (fun _ hk => hk.2)⟩, ⟨by (with_reducible repeat (first | apply Kd.R_alloc | apply Kd.R_drewN | apply Kd.R_drew)); exact HO241.out⟩, ⟨by repeat (first | (with_reducible first | exact HB.out | apply below_alloc | apply pw_below_drewN | apply below_drew1) | exact HB.out)⟩⟩
        case round =>
          clear H'
          try clear c1
          try clear c2
          try clear p2
          try clear c3
          try clear c4
          try clear c8
          try clear c8b0
          try clear c8b1
          try clear c8b2
          try clear c10
          try clear c16
          try clear c17
          obtain ⟨x6_1, x7_1, rfl, rfl, HA, HK1, HO_3, HO_4, HO_5, HB⟩ := hrel
          cases gk with
          | zero => exact absurd HA.out (by simp [laws_FnAliases.l0])
          | succ k1 =>
            have H := HA.out
            clear HA
            simp only [laws_FnAliases.l0] at H
            by_cases c18 : x7_1 < (t233.length : Int)
            · rw [if_pos c18] at H
              have c18b0 : decide (x7_1 < (t233.length : Int)) = true := decide_eq_true c18
              clear c18
              by_cases c19 : 0 ≤ x7_1
              · rw [if_pos c19] at H
                have c19b0 : decide (0 ≤ x7_1) = true := decide_eq_true c19
                clear c19
                have HC20 := Aside0.mk H
                clear H
                obtain ⟨Ao21, co21, eo21⟩ := Kd.S_slice HO_4.out
                subst eo21
                have p242 : 0 ≤ (x7_1 : Int) := of_decide_eq_true (by first | (with_reducible assumption) | assumption)
                have q242 : x7_1 < (t233.length : Int) := of_decide_eq_true (by first | (with_reducible assumption) | assumption)
                obtain ⟨ad242, A242_0, c242_0, e242, hx242_0, hl242_0, hi242_0⟩ := at_L4 (Kd.S_reads' HO_4.out).2.2 x7_1 p242 q242
                cases e242
                obtain ⟨ce242, hce242, hMe242, hcc242⟩ := Kd.S_get HO_4.out [] x7_1 p242 (by first | exact q242 | exact of_decide_eq_true (by first | (with_reducible assumption) | assumption) | (have e_ := (Kd.S_reads' HO_4.out).1; omega))
                obtain ⟨ve242_0, rfl, ge242_0⟩ := hMe242
                have hv242_0 := hcc242 0 _ rfl
                rw [Nat.add_zero, show ((Kd.slice 3 (Kd.int .i64))).sz = 1 from rfl, Nat.mul_one] at hv242_0
                replace hv242_0 := Option.some.inj (hv242_0.symm.trans hx242_0)
                rw [hv242_0] at ge242_0
                have HL242_0 := Aside0.mk (show Kd.R (Kd.int .i64) 3 _ _ _ _ (rd_L4 t233 x7_1) from ge242_0)
                clear hv242_0 ge242_0
                clear hcc242 hce242
                have HR242_0 := Aside0.mk hi242_0
                have HC242_0 := Aside0.mk hl242_0
                clear hi242_0 hl242_0
                replace p242 := eq_true p242
                replace q242 := eq_true q242
                go_upto_region 15 with (fail)
                go_cut [64] (fun v64 wc => ∃ (kq : Nat) (x64_19 : Bool), v64 = .bool x64_19 ∧ Aside0 (laws_FnAliases.j1 kq t230 t233 t239 (wrap64 (x6_1 + ((rd_L4 t233 x7_1).length : Int))) x7_1 x64_19 = some r) ∧ Aside0 (kq ≤ k1) ∧ Aside0 (Kd.R k68 68 wc w.heap.size (fun _ => True) (.slice Ao13 t230.length co13) t230) ∧ Aside0 (Kd.S (Kd.slice 3 (Kd.int .i64)) 37 wc w.heap.size (fun k_ => some k_ ≠ (v240 : Value).ownBlock) (.slice (some ad242) t233.length co21) t233) ∧ Aside0 (Kd.R (Kd.int .i64) 3 wc w.heap.size (fun _ => True) v240 t239) ∧ Aside0 (Kd.C (Kd.int .i64) wc A242_0 (rd_L4 t233 x7_1).length (rd_L4 t233 x7_1)) ∧ Aside0 (Below w.heap.size w wc))
                case first =>
                  have H := HC20.out
                  clear HC20
                  by_cases c22 : ((rd_L4 t233 x7_1).length : Int) = 0
                  · rw [if_pos c22] at H
                    have c22b0 : (((rd_L4 t233 x7_1).length : Int) == 0) = true := beq_iff_eq.mpr c22
                    have c22b1 : (((rd_L4 t233 x7_1).length : Int) != 0) = false := bne_eq_false_iff_eq.mpr c22
                    clear c22
                    (first | rw [c22b0] | (simp only [i64_w, i32_w]; rw [c22b0]) | skip)
                    have H' := Aside0.mk H
                    clear H
                    have p243 : 0 ≤ (x7_1 : Int) := of_decide_eq_true (by first | (with_reducible assumption) | assumption)
                    have q243 : x7_1 < (t233.length : Int) := of_decide_eq_true (by first | (with_reducible assumption) | assumption)
                    obtain ⟨ad243, A243_0, c243_0, e243, hx243_0, hl243_0, hi243_0⟩ := at_L4 (Kd.S_reads' HO_4.out).2.2 x7_1 p243 q243
                    obtain rfl : ad242 = ad243 := (by injection e243)
                    obtain ⟨ce243, hce243, hMe243, hcc243⟩ := Kd.S_get HO_4.out [] x7_1 p243 (by first | exact q243 | exact of_decide_eq_true (by first | (with_reducible assumption) | assumption) | (have e_ := (Kd.S_reads' HO_4.out).1; omega))
                    obtain ⟨ve243_0, rfl, ge243_0⟩ := hMe243
                    have hv243_0 := hcc243 0 _ rfl
                    rw [Nat.add_zero, show ((Kd.slice 3 (Kd.int .i64))).sz = 1 from rfl, Nat.mul_one] at hv243_0
                    replace hv243_0 := Option.some.inj (hv243_0.symm.trans hx243_0)
                    rw [hv243_0] at ge243_0
                    have HL243_0 := Aside0.mk (show Kd.R (Kd.int .i64) 3 _ _ _ _ (rd_L4 t233 x7_1) from ge243_0)
                    clear hv243_0 ge243_0
                    clear hcc243 hce243
                    have HR243_0 := Aside0.mk hi243_0
                    have HC243_0 := Aside0.mk hl243_0
                    clear hi243_0 hl243_0
                    replace p243 := eq_true p243
                    replace q243 := eq_true q243
                    go_wp2
                    go_meet
                    case rel => exact ⟨_, (true), (by first | rfl | (simp; done) | (simp [*]; done)), H', ⟨by have := HK1.out; first | omega | exact Nat.le_refl _⟩, ⟨by (with_reducible repeat (first | apply Kd.R_alloc | apply Kd.R_drewN | apply Kd.R_drew)); exact HO_3.out⟩, ⟨by (with_reducible repeat (first | apply Kd.S_alloc | apply Kd.S_drewN | apply Kd.S_drew)); exact HO_4.out⟩, ⟨by (with_reducible repeat (first | apply Kd.R_alloc | apply Kd.R_drewN | apply Kd.R_drew)); exact HO_5.out⟩, ⟨by repeat (first | (with_reducible exact HR242_0.out) | (with_reducible refine Kd.C_alloc ?_ _) | (with_reducible refine Kd.C_drewN ?_ _) | (with_reducible refine Kd.C_drew ?_) | exact HR242_0.out)⟩, ⟨by repeat (first | (with_reducible first | exact HB.out | apply below_alloc | apply pw_below_drewN | apply below_drew1) | exact HB.out)⟩⟩
                  · rw [if_neg c22] at H
                    have c22b0 : (((rd_L4 t233 x7_1).length : Int) == 0) = false := beq_eq_false_iff_ne.mpr c22
                    have c22b1 : (((rd_L4 t233 x7_1).length : Int) != 0) = true := bne_iff_ne.mpr c22
                    have c22b2 : ¬ ((rd_L4 t233 x7_1) = []) := fun h_ => c22 (by rw [h_]; rfl)
                    (first | rw [c22b0] | (simp only [i64_w, i32_w]; rw [c22b0]) | skip)
                    by_cases c23 : ((rd_L4 t233 x7_1).length : Int) > 1
                    · rw [if_pos c23] at H
                      have c23b0 : decide (1 < ((rd_L4 t233 x7_1).length : Int)) = true := decide_eq_true c23
                      have c23b1 : decide (1 < (rd_L4 t233 x7_1).length) = true := decide_eq_true (by omega)
                      clear c23
                      replace H := Option.bind_eq_some_iff.mp H
                      obtain ⟨t246, A240, H⟩ := H
                      replace H : (laws_FnAliases.j1 k1 t230 t233 t239 (wrap64 (x6_1 + ((rd_L4 t233 x7_1).length : Int))) x7_1 (!t246)) = some r := H
                      have A24 := Aside0.mk A240
                      clear A240
                      have H' := Aside0.mk H
                      clear H
                      have p243 : 0 ≤ (x7_1 : Int) := of_decide_eq_true (by first | (with_reducible assumption) | assumption)
                      have q243 : x7_1 < (t233.length : Int) := of_decide_eq_true (by first | (with_reducible assumption) | assumption)
                      obtain ⟨ad243, A243_0, c243_0, e243, hx243_0, hl243_0, hi243_0⟩ := at_L4 (Kd.S_reads' HO_4.out).2.2 x7_1 p243 q243
                      obtain rfl : ad242 = ad243 := (by injection e243)
                      obtain ⟨ce243, hce243, hMe243, hcc243⟩ := Kd.S_get HO_4.out [] x7_1 p243 (by first | exact q243 | exact of_decide_eq_true (by first | (with_reducible assumption) | assumption) | (have e_ := (Kd.S_reads' HO_4.out).1; omega))
                      obtain ⟨ve243_0, rfl, ge243_0⟩ := hMe243
                      have hv243_0 := hcc243 0 _ rfl
                      rw [Nat.add_zero, show ((Kd.slice 3 (Kd.int .i64))).sz = 1 from rfl, Nat.mul_one] at hv243_0
                      replace hv243_0 := Option.some.inj (hv243_0.symm.trans hx243_0)
                      rw [hv243_0] at ge243_0
                      have HL243_0 := Aside0.mk (show Kd.R (Kd.int .i64) 3 _ _ _ _ (rd_L4 t233 x7_1) from ge243_0)
                      clear hv243_0 ge243_0
                      clear hcc243 hce243
                      have HR243_0 := Aside0.mk hi243_0
                      have HC243_0 := Aside0.mk hl243_0
                      clear hi243_0 hl243_0
                      replace p243 := eq_true p243
                      replace q243 := eq_true q243
                      have p244 : 0 ≤ (x7_1 : Int) := of_decide_eq_true (by first | (with_reducible assumption) | assumption)
                      have q244 : x7_1 < (t233.length : Int) := of_decide_eq_true (by first | (with_reducible assumption) | assumption)
                      obtain ⟨ad244, A244_0, c244_0, e244, hx244_0, hl244_0, hi244_0⟩ := at_L4 (Kd.S_reads' HO_4.out).2.2 x7_1 p244 q244
                      obtain rfl : ad242 = ad244 := (by injection e244)
                      obtain ⟨ce244, hce244, hMe244, hcc244⟩ := Kd.S_get HO_4.out [] x7_1 p244 (by first | exact q244 | exact of_decide_eq_true (by first | (with_reducible assumption) | assumption) | (have e_ := (Kd.S_reads' HO_4.out).1; omega))
                      obtain ⟨ve244_0, rfl, ge244_0⟩ := hMe244
                      have hv244_0 := hcc244 0 _ rfl
                      rw [Nat.add_zero, show ((Kd.slice 3 (Kd.int .i64))).sz = 1 from rfl, Nat.mul_one] at hv244_0
                      replace hv244_0 := Option.some.inj (hv244_0.symm.trans hx244_0)
                      rw [hv244_0] at ge244_0
                      have HL244_0 := Aside0.mk (show Kd.R (Kd.int .i64) 3 _ _ _ _ (rd_L4 t233 x7_1) from ge244_0)
                      clear hv244_0 ge244_0
                      clear hcc244 hce244
                      have HR244_0 := Aside0.mk hi244_0
                      have HC244_0 := Aside0.mk hl244_0
                      clear hi244_0 hl244_0
                      replace p244 := eq_true p244
                      replace q244 := eq_true q244
                      have ea_ := Option.some.inj (hx243_0.symm.trans hx244_0)
                      injection ea_ with ea_ en_ ec_
                      subst ea_
                      subst ec_
                      clear en_
                      have p245 : 0 ≤ (x7_1 : Int) := of_decide_eq_true (by first | (with_reducible assumption) | assumption)
                      have q245 : x7_1 < (t233.length : Int) := of_decide_eq_true (by first | (with_reducible assumption) | assumption)
                      obtain ⟨ad245, A245_0, c245_0, e245, hx245_0, hl245_0, hi245_0⟩ := at_L4 (Kd.S_reads' HO_4.out).2.2 x7_1 p245 q245
                      obtain rfl : ad242 = ad245 := (by injection e245)
                      obtain ⟨ce245, hce245, hMe245, hcc245⟩ := Kd.S_get HO_4.out [] x7_1 p245 (by first | exact q245 | exact of_decide_eq_true (by first | (with_reducible assumption) | assumption) | (have e_ := (Kd.S_reads' HO_4.out).1; omega))
                      obtain ⟨ve245_0, rfl, ge245_0⟩ := hMe245
                      have hv245_0 := hcc245 0 _ rfl
                      rw [Nat.add_zero, show ((Kd.slice 3 (Kd.int .i64))).sz = 1 from rfl, Nat.mul_one] at hv245_0
                      replace hv245_0 := Option.some.inj (hv245_0.symm.trans hx245_0)
                      rw [hv245_0] at ge245_0
                      have HL245_0 := Aside0.mk (show Kd.R (Kd.int .i64) 3 _ _ _ _ (rd_L4 t233 x7_1) from ge245_0)
                      clear hv245_0 ge245_0
                      clear hcc245 hce245
                      have HR245_0 := Aside0.mk hi245_0
                      have HC245_0 := Aside0.mk hl245_0
                      clear hi245_0 hl245_0
                      replace p245 := eq_true p245
                      replace q245 := eq_true q245
                      have ea_ := Option.some.inj (hx243_0.symm.trans hx245_0)
                      injection ea_ with ea_ en_ ec_
                      subst ea_
                      subst ec_
                      clear en_
                      go_wp2_with (first | (go_at_call 21; (with_reducible refine (impl_MayBeOne.calls k1 _ _ t230 _ _ (rd_L4 t233 x7_1) t246 _ ?side1 ?side2 ?side3 ?side4 A24.out).mono ?_); (case side1 => repeat (first | exact (Kd.R_reads' HO_3.out).2.2 | (with_reducible refine Kd.C_alloc ?_ _) | (with_reducible refine Kd.C_drewN ?_ _) | (with_reducible refine Kd.C_drew ?_))); (case side2 => exact (Kd.R_reads' HO_3.out).2.1); (case side3 => first | exact HR242_0.out | repeat (first | exact (by repeat (first | (with_reducible exact HR245_0.out) | (with_reducible refine Kd.C_alloc ?_ _) | (with_reducible refine Kd.C_drewN ?_ _) | (with_reducible refine Kd.C_drew ?_) | exact HR245_0.out)) | (with_reducible refine Kd.C_alloc ?_ _) | (with_reducible refine Kd.C_drewN ?_ _) | (with_reducible refine Kd.C_drew ?_))); (case side4 => first | exact HC245_0.out | exact HC242_0.out); rintro e w25 ⟨rfl, hb⟩; have n0_ := Aside0.mk (Kd.R_below (by (with_reducible repeat (first | apply Kd.R_alloc | apply Kd.R_drewN | apply Kd.R_drew)); exact HO_3.out) hb); have n1_ := Aside0.mk (Kd.S_below (by (with_reducible repeat (first | apply Kd.S_alloc | apply Kd.S_drewN | apply Kd.S_drew)); exact HO_4.out) hb); have n2_ := Aside0.mk (Kd.R_below (by (with_reducible repeat (first | apply Kd.R_alloc | apply Kd.R_drewN | apply Kd.R_drew)); exact HO_5.out) hb); have n3_ := Aside0.mk (Kd.R_below (by (with_reducible repeat (first | apply Kd.R_alloc | apply Kd.R_drewN | apply Kd.R_drew)); exact HL242_0.out) hb); have n4_ := Aside0.mk (Kd.R_below (by (with_reducible repeat (first | apply Kd.R_alloc | apply Kd.R_drewN | apply Kd.R_drew)); exact HL243_0.out) hb); have n5_ := Aside0.mk (Kd.R_below (by (with_reducible repeat (first | apply Kd.R_alloc | apply Kd.R_drewN | apply Kd.R_drew)); exact HL244_0.out) hb); have n6_ := Aside0.mk (Kd.R_below (by (with_reducible repeat (first | apply Kd.R_alloc | apply Kd.R_drewN | apply Kd.R_drew)); exact HL245_0.out) hb); have n7_ := Aside0.mk (Kd.C_below (by repeat (first | (with_reducible exact HR242_0.out) | (with_reducible refine Kd.C_alloc ?_ _) | (with_reducible refine Kd.C_drewN ?_ _) | (with_reducible refine Kd.C_drew ?_) | exact HR242_0.out)) hb); have n8_ := Aside0.mk (Kd.C_below (by repeat (first | (with_reducible exact HR243_0.out) | (with_reducible refine Kd.C_alloc ?_ _) | (with_reducible refine Kd.C_drewN ?_ _) | (with_reducible refine Kd.C_drew ?_) | exact HR243_0.out)) hb); have n9_ := Aside0.mk (Kd.C_below (by repeat (first | (with_reducible exact HR244_0.out) | (with_reducible refine Kd.C_alloc ?_ _) | (with_reducible refine Kd.C_drewN ?_ _) | (with_reducible refine Kd.C_drew ?_) | exact HR244_0.out)) hb); have n10_ := Aside0.mk (Kd.C_below (by repeat (first | (with_reducible exact HR245_0.out) | (with_reducible refine Kd.C_alloc ?_ _) | (with_reducible refine Kd.C_drewN ?_ _) | (with_reducible refine Kd.C_drew ?_) | exact HR245_0.out)) hb); have n11_ := Aside0.mk (below_step (by repeat (first | (with_reducible first | exact HB.out | apply below_alloc | apply pw_below_drewN | apply below_drew1) | exact HB.out)) hb); clear HO_3; clear HO_4; clear HO_5; clear HL242_0; clear HL243_0; clear HL244_0; clear HL245_0; clear HR242_0; clear HR243_0; clear HR244_0; clear HR245_0; clear HB; have HO_3 := n0_; have HO_4 := n1_; have HO_5 := n2_; have HL242_0 := n3_; have HL243_0 := n4_; have HL244_0 := n5_; have HL245_0 := n6_; have HR242_0 := n7_; have HR243_0 := n8_; have HR244_0 := n9_; have HR245_0 := n10_; have HB := n11_; clear n0_ n1_ n2_ n3_ n4_ n5_ n6_ n7_ n8_ n9_ n10_ n11_; (try clear hb); (try clear hb2); (try clear hk); (try clear hi)))
                      go_meet
                      case rel => exact ⟨_, (!t246), (by first | rfl | (simp; done) | (simp [*]; done)), H', ⟨by have := HK1.out; first | omega | exact Nat.le_refl _⟩, ⟨by (with_reducible repeat (first | apply Kd.R_alloc | apply Kd.R_drewN | apply Kd.R_drew)); exact HO_3.out⟩, ⟨by (with_reducible repeat (first | apply Kd.S_alloc | apply Kd.S_drewN | apply Kd.S_drew)); exact HO_4.out⟩, ⟨by (with_reducible repeat (first | apply Kd.R_alloc | apply Kd.R_drewN | apply Kd.R_drew)); exact HO_5.out⟩, ⟨by repeat (first | (with_reducible exact HR242_0.out) | (with_reducible refine Kd.C_alloc ?_ _) | (with_reducible refine Kd.C_drewN ?_ _) | (with_reducible refine Kd.C_drew ?_) | exact HR242_0.out)⟩, ⟨by repeat (first | (with_reducible first | exact HB.out | apply below_alloc | apply pw_below_drewN | apply below_drew1) | exact HB.out)⟩⟩
                    · rw [if_neg c23] at H
                      have c23b0 : decide (1 < ((rd_L4 t233 x7_1).length : Int)) = false := decide_eq_false c23
                      have c23b1 : decide (1 < (rd_L4 t233 x7_1).length) = false := decide_eq_false (by omega)
                      clear c23
                      have H' := Aside0.mk H
                      clear H
                      have p243 : 0 ≤ (x7_1 : Int) := of_decide_eq_true (by first | (with_reducible assumption) | assumption)
                      have q243 : x7_1 < (t233.length : Int) := of_decide_eq_true (by first | (with_reducible assumption) | assumption)
                      obtain ⟨ad243, A243_0, c243_0, e243, hx243_0, hl243_0, hi243_0⟩ := at_L4 (Kd.S_reads' HO_4.out).2.2 x7_1 p243 q243
                      obtain rfl : ad242 = ad243 := (by injection e243)
                      obtain ⟨ce243, hce243, hMe243, hcc243⟩ := Kd.S_get HO_4.out [] x7_1 p243 (by first | exact q243 | exact of_decide_eq_true (by first | (with_reducible assumption) | assumption) | (have e_ := (Kd.S_reads' HO_4.out).1; omega))
                      obtain ⟨ve243_0, rfl, ge243_0⟩ := hMe243
                      have hv243_0 := hcc243 0 _ rfl
                      rw [Nat.add_zero, show ((Kd.slice 3 (Kd.int .i64))).sz = 1 from rfl, Nat.mul_one] at hv243_0
                      replace hv243_0 := Option.some.inj (hv243_0.symm.trans hx243_0)
                      rw [hv243_0] at ge243_0
                      have HL243_0 := Aside0.mk (show Kd.R (Kd.int .i64) 3 _ _ _ _ (rd_L4 t233 x7_1) from ge243_0)
                      clear hv243_0 ge243_0
                      clear hcc243 hce243
                      have HR243_0 := Aside0.mk hi243_0
                      have HC243_0 := Aside0.mk hl243_0
                      clear hi243_0 hl243_0
                      replace p243 := eq_true p243
                      replace q243 := eq_true q243
                      have p244 : 0 ≤ (x7_1 : Int) := of_decide_eq_true (by first | (with_reducible assumption) | assumption)
                      have q244 : x7_1 < (t233.length : Int) := of_decide_eq_true (by first | (with_reducible assumption) | assumption)
                      obtain ⟨ad244, A244_0, c244_0, e244, hx244_0, hl244_0, hi244_0⟩ := at_L4 (Kd.S_reads' HO_4.out).2.2 x7_1 p244 q244
                      obtain rfl : ad242 = ad244 := (by injection e244)
                      obtain ⟨ce244, hce244, hMe244, hcc244⟩ := Kd.S_get HO_4.out [] x7_1 p244 (by first | exact q244 | exact of_decide_eq_true (by first | (with_reducible assumption) | assumption) | (have e_ := (Kd.S_reads' HO_4.out).1; omega))
                      obtain ⟨ve244_0, rfl, ge244_0⟩ := hMe244
                      have hv244_0 := hcc244 0 _ rfl
                      rw [Nat.add_zero, show ((Kd.slice 3 (Kd.int .i64))).sz = 1 from rfl, Nat.mul_one] at hv244_0
                      replace hv244_0 := Option.some.inj (hv244_0.symm.trans hx244_0)
                      rw [hv244_0] at ge244_0
                      have HL244_0 := Aside0.mk (show Kd.R (Kd.int .i64) 3 _ _ _ _ (rd_L4 t233 x7_1) from ge244_0)
                      clear hv244_0 ge244_0
                      clear hcc244 hce244
                      have HR244_0 := Aside0.mk hi244_0
                      have HC244_0 := Aside0.mk hl244_0
                      clear hi244_0 hl244_0
                      replace p244 := eq_true p244
                      replace q244 := eq_true q244
                      have ea_ := Option.some.inj (hx243_0.symm.trans hx244_0)
                      injection ea_ with ea_ en_ ec_
                      subst ea_
                      subst ec_
                      clear en_
                      go_wp2
                      go_meet
                      case rel => exact ⟨_, (false), (by first | rfl | (simp; done) | (simp [*]; done)), H', ⟨by have := HK1.out; first | omega | exact Nat.le_refl _⟩, ⟨by (with_reducible repeat (first | apply Kd.R_alloc | apply Kd.R_drewN | apply Kd.R_drew)); exact HO_3.out⟩, ⟨by (with_reducible repeat (first | apply Kd.S_alloc | apply Kd.S_drewN | apply Kd.S_drew)); exact HO_4.out⟩, ⟨by (with_reducible repeat (first | apply Kd.R_alloc | apply Kd.R_drewN | apply Kd.R_drew)); exact HO_5.out⟩, ⟨by repeat (first | (with_reducible exact HR242_0.out) | (with_reducible refine Kd.C_alloc ?_ _) | (with_reducible refine Kd.C_drewN ?_ _) | (with_reducible refine Kd.C_drew ?_) | exact HR242_0.out)⟩, ⟨by repeat (first | (with_reducible first | exact HB.out | apply below_alloc | apply pw_below_drewN | apply below_drew1) | exact HB.out)⟩⟩
                case rest =>
                  clear HC20
                  try clear c1
                  try clear c2
                  try clear p2
                  try clear q2
                  try clear hx2
                  try clear c3
                  try clear c4
                  try clear p6
                  try clear c8
                  try clear c8b0
                  try clear c8b1
                  try clear c8b2
                  try clear c10
                  try clear c16
                  try clear c17
                  try clear c18
                  try clear c18b0
                  try clear c19
                  try clear c19b0
                  try clear c20
                  try clear c22
                  try clear c22b0
                  try clear c22b1
                  try clear c22b2
                  try clear c23
                  try clear c23b0
                  try clear c23b1
                  try clear c24
                  try clear p24
                  try clear q24
                  try clear hx24
                  try clear hx242_0
                  try clear hx243_0
                  try clear hx244_0
                  try clear hx245_0
                  try clear p2
                  try clear p242
                  try clear p243
                  try clear p244
                  try clear p245
                  try clear q242
                  try clear q243
                  try clear q244
                  try clear q245
                  obtain ⟨kq, x64_19, rfl, HA, HJ19, HO_3, HO_4, HO_5, HR242_0, HB⟩ := hcut
                  cases kq with
                  | zero => exact absurd HA.out (by simp [laws_FnAliases.j1])
                  | succ kj19 =>
                    have H := HA.out
                    clear HA
                    simp only [laws_FnAliases.j1] at H
                    by_cases c26 : x64_19 = true
                    · subst c26
                      have H1 : (some false) = some r := by rw [if_pos rfl] at H; exact H
                      clear H
                      have H := H1
                      clear H1
                      exact absurd ((Option.some.inj H).trans hrt.out) (by decide)
                    · replace c26 := Bool.eq_false_iff.mpr c26
                      subst c26
                      have H1 : (laws_FnAliases.l1 kj19 t230 t233 t239 (wrap64 (x6_1 + ((rd_L4 t233 x7_1).length : Int))) x7_1 0) = some r := by rw [if_neg (show ¬ (false = true) by decide)] at H; exact H
                      clear H
                      have H := H1
                      clear H1
                      have H' := Aside0.mk H
                      clear H
                      go_wp2
                      go_loopg [8] kj19 (fun kq v8 w' => ∃ (x8_3 : Int), v8 = .int .i64 x8_3 ∧ Aside0 (laws_FnAliases.l1 kq t230 t233 t239 (wrap64 (x6_1 + ((rd_L4 t233 x7_1).length : Int))) x7_1 x8_3 = some r) ∧ Aside0 (kq ≤ kj19) ∧ Aside0 (Kd.R k68 68 w' w.heap.size (fun _ => True) (.slice Ao13 t230.length co13) t230) ∧ Aside0 (Kd.S (Kd.slice 3 (Kd.int .i64)) 37 w' w.heap.size (fun k_ => some k_ ≠ (v240 : Value).ownBlock) (.slice (some ad242) t233.length co21) t233) ∧ Aside0 (Kd.R (Kd.int .i64) 3 w' w.heap.size (fun _ => True) v240 t239) ∧ Aside0 (Kd.C (Kd.int .i64) w' A242_0 (rd_L4 t233 x7_1).length (rd_L4 t233 x7_1)) ∧ Aside0 (Below w.heap.size w w'))
                      case atStart => exact ⟨(0), (by first | rfl | (simp; done) | (simp [*]; done)), H', ⟨Nat.le_refl _⟩, ⟨by (with_reducible repeat (first | apply Kd.R_alloc | apply Kd.R_drewN | apply Kd.R_drew)); exact HO_3.out⟩, ⟨by (with_reducible repeat (first | apply Kd.S_alloc | apply Kd.S_drewN | apply Kd.S_drew)); exact HO_4.out⟩, ⟨by (with_reducible repeat (first | apply Kd.R_alloc | apply Kd.R_drewN | apply Kd.R_drew)); exact HO_5.out⟩, ⟨by repeat (first | (with_reducible exact HR242_0.out) | (with_reducible refine Kd.C_alloc ?_ _) | (with_reducible refine Kd.C_drewN ?_ _) | (with_reducible refine Kd.C_drew ?_) | exact HR242_0.out)⟩, ⟨by repeat (first | (with_reducible first | exact HB.out | apply below_alloc | apply pw_below_drewN | apply below_drew1) | exact HB.out)⟩⟩
                      case round =>
                        clear H'
                        try clear c1
                        try clear c2
                        try clear p2
                        try clear q2
                        try clear hx2
                        try clear c3
                        try clear c4
                        try clear p6
                        try clear c8
                        try clear c8b0
                        try clear c8b1
                        try clear c8b2
                        try clear c10
                        try clear c16
                        try clear c17
                        try clear c18
                        try clear c18b0
                        try clear c19
                        try clear c19b0
                        try clear c20
                        try clear c22
                        try clear c22b0
                        try clear c22b1
                        try clear c22b2
                        try clear c23
                        try clear c23b0
                        try clear c23b1
                        try clear c24
                        try clear p24
                        try clear q24
                        try clear hx24
                        try clear c26
                        try clear hx242_0
                        try clear hx243_0
                        try clear hx244_0
                        try clear hx245_0
                        try clear p2
                        try clear p24
                        try clear p242
                        try clear p243
                        try clear p244
                        try clear p245
                        try clear p6
                        try clear q2
                        try clear q24
                        try clear q242
                        try clear q243
                        try clear q244
                        try clear q245
                        obtain ⟨x8_3, rfl, HA, HK3, HO_3, HO_4, HO_5, HR242_0, HB⟩ := hrel
                        cases gk with
                        | zero => exact absurd HA.out (by simp [laws_FnAliases.l1])
                        | succ k3 =>
                          have H := HA.out
                          clear HA
                          simp only [laws_FnAliases.l1] at H
                          by_cases c27 : 0 ≤ x7_1
                          · rw [if_pos c27] at H
                            have c27b0 : decide (0 ≤ x7_1) = true := decide_eq_true c27
                            clear c27
                            by_cases c28 : x7_1 < (t233.length : Int)
                            · rw [if_pos c28] at H
                              have c28b0 : decide (x7_1 < (t233.length : Int)) = true := decide_eq_true c28
                              clear c28
                              by_cases c29 : x8_3 < ((rd_L4 t233 x7_1).length : Int)
                              · rw [if_pos c29] at H
                                have c29b0 : decide (x8_3 < ((rd_L4 t233 x7_1).length : Int)) = true := decide_eq_true c29
                                clear c29
                                by_cases c30 : 0 ≤ x8_3
                                · rw [if_pos c30] at H
                                  have c30b0 : decide (0 ≤ x8_3) = true := decide_eq_true c30
                                  clear c30
                                  replace H := Option.bind_eq_some_iff.mp H
                                  obtain ⟨t250, A310, H⟩ := H
                                  replace H : (if t250 = true then (laws_FnAliases.l2 k3 t230 t233 t239 (wrap64 (x6_1 + ((rd_L4 t233 x7_1).length : Int))) x7_1 x8_3 0) else (some false)) = some r := H
                                  have A31 := Aside0.mk A310
                                  clear A310
                                  by_cases c32 : t250 = true
                                  · subst c32
                                    have H1 : (laws_FnAliases.l2 k3 t230 t233 t239 (wrap64 (x6_1 + ((rd_L4 t233 x7_1).length : Int))) x7_1 x8_3 0) = some r := by rw [if_pos rfl] at H; exact H
                                    clear H
                                    have H := H1
                                    clear H1
                                    have H' := Aside0.mk H
                                    clear H
                                    have p247 : 0 ≤ (x7_1 : Int) := of_decide_eq_true (by first | (with_reducible assumption) | assumption)
                                    have q247 : x7_1 < (t233.length : Int) := of_decide_eq_true (by first | (with_reducible assumption) | assumption)
                                    obtain ⟨ad247, A247_0, c247_0, e247, hx247_0, hl247_0, hi247_0⟩ := at_L4 (Kd.S_reads' HO_4.out).2.2 x7_1 p247 q247
                                    obtain rfl : ad242 = ad247 := (by injection e247)
                                    obtain ⟨ce247, hce247, hMe247, hcc247⟩ := Kd.S_get HO_4.out [] x7_1 p247 (by first | exact q247 | exact of_decide_eq_true (by first | (with_reducible assumption) | assumption) | (have e_ := (Kd.S_reads' HO_4.out).1; omega))
                                    obtain ⟨ve247_0, rfl, ge247_0⟩ := hMe247
                                    have hv247_0 := hcc247 0 _ rfl
                                    rw [Nat.add_zero, show ((Kd.slice 3 (Kd.int .i64))).sz = 1 from rfl, Nat.mul_one] at hv247_0
                                    replace hv247_0 := Option.some.inj (hv247_0.symm.trans hx247_0)
                                    rw [hv247_0] at ge247_0
                                    have HL247_0 := Aside0.mk (show Kd.R (Kd.int .i64) 3 _ _ _ _ (rd_L4 t233 x7_1) from ge247_0)
                                    clear hv247_0 ge247_0
                                    clear hcc247 hce247
                                    have HR247_0 := Aside0.mk hi247_0
                                    have HC247_0 := Aside0.mk hl247_0
                                    clear hi247_0 hl247_0
                                    replace p247 := eq_true p247
                                    replace q247 := eq_true q247
                                    have p248 : 0 ≤ (x7_1 : Int) := of_decide_eq_true (by first | (with_reducible assumption) | assumption)
                                    have q248 : x7_1 < (t233.length : Int) := of_decide_eq_true (by first | (with_reducible assumption) | assumption)
                                    obtain ⟨ad248, A248_0, c248_0, e248, hx248_0, hl248_0, hi248_0⟩ := at_L4 (Kd.S_reads' HO_4.out).2.2 x7_1 p248 q248
                                    obtain rfl : ad242 = ad248 := (by injection e248)
                                    obtain ⟨ce248, hce248, hMe248, hcc248⟩ := Kd.S_get HO_4.out [] x7_1 p248 (by first | exact q248 | exact of_decide_eq_true (by first | (with_reducible assumption) | assumption) | (have e_ := (Kd.S_reads' HO_4.out).1; omega))
                                    obtain ⟨ve248_0, rfl, ge248_0⟩ := hMe248
                                    have hv248_0 := hcc248 0 _ rfl
                                    rw [Nat.add_zero, show ((Kd.slice 3 (Kd.int .i64))).sz = 1 from rfl, Nat.mul_one] at hv248_0
                                    replace hv248_0 := Option.some.inj (hv248_0.symm.trans hx248_0)
                                    rw [hv248_0] at ge248_0
                                    have HL248_0 := Aside0.mk (show Kd.R (Kd.int .i64) 3 _ _ _ _ (rd_L4 t233 x7_1) from ge248_0)
                                    clear hv248_0 ge248_0
                                    clear hcc248 hce248
                                    have HR248_0 := Aside0.mk hi248_0
                                    have HC248_0 := Aside0.mk hl248_0
                                    clear hi248_0 hl248_0
                                    replace p248 := eq_true p248
                                    replace q248 := eq_true q248
                                    have ea_ := Option.some.inj (hx247_0.symm.trans hx248_0)
                                    injection ea_ with ea_ en_ ec_
                                    subst ea_
                                    subst ec_
                                    clear en_
                                    have p249 : 0 ≤ (x8_3 : Int) := of_decide_eq_true (by first | (with_reducible assumption) | assumption)
                                    have q249 : x8_3 < ((rd_L4 t233 x7_1).length : Int) := of_decide_eq_true (by first | (with_reducible assumption) | assumption)
                                    obtain ⟨ad249, e249, hx249_0⟩ := Kd.at_int (by repeat (first | (with_reducible exact HR248_0.out) | (with_reducible refine Kd.C_alloc ?_ _) | (with_reducible refine Kd.C_drewN ?_ _) | (with_reducible refine Kd.C_drew ?_) | exact HR248_0.out)) x8_3 p249 q249
                                    cases e249
                                    replace p249 := eq_true p249
                                    replace q249 := eq_true q249
                                    obtain ⟨Ao33, co33, eo33⟩ := Kd.R_slice HO_5.out
                                    subst eo33
                                    go_wp2_with (first | ((with_reducible refine gate_callee (f := 22) rfl ?_); refine goesL_ (some 82) rfl rfl Try.func22 (by kernel_rfl) rfl #[.slice Ao33 t239.length co33, .int .i64 (rd (rd_L4 t233 x7_1) x8_3)] rfl (by (try simp only [List.map_toArray, List.map_cons, List.map_nil]); first | done | rfl | (simp only [List.length_drop, List.length_take]; rfl)) ?_; (with_reducible refine (laws_contains.calls k3 _ _ t239 (rd (rd_L4 t233 x7_1) x8_3) true _ ?side1 ?side2 A31.out).mono ?_); (case side1 => repeat (first | exact (Kd.R_reads' HO_5.out).2.2 | (with_reducible refine Kd.C_alloc ?_ _) | (with_reducible refine Kd.C_drewN ?_ _) | (with_reducible refine Kd.C_drew ?_))); (case side2 => exact (Kd.R_reads' HO_5.out).2.1); rintro e w' ⟨rfl, ⟨nd, rfl⟩⟩; refine ⟨_, rfl, ?_⟩))
                                    go_loopg [9] k3 (fun kq v9 w' => ∃ (x9_4 : Int), v9 = .int .i64 x9_4 ∧ Aside0 (laws_FnAliases.l2 kq t230 t233 t239 (wrap64 (x6_1 + ((rd_L4 t233 x7_1).length : Int))) x7_1 x8_3 x9_4 = some r) ∧ Aside0 (kq ≤ k3) ∧ Aside0 (Kd.R k68 68 w' w.heap.size (fun _ => True) (.slice Ao13 t230.length co13) t230) ∧ Aside0 (Kd.S (Kd.slice 3 (Kd.int .i64)) 37 w' w.heap.size (fun k_ => some k_ ≠ ((.slice Ao33 t239.length co33) : Value).ownBlock) (.slice (some ad242) t233.length co21) t233) ∧ Aside0 (Kd.R (Kd.int .i64) 3 w' w.heap.size (fun _ => True) (.slice Ao33 t239.length co33) t239) ∧ Aside0 (Kd.C (Kd.int .i64) w' A242_0 (rd_L4 t233 x7_1).length (rd_L4 t233 x7_1)) ∧ Aside0 (Kd.C (Kd.int .i64) w' (some ad249) (rd_L4 t233 x7_1).length (rd_L4 t233 x7_1)) ∧ Aside0 (Kd.C (Kd.int .i64) w' (some ad249) (rd_L4 t233 x7_1).length (rd_L4 t233 x7_1)) ∧ Aside0 (Below w.heap.size w w'))
                                    case atStart => exact ⟨(0), (by first | rfl | (simp; done) | (simp [*]; done)), H', ⟨Nat.le_refl _⟩, ⟨by (with_reducible repeat (first | apply Kd.R_alloc | apply Kd.R_drewN | apply Kd.R_drew)); exact HO_3.out⟩, ⟨by (with_reducible repeat (first | apply Kd.S_alloc | apply Kd.S_drewN | apply Kd.S_drew)); exact HO_4.out⟩, ⟨by (with_reducible repeat (first | apply Kd.R_alloc | apply Kd.R_drewN | apply Kd.R_drew)); exact HO_5.out⟩, ⟨by repeat (first | (with_reducible exact HR242_0.out) | (with_reducible refine Kd.C_alloc ?_ _) | (with_reducible refine Kd.C_drewN ?_ _) | (with_reducible refine Kd.C_drew ?_) | exact HR242_0.out)⟩, ⟨by repeat (first | (with_reducible exact HR247_0.out) | (with_reducible refine Kd.C_alloc ?_ _) | (with_reducible refine Kd.C_drewN ?_ _) | (with_reducible refine Kd.C_drew ?_) | exact HR247_0.out)⟩, ⟨by repeat (first | (with_reducible exact HR248_0.out) | (with_reducible refine Kd.C_alloc ?_ _) | (with_reducible refine Kd.C_drewN ?_ _) | (with_reducible refine Kd.C_drew ?_) | exact HR248_0.out)⟩, ⟨by repeat (first | (with_reducible first | exact HB.out | apply below_alloc | apply pw_below_drewN | apply below_drew1) | exact HB.out)⟩⟩
                                    case round =>
                                      clear H'
                                      try clear c1
                                      try clear c2
                                      try clear p2
                                      try clear q2
                                      try clear hx2
                                      try clear c3
                                      try clear c4
                                      try clear p6
                                      try clear c8
                                      try clear c8b0
                                      try clear c8b1
                                      try clear c8b2
                                      try clear c10
                                      try clear c16
                                      try clear c17
                                      try clear c18
                                      try clear c18b0
                                      try clear c19
                                      try clear c19b0
                                      try clear c20
                                      try clear c22
                                      try clear c22b0
                                      try clear c22b1
                                      try clear c22b2
                                      try clear c23
                                      try clear c23b0
                                      try clear c23b1
                                      try clear c24
                                      try clear p24
                                      try clear q24
                                      try clear hx24
                                      try clear c26
                                      try clear c27
                                      try clear c27b0
                                      try clear c28
                                      try clear c28b0
                                      try clear c29
                                      try clear c29b0
                                      try clear c30
                                      try clear c30b0
                                      try clear c32
                                      try clear hx242_0
                                      try clear hx243_0
                                      try clear hx244_0
                                      try clear hx245_0
                                      try clear hx247_0
                                      try clear hx248_0
                                      try clear hx249_0
                                      try clear p2
                                      try clear p24
                                      try clear p242
                                      try clear p243
                                      try clear p244
                                      try clear p245
                                      try clear p247
                                      try clear p248
                                      try clear p249
                                      try clear p6
                                      try clear q2
                                      try clear q24
                                      try clear q242
                                      try clear q243
                                      try clear q244
                                      try clear q245
                                      try clear q247
                                      try clear q248
                                      try clear q249
                                      obtain ⟨x9_4, rfl, HA, HK4, HO_3, HO_4, HO_5, HR242_0, HR247_0, HR248_0, HB⟩ := hrel
                                      cases gk with
                                      | zero => exact absurd HA.out (by simp [laws_FnAliases.l2])
                                      | succ k4 =>
                                        have H := HA.out
                                        clear HA
                                        simp only [laws_FnAliases.l2] at H
                                        by_cases c34 : x9_4 < x8_3
                                        · rw [if_pos c34] at H
                                          have c34b0 : decide (x9_4 < x8_3) = true := decide_eq_true c34
                                          clear c34
                                          by_cases c35 : 0 ≤ x7_1
                                          · rw [if_pos c35] at H
                                            have c35b0 : decide (0 ≤ x7_1) = true := decide_eq_true c35
                                            clear c35
                                            by_cases c36 : x7_1 < (t233.length : Int)
                                            · rw [if_pos c36] at H
                                              have c36b0 : decide (x7_1 < (t233.length : Int)) = true := decide_eq_true c36
                                              clear c36
                                              by_cases c37 : 0 ≤ x9_4
                                              · rw [if_pos c37] at H
                                                have c37b0 : decide (0 ≤ x9_4) = true := decide_eq_true c37
                                                clear c37
                                                by_cases c38 : x9_4 < ((rd_L4 t233 x7_1).length : Int)
                                                · rw [if_pos c38] at H
                                                  have c38b0 : decide (x9_4 < ((rd_L4 t233 x7_1).length : Int)) = true := decide_eq_true c38
                                                  clear c38
                                                  by_cases c39 : 0 ≤ x8_3
                                                  · rw [if_pos c39] at H
                                                    have c39b0 : decide (0 ≤ x8_3) = true := decide_eq_true c39
                                                    clear c39
                                                    by_cases c40 : x8_3 < ((rd_L4 t233 x7_1).length : Int)
                                                    · rw [if_pos c40] at H
                                                      have c40b0 : decide (x8_3 < ((rd_L4 t233 x7_1).length : Int)) = true := decide_eq_true c40
                                                      clear c40
                                                      replace H := Option.bind_eq_some_iff.mp H
                                                      obtain ⟨t255, A410, H⟩ := H
                                                      replace H : (if t255 = true then (some false) else (if (rd (rd_L4 t233 x7_1) x9_4) ≥ (rd (rd_L4 t233 x7_1) x8_3) then (some false) else (laws_FnAliases.l2 k4 t230 t233 t239 (wrap64 (x6_1 + ((rd_L4 t233 x7_1).length : Int))) x7_1 x8_3 (wrap64 (x9_4 + 1))))) = some r := H
                                                      have A41 := Aside0.mk A410
                                                      clear A410
                                                      by_cases c42 : t255 = true
                                                      · subst c42
                                                        have H1 : (some false) = some r := by rw [if_pos rfl] at H; exact H
                                                        clear H
                                                        have H := H1
                                                        clear H1
                                                        exact absurd ((Option.some.inj H).trans hrt.out) (by decide)
                                                      · replace c42 := Bool.eq_false_iff.mpr c42
                                                        subst c42
                                                        have H1 : (if (rd (rd_L4 t233 x7_1) x9_4) ≥ (rd (rd_L4 t233 x7_1) x8_3) then (some false) else (laws_FnAliases.l2 k4 t230 t233 t239 (wrap64 (x6_1 + ((rd_L4 t233 x7_1).length : Int))) x7_1 x8_3 (wrap64 (x9_4 + 1)))) = some r := by rw [if_neg (show ¬ (false = true) by decide)] at H; exact H
                                                        clear H
                                                        have H := H1
                                                        clear H1
                                                        by_cases c43 : (rd (rd_L4 t233 x7_1) x9_4) ≥ (rd (rd_L4 t233 x7_1) x8_3)
                                                        · rw [if_pos c43] at H
                                                          have c43b0 : decide ((rd (rd_L4 t233 x7_1) x8_3) ≤ (rd (rd_L4 t233 x7_1) x9_4)) = true := decide_eq_true c43
                                                          clear c43
                                                          exact absurd ((Option.some.inj H).trans hrt.out) (by decide)
                                                        · rw [if_neg c43] at H
                                                          have c43b0 : decide ((rd (rd_L4 t233 x7_1) x8_3) ≤ (rd (rd_L4 t233 x7_1) x9_4)) = false := decide_eq_false c43
                                                          clear c43
                                                          have H' := Aside0.mk H
                                                          clear H
                                                          have pg : 0 ≤ (x7_1 : Int) := of_decide_eq_true (by first | (with_reducible assumption) | assumption)
                                                          have qg : x7_1 < ((t233.length) : Int) := of_decide_eq_true (by first | (with_reducible assumption) | assumption)
                                                          obtain ⟨adg, Ag, cg, eg_, hxg, hlg, hig⟩ := at_L4 (Kd.S_reads' HO_4.out).2.2 x7_1 pg qg
                                                          obtain rfl : ad242 = adg := (by injection eg_)
                                                          have p9 : 0 ≤ (x9_4 : Int) := of_decide_eq_true (by first | (with_reducible assumption) | assumption)
                                                          have q9 : x9_4 < (((rd_L4 t233 x7_1)).length : Int) := of_decide_eq_true (by first | (with_reducible assumption) | assumption)
                                                          have p8 : 0 ≤ (x8_3 : Int) := of_decide_eq_true (by first | (with_reducible assumption) | assumption)
                                                          have q8 : x8_3 < (((rd_L4 t233 x7_1)).length : Int) := of_decide_eq_true (by first | (with_reducible assumption) | assumption)
                                                          obtain ⟨ad9, e9, hx9⟩ := Kd.at_int hig x9_4 p9 q9
                                                          cases e9
                                                          obtain ⟨ad8, e8, hx8⟩ := Kd.at_int hig x8_3 p8 q8
                                                          obtain rfl : ad9 = ad8 := (by injection e8)
                                                          have HAP := Aside0.mk (fun (W : World) (hb : Below wr.heap.size wr W) => impl_SurelyApart.calls k4 Ao13 co13 t230 (rd (rd_L4 t233 x7_1) x9_4) (rd (rd_L4 t233 x7_1) x8_3) false W (Kd.C_below (Kd.R_reads' HO_3.out).2.2 hb) (Kd.R_reads' HO_3.out).2.1 A41.out)
                                                          replace pg := eq_true pg
                                                          replace qg := eq_true qg
                                                          replace p9 := eq_true p9
                                                          replace q9 := eq_true q9
                                                          replace p8 := eq_true p8
                                                          replace q8 := eq_true q8
                                                          clear hlg hig
                                                          go_wp2
                                                          go_region_held3 (fun w' => w'.cell? (ad242.add (x7_1 : Int).toNat) = some (.slice (some ad9) ((rd_L4 t233 x7_1)).length cg) ∧ w'.cell? (ad9.add (x9_4 : Int).toNat) = some (.int .i64 (rd (rd_L4 t233 x7_1) x9_4)) ∧ w'.cell? (ad9.add (x8_3 : Int).toNat) = some (.int .i64 (rd (rd_L4 t233 x7_1) x8_3))) (go_keep) (first | (go_at_call 23; (with_reducible refine (HAP.out _ ?m1).mono ?_); (case m1 => exact (by repeat (first | exact Below.refl _ _ | (with_reducible first | apply below_alloc | apply pw_below_drewN | apply below_drew1)))); rintro e w7 ⟨rfl, hb7⟩; have HB7 := Aside0.mk (below_step (by repeat (first | exact Below.refl _ _ | (with_reducible first | apply below_alloc | apply pw_below_drewN | apply below_drew1))) hb7 : Below wr.heap.size wr w7); clear hb7; have y1 := pw_cell_below HB7.out hxg; have y2 := pw_cell_below HB7.out hx9; have y3 := pw_cell_below HB7.out hx8) | fail)
                                                          all_goals go_wp2
                                                          all_goals go_roundg k4
                                                          all_goals first | (have := HK1.out; have := HJ19.out; have := HK3.out; have := HK4.out; omega) | exact ⟨(wrap64 (x9_4 + 1)), (by first | rfl | (simp; done) | (simp [*]; done)), H', ⟨by have := HK1.out; have := HJ19.out; have := HK3.out; have := HK4.out; omega⟩, ⟨by (with_reducible repeat (first | apply Kd.R_alloc | apply Kd.R_drewN | apply Kd.R_drew)); exact Kd.R_below HO_3.out HB7.out⟩, ⟨by (with_reducible repeat (first | apply Kd.S_alloc | apply Kd.S_drewN | apply Kd.S_drew)); exact Kd.S_below HO_4.out HB7.out⟩, ⟨by (with_reducible repeat (first | apply Kd.R_alloc | apply Kd.R_drewN | apply Kd.R_drew)); exact Kd.R_below HO_5.out HB7.out⟩, ⟨by repeat (first | (with_reducible refine Kd.C_alloc ?_ _) | (with_reducible refine Kd.C_drewN ?_ _) | (with_reducible refine Kd.C_drew ?_) | exact Kd.C_below HR242_0.out HB7.out)⟩, ⟨by repeat (first | (with_reducible refine Kd.C_alloc ?_ _) | (with_reducible refine Kd.C_drewN ?_ _) | (with_reducible refine Kd.C_drew ?_) | exact Kd.C_below HR247_0.out HB7.out)⟩, ⟨by repeat (first | (with_reducible refine Kd.C_alloc ?_ _) | (with_reducible refine Kd.C_drewN ?_ _) | (with_reducible refine Kd.C_drew ?_) | exact Kd.C_below HR248_0.out HB7.out)⟩, ⟨HB.out.trans (HB7.out.mono HB.out.size)⟩⟩
                                                    · rw [if_neg c40] at H
                                                      exact absurd H (by simp)
                                                  · rw [if_neg c39] at H
                                                    exact absurd H (by simp)
                                                · rw [if_neg c38] at H
                                                  exact absurd H (by simp)
                                              · rw [if_neg c37] at H
                                                exact absurd H (by simp)
                                            · rw [if_neg c36] at H
                                              exact absurd H (by simp)
                                          · rw [if_neg c35] at H
                                            exact absurd H (by simp)
                                        · rw [if_neg c34] at H
                                          have c34b0 : decide (x9_4 < x8_3) = false := decide_eq_false c34
                                          clear c34
                                          have H' := Aside0.mk H
                                          clear H
                                          go_wp2
                                          go_roundg k4
                                          case measure => have := HK1.out; have := HJ19.out; have := HK3.out; have := HK4.out; omega
                                          case rel => exact ⟨(wrap64 (x8_3 + 1)), (by first | rfl | (simp; done) | (simp [*]; done)), H', ⟨by have := HK1.out; have := HJ19.out; have := HK3.out; have := HK4.out; omega⟩, ⟨by (with_reducible repeat (first | apply Kd.R_alloc | apply Kd.R_drewN | apply Kd.R_drew)); exact HO_3.out⟩, ⟨by (with_reducible repeat (first | apply Kd.S_alloc | apply Kd.S_drewN | apply Kd.S_drew)); exact HO_4.out⟩, ⟨by (with_reducible repeat (first | apply Kd.R_alloc | apply Kd.R_drewN | apply Kd.R_drew)); exact HO_5.out⟩, ⟨by repeat (first | (with_reducible exact HR242_0.out) | (with_reducible refine Kd.C_alloc ?_ _) | (with_reducible refine Kd.C_drewN ?_ _) | (with_reducible refine Kd.C_drew ?_) | exact HR242_0.out)⟩, ⟨by repeat (first | (with_reducible first | exact HB.out | apply below_alloc | apply pw_below_drewN | apply below_drew1) | exact HB.out)⟩⟩
                                  · replace c32 := Bool.eq_false_iff.mpr c32
                                    subst c32
                                    have H1 : (some false) = some r := by rw [if_neg (show ¬ (false = true) by decide)] at H; exact H
                                    clear H
                                    have H := H1
                                    clear H1
                                    exact absurd ((Option.some.inj H).trans hrt.out) (by decide)
                                · rw [if_neg c30] at H
                                  exact absurd H (by simp)
                              · rw [if_neg c29] at H
                                have c29b0 : decide (x8_3 < ((rd_L4 t233 x7_1).length : Int)) = false := decide_eq_false c29
                                clear c29
                                have H' := Aside0.mk H
                                clear H
                                have p247 : 0 ≤ (x7_1 : Int) := of_decide_eq_true (by first | (with_reducible assumption) | assumption)
                                have q247 : x7_1 < (t233.length : Int) := of_decide_eq_true (by first | (with_reducible assumption) | assumption)
                                obtain ⟨ad247, A247_0, c247_0, e247, hx247_0, hl247_0, hi247_0⟩ := at_L4 (Kd.S_reads' HO_4.out).2.2 x7_1 p247 q247
                                obtain rfl : ad242 = ad247 := (by injection e247)
                                obtain ⟨ce247, hce247, hMe247, hcc247⟩ := Kd.S_get HO_4.out [] x7_1 p247 (by first | exact q247 | exact of_decide_eq_true (by first | (with_reducible assumption) | assumption) | (have e_ := (Kd.S_reads' HO_4.out).1; omega))
                                obtain ⟨ve247_0, rfl, ge247_0⟩ := hMe247
                                have hv247_0 := hcc247 0 _ rfl
                                rw [Nat.add_zero, show ((Kd.slice 3 (Kd.int .i64))).sz = 1 from rfl, Nat.mul_one] at hv247_0
                                replace hv247_0 := Option.some.inj (hv247_0.symm.trans hx247_0)
                                rw [hv247_0] at ge247_0
                                have HL247_0 := Aside0.mk (show Kd.R (Kd.int .i64) 3 _ _ _ _ (rd_L4 t233 x7_1) from ge247_0)
                                clear hv247_0 ge247_0
                                clear hcc247 hce247
                                have HR247_0 := Aside0.mk hi247_0
                                have HC247_0 := Aside0.mk hl247_0
                                clear hi247_0 hl247_0
                                replace p247 := eq_true p247
                                replace q247 := eq_true q247
                                go_wp2
                                go_roundg k3
                                case measure => have := HK1.out; have := HJ19.out; have := HK3.out; omega
                                case rel => exact ⟨((wrap64 (x6_1 + ((rd_L4 t233 x7_1).length : Int)))), (wrap64 (x7_1 + 1)), (by first | rfl | (simp; done) | (simp [*]; done)), (by first | rfl | (simp; done) | (simp [*]; done)), H', ⟨by have := HK1.out; have := HJ19.out; have := HK3.out; omega⟩, ⟨by (with_reducible repeat (first | apply Kd.R_alloc | apply Kd.R_drewN | apply Kd.R_drew)); exact HO_3.out⟩, ⟨by (with_reducible repeat (first | apply Kd.S_alloc | apply Kd.S_drewN | apply Kd.S_drew)); exact HO_4.out⟩, ⟨by (with_reducible repeat (first | apply Kd.R_alloc | apply Kd.R_drewN | apply Kd.R_drew)); exact HO_5.out⟩, ⟨by repeat (first | (with_reducible first | exact HB.out | apply below_alloc | apply pw_below_drewN | apply below_drew1) | exact HB.out)⟩⟩
                            · rw [if_neg c28] at H
                              exact absurd H (by simp)
                          · rw [if_neg c27] at H
                            exact absurd H (by simp)
              · rw [if_neg c19] at H
                exact absurd H (by simp)
            · rw [if_neg c18] at H
              have c18b0 : decide (x7_1 < (t233.length : Int)) = false := decide_eq_false c18
              clear c18
              obtain rfl := Option.some.inj H
              obtain ⟨Ao46, co46, eo46⟩ := Kd.S_slice HO_4.out
              subst eo46
              obtain ⟨Ao47, co47, eo47⟩ := Kd.R_slice HO_5.out
              subst eo47
              go_wp2
              go_ret
              exact ⟨by first | rfl | (simp [errW_none, errW_some] <;> rfl) | (simp [*, errW_none, errW_some] <;> rfl), by repeat (first | (with_reducible first | exact HB.out | apply below_alloc | apply pw_below_drewN | apply below_drew1) | exact HB.out)⟩
      · replace c10 := Bool.eq_false_iff.mpr c10
        subst c10
        have H1 : (some ((t233.length : Int) == 0)) = some r := by rw [if_neg (show ¬ (false = true) by decide)] at H; exact H
        clear H
        have H := H1
        clear H1
        obtain rfl := Option.some.inj H
        go_enter Try.func4, Try.ntmps4
        go_wp2_with (first | ((with_reducible refine gate_callee (f := 16) rfl ?_); refine goesL_ (some 11) rfl rfl Try.func16 (by kernel_rfl) rfl #[.slice A0 l0.length c0] rfl (by (try simp only [List.map_toArray, List.map_cons, List.map_nil]); first | done | rfl | (simp only [List.length_drop, List.length_take]; rfl)) ?_; (with_reducible refine (laws_big.calls _ _ l0 false _ ?side1 ?side2 A2.out).mono ?_); (case side1 => repeat (first | exact HR0.out | (with_reducible refine Kd.C_alloc ?_ _) | (with_reducible refine Kd.C_drewN ?_ _) | (with_reducible refine Kd.C_drew ?_))); (case side2 => exact HC0.out); rintro e w' ⟨rfl, ⟨nd, rfl⟩⟩; refine ⟨_, rfl, ?_⟩) | ((with_reducible refine gate_callee (f := 17) rfl ?_); refine goesL_ (some 13) rfl rfl Try.func17 (by kernel_rfl) rfl #[.slice A0 l0.length c0] rfl (by (try simp only [List.map_toArray, List.map_cons, List.map_nil]); first | done | rfl | (simp only [List.length_drop, List.length_take]; rfl)) ?_; (with_reducible refine (spec_DrawGroupsOf.calls k _ _ l0 t230 _ ?side1 ?side2 A4.out).mono ?_); (case side1 => repeat (first | exact HR0.out | (with_reducible refine Kd.C_alloc ?_ _) | (with_reducible refine Kd.C_drewN ?_ _) | (with_reducible refine Kd.C_drew ?_))); (case side2 => exact HC0.out); rintro e w48 ⟨v231, rfl, ho0, hb⟩; refine ⟨_, rfl, ?_⟩; have n0_ := Aside0.mk (Kd.R_lower ho0 (below_size (by repeat (first | (with_reducible first | exact HB.out | apply below_alloc | apply pw_below_drewN | apply below_drew1) | exact HB.out)))); have n1_ := Aside0.mk (below_step (by repeat (first | (with_reducible first | exact HB.out | apply below_alloc | apply pw_below_drewN | apply below_drew1) | exact HB.out)) hb); clear HB; have HO232 := n0_; have HB := n1_; clear n0_ n1_; (try clear hb); (try clear hb2); (try clear hk); (try clear hi); (try clear ho0); obtain ⟨Ao49, co49, eo49⟩ := Kd.R_slice HO232.out; subst eo49) | ((with_reducible refine gate_callee (f := 10) rfl ?_); refine goesL_ (some 15) rfl rfl Try.func10 (by kernel_rfl) rfl #[.slice Ao49 t230.length co49] rfl (by (try simp only [List.map_toArray, List.map_cons, List.map_nil]); first | done | rfl | (simp only [List.length_drop, List.length_take]; rfl)) ?_; (with_reducible refine (impl_GroupsOf.calls k _ _ t230 t233 _ ?side1 ?side2 A5.out).mono ?_); (case side1 => repeat (first | exact (Kd.R_reads' HO232.out).2.2 | (with_reducible refine Kd.C_alloc ?_ _) | (with_reducible refine Kd.C_drewN ?_ _) | (with_reducible refine Kd.C_drew ?_))); (case side2 => exact (Kd.R_reads' HO232.out).2.1); rintro e w50 ⟨v234, rfl, ho0, hb⟩; refine ⟨_, rfl, ?_⟩; have n0_ := Aside0.mk (Kd.R_below (by (with_reducible repeat (first | apply Kd.R_alloc | apply Kd.R_drewN | apply Kd.R_drew)); exact HO232.out) hb); have n1_ := Aside0.mk (Kd.S_lower ho0 (below_size (by repeat (first | (with_reducible first | exact HB.out | apply below_alloc | apply pw_below_drewN | apply below_drew1) | exact HB.out)))); have n2_ := Aside0.mk (below_step (by repeat (first | (with_reducible first | exact HB.out | apply below_alloc | apply pw_below_drewN | apply below_drew1) | exact HB.out)) hb); clear HO232; clear HB; have HO232 := n0_; have HO235 := n1_; have HB := n2_; clear n0_ n1_ n2_; (try clear hb); (try clear hb2); (try clear hk); (try clear hi); (try clear ho0)) | ((with_reducible refine gate_callee (f := 18) rfl ?_); refine goesL_ (some 17) rfl rfl Try.func18 (by kernel_rfl) rfl #[.slice Ao49 t230.length co49] rfl (by (try simp only [List.map_toArray, List.map_cons, List.map_nil]); first | done | rfl | (simp only [List.length_drop, List.length_take]; rfl)) ?_; (with_reducible refine (impl_AreReplies.calls _ _ t230 t236 _ ?side1 ?side2 A6.out).mono ?_); (case side1 => repeat (first | exact (Kd.R_reads' HO232.out).2.2 | (with_reducible refine Kd.C_alloc ?_ _) | (with_reducible refine Kd.C_drewN ?_ _) | (with_reducible refine Kd.C_drew ?_))); (case side2 => exact (Kd.R_reads' HO232.out).2.1); rintro e w51 ⟨rfl, hb⟩; refine ⟨_, rfl, ?_⟩; have n0_ := Aside0.mk (Kd.R_below (by (with_reducible repeat (first | apply Kd.R_alloc | apply Kd.R_drewN | apply Kd.R_drew)); exact HO232.out) hb); have n1_ := Aside0.mk (Kd.S_below (by (with_reducible repeat (first | apply Kd.S_alloc | apply Kd.S_drewN | apply Kd.S_drew)); exact HO235.out) hb); have n2_ := Aside0.mk (below_step (by repeat (first | (with_reducible first | exact HB.out | apply below_alloc | apply pw_below_drewN | apply below_drew1) | exact HB.out)) hb); clear HO232; clear HO235; clear HB; have HO232 := n0_; have HO235 := n1_; have HB := n2_; clear n0_ n1_ n2_; (try clear hb); (try clear hb2); (try clear hk); (try clear hi)) | ((with_reducible refine gate_callee (f := 19) rfl ?_); refine goesL_ (some 19) rfl rfl Try.func19 (by kernel_rfl) rfl #[.slice Ao49 t230.length co49] rfl (by (try simp only [List.map_toArray, List.map_cons, List.map_nil]); first | done | rfl | (simp only [List.length_drop, List.length_take]; rfl)) ?_; (with_reducible refine (spec_AreReplies.calls k _ _ t230 t237 _ ?side1 ?side2 A7.out).mono ?_); (case side1 => repeat (first | exact (Kd.R_reads' HO232.out).2.2 | (with_reducible refine Kd.C_alloc ?_ _) | (with_reducible refine Kd.C_drewN ?_ _) | (with_reducible refine Kd.C_drew ?_))); (case side2 => exact (Kd.R_reads' HO232.out).2.1); rintro e w' ⟨rfl, ⟨nd, rfl⟩⟩; refine ⟨_, rfl, ?_⟩) | ((with_reducible refine gate_callee (f := 18) rfl ?_); refine goesL_ (some 22) rfl rfl Try.func18 (by kernel_rfl) rfl #[.slice Ao49 t230.length co49] rfl (by (try simp only [List.map_toArray, List.map_cons, List.map_nil]); first | done | rfl | (simp only [List.length_drop, List.length_take]; rfl)) ?_; (with_reducible refine (impl_AreReplies.calls _ _ t230 false _ ?side1 ?side2 A9.out).mono ?_); (case side1 => repeat (first | exact (Kd.R_reads' HO232.out).2.2 | (with_reducible refine Kd.C_alloc ?_ _) | (with_reducible refine Kd.C_drewN ?_ _) | (with_reducible refine Kd.C_drew ?_))); (case side2 => exact (Kd.R_reads' HO232.out).2.1); rintro e w52 ⟨rfl, hb⟩; refine ⟨_, rfl, ?_⟩; have n0_ := Aside0.mk (Kd.R_below (by (with_reducible repeat (first | apply Kd.R_alloc | apply Kd.R_drewN | apply Kd.R_drew)); exact HO232.out) hb); have n1_ := Aside0.mk (Kd.S_below (by (with_reducible repeat (first | apply Kd.S_alloc | apply Kd.S_drewN | apply Kd.S_drew)); exact HO235.out) hb); have n2_ := Aside0.mk (below_step (by repeat (first | (with_reducible first | exact HB.out | apply below_alloc | apply pw_below_drewN | apply below_drew1) | exact HB.out)) hb); clear HO232; clear HO235; clear HB; have HO232 := n0_; have HO235 := n1_; have HB := n2_; clear n0_ n1_ n2_; (try clear hb); (try clear hb2); (try clear hk); (try clear hi); obtain ⟨Ao53, co53, eo53⟩ := Kd.S_slice HO235.out; subst eo53))
        go_ret
        exact ⟨by first | rfl | (simp [errW_none, errW_some] <;> rfl) | (simp [*, errW_none, errW_some] <;> rfl), by repeat (first | (with_reducible first | exact HB.out | apply below_alloc | apply pw_below_drewN | apply below_drew1) | exact HB.out)⟩

end Go.Proofs.Ytgghhcifkgdpeaa.Z
