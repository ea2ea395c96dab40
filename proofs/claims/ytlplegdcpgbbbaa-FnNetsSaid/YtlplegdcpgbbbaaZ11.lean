-- Written by this session's wip/mp/mp.py out of the translation. Lean checks it.
import Derived.Test.YtlplegdcpgbbbaaZ0
import Derived.Test.YtlplegdcpgbbbaaZ3
import Derived.Test.YtlplegdcpgbbbaaZ4
import Derived.Test.YtlplegdcpgbbbaaZ5
import Derived.Test.YtlplegdcpgbbbaaZ6
import Derived.Test.YtlplegdcpgbbbaaZ8
import Derived.Test.YtlplegdcpgbbbaaZ9
import Derived.Test.YtlplegdcpgbbbaaZ10
namespace Go.Proofs.Ytlplegdcpgbbbaa.Z
open Go.RowKit Go.Proofs.YtlplegdcpgbbbaaW.PrintWords Go.Proofs.YtlplegdcpgbbbaaW.PrintLast Go.Proofs.YtlplegdcpgbbbaaW.PrintMore
attribute [local go_sem] max2_int min2_int max_two min_two max_three min_three max_four min_four   -- for this text's walks alone
set_option linter.unusedVariables false
set_option linter.unusedSimpArgs false

/-! ### laws_FnNets: function 5 -/
mutual
def laws_FnNets.j0 : Nat → Int → Int → List Int → Bool → Int → List (S93) → Option (Bool)
  | 0, _, _, _, _, _, _ => none
  | k + 1, x4, x5, x6, x44, x276000, x276001 => if x44 = true then (some false) else ((impl_LinkOf.f x276000 x276001 x4 x5).bind fun t283 => ((impl_IsNet.f k x276000 x276001).bind fun t284 => (if t284 = true then (if t283 ≥ 0 then (if (x6.length : Int) = 1 then (if 0 < (x6.length : Int) then (laws_FnNets.j1 k x4 x5 x6 ((rd x6 0) != t283) x276000 x276001) else (none)) else (laws_FnNets.j1 k x4 x5 x6 true x276000 x276001)) else (laws_FnNets.j1 k x4 x5 x6 false x276000 x276001)) else (laws_FnNets.j1 k x4 x5 x6 false x276000 x276001))))
def laws_FnNets.j1 : Nat → Int → Int → List Int → Bool → Int → List (S93) → Option (Bool)
  | 0, _, _, _, _, _, _ => none
  | k + 1, x4, x5, x6, x66, x276000, x276001 => if x66 = true then (some false) else ((impl_RouteTo.f k x276000 x276001 x5 x4).bind fun t286 => (if (t286.length : Int) = (x6.length : Int) then (laws_FnNets.l0 k x4 x5 x6 0 x276000 x276001) else (some false)))
def laws_FnNets.l0 : Nat → Int → Int → List Int → Int → Int → List (S93) → Option (Bool)
  | 0, _, _, _, _, _, _ => none
  | k + 1, x4, x5, x6, x9, x276000, x276001 => if x9 < x276000 then (if x9 < 8 then (laws_FnNets.j3 k x4 x5 x6 x9 (decide ((x6.length : Int) > 0)) x276000 x276001) else (laws_FnNets.j3 k x4 x5 x6 x9 false x276000 x276001)) else (laws_FnNets.j3 k x4 x5 x6 x9 false x276000 x276001)
def laws_FnNets.j3 : Nat → Int → Int → List Int → Int → Bool → Int → List (S93) → Option (Bool)
  | 0, _, _, _, _, _, _, _ => none
  | k + 1, x4, x5, x6, x9, x88, x276000, x276001 => if x88 = true then ((impl_RouteTo.f k x276000 x276001 x4 x9).bind fun t293 => ((impl_RouteTo.f k x276000 x276001 x9 x5).bind fun t296 => (if x9 = x4 then (laws_FnNets.l0 k x4 x5 x6 (wrap64 (x9 + 1)) x276000 x276001) else (if x9 = x5 then (laws_FnNets.l0 k x4 x5 x6 (wrap64 (x9 + 1)) x276000 x276001) else (if (t293.length : Int) > 0 then (if (t296.length : Int) > 0 then (if (wrap64 ((t293.length : Int) + (t296.length : Int))) < (x6.length : Int) then (some false) else (laws_FnNets.l0 k x4 x5 x6 (wrap64 (x9 + 1)) x276000 x276001)) else (laws_FnNets.l0 k x4 x5 x6 (wrap64 (x9 + 1)) x276000 x276001)) else (laws_FnNets.l0 k x4 x5 x6 (wrap64 (x9 + 1)) x276000 x276001)))))) else (if (x276001.length : Int) = 0 then (some true) else (if (x276001.length : Int) > 6 then (some true) else ((impl_RowOf.f k x6 (x276001.length : Int)).bind fun t289 => ((laws_sumOf.f k t289).bind fun t292 => (some (t292 == (x6.length : Int)))))))
end
def laws_FnNets.f (k : Nat) (l0 : List Int) : Option (Bool) := (laws_big.f l0).bind fun t268 => (if t268 = true then (some true) else ((spec_DrawRouteTo.f k l0).bind fun bt269 => ((impl_RouteTo.f k bt269.1 bt269.2.1 bt269.2.2.1 bt269.2.2.2).bind fun t276 => ((impl_IsNet.f k bt269.1 bt269.2.1).bind fun t279 => ((spec_IsNet.f k bt269.1 bt269.2.1).bind fun t280 => (if (t279 != t280) = true then (some false) else (if (t276.length : Int) > 0 then ((impl_IsPath.f k bt269.1 bt269.2.1 t276 bt269.2.2.1 bt269.2.2.2).bind fun t281 => (if t281 = true then ((impl_IsNet.f k bt269.1 bt269.2.1).bind fun t282 => (laws_FnNets.j0 k bt269.2.2.1 bt269.2.2.2 t276 (!t282) bt269.1 bt269.2.1)) else (laws_FnNets.j0 k bt269.2.2.1 bt269.2.2.2 t276 true bt269.1 bt269.2.1))) else (laws_FnNets.j0 k bt269.2.2.1 bt269.2.2.2 t276 false bt269.1 bt269.2.1))))))))
theorem laws_FnNets.mono_l : ∀ k, (∀ y0 y1 y2 y3 y4 y5, LeO (laws_FnNets.j0 k y0 y1 y2 y3 y4 y5) (laws_FnNets.j0 (k + 1) y0 y1 y2 y3 y4 y5)) ∧ (∀ y0 y1 y2 y3 y4 y5, LeO (laws_FnNets.j1 k y0 y1 y2 y3 y4 y5) (laws_FnNets.j1 (k + 1) y0 y1 y2 y3 y4 y5)) ∧ (∀ y0 y1 y2 y3 y4 y5, LeO (laws_FnNets.l0 k y0 y1 y2 y3 y4 y5) (laws_FnNets.l0 (k + 1) y0 y1 y2 y3 y4 y5)) ∧ (∀ y0 y1 y2 y3 y4 y5 y6, LeO (laws_FnNets.j3 k y0 y1 y2 y3 y4 y5 y6) (laws_FnNets.j3 (k + 1) y0 y1 y2 y3 y4 y5 y6))
  | 0 => ⟨fun _ _ _ _ _ _ r h => by simp [laws_FnNets.j0] at h, fun _ _ _ _ _ _ r h => by simp [laws_FnNets.j1] at h, fun _ _ _ _ _ _ r h => by simp [laws_FnNets.l0] at h, fun _ _ _ _ _ _ _ r h => by simp [laws_FnNets.j3] at h⟩
  | k + 1 => by
    obtain ⟨ih0, ih1, ih2, ih3⟩ := laws_FnNets.mono_l k
    refine ⟨?_, ?_, ?_, ?_⟩
    · intro y0 y1 y2 y3 y4 y5
      unfold laws_FnNets.j0
      repeat' first
      | (with_reducible exact ih0 _ _ _ _ _ _)
      | (with_reducible exact ih1 _ _ _ _ _ _)
      | (with_reducible exact ih2 _ _ _ _ _ _)
      | (with_reducible exact ih3 _ _ _ _ _ _ _)
      | (with_reducible exact impl_IsNet.mono _ _ _)
      | (with_reducible exact impl_IsPath.mono _ _ _ _ _ _)
      | (with_reducible exact impl_RouteTo.mono _ _ _ _ _)
      | (with_reducible exact impl_RowOf.mono _ _ _)
      | (with_reducible exact laws_sumOf.mono _ _)
      | (with_reducible exact spec_DrawRouteTo.mono _ _)
      | (with_reducible exact spec_IsNet.mono _ _ _)
      | (with_reducible exact LeO.refl _)
      | (with_reducible exact LeO.none _)
      | (with_reducible refine LeO.ite ?_ ?_)
      | (with_reducible refine LeO.bind ?_ (fun _ => ?_))
      | exact ih0 _ _ _ _ _ _
      | exact ih1 _ _ _ _ _ _
      | exact ih2 _ _ _ _ _ _
      | exact ih3 _ _ _ _ _ _ _
      | exact impl_IsNet.mono _ _ _
      | exact impl_IsPath.mono _ _ _ _ _ _
      | exact impl_RouteTo.mono _ _ _ _ _
      | exact impl_RowOf.mono _ _ _
      | exact laws_sumOf.mono _ _
      | exact spec_DrawRouteTo.mono _ _
      | exact spec_IsNet.mono _ _ _
      | exact LeO.none _
      | refine LeO.ite ?_ ?_
      | refine LeO.bind ?_ (fun _ => ?_)
    · intro y0 y1 y2 y3 y4 y5
      unfold laws_FnNets.j1
      repeat' first
      | (with_reducible exact ih0 _ _ _ _ _ _)
      | (with_reducible exact ih1 _ _ _ _ _ _)
      | (with_reducible exact ih2 _ _ _ _ _ _)
      | (with_reducible exact ih3 _ _ _ _ _ _ _)
      | (with_reducible exact impl_IsNet.mono _ _ _)
      | (with_reducible exact impl_IsPath.mono _ _ _ _ _ _)
      | (with_reducible exact impl_RouteTo.mono _ _ _ _ _)
      | (with_reducible exact impl_RowOf.mono _ _ _)
      | (with_reducible exact laws_sumOf.mono _ _)
      | (with_reducible exact spec_DrawRouteTo.mono _ _)
      | (with_reducible exact spec_IsNet.mono _ _ _)
      | (with_reducible exact LeO.refl _)
      | (with_reducible exact LeO.none _)
      | (with_reducible refine LeO.ite ?_ ?_)
      | (with_reducible refine LeO.bind ?_ (fun _ => ?_))
      | exact ih0 _ _ _ _ _ _
      | exact ih1 _ _ _ _ _ _
      | exact ih2 _ _ _ _ _ _
      | exact ih3 _ _ _ _ _ _ _
      | exact impl_IsNet.mono _ _ _
      | exact impl_IsPath.mono _ _ _ _ _ _
      | exact impl_RouteTo.mono _ _ _ _ _
      | exact impl_RowOf.mono _ _ _
      | exact laws_sumOf.mono _ _
      | exact spec_DrawRouteTo.mono _ _
      | exact spec_IsNet.mono _ _ _
      | exact LeO.none _
      | refine LeO.ite ?_ ?_
      | refine LeO.bind ?_ (fun _ => ?_)
    · intro y0 y1 y2 y3 y4 y5
      unfold laws_FnNets.l0
      repeat' first
      | (with_reducible exact ih0 _ _ _ _ _ _)
      | (with_reducible exact ih1 _ _ _ _ _ _)
      | (with_reducible exact ih2 _ _ _ _ _ _)
      | (with_reducible exact ih3 _ _ _ _ _ _ _)
      | (with_reducible exact impl_IsNet.mono _ _ _)
      | (with_reducible exact impl_IsPath.mono _ _ _ _ _ _)
      | (with_reducible exact impl_RouteTo.mono _ _ _ _ _)
      | (with_reducible exact impl_RowOf.mono _ _ _)
      | (with_reducible exact laws_sumOf.mono _ _)
      | (with_reducible exact spec_DrawRouteTo.mono _ _)
      | (with_reducible exact spec_IsNet.mono _ _ _)
      | (with_reducible exact LeO.refl _)
      | (with_reducible exact LeO.none _)
      | (with_reducible refine LeO.ite ?_ ?_)
      | (with_reducible refine LeO.bind ?_ (fun _ => ?_))
      | exact ih0 _ _ _ _ _ _
      | exact ih1 _ _ _ _ _ _
      | exact ih2 _ _ _ _ _ _
      | exact ih3 _ _ _ _ _ _ _
      | exact impl_IsNet.mono _ _ _
      | exact impl_IsPath.mono _ _ _ _ _ _
      | exact impl_RouteTo.mono _ _ _ _ _
      | exact impl_RowOf.mono _ _ _
      | exact laws_sumOf.mono _ _
      | exact spec_DrawRouteTo.mono _ _
      | exact spec_IsNet.mono _ _ _
      | exact LeO.none _
      | refine LeO.ite ?_ ?_
      | refine LeO.bind ?_ (fun _ => ?_)
    · intro y0 y1 y2 y3 y4 y5 y6
      unfold laws_FnNets.j3
      repeat' first
      | (with_reducible exact ih0 _ _ _ _ _ _)
      | (with_reducible exact ih1 _ _ _ _ _ _)
      | (with_reducible exact ih2 _ _ _ _ _ _)
      | (with_reducible exact ih3 _ _ _ _ _ _ _)
      | (with_reducible exact impl_IsNet.mono _ _ _)
      | (with_reducible exact impl_IsPath.mono _ _ _ _ _ _)
      | (with_reducible exact impl_RouteTo.mono _ _ _ _ _)
      | (with_reducible exact impl_RowOf.mono _ _ _)
      | (with_reducible exact laws_sumOf.mono _ _)
      | (with_reducible exact spec_DrawRouteTo.mono _ _)
      | (with_reducible exact spec_IsNet.mono _ _ _)
      | (with_reducible exact LeO.refl _)
      | (with_reducible exact LeO.none _)
      | (with_reducible refine LeO.ite ?_ ?_)
      | (with_reducible refine LeO.bind ?_ (fun _ => ?_))
      | exact ih0 _ _ _ _ _ _
      | exact ih1 _ _ _ _ _ _
      | exact ih2 _ _ _ _ _ _
      | exact ih3 _ _ _ _ _ _ _
      | exact impl_IsNet.mono _ _ _
      | exact impl_IsPath.mono _ _ _ _ _ _
      | exact impl_RouteTo.mono _ _ _ _ _
      | exact impl_RowOf.mono _ _ _
      | exact laws_sumOf.mono _ _
      | exact spec_DrawRouteTo.mono _ _
      | exact spec_IsNet.mono _ _ _
      | exact LeO.none _
      | refine LeO.ite ?_ ?_
      | refine LeO.bind ?_ (fun _ => ?_)
theorem laws_FnNets.mono : ∀ a0 k, LeO (laws_FnNets.f k a0) (laws_FnNets.f (k + 1) a0) := by
  intro a0 k
  obtain ⟨ih0, ih1, ih2, ih3⟩ := laws_FnNets.mono_l k
  unfold laws_FnNets.f
  repeat' first
      | (with_reducible exact ih0 _ _ _ _ _ _)
      | (with_reducible exact ih1 _ _ _ _ _ _)
      | (with_reducible exact ih2 _ _ _ _ _ _)
      | (with_reducible exact ih3 _ _ _ _ _ _ _)
      | (with_reducible exact impl_IsNet.mono _ _ _)
      | (with_reducible exact impl_IsPath.mono _ _ _ _ _ _)
      | (with_reducible exact impl_RouteTo.mono _ _ _ _ _)
      | (with_reducible exact impl_RowOf.mono _ _ _)
      | (with_reducible exact laws_sumOf.mono _ _)
      | (with_reducible exact spec_DrawRouteTo.mono _ _)
      | (with_reducible exact spec_IsNet.mono _ _ _)
      | (with_reducible exact LeO.refl _)
      | (with_reducible exact LeO.none _)
      | (with_reducible refine LeO.ite ?_ ?_)
      | (with_reducible refine LeO.bind ?_ (fun _ => ?_))
      | exact ih0 _ _ _ _ _ _
      | exact ih1 _ _ _ _ _ _
      | exact ih2 _ _ _ _ _ _
      | exact ih3 _ _ _ _ _ _ _
      | exact impl_IsNet.mono _ _ _
      | exact impl_IsPath.mono _ _ _ _ _ _
      | exact impl_RouteTo.mono _ _ _ _ _
      | exact impl_RowOf.mono _ _ _
      | exact laws_sumOf.mono _ _
      | exact spec_DrawRouteTo.mono _ _
      | exact spec_IsNet.mono _ _ _
      | exact LeO.none _
      | refine LeO.ite ?_ ?_
      | refine LeO.bind ?_ (fun _ => ?_)
set_option maxHeartbeats 8000000 in
set_option maxRecDepth 100000 in
theorem laws_FnNets.calls (k : Nat) (A0 : Option Addr) (c0 : Nat) (l0 : List Int) (r : Bool) (w : World) (hr0 : Kd.C (Kd.int .u8) w A0 l0.length l0) (hc0 : l0.length ≤ c0) (h : laws_FnNets.f k l0 = some r) (hrt : Aside0 (r = true)) :
    Calls Try.prog 5 #[.slice A0 l0.length c0] w fun e w' => e = .returned (.bool r) ∧ Below w.heap.size w w' := by
  have hu30 := Try.underlying30
  have HR0 := Aside0.mk hr0
  have HC0 := Aside0.mk hc0
  clear hr0 hc0
  have HB := Aside0.mk (Below.refl w.heap.size w)
  have H : ((laws_big.f l0).bind fun t268 => (if t268 = true then (some true) else ((spec_DrawRouteTo.f k l0).bind fun bt269 => ((impl_RouteTo.f k bt269.1 bt269.2.1 bt269.2.2.1 bt269.2.2.2).bind fun t276 => ((impl_IsNet.f k bt269.1 bt269.2.1).bind fun t279 => ((spec_IsNet.f k bt269.1 bt269.2.1).bind fun t280 => (if (t279 != t280) = true then (some false) else (if (t276.length : Int) > 0 then ((impl_IsPath.f k bt269.1 bt269.2.1 t276 bt269.2.2.1 bt269.2.2.2).bind fun t281 => (if t281 = true then ((impl_IsNet.f k bt269.1 bt269.2.1).bind fun t282 => (laws_FnNets.j0 k bt269.2.2.1 bt269.2.2.2 t276 (!t282) bt269.1 bt269.2.1)) else (laws_FnNets.j0 k bt269.2.2.1 bt269.2.2.2 t276 true bt269.1 bt269.2.1))) else (laws_FnNets.j0 k bt269.2.2.1 bt269.2.2.2 t276 false bt269.1 bt269.2.1))))))))) = some r := h
  clear h
  replace H := Option.bind_eq_some_iff.mp H
  obtain ⟨t268, A20, H⟩ := H
  replace H : (if t268 = true then (some true) else ((spec_DrawRouteTo.f k l0).bind fun bt269 => ((impl_RouteTo.f k bt269.1 bt269.2.1 bt269.2.2.1 bt269.2.2.2).bind fun t276 => ((impl_IsNet.f k bt269.1 bt269.2.1).bind fun t279 => ((spec_IsNet.f k bt269.1 bt269.2.1).bind fun t280 => (if (t279 != t280) = true then (some false) else (if (t276.length : Int) > 0 then ((impl_IsPath.f k bt269.1 bt269.2.1 t276 bt269.2.2.1 bt269.2.2.2).bind fun t281 => (if t281 = true then ((impl_IsNet.f k bt269.1 bt269.2.1).bind fun t282 => (laws_FnNets.j0 k bt269.2.2.1 bt269.2.2.2 t276 (!t282) bt269.1 bt269.2.1)) else (laws_FnNets.j0 k bt269.2.2.1 bt269.2.2.2 t276 true bt269.1 bt269.2.1))) else (laws_FnNets.j0 k bt269.2.2.1 bt269.2.2.2 t276 false bt269.1 bt269.2.1)))))))) = some r := H
  have A2 := Aside0.mk A20
  clear A20
  by_cases c3 : t268 = true
  · subst c3
    have H1 : (some true) = some r := by rw [if_pos rfl] at H; exact H
    clear H
    have H := H1
    clear H1
    obtain rfl := Option.some.inj H
    go_enter Try.func5, Try.ntmps5
    go_wp2_with (first | ((with_reducible refine gate_callee (f := 27) rfl ?_); refine goesL_ (some 13) rfl rfl Try.func27 (by kernel_rfl) rfl #[.slice A0 l0.length c0] rfl (by (try simp only [List.map_toArray, List.map_cons, List.map_nil]); first | done | rfl | (simp only [List.length_drop, List.length_take]; rfl)) ?_; (with_reducible refine (laws_big.calls _ _ l0 true _ ?side1 ?side2 A2.out).mono ?_); (case side1 => repeat (first | exact HR0.out | (with_reducible refine Kd.C_alloc ?_ _) | (with_reducible refine Kd.C_drewN ?_ _) | (with_reducible refine Kd.C_drew ?_))); (case side2 => exact HC0.out); rintro e w' ⟨rfl, ⟨nd, rfl⟩⟩; refine ⟨_, rfl, ?_⟩))
    go_ret
    exact ⟨by first | rfl | (simp [errW_none, errW_some] <;> rfl) | (simp [*, errW_none, errW_some] <;> rfl), by repeat (first | (with_reducible first | exact HB.out | apply below_alloc | apply pw_below_drewN | apply below_drew1) | exact HB.out)⟩
  · replace c3 := Bool.eq_false_iff.mpr c3
    subst c3
    have H1 : ((spec_DrawRouteTo.f k l0).bind fun bt269 => ((impl_RouteTo.f k bt269.1 bt269.2.1 bt269.2.2.1 bt269.2.2.2).bind fun t276 => ((impl_IsNet.f k bt269.1 bt269.2.1).bind fun t279 => ((spec_IsNet.f k bt269.1 bt269.2.1).bind fun t280 => (if (t279 != t280) = true then (some false) else (if (t276.length : Int) > 0 then ((impl_IsPath.f k bt269.1 bt269.2.1 t276 bt269.2.2.1 bt269.2.2.2).bind fun t281 => (if t281 = true then ((impl_IsNet.f k bt269.1 bt269.2.1).bind fun t282 => (laws_FnNets.j0 k bt269.2.2.1 bt269.2.2.2 t276 (!t282) bt269.1 bt269.2.1)) else (laws_FnNets.j0 k bt269.2.2.1 bt269.2.2.2 t276 true bt269.1 bt269.2.1))) else (laws_FnNets.j0 k bt269.2.2.1 bt269.2.2.2 t276 false bt269.1 bt269.2.1))))))) = some r := by rw [if_neg (show ¬ (false = true) by decide)] at H; exact H
    clear H
    have H := H1
    clear H1
    replace H := Option.bind_eq_some_iff.mp H
    obtain ⟨⟨t269, t270, t273, t274⟩, A40, H⟩ := H
    replace H : ((impl_RouteTo.f k t269 t270 t273 t274).bind fun t276 => ((impl_IsNet.f k t269 t270).bind fun t279 => ((spec_IsNet.f k t269 t270).bind fun t280 => (if (t279 != t280) = true then (some false) else (if (t276.length : Int) > 0 then ((impl_IsPath.f k t269 t270 t276 t273 t274).bind fun t281 => (if t281 = true then ((impl_IsNet.f k t269 t270).bind fun t282 => (laws_FnNets.j0 k t273 t274 t276 (!t282) t269 t270)) else (laws_FnNets.j0 k t273 t274 t276 true t269 t270))) else (laws_FnNets.j0 k t273 t274 t276 false t269 t270)))))) = some r := H
    have A4 := Aside0.mk A40
    clear A40
    replace H := Option.bind_eq_some_iff.mp H
    obtain ⟨t276, A50, H⟩ := H
    replace H : ((impl_IsNet.f k t269 t270).bind fun t279 => ((spec_IsNet.f k t269 t270).bind fun t280 => (if (t279 != t280) = true then (some false) else (if (t276.length : Int) > 0 then ((impl_IsPath.f k t269 t270 t276 t273 t274).bind fun t281 => (if t281 = true then ((impl_IsNet.f k t269 t270).bind fun t282 => (laws_FnNets.j0 k t273 t274 t276 (!t282) t269 t270)) else (laws_FnNets.j0 k t273 t274 t276 true t269 t270))) else (laws_FnNets.j0 k t273 t274 t276 false t269 t270))))) = some r := H
    have A5 := Aside0.mk A50
    clear A50
    replace H := Option.bind_eq_some_iff.mp H
    obtain ⟨t279, A60, H⟩ := H
    replace H : ((spec_IsNet.f k t269 t270).bind fun t280 => (if (t279 != t280) = true then (some false) else (if (t276.length : Int) > 0 then ((impl_IsPath.f k t269 t270 t276 t273 t274).bind fun t281 => (if t281 = true then ((impl_IsNet.f k t269 t270).bind fun t282 => (laws_FnNets.j0 k t273 t274 t276 (!t282) t269 t270)) else (laws_FnNets.j0 k t273 t274 t276 true t269 t270))) else (laws_FnNets.j0 k t273 t274 t276 false t269 t270)))) = some r := H
    have A6 := Aside0.mk A60
    clear A60
    replace H := Option.bind_eq_some_iff.mp H
    obtain ⟨t280, A70, H⟩ := H
    replace H : (if (t279 != t280) = true then (some false) else (if (t276.length : Int) > 0 then ((impl_IsPath.f k t269 t270 t276 t273 t274).bind fun t281 => (if t281 = true then ((impl_IsNet.f k t269 t270).bind fun t282 => (laws_FnNets.j0 k t273 t274 t276 (!t282) t269 t270)) else (laws_FnNets.j0 k t273 t274 t276 true t269 t270))) else (laws_FnNets.j0 k t273 t274 t276 false t269 t270))) = some r := H
    have A7 := Aside0.mk A70
    clear A70
    by_cases c8 : (t279 != t280) = true
    · rw [if_pos c8] at H
      have c8b0 : (t279 != t280) = true := c8
      (try (have c8b1 : decide (t279 = t280) = false := by simpa using c8))
      (try (have c8b2 : (t279 == t280) = false := by simpa using c8))
      (try (have c8b3 : ¬ (t279 = t280) := by simpa using c8))
      clear c8
      exact absurd ((Option.some.inj H).trans hrt.out) (by decide)
    · rw [if_neg c8] at H
      have c8b0 : (t279 != t280) = false := by simpa using c8
      (try (have c8b1 : decide (t279 = t280) = true := by simpa using c8))
      (try (have c8b2 : (t279 == t280) = true := by simpa using c8))
      clear c8
      have HC9 := Aside0.mk H
      clear H
      go_enter Try.func5, Try.ntmps5
      try go_wp2_with (first | ((with_reducible refine gate_callee (f := 27) rfl ?_); refine goesL_ (some 13) rfl rfl Try.func27 (by kernel_rfl) rfl #[.slice A0 l0.length c0] rfl (by (try simp only [List.map_toArray, List.map_cons, List.map_nil]); first | done | rfl | (simp only [List.length_drop, List.length_take]; rfl)) ?_; (with_reducible refine (laws_big.calls _ _ l0 false _ ?side1 ?side2 A2.out).mono ?_); (case side1 => repeat (first | exact HR0.out | (with_reducible refine Kd.C_alloc ?_ _) | (with_reducible refine Kd.C_drewN ?_ _) | (with_reducible refine Kd.C_drew ?_))); (case side2 => exact HC0.out); rintro e w' ⟨rfl, ⟨nd, rfl⟩⟩; refine ⟨_, rfl, ?_⟩) | ((with_reducible refine gate_callee (f := 28) rfl ?_); refine goesL_ (some 16) rfl rfl Try.func28 (by kernel_rfl) rfl #[.slice A0 l0.length c0] rfl (by (try simp only [List.map_toArray, List.map_cons, List.map_nil]); first | done | rfl | (simp only [List.length_drop, List.length_take]; rfl)) ?_; (with_reducible refine (spec_DrawRouteTo.calls k _ _ l0 t269 t270 t273 t274 _ ?side1 ?side2 A4.out).mono ?_); (case side1 => repeat (first | exact HR0.out | (with_reducible refine Kd.C_alloc ?_ _) | (with_reducible refine Kd.C_drewN ?_ _) | (with_reducible refine Kd.C_drew ?_))); (case side2 => exact HC0.out); rintro e w10 ⟨v271, rfl, ho0, hb⟩; refine ⟨_, rfl, ?_⟩; have n0_ := Aside0.mk (Kd.R_lower ho0 (below_size (by repeat (first | (with_reducible first | exact HB.out | apply below_alloc | apply pw_below_drewN | apply below_drew1) | exact HB.out)))); have n1_ := Aside0.mk (below_step (by repeat (first | (with_reducible first | exact HB.out | apply below_alloc | apply pw_below_drewN | apply below_drew1) | exact HB.out)) hb); clear HB; have HO272 := n0_; have HB := n1_; clear n0_ n1_; (try clear hb); (try clear hb2); (try clear hk); (try clear hi); (try clear ho0)) | ((with_reducible refine gate_dst (N := 3) rfl ?_); (try (refine gate_guard (by rfl) ?_; dsimp only)); refine box_event ?hg (N := 3) ?hd (cs := #[.int .i64 0, .slice none 0 0]) (t := 30) ?hr ?_; (case hd => rfl); (case hg => rfl); (case hr => first | (go_simp; done) | (go_simp; rfl)); intro gb275 hg w11 hbox hb; have n0_ := Aside0.mk (Kd.R_below (by (with_reducible repeat (first | apply Kd.R_alloc | apply Kd.R_drewN | apply Kd.R_drew)); exact HO272.out) hb); have n1_ := Aside0.mk (below_step (by repeat (first | (with_reducible first | exact HB.out | apply below_alloc | apply pw_below_drewN | apply below_drew1) | exact HB.out)) hb); have n2_ := Aside0.mk (hbox); have n3_ := Aside0.mk ((by rw [hg]; exact (below_size (by repeat (first | (with_reducible first | exact HB.out | apply below_alloc | apply pw_below_drewN | apply below_drew1) | exact HB.out))) : w.heap.size ≤ gb275)); have n4_ := Aside0.mk ((by rw [hg]; exact (below_size (by repeat (first | (with_reducible first | exact HB.out | apply below_alloc | apply pw_below_drewN | apply below_drew1) | exact HB.out))) : w.heap.size ≤ gb275)); clear HO272; clear HB; have HO272 := n0_; have HB := n1_; have BK275 := n2_; have GW275 := n3_; have GE275 := n4_; clear n0_ n1_ n2_ n3_ n4_; clear hb hbox hg; have hcz12_0 : w11.cell? ⟨gb275, 0, none⟩ = some (.int .i64 0) := (blk_cell BK275.out 0).trans rfl; have hcz12_1 : w11.cell? ⟨gb275, 1, none⟩ = some (.slice none 0 0) := (blk_cell BK275.out 1).trans rfl; have hfz12_0 := blk_frozen BK275.out 0; have hfz12_1 := blk_frozen BK275.out 1; obtain ⟨Ao13, co13, eo13⟩ := Kd.R_slice HO272.out; subst eo13) | ((with_reducible refine gate_callee (f := 16) rfl ?_); refine goesL_ (some 23) rfl rfl Try.func16 (by kernel_rfl) rfl #[.agg #[.int .i64 t269, .slice Ao13 t270.length co13], .int .i64 t273, .int .i64 t274] rfl (by (try simp only [List.map_toArray, List.map_cons, List.map_nil]); first | done | rfl | (simp only [List.length_drop, List.length_take]; rfl)) ?_; (with_reducible refine (impl_RouteTo.calls k t269 _ _ t270 t273 t274 t276 _ ?side1 ?side2 A5.out).mono ?_); (case side1 => refine (Kd.R_reads' (e := 93) (base := w.heap.size) (ok := fun k_ => True) (n := t270.length) (c := co13) ?_).2.2; exact (by (with_reducible repeat (first | apply Kd.R_alloc | apply Kd.R_drewN | apply Kd.R_drew)); exact (Kd.R_mono (Kd.R_far (p := ⟨gb275, 1, none⟩) (Kd.R_far (p := ⟨gb275, 0, none⟩) (Kd.R_types HO272.out BK275.out (by decide)) (fun _ hk => hk.2) (.int .i64 t269)) (fun _ hk => hk.2) (.slice Ao13 t270.length co13)) (fun _ h_ => h_.1)))); (case side2 => exact (Kd.R_reads' HO272.out).2.1); rintro e w14 ⟨v277, rfl, ho0, hb⟩; refine ⟨_, rfl, ?_⟩; have n0_ := Aside0.mk (Kd.R_below (by (with_reducible repeat (first | apply Kd.R_alloc | apply Kd.R_drewN | apply Kd.R_drew)); exact (Kd.R_mono (Kd.R_far (p := ⟨gb275, 1, none⟩) (Kd.R_far (p := ⟨gb275, 0, none⟩) (Kd.R_types HO272.out BK275.out (by decide)) (fun _ hk => hk.2) (.int .i64 t269)) (fun _ hk => hk.2) (.slice Ao13 t270.length co13)) (fun _ h_ => h_.1))) hb); have n1_ := Aside0.mk (Kd.R_lower ho0 (below_size (by repeat (first | (with_reducible first | exact HB.out | apply below_alloc | apply pw_below_drewN | apply below_drew1 | refine below_set ?_ GE275.out) | exact HB.out)))); have n2_ := Aside0.mk (blk_below (g := gb275) (o := .cells #[.int .i64 t269, .slice Ao13 t270.length co13] 30 (0, 0)) (by (with_reducible repeat (first | refine blk_drewN ?_ _ | refine blk_drew ?_ | refine blk_alloc ?_ _)); refine blk_put (cs := #[.int .i64 t269, .slice none 0 0]) ?_ 1 _ rfl; (with_reducible repeat (first | refine blk_drewN ?_ _ | refine blk_drew ?_ | refine blk_alloc ?_ _)); refine blk_put (cs := #[.int .i64 0, .slice none 0 0]) ?_ 0 _ rfl; (with_reducible repeat (first | refine blk_drewN ?_ _ | refine blk_drew ?_ | refine blk_alloc ?_ _)); exact BK275.out) hb); have n3_ := Aside0.mk (below_step (by repeat (first | (with_reducible first | exact HB.out | apply below_alloc | apply pw_below_drewN | apply below_drew1 | refine below_set ?_ GE275.out) | exact HB.out)) hb); clear HO272; clear BK275; clear HB; have HO272 := n0_; have HO278 := n1_; have BK275 := n2_; have HB := n3_; clear n0_ n1_ n2_ n3_; (try clear hb); (try clear hb2); (try clear hk); (try clear hi); (try clear ho0)))
      have n0_ := Aside0.mk (Kd.R_drew HO272.out)
      have n1_ := Aside0.mk (Kd.R_drew HO278.out)
      have n2_ := Aside0.mk (blk_drew BK275.out)
      have n3_ := Aside0.mk (below_drew1 HB.out)
      clear HO272
      clear HO278
      clear BK275
      clear HB
      have HO272 := n0_
      have HO278 := n1_
      have BK275 := n2_
      have HB := n3_
      clear n0_ n1_ n2_ n3_
      refine start_ (n := 5) (S := fun w' => w'.cell? ⟨gb275, 0, none⟩ = some (.int .i64 t269) ∧ w'.cell? ⟨gb275, 1, none⟩ = some (.slice Ao13 t270.length co13)) (ds := []) #[false, false, false, false, false] (by kernel_rfl) rfl rfl ⟨(blk_cell BK275.out 0).trans rfl, (blk_cell BK275.out 1).trans rfl⟩ (fun hHeld => ?_)
      generalize w14.drew = w15 at HO272 HO278 BK275 HB hHeld ⊢
      refine take_ (i := 0) (N := some 24) (v := ?_) (a' := ?_) #[true, false, false, false, false] rfl rfl (by kernel_rfl) (fun _ _ _ h => h) (Or.inl ⟨by rfl, ?_⟩) hHeld ?_ ?_
      rotate_left
      · rintro w' ⟨s0, s1⟩
        go_simp
        with_reducible rfl
      rotate_left
      · simp only [Act.put, List.setIfInBounds_toArray, List.set_cons_zero, List.set_cons_succ, i64_w, i32_w]
        rfl
      refine take_ (i := 2) (N := some 26) (v := ?_) (a' := ?_) #[true, false, true, false, false] rfl rfl (by kernel_rfl) (fun _ _ _ h => h) (Or.inl ⟨by rfl, ?_⟩) hHeld ?_ ?_
      rotate_left
      · rintro w' ⟨s0, s1⟩
        go_simp
        with_reducible rfl
      rotate_left
      · simp only [Act.put, List.setIfInBounds_toArray, List.set_cons_zero, List.set_cons_succ, i64_w, i32_w]
        rfl
      refine one_ (i := 1) (N := some 25) #[true, true, true, false, false] rfl rfl (by kernel_rfl) (by decide) (fun K hK => ?_)
      refine goes_ Try.func29 (by kernel_rfl) rfl #[.agg #[.int .i64 t269, .slice Ao13 t270.length co13]] (by rfl) rfl rfl (by (try simp only [List.map_toArray, List.map_cons, List.map_nil]); first | done | rfl | (simp only [List.length_drop, List.length_take]; rfl)) ?_
      with_reducible refine (impl_IsNet.calls k t269 _ _ t270 t279 _ ?side1 ?side2 A6.out).mono ?_
      (case side1 => repeat (first | exact (Kd.R_reads' HO272.out).2.2 | (with_reducible refine Kd.C_alloc ?_ _) | (with_reducible refine Kd.C_drewN ?_ _) | (with_reducible refine Kd.C_drew ?_)))
      (case side2 => exact (Kd.R_reads' HO272.out).2.1)
      rintro e w16 ⟨rfl, hb⟩
      refine ⟨_, rfl, ?_⟩
      have n0_ := Aside0.mk (Kd.R_below (by (with_reducible repeat (first | apply Kd.R_alloc | apply Kd.R_drewN | apply Kd.R_drew)); exact HO272.out) hb)
      have n1_ := Aside0.mk (Kd.R_below (by (with_reducible repeat (first | apply Kd.R_alloc | apply Kd.R_drewN | apply Kd.R_drew)); exact HO278.out) hb)
      have n2_ := Aside0.mk (blk_below (g := gb275) (o := .cells #[.int .i64 t269, .slice Ao13 t270.length co13] 30 (0, 0)) (by (with_reducible repeat (first | refine blk_drewN ?_ _ | refine blk_drew ?_ | refine blk_alloc ?_ _)); exact BK275.out) hb)
      have n3_ := Aside0.mk (below_step (by repeat (first | (with_reducible first | exact HB.out | apply below_alloc | apply pw_below_drewN | apply below_drew1 | refine below_set ?_ GE275.out) | exact HB.out)) hb)
      clear HO272
      clear HO278
      clear BK275
      clear HB
      have HO272 := n0_
      have HO278 := n1_
      have BK275 := n2_
      have HB := n3_
      clear n0_ n1_ n2_ n3_
      (try clear hb)
      (try clear hb2)
      (try clear hk)
      (try clear hi)
      refine hK.out _ _ ⟨(blk_cell BK275.out 0).trans rfl, (blk_cell BK275.out 1).trans rfl⟩ (fun hHeld => ?_)
      clear hK K
      refine norm_ (a' := ?_) ?_ ?_
      rotate_left
      · show Act.put _ (some 25) _ = _
        simp only [Act.put, List.setIfInBounds_toArray, List.set_cons_zero, List.set_cons_succ, i64_w, i32_w]
        rfl
      refine one_ (i := 3) (N := some 27) #[true, true, true, true, false] rfl rfl (by kernel_rfl) (by decide) (fun K hK => ?_)
      refine goes_ Try.func30 (by kernel_rfl) rfl #[.agg #[.int .i64 t269, .slice Ao13 t270.length co13]] (by rfl) rfl rfl (by (try simp only [List.map_toArray, List.map_cons, List.map_nil]); first | done | rfl | (simp only [List.length_drop, List.length_take]; rfl)) ?_
      with_reducible refine (spec_IsNet.calls k t269 _ _ t270 t280 _ ?side1 ?side2 A7.out).mono ?_
      (case side1 => repeat (first | exact (Kd.R_reads' HO272.out).2.2 | (with_reducible refine Kd.C_alloc ?_ _) | (with_reducible refine Kd.C_drewN ?_ _) | (with_reducible refine Kd.C_drew ?_)))
      (case side2 => exact (Kd.R_reads' HO272.out).2.1)
      rintro e w17 ⟨rfl, hb⟩
      refine ⟨_, rfl, ?_⟩
      have n0_ := Aside0.mk (Kd.R_below (by (with_reducible repeat (first | apply Kd.R_alloc | apply Kd.R_drewN | apply Kd.R_drew)); exact HO272.out) hb)
      have n1_ := Aside0.mk (Kd.R_below (by (with_reducible repeat (first | apply Kd.R_alloc | apply Kd.R_drewN | apply Kd.R_drew)); exact HO278.out) hb)
      have n2_ := Aside0.mk (blk_below (g := gb275) (o := .cells #[.int .i64 t269, .slice Ao13 t270.length co13] 30 (0, 0)) (by (with_reducible repeat (first | refine blk_drewN ?_ _ | refine blk_drew ?_ | refine blk_alloc ?_ _)); exact BK275.out) hb)
      have n3_ := Aside0.mk (below_step (by repeat (first | (with_reducible first | exact HB.out | apply below_alloc | apply pw_below_drewN | apply below_drew1 | refine below_set ?_ GE275.out) | exact HB.out)) hb)
      clear HO272
      clear HO278
      clear BK275
      clear HB
      have HO272 := n0_
      have HO278 := n1_
      have BK275 := n2_
      have HB := n3_
      clear n0_ n1_ n2_ n3_
      (try clear hb)
      (try clear hb2)
      (try clear hk)
      (try clear hi)
      refine hK.out _ _ ⟨(blk_cell BK275.out 0).trans rfl, (blk_cell BK275.out 1).trans rfl⟩ (fun hHeld => ?_)
      clear hK K
      refine norm_ (a' := ?_) ?_ ?_
      rotate_left
      · show Act.put _ (some 27) _ = _
        simp only [Act.put, List.setIfInBounds_toArray, List.set_cons_zero, List.set_cons_succ, i64_w, i32_w]
        rfl
      refine pure_ (i := 4) (N := some 28) (v := ?_) (a' := ?_) #[true, true, true, true, true] rfl rfl (by kernel_rfl) (fun _ _ _ h => h) (Or.inl ⟨by rfl, ?_⟩) ?_ ?_
      rotate_left
      · intro w'
        go_simp
        with_reducible rfl
      rotate_left
      · simp only [Act.put, List.setIfInBounds_toArray, List.set_cons_zero, List.set_cons_succ, i64_w, i32_w]
        rfl
      refine done_ (by kernel_rfl) ?_
      go_upto_region 7 with (fail)
      go_cut [44] (fun v44 wc => ∃ (kq : Nat) (x44_8 : Bool), v44 = .bool x44_8 ∧ Aside0 (laws_FnNets.j0 kq t273 t274 t276 x44_8 t269 t270 = some r) ∧ Aside0 (kq ≤ k) ∧ Aside0 (Kd.R (Kd.int .i64) 3 wc w.heap.size (fun _ => True) v277 t276) ∧ Aside0 (Kd.R k93 93 wc w.heap.size (fun _ => True) (.slice Ao13 t270.length co13) t270) ∧ Aside0 (wc.heap[gb275]? = some (.cells #[.int .i64 t269, (.slice Ao13 t270.length co13)] 30 (0, 0))) ∧ Aside0 (Below w.heap.size w wc))
      case first =>
        have H := HC9.out
        clear HC9
        by_cases c18 : (t276.length : Int) > 0
        · rw [if_pos c18] at H
          have c18b0 : decide (0 < (t276.length : Int)) = true := decide_eq_true c18
          have c18b1 : decide (0 < t276.length) = true := decide_eq_true (by omega)
          clear c18
          (first | rw [c18b0] | (simp only [i64_w, i32_w]; rw [c18b0]) | skip)
          replace H := Option.bind_eq_some_iff.mp H
          obtain ⟨t281, A190, H⟩ := H
          replace H : (if t281 = true then ((impl_IsNet.f k t269 t270).bind fun t282 => (laws_FnNets.j0 k t273 t274 t276 (!t282) t269 t270)) else (laws_FnNets.j0 k t273 t274 t276 true t269 t270)) = some r := H
          have A19 := Aside0.mk A190
          clear A190
          by_cases c20 : t281 = true
          · subst c20
            have H1 : ((impl_IsNet.f k t269 t270).bind fun t282 => (laws_FnNets.j0 k t273 t274 t276 (!t282) t269 t270)) = some r := by rw [if_pos rfl] at H; exact H
            clear H
            have H := H1
            clear H1
            replace H := Option.bind_eq_some_iff.mp H
            obtain ⟨t282, A210, H⟩ := H
            replace H : (laws_FnNets.j0 k t273 t274 t276 (!t282) t269 t270) = some r := H
            have A21 := Aside0.mk A210
            clear A210
            have H' := Aside0.mk H
            clear H
            obtain ⟨Ao22, co22, eo22⟩ := Kd.R_slice HO278.out
            subst eo22
            have hcz23_0 : w17.cell? ⟨gb275, 0, none⟩ = some (.int .i64 t269) := (blk_cell BK275.out 0).trans rfl
            have hcz23_1 : w17.cell? ⟨gb275, 1, none⟩ = some (.slice Ao13 t270.length co13) := (blk_cell BK275.out 1).trans rfl
            have hfz23_0 := blk_frozen BK275.out 0
            have hfz23_1 := blk_frozen BK275.out 1
            go_wp2_with (first | (go_at_call 31; (with_reducible refine (impl_IsPath.calls k t269 _ _ t270 _ _ t276 t273 t274 true _ ?side1 ?side2 ?side3 ?side4 A19.out).mono ?_); (case side1 => repeat (first | exact (Kd.R_reads' HO272.out).2.2 | (with_reducible refine Kd.C_alloc ?_ _) | (with_reducible refine Kd.C_drewN ?_ _) | (with_reducible refine Kd.C_drew ?_))); (case side2 => exact (Kd.R_reads' HO272.out).2.1); (case side3 => repeat (first | exact (Kd.R_reads' HO278.out).2.2 | (with_reducible refine Kd.C_alloc ?_ _) | (with_reducible refine Kd.C_drewN ?_ _) | (with_reducible refine Kd.C_drew ?_))); (case side4 => exact (Kd.R_reads' HO278.out).2.1); rintro e w24 ⟨rfl, hb⟩; have n0_ := Aside0.mk (Kd.R_below (by (with_reducible repeat (first | apply Kd.R_alloc | apply Kd.R_drewN | apply Kd.R_drew)); exact HO272.out) hb); have n1_ := Aside0.mk (Kd.R_below (by (with_reducible repeat (first | apply Kd.R_alloc | apply Kd.R_drewN | apply Kd.R_drew)); exact HO278.out) hb); have n2_ := Aside0.mk (blk_below (g := gb275) (o := .cells #[.int .i64 t269, .slice Ao13 t270.length co13] 30 (0, 0)) (by (with_reducible repeat (first | refine blk_drewN ?_ _ | refine blk_drew ?_ | refine blk_alloc ?_ _)); exact BK275.out) hb); have n3_ := Aside0.mk (below_step (by repeat (first | (with_reducible first | exact HB.out | apply below_alloc | apply pw_below_drewN | apply below_drew1 | refine below_set ?_ GE275.out) | exact HB.out)) hb); clear HO272; clear HO278; clear BK275; clear HB; have HO272 := n0_; have HO278 := n1_; have BK275 := n2_; have HB := n3_; clear n0_ n1_ n2_ n3_; (try clear hb); (try clear hb2); (try clear hk); (try clear hi); have hcz25_0 : w24.cell? ⟨gb275, 0, none⟩ = some (.int .i64 t269) := (blk_cell BK275.out 0).trans rfl; have hcz25_1 : w24.cell? ⟨gb275, 1, none⟩ = some (.slice Ao13 t270.length co13) := (blk_cell BK275.out 1).trans rfl; have hfz25_0 := blk_frozen BK275.out 0; have hfz25_1 := blk_frozen BK275.out 1) | (go_at_call 29; (with_reducible refine (impl_IsNet.calls k t269 _ _ t270 t282 _ ?side1 ?side2 A21.out).mono ?_); (case side1 => repeat (first | exact (Kd.R_reads' HO272.out).2.2 | (with_reducible refine Kd.C_alloc ?_ _) | (with_reducible refine Kd.C_drewN ?_ _) | (with_reducible refine Kd.C_drew ?_))); (case side2 => exact (Kd.R_reads' HO272.out).2.1); rintro e w26 ⟨rfl, hb⟩; have n0_ := Aside0.mk (Kd.R_below (by (with_reducible repeat (first | apply Kd.R_alloc | apply Kd.R_drewN | apply Kd.R_drew)); exact HO272.out) hb); have n1_ := Aside0.mk (Kd.R_below (by (with_reducible repeat (first | apply Kd.R_alloc | apply Kd.R_drewN | apply Kd.R_drew)); exact HO278.out) hb); have n2_ := Aside0.mk (blk_below (g := gb275) (o := .cells #[.int .i64 t269, .slice Ao13 t270.length co13] 30 (0, 0)) (by (with_reducible repeat (first | refine blk_drewN ?_ _ | refine blk_drew ?_ | refine blk_alloc ?_ _)); exact BK275.out) hb); have n3_ := Aside0.mk (below_step (by repeat (first | (with_reducible first | exact HB.out | apply below_alloc | apply pw_below_drewN | apply below_drew1 | refine below_set ?_ GE275.out) | exact HB.out)) hb); clear HO272; clear HO278; clear BK275; clear HB; have HO272 := n0_; have HO278 := n1_; have BK275 := n2_; have HB := n3_; clear n0_ n1_ n2_ n3_; (try clear hb); (try clear hb2); (try clear hk); (try clear hi)))
            go_meet
            case rel => exact ⟨_, (!t282), (by first | rfl | (simp; done) | (simp [*]; done)), H', ⟨by first | omega | exact Nat.le_refl _⟩, ⟨by (with_reducible repeat (first | apply Kd.R_alloc | apply Kd.R_drewN | apply Kd.R_drew)); exact HO278.out⟩, ⟨by (with_reducible repeat (first | apply Kd.R_alloc | apply Kd.R_drewN | apply Kd.R_drew)); exact HO272.out⟩, ⟨by (with_reducible repeat (first | refine blk_drewN ?_ _ | refine blk_drew ?_ | refine blk_alloc ?_ _)); exact BK275.out⟩, ⟨by repeat (first | (with_reducible first | exact HB.out | apply below_alloc | apply pw_below_drewN | apply below_drew1 | refine below_set ?_ GE275.out) | exact HB.out)⟩⟩
          · replace c20 := Bool.eq_false_iff.mpr c20
            subst c20
            have H1 : (laws_FnNets.j0 k t273 t274 t276 true t269 t270) = some r := by rw [if_neg (show ¬ (false = true) by decide)] at H; exact H
            clear H
            have H := H1
            clear H1
            have H' := Aside0.mk H
            clear H
            obtain ⟨Ao27, co27, eo27⟩ := Kd.R_slice HO278.out
            subst eo27
            have hcz28_0 : w17.cell? ⟨gb275, 0, none⟩ = some (.int .i64 t269) := (blk_cell BK275.out 0).trans rfl
            have hcz28_1 : w17.cell? ⟨gb275, 1, none⟩ = some (.slice Ao13 t270.length co13) := (blk_cell BK275.out 1).trans rfl
            have hfz28_0 := blk_frozen BK275.out 0
            have hfz28_1 := blk_frozen BK275.out 1
            go_wp2_with (first | (go_at_call 31; (with_reducible refine (impl_IsPath.calls k t269 _ _ t270 _ _ t276 t273 t274 false _ ?side1 ?side2 ?side3 ?side4 A19.out).mono ?_); (case side1 => repeat (first | exact (Kd.R_reads' HO272.out).2.2 | (with_reducible refine Kd.C_alloc ?_ _) | (with_reducible refine Kd.C_drewN ?_ _) | (with_reducible refine Kd.C_drew ?_))); (case side2 => exact (Kd.R_reads' HO272.out).2.1); (case side3 => repeat (first | exact (Kd.R_reads' HO278.out).2.2 | (with_reducible refine Kd.C_alloc ?_ _) | (with_reducible refine Kd.C_drewN ?_ _) | (with_reducible refine Kd.C_drew ?_))); (case side4 => exact (Kd.R_reads' HO278.out).2.1); rintro e w29 ⟨rfl, hb⟩; have n0_ := Aside0.mk (Kd.R_below (by (with_reducible repeat (first | apply Kd.R_alloc | apply Kd.R_drewN | apply Kd.R_drew)); exact HO272.out) hb); have n1_ := Aside0.mk (Kd.R_below (by (with_reducible repeat (first | apply Kd.R_alloc | apply Kd.R_drewN | apply Kd.R_drew)); exact HO278.out) hb); have n2_ := Aside0.mk (blk_below (g := gb275) (o := .cells #[.int .i64 t269, .slice Ao13 t270.length co13] 30 (0, 0)) (by (with_reducible repeat (first | refine blk_drewN ?_ _ | refine blk_drew ?_ | refine blk_alloc ?_ _)); exact BK275.out) hb); have n3_ := Aside0.mk (below_step (by repeat (first | (with_reducible first | exact HB.out | apply below_alloc | apply pw_below_drewN | apply below_drew1 | refine below_set ?_ GE275.out) | exact HB.out)) hb); clear HO272; clear HO278; clear BK275; clear HB; have HO272 := n0_; have HO278 := n1_; have BK275 := n2_; have HB := n3_; clear n0_ n1_ n2_ n3_; (try clear hb); (try clear hb2); (try clear hk); (try clear hi)))
            go_meet
            case rel => exact ⟨_, (true), (by first | rfl | (simp; done) | (simp [*]; done)), H', ⟨by first | omega | exact Nat.le_refl _⟩, ⟨by (with_reducible repeat (first | apply Kd.R_alloc | apply Kd.R_drewN | apply Kd.R_drew)); exact HO278.out⟩, ⟨by (with_reducible repeat (first | apply Kd.R_alloc | apply Kd.R_drewN | apply Kd.R_drew)); exact HO272.out⟩, ⟨by (with_reducible repeat (first | refine blk_drewN ?_ _ | refine blk_drew ?_ | refine blk_alloc ?_ _)); exact BK275.out⟩, ⟨by repeat (first | (with_reducible first | exact HB.out | apply below_alloc | apply pw_below_drewN | apply below_drew1 | refine below_set ?_ GE275.out) | exact HB.out)⟩⟩
        · rw [if_neg c18] at H
          have c18b0 : decide (0 < (t276.length : Int)) = false := decide_eq_false c18
          have c18b1 : decide (0 < t276.length) = false := decide_eq_false (by omega)
          clear c18
          (first | rw [c18b0] | (simp only [i64_w, i32_w]; rw [c18b0]) | skip)
          have H' := Aside0.mk H
          clear H
          obtain ⟨Ao30, co30, eo30⟩ := Kd.R_slice HO278.out
          subst eo30
          go_wp2
          go_meet
          case rel => exact ⟨_, (false), (by first | rfl | (simp; done) | (simp [*]; done)), H', ⟨by first | omega | exact Nat.le_refl _⟩, ⟨by (with_reducible repeat (first | apply Kd.R_alloc | apply Kd.R_drewN | apply Kd.R_drew)); exact HO278.out⟩, ⟨by (with_reducible repeat (first | apply Kd.R_alloc | apply Kd.R_drewN | apply Kd.R_drew)); exact HO272.out⟩, ⟨by (with_reducible repeat (first | refine blk_drewN ?_ _ | refine blk_drew ?_ | refine blk_alloc ?_ _)); exact BK275.out⟩, ⟨by repeat (first | (with_reducible first | exact HB.out | apply below_alloc | apply pw_below_drewN | apply below_drew1 | refine below_set ?_ GE275.out) | exact HB.out)⟩⟩
      case rest =>
        clear HC9
        try clear c1
        try clear c2
        try clear p2
        try clear c3
        try clear c5
        try clear c8
        try clear c8b0
        try clear c8b1
        try clear c8b2
        try clear c16
        try clear c18
        try clear c18b0
        try clear c18b1
        try clear c20
        try clear c27
        try clear c28
        try clear c29
        try clear c30
        try clear hcz12_0
        try clear hcz12_1
        try clear hcz23_0
        try clear hcz23_1
        try clear hcz25_0
        try clear hcz25_1
        try clear hcz28_0
        try clear hcz28_1
        try clear hfz12_0
        try clear hfz12_1
        try clear hfz23_0
        try clear hfz23_1
        try clear hfz25_0
        try clear hfz25_1
        try clear hfz28_0
        try clear hfz28_1
        obtain ⟨kq, x44_8, rfl, HA, HJ8, HO_6, HO_276001, BK275, HB⟩ := hcut
        cases kq with
        | zero => exact absurd HA.out (by simp [laws_FnNets.j0])
        | succ kj8 =>
          have H := HA.out
          clear HA
          simp only [laws_FnNets.j0] at H
          by_cases c31 : x44_8 = true
          · subst c31
            have H1 : (some false) = some r := by rw [if_pos rfl] at H; exact H
            clear H
            have H := H1
            clear H1
            exact absurd ((Option.some.inj H).trans hrt.out) (by decide)
          · replace c31 := Bool.eq_false_iff.mpr c31
            subst c31
            have H1 : ((impl_LinkOf.f t269 t270 t273 t274).bind fun t283 => ((impl_IsNet.f kj8 t269 t270).bind fun t284 => (if t284 = true then (if t283 ≥ 0 then (if (t276.length : Int) = 1 then (if 0 < (t276.length : Int) then (laws_FnNets.j1 kj8 t273 t274 t276 ((rd t276 0) != t283) t269 t270) else (none)) else (laws_FnNets.j1 kj8 t273 t274 t276 true t269 t270)) else (laws_FnNets.j1 kj8 t273 t274 t276 false t269 t270)) else (laws_FnNets.j1 kj8 t273 t274 t276 false t269 t270)))) = some r := by rw [if_neg (show ¬ (false = true) by decide)] at H; exact H
            clear H
            have H := H1
            clear H1
            replace H := Option.bind_eq_some_iff.mp H
            obtain ⟨t283, A320, H⟩ := H
            replace H : ((impl_IsNet.f kj8 t269 t270).bind fun t284 => (if t284 = true then (if t283 ≥ 0 then (if (t276.length : Int) = 1 then (if 0 < (t276.length : Int) then (laws_FnNets.j1 kj8 t273 t274 t276 ((rd t276 0) != t283) t269 t270) else (none)) else (laws_FnNets.j1 kj8 t273 t274 t276 true t269 t270)) else (laws_FnNets.j1 kj8 t273 t274 t276 false t269 t270)) else (laws_FnNets.j1 kj8 t273 t274 t276 false t269 t270))) = some r := H
            have A32 := Aside0.mk A320
            clear A320
            have HC33 := Aside0.mk H
            clear H
            have hcz34_0 : wc.cell? ⟨gb275, 0, none⟩ = some (.int .i64 t269) := (blk_cell BK275.out 0).trans rfl
            have hcz34_1 : wc.cell? ⟨gb275, 1, none⟩ = some (.slice Ao13 t270.length co13) := (blk_cell BK275.out 1).trans rfl
            have hfz34_0 := blk_frozen BK275.out 0
            have hfz34_1 := blk_frozen BK275.out 1
            go_upto_region 10 with (first | ((with_reducible refine gate_callee (f := 32) rfl ?_); refine goesL_ (some 48) rfl rfl Try.func32 (by kernel_rfl) rfl #[.agg #[.int .i64 t269, .slice Ao13 t270.length co13], .int .i64 t273, .int .i64 t274] rfl (by (try simp only [List.map_toArray, List.map_cons, List.map_nil]); first | done | rfl | (simp only [List.length_drop, List.length_take]; rfl)) ?_; (with_reducible refine (impl_LinkOf.calls t269 _ _ t270 t273 t274 t283 _ ?side1 ?side2 A32.out).mono ?_); (case side1 => repeat (first | exact (Kd.R_reads' HO_276001.out).2.2 | (with_reducible refine Kd.C_alloc ?_ _) | (with_reducible refine Kd.C_drewN ?_ _) | (with_reducible refine Kd.C_drew ?_))); (case side2 => exact (Kd.R_reads' HO_276001.out).2.1); rintro e w35 ⟨rfl, hb⟩; refine ⟨_, rfl, ?_⟩; have n0_ := Aside0.mk (Kd.R_below (by (with_reducible repeat (first | apply Kd.R_alloc | apply Kd.R_drewN | apply Kd.R_drew)); exact HO_6.out) hb); have n1_ := Aside0.mk (Kd.R_below (by (with_reducible repeat (first | apply Kd.R_alloc | apply Kd.R_drewN | apply Kd.R_drew)); exact HO_276001.out) hb); have n2_ := Aside0.mk (blk_below (g := gb275) (o := .cells #[.int .i64 t269, .slice Ao13 t270.length co13] 30 (0, 0)) (by (with_reducible repeat (first | refine blk_drewN ?_ _ | refine blk_drew ?_ | refine blk_alloc ?_ _)); exact BK275.out) hb); have n3_ := Aside0.mk (below_step (by repeat (first | (with_reducible first | exact HB.out | apply below_alloc | apply pw_below_drewN | apply below_drew1 | refine below_set ?_ GE275.out) | exact HB.out)) hb); clear HO_6; clear HO_276001; clear BK275; clear HB; have HO_6 := n0_; have HO_276001 := n1_; have BK275 := n2_; have HB := n3_; clear n0_ n1_ n2_ n3_; (try clear hb); (try clear hb2); (try clear hk); (try clear hi)))
            (try simp only [Act.put, List.setIfInBounds_toArray, List.set_cons_zero, List.set_cons_succ])
            go_cut [66] (fun v66 wc => ∃ (kq : Nat) (x66_32 : Bool), v66 = .bool x66_32 ∧ Aside0 (laws_FnNets.j1 kq t273 t274 t276 x66_32 t269 t270 = some r) ∧ Aside0 (kq ≤ kj8) ∧ Aside0 (Kd.R (Kd.int .i64) 3 wc w.heap.size (fun _ => True) v277 t276) ∧ Aside0 (Kd.R k93 93 wc w.heap.size (fun _ => True) (.slice Ao13 t270.length co13) t270) ∧ Aside0 (wc.heap[gb275]? = some (.cells #[.int .i64 t269, (.slice Ao13 t270.length co13)] 30 (0, 0))) ∧ Aside0 (Below w.heap.size w wc))
            case first =>
              have H := HC33.out
              clear HC33
              replace H := Option.bind_eq_some_iff.mp H
              obtain ⟨t284, A360, H⟩ := H
              replace H : (if t284 = true then (if t283 ≥ 0 then (if (t276.length : Int) = 1 then (if 0 < (t276.length : Int) then (laws_FnNets.j1 kj8 t273 t274 t276 ((rd t276 0) != t283) t269 t270) else (none)) else (laws_FnNets.j1 kj8 t273 t274 t276 true t269 t270)) else (laws_FnNets.j1 kj8 t273 t274 t276 false t269 t270)) else (laws_FnNets.j1 kj8 t273 t274 t276 false t269 t270)) = some r := H
              have A36 := Aside0.mk A360
              clear A360
              by_cases c37 : t284 = true
              · subst c37
                have H1 : (if t283 ≥ 0 then (if (t276.length : Int) = 1 then (if 0 < (t276.length : Int) then (laws_FnNets.j1 kj8 t273 t274 t276 ((rd t276 0) != t283) t269 t270) else (none)) else (laws_FnNets.j1 kj8 t273 t274 t276 true t269 t270)) else (laws_FnNets.j1 kj8 t273 t274 t276 false t269 t270)) = some r := by rw [if_pos rfl] at H; exact H
                clear H
                have H := H1
                clear H1
                by_cases c38 : t283 ≥ 0
                · rw [if_pos c38] at H
                  have c38b0 : decide (0 ≤ t283) = true := decide_eq_true c38
                  clear c38
                  (first | rw [c38b0] | (simp only [i64_w, i32_w]; rw [c38b0]) | skip)
                  by_cases c39 : (t276.length : Int) = 1
                  · rw [if_pos c39] at H
                    have c39b0 : ((t276.length : Int) == 1) = true := beq_iff_eq.mpr c39
                    have c39b1 : ((t276.length : Int) != 1) = false := bne_eq_false_iff_eq.mpr c39
                    clear c39
                    by_cases c40 : 0 < (t276.length : Int)
                    · rw [if_pos c40] at H
                      have c40b0 : decide (0 < (t276.length : Int)) = true := decide_eq_true c40
                      have c40b1 : decide (0 < t276.length) = true := decide_eq_true (by omega)
                      clear c40
                      have H' := Aside0.mk H
                      clear H
                      have hcz41_0 : w35.cell? ⟨gb275, 0, none⟩ = some (.int .i64 t269) := (blk_cell BK275.out 0).trans rfl
                      have hcz41_1 : w35.cell? ⟨gb275, 1, none⟩ = some (.slice Ao13 t270.length co13) := (blk_cell BK275.out 1).trans rfl
                      have hfz41_0 := blk_frozen BK275.out 0
                      have hfz41_1 := blk_frozen BK275.out 1
                      go_wp2_with (first | ((with_reducible refine gate_callee (f := 29) rfl ?_); refine goesL_ (some 50) rfl rfl Try.func29 (by kernel_rfl) rfl #[.agg #[.int .i64 t269, .slice Ao13 t270.length co13]] rfl (by (try simp only [List.map_toArray, List.map_cons, List.map_nil]); first | done | rfl | (simp only [List.length_drop, List.length_take]; rfl)) ?_; (with_reducible refine (impl_IsNet.calls kj8 t269 _ _ t270 true _ ?side1 ?side2 A36.out).mono ?_); (case side1 => repeat (first | exact (Kd.R_reads' HO_276001.out).2.2 | (with_reducible refine Kd.C_alloc ?_ _) | (with_reducible refine Kd.C_drewN ?_ _) | (with_reducible refine Kd.C_drew ?_))); (case side2 => exact (Kd.R_reads' HO_276001.out).2.1); rintro e w42 ⟨rfl, hb⟩; refine ⟨_, rfl, ?_⟩; have n0_ := Aside0.mk (Kd.R_below (by (with_reducible repeat (first | apply Kd.R_alloc | apply Kd.R_drewN | apply Kd.R_drew)); exact HO_6.out) hb); have n1_ := Aside0.mk (Kd.R_below (by (with_reducible repeat (first | apply Kd.R_alloc | apply Kd.R_drewN | apply Kd.R_drew)); exact HO_276001.out) hb); have n2_ := Aside0.mk (blk_below (g := gb275) (o := .cells #[.int .i64 t269, .slice Ao13 t270.length co13] 30 (0, 0)) (by (with_reducible repeat (first | refine blk_drewN ?_ _ | refine blk_drew ?_ | refine blk_alloc ?_ _)); exact BK275.out) hb); have n3_ := Aside0.mk (below_step (by repeat (first | (with_reducible first | exact HB.out | apply below_alloc | apply pw_below_drewN | apply below_drew1 | refine below_set ?_ GE275.out) | exact HB.out)) hb); clear HO_6; clear HO_276001; clear BK275; clear HB; have HO_6 := n0_; have HO_276001 := n1_; have BK275 := n2_; have HB := n3_; clear n0_ n1_ n2_ n3_; (try clear hb); (try clear hb2); (try clear hk); (try clear hi); obtain ⟨Ao43, co43, eo43⟩ := Kd.R_slice HO_6.out; subst eo43; have p285 : 0 ≤ (0 : Int) := (by omega); have q285 : 0 < (t276.length : Int) := of_decide_eq_true (by first | (with_reducible assumption) | assumption); obtain ⟨ad285, e285, hx285_0⟩ := Kd.at_int (Kd.R_reads' HO_6.out).2.2 0 p285 q285; cases e285; have qi285 : (0 < t276.length) = True := eq_true (by omega); (try rw [show ((0 : Int)).toNat = 0 from rfl] at hx285_0); (try rw [Addr.add_zero'] at hx285_0); replace p285 := eq_true p285; replace q285 := eq_true q285))
                      go_meet
                      case rel => exact ⟨_, (((rd t276 0) != t283)), (by first | rfl | (simp; done) | (simp [*]; done)), H', ⟨by have := HJ8.out; first | omega | exact Nat.le_refl _⟩, ⟨by (with_reducible repeat (first | apply Kd.R_alloc | apply Kd.R_drewN | apply Kd.R_drew)); exact HO_6.out⟩, ⟨by (with_reducible repeat (first | apply Kd.R_alloc | apply Kd.R_drewN | apply Kd.R_drew)); exact HO_276001.out⟩, ⟨by (with_reducible repeat (first | refine blk_drewN ?_ _ | refine blk_drew ?_ | refine blk_alloc ?_ _)); exact BK275.out⟩, ⟨by repeat (first | (with_reducible first | exact HB.out | apply below_alloc | apply pw_below_drewN | apply below_drew1 | refine below_set ?_ GE275.out) | exact HB.out)⟩⟩
                    · rw [if_neg c40] at H
                      exact absurd H (by simp)
                  · rw [if_neg c39] at H
                    have c39b0 : ((t276.length : Int) == 1) = false := beq_eq_false_iff_ne.mpr c39
                    have c39b1 : ((t276.length : Int) != 1) = true := bne_iff_ne.mpr c39
                    have H' := Aside0.mk H
                    clear H
                    have hcz44_0 : w35.cell? ⟨gb275, 0, none⟩ = some (.int .i64 t269) := (blk_cell BK275.out 0).trans rfl
                    have hcz44_1 : w35.cell? ⟨gb275, 1, none⟩ = some (.slice Ao13 t270.length co13) := (blk_cell BK275.out 1).trans rfl
                    have hfz44_0 := blk_frozen BK275.out 0
                    have hfz44_1 := blk_frozen BK275.out 1
                    go_wp2_with (first | ((with_reducible refine gate_callee (f := 29) rfl ?_); refine goesL_ (some 50) rfl rfl Try.func29 (by kernel_rfl) rfl #[.agg #[.int .i64 t269, .slice Ao13 t270.length co13]] rfl (by (try simp only [List.map_toArray, List.map_cons, List.map_nil]); first | done | rfl | (simp only [List.length_drop, List.length_take]; rfl)) ?_; (with_reducible refine (impl_IsNet.calls kj8 t269 _ _ t270 true _ ?side1 ?side2 A36.out).mono ?_); (case side1 => repeat (first | exact (Kd.R_reads' HO_276001.out).2.2 | (with_reducible refine Kd.C_alloc ?_ _) | (with_reducible refine Kd.C_drewN ?_ _) | (with_reducible refine Kd.C_drew ?_))); (case side2 => exact (Kd.R_reads' HO_276001.out).2.1); rintro e w45 ⟨rfl, hb⟩; refine ⟨_, rfl, ?_⟩; have n0_ := Aside0.mk (Kd.R_below (by (with_reducible repeat (first | apply Kd.R_alloc | apply Kd.R_drewN | apply Kd.R_drew)); exact HO_6.out) hb); have n1_ := Aside0.mk (Kd.R_below (by (with_reducible repeat (first | apply Kd.R_alloc | apply Kd.R_drewN | apply Kd.R_drew)); exact HO_276001.out) hb); have n2_ := Aside0.mk (blk_below (g := gb275) (o := .cells #[.int .i64 t269, .slice Ao13 t270.length co13] 30 (0, 0)) (by (with_reducible repeat (first | refine blk_drewN ?_ _ | refine blk_drew ?_ | refine blk_alloc ?_ _)); exact BK275.out) hb); have n3_ := Aside0.mk (below_step (by repeat (first | (with_reducible first | exact HB.out | apply below_alloc | apply pw_below_drewN | apply below_drew1 | refine below_set ?_ GE275.out) | exact HB.out)) hb); clear HO_6; clear HO_276001; clear BK275; clear HB; have HO_6 := n0_; have HO_276001 := n1_; have BK275 := n2_; have HB := n3_; clear n0_ n1_ n2_ n3_; (try clear hb); (try clear hb2); (try clear hk); (try clear hi); obtain ⟨Ao46, co46, eo46⟩ := Kd.R_slice HO_6.out; subst eo46))
                    go_meet
                    case rel => exact ⟨_, (true), (by first | rfl | (simp; done) | (simp [*]; done)), H', ⟨by have := HJ8.out; first | omega | exact Nat.le_refl _⟩, ⟨by (with_reducible repeat (first | apply Kd.R_alloc | apply Kd.R_drewN | apply Kd.R_drew)); exact HO_6.out⟩, ⟨by (with_reducible repeat (first | apply Kd.R_alloc | apply Kd.R_drewN | apply Kd.R_drew)); exact HO_276001.out⟩, ⟨by (with_reducible repeat (first | refine blk_drewN ?_ _ | refine blk_drew ?_ | refine blk_alloc ?_ _)); exact BK275.out⟩, ⟨by repeat (first | (with_reducible first | exact HB.out | apply below_alloc | apply pw_below_drewN | apply below_drew1 | refine below_set ?_ GE275.out) | exact HB.out)⟩⟩
                · rw [if_neg c38] at H
                  have c38b0 : decide (0 ≤ t283) = false := decide_eq_false c38
                  clear c38
                  (first | rw [c38b0] | (simp only [i64_w, i32_w]; rw [c38b0]) | skip)
                  have H' := Aside0.mk H
                  clear H
                  have hcz47_0 : w35.cell? ⟨gb275, 0, none⟩ = some (.int .i64 t269) := (blk_cell BK275.out 0).trans rfl
                  have hcz47_1 : w35.cell? ⟨gb275, 1, none⟩ = some (.slice Ao13 t270.length co13) := (blk_cell BK275.out 1).trans rfl
                  have hfz47_0 := blk_frozen BK275.out 0
                  have hfz47_1 := blk_frozen BK275.out 1
                  go_wp2_with (first | ((with_reducible refine gate_callee (f := 29) rfl ?_); refine goesL_ (some 50) rfl rfl Try.func29 (by kernel_rfl) rfl #[.agg #[.int .i64 t269, .slice Ao13 t270.length co13]] rfl (by (try simp only [List.map_toArray, List.map_cons, List.map_nil]); first | done | rfl | (simp only [List.length_drop, List.length_take]; rfl)) ?_; (with_reducible refine (impl_IsNet.calls kj8 t269 _ _ t270 true _ ?side1 ?side2 A36.out).mono ?_); (case side1 => repeat (first | exact (Kd.R_reads' HO_276001.out).2.2 | (with_reducible refine Kd.C_alloc ?_ _) | (with_reducible refine Kd.C_drewN ?_ _) | (with_reducible refine Kd.C_drew ?_))); (case side2 => exact (Kd.R_reads' HO_276001.out).2.1); rintro e w48 ⟨rfl, hb⟩; refine ⟨_, rfl, ?_⟩; have n0_ := Aside0.mk (Kd.R_below (by (with_reducible repeat (first | apply Kd.R_alloc | apply Kd.R_drewN | apply Kd.R_drew)); exact HO_6.out) hb); have n1_ := Aside0.mk (Kd.R_below (by (with_reducible repeat (first | apply Kd.R_alloc | apply Kd.R_drewN | apply Kd.R_drew)); exact HO_276001.out) hb); have n2_ := Aside0.mk (blk_below (g := gb275) (o := .cells #[.int .i64 t269, .slice Ao13 t270.length co13] 30 (0, 0)) (by (with_reducible repeat (first | refine blk_drewN ?_ _ | refine blk_drew ?_ | refine blk_alloc ?_ _)); exact BK275.out) hb); have n3_ := Aside0.mk (below_step (by repeat (first | (with_reducible first | exact HB.out | apply below_alloc | apply pw_below_drewN | apply below_drew1 | refine below_set ?_ GE275.out) | exact HB.out)) hb); clear HO_6; clear HO_276001; clear BK275; clear HB; have HO_6 := n0_; have HO_276001 := n1_; have BK275 := n2_; have HB := n3_; clear n0_ n1_ n2_ n3_; (try clear hb); (try clear hb2); (try clear hk); (try clear hi)))
                  go_meet
                  case rel => exact ⟨_, (false), (by first | rfl | (simp; done) | (simp [*]; done)), H', ⟨by have := HJ8.out; first | omega | exact Nat.le_refl _⟩, ⟨by (with_reducible repeat (first | apply Kd.R_alloc | apply Kd.R_drewN | apply Kd.R_drew)); exact HO_6.out⟩, ⟨by (with_reducible repeat (first | apply Kd.R_alloc | apply Kd.R_drewN | apply Kd.R_drew)); exact HO_276001.out⟩, ⟨by (with_reducible repeat (first | refine blk_drewN ?_ _ | refine blk_drew ?_ | refine blk_alloc ?_ _)); exact BK275.out⟩, ⟨by repeat (first | (with_reducible first | exact HB.out | apply below_alloc | apply pw_below_drewN | apply below_drew1 | refine below_set ?_ GE275.out) | exact HB.out)⟩⟩
              · replace c37 := Bool.eq_false_iff.mpr c37
                subst c37
                have H1 : (laws_FnNets.j1 kj8 t273 t274 t276 false t269 t270) = some r := by rw [if_neg (show ¬ (false = true) by decide)] at H; exact H
                clear H
                have H := H1
                clear H1
                have H' := Aside0.mk H
                clear H
                have hcz49_0 : w35.cell? ⟨gb275, 0, none⟩ = some (.int .i64 t269) := (blk_cell BK275.out 0).trans rfl
                have hcz49_1 : w35.cell? ⟨gb275, 1, none⟩ = some (.slice Ao13 t270.length co13) := (blk_cell BK275.out 1).trans rfl
                have hfz49_0 := blk_frozen BK275.out 0
                have hfz49_1 := blk_frozen BK275.out 1
                go_wp2_with (first | ((with_reducible refine gate_callee (f := 29) rfl ?_); refine goesL_ (some 50) rfl rfl Try.func29 (by kernel_rfl) rfl #[.agg #[.int .i64 t269, .slice Ao13 t270.length co13]] rfl (by (try simp only [List.map_toArray, List.map_cons, List.map_nil]); first | done | rfl | (simp only [List.length_drop, List.length_take]; rfl)) ?_; (with_reducible refine (impl_IsNet.calls kj8 t269 _ _ t270 false _ ?side1 ?side2 A36.out).mono ?_); (case side1 => repeat (first | exact (Kd.R_reads' HO_276001.out).2.2 | (with_reducible refine Kd.C_alloc ?_ _) | (with_reducible refine Kd.C_drewN ?_ _) | (with_reducible refine Kd.C_drew ?_))); (case side2 => exact (Kd.R_reads' HO_276001.out).2.1); rintro e w50 ⟨rfl, hb⟩; refine ⟨_, rfl, ?_⟩; have n0_ := Aside0.mk (Kd.R_below (by (with_reducible repeat (first | apply Kd.R_alloc | apply Kd.R_drewN | apply Kd.R_drew)); exact HO_6.out) hb); have n1_ := Aside0.mk (Kd.R_below (by (with_reducible repeat (first | apply Kd.R_alloc | apply Kd.R_drewN | apply Kd.R_drew)); exact HO_276001.out) hb); have n2_ := Aside0.mk (blk_below (g := gb275) (o := .cells #[.int .i64 t269, .slice Ao13 t270.length co13] 30 (0, 0)) (by (with_reducible repeat (first | refine blk_drewN ?_ _ | refine blk_drew ?_ | refine blk_alloc ?_ _)); exact BK275.out) hb); have n3_ := Aside0.mk (below_step (by repeat (first | (with_reducible first | exact HB.out | apply below_alloc | apply pw_below_drewN | apply below_drew1 | refine below_set ?_ GE275.out) | exact HB.out)) hb); clear HO_6; clear HO_276001; clear BK275; clear HB; have HO_6 := n0_; have HO_276001 := n1_; have BK275 := n2_; have HB := n3_; clear n0_ n1_ n2_ n3_; (try clear hb); (try clear hb2); (try clear hk); (try clear hi)))
                go_meet
                case rel => exact ⟨_, (false), (by first | rfl | (simp; done) | (simp [*]; done)), H', ⟨by have := HJ8.out; first | omega | exact Nat.le_refl _⟩, ⟨by (with_reducible repeat (first | apply Kd.R_alloc | apply Kd.R_drewN | apply Kd.R_drew)); exact HO_6.out⟩, ⟨by (with_reducible repeat (first | apply Kd.R_alloc | apply Kd.R_drewN | apply Kd.R_drew)); exact HO_276001.out⟩, ⟨by (with_reducible repeat (first | refine blk_drewN ?_ _ | refine blk_drew ?_ | refine blk_alloc ?_ _)); exact BK275.out⟩, ⟨by repeat (first | (with_reducible first | exact HB.out | apply below_alloc | apply pw_below_drewN | apply below_drew1 | refine below_set ?_ GE275.out) | exact HB.out)⟩⟩
            case rest =>
              clear HC33
              try clear c1
              try clear c2
              try clear p2
              try clear q2
              try clear hx2
              try clear qi2
              try clear c3
              try clear c4
              try clear c5
              try clear c8
              try clear c8b0
              try clear c8b1
              try clear c8b2
              try clear c16
              try clear c18
              try clear c18b0
              try clear c18b1
              try clear c20
              try clear c27
              try clear c28
              try clear p28
              try clear q28
              try clear hx28
              try clear qi28
              try clear c29
              try clear c30
              try clear c31
              try clear c32
              try clear c37
              try clear c38
              try clear c38b0
              try clear c39
              try clear c39b0
              try clear c39b1
              try clear c40
              try clear c40b0
              try clear c40b1
              try clear hcz12_0
              try clear hcz12_1
              try clear hcz23_0
              try clear hcz23_1
              try clear hcz25_0
              try clear hcz25_1
              try clear hcz28_0
              try clear hcz28_1
              try clear hcz34_0
              try clear hcz34_1
              try clear hcz41_0
              try clear hcz41_1
              try clear hcz44_0
              try clear hcz44_1
              try clear hcz47_0
              try clear hcz47_1
              try clear hcz49_0
              try clear hcz49_1
              try clear hfz12_0
              try clear hfz12_1
              try clear hfz23_0
              try clear hfz23_1
              try clear hfz25_0
              try clear hfz25_1
              try clear hfz28_0
              try clear hfz28_1
              try clear hfz34_0
              try clear hfz34_1
              try clear hfz41_0
              try clear hfz41_1
              try clear hfz44_0
              try clear hfz44_1
              try clear hfz47_0
              try clear hfz47_1
              try clear hfz49_0
              try clear hfz49_1
              try clear hx285_0
              try clear p2
              try clear p285
              try clear q285
              obtain ⟨kq, x66_32, rfl, HA, HJ32, HO_6, HO_276001, BK275, HB⟩ := hcut
              cases kq with
              | zero => exact absurd HA.out (by simp [laws_FnNets.j1])
              | succ kj32 =>
                have H := HA.out
                clear HA
                simp only [laws_FnNets.j1] at H
                by_cases c51 : x66_32 = true
                · subst c51
                  have H1 : (some false) = some r := by rw [if_pos rfl] at H; exact H
                  clear H
                  have H := H1
                  clear H1
                  exact absurd ((Option.some.inj H).trans hrt.out) (by decide)
                · replace c51 := Bool.eq_false_iff.mpr c51
                  subst c51
                  have H1 : ((impl_RouteTo.f kj32 t269 t270 t274 t273).bind fun t286 => (if (t286.length : Int) = (t276.length : Int) then (laws_FnNets.l0 kj32 t273 t274 t276 0 t269 t270) else (some false))) = some r := by rw [if_neg (show ¬ (false = true) by decide)] at H; exact H
                  clear H
                  have H := H1
                  clear H1
                  replace H := Option.bind_eq_some_iff.mp H
                  obtain ⟨t286, A520, H⟩ := H
                  replace H : (if (t286.length : Int) = (t276.length : Int) then (laws_FnNets.l0 kj32 t273 t274 t276 0 t269 t270) else (some false)) = some r := H
                  have A52 := Aside0.mk A520
                  clear A520
                  by_cases c53 : (t286.length : Int) = (t276.length : Int)
                  · rw [if_pos c53] at H
                    have c53b0 : ((t286.length : Int) == (t276.length : Int)) = true := beq_iff_eq.mpr c53
                    have c53b1 : ((t286.length : Int) != (t276.length : Int)) = false := bne_eq_false_iff_eq.mpr c53
                    have c53b2 : (t286.length == t276.length) = true := by first | simpa using c53 | (simp at c53 ⊢; omega)
                    clear c53
                    have H' := Aside0.mk H
                    clear H
                    have hcz54_0 : wc.cell? ⟨gb275, 0, none⟩ = some (.int .i64 t269) := (blk_cell BK275.out 0).trans rfl
                    have hcz54_1 : wc.cell? ⟨gb275, 1, none⟩ = some (.slice Ao13 t270.length co13) := (blk_cell BK275.out 1).trans rfl
                    have hfz54_0 := blk_frozen BK275.out 0
                    have hfz54_1 := blk_frozen BK275.out 1
                    go_wp2_with (first | ((with_reducible refine gate_callee (f := 16) rfl ?_); refine goesL_ (some 70) rfl rfl Try.func16 (by kernel_rfl) rfl #[.agg #[.int .i64 t269, .slice Ao13 t270.length co13], .int .i64 t274, .int .i64 t273] rfl (by (try simp only [List.map_toArray, List.map_cons, List.map_nil]); first | done | rfl | (simp only [List.length_drop, List.length_take]; rfl)) ?_; (with_reducible refine (impl_RouteTo.calls kj32 t269 _ _ t270 t274 t273 t286 _ ?side1 ?side2 A52.out).mono ?_); (case side1 => repeat (first | exact (Kd.R_reads' HO_276001.out).2.2 | (with_reducible refine Kd.C_alloc ?_ _) | (with_reducible refine Kd.C_drewN ?_ _) | (with_reducible refine Kd.C_drew ?_))); (case side2 => exact (Kd.R_reads' HO_276001.out).2.1); rintro e w55 ⟨v287, rfl, ho0, hb⟩; refine ⟨_, rfl, ?_⟩; have n0_ := Aside0.mk (Kd.R_elder' (by (with_reducible repeat (first | apply Kd.R_alloc | apply Kd.R_drewN | apply Kd.R_drew)); exact HO_6.out) (Kd.R_base ho0) hb); have n1_ := Aside0.mk (Kd.R_below (by (with_reducible repeat (first | apply Kd.R_alloc | apply Kd.R_drewN | apply Kd.R_drew)); exact HO_276001.out) hb); have n2_ := Aside0.mk (Kd.R_lower (Kd.R_new' ho0 (Kd.R_lt (by (with_reducible repeat (first | apply Kd.R_alloc | apply Kd.R_drewN | apply Kd.R_drew)); exact HO_6.out))) (below_size (by repeat (first | (with_reducible first | exact HB.out | apply below_alloc | apply pw_below_drewN | apply below_drew1 | refine below_set ?_ GE275.out) | exact HB.out)))); have n3_ := Aside0.mk (blk_below (g := gb275) (o := .cells #[.int .i64 t269, .slice Ao13 t270.length co13] 30 (0, 0)) (by (with_reducible repeat (first | refine blk_drewN ?_ _ | refine blk_drew ?_ | refine blk_alloc ?_ _)); exact BK275.out) hb); have n4_ := Aside0.mk (below_step (by repeat (first | (with_reducible first | exact HB.out | apply below_alloc | apply pw_below_drewN | apply below_drew1 | refine below_set ?_ GE275.out) | exact HB.out)) hb); clear HO_6; clear HO_276001; clear BK275; clear HB; have HO_6 := n0_; have HO_276001 := n1_; have HO288 := n2_; have BK275 := n3_; have HB := n4_; clear n0_ n1_ n2_ n3_ n4_; (try clear hb); (try clear hb2); (try clear hk); (try clear hi); (try clear ho0); obtain ⟨Ao56, co56, eo56⟩ := Kd.R_slice HO288.out; subst eo56; obtain ⟨Ao57, co57, eo57⟩ := Kd.R_slice HO_6.out; subst eo57))
                    go_loopg [9] kj32 (fun kq v9 w' => ∃ (x9_3 : Int), v9 = .int .i64 x9_3 ∧ Aside0 (laws_FnNets.l0 kq t273 t274 t276 x9_3 t269 t270 = some r) ∧ Aside0 (kq ≤ kj32) ∧ Aside0 (Kd.R (Kd.int .i64) 3 w' w.heap.size (fun _ => True) (.slice Ao57 t276.length co57) t276) ∧ Aside0 (Kd.R k93 93 w' w.heap.size (fun _ => True) (.slice Ao13 t270.length co13) t270) ∧ Aside0 (w'.heap[gb275]? = some (.cells #[.int .i64 t269, (.slice Ao13 t270.length co13)] 30 (0, 0))) ∧ Aside0 (Below w.heap.size w w'))
                    case atStart => exact ⟨(0), (by first | rfl | (simp; done) | (simp [*]; done)), H', ⟨Nat.le_refl _⟩, ⟨by (with_reducible repeat (first | apply Kd.R_alloc | apply Kd.R_drewN | apply Kd.R_drew)); exact Kd.R_mono HO_6.out (fun _ hk => trivial)⟩, ⟨by (with_reducible repeat (first | apply Kd.R_alloc | apply Kd.R_drewN | apply Kd.R_drew)); exact HO_276001.out⟩, ⟨by (with_reducible repeat (first | refine blk_drewN ?_ _ | refine blk_drew ?_ | refine blk_alloc ?_ _)); exact BK275.out⟩, ⟨by repeat (first | (with_reducible first | exact HB.out | apply below_alloc | apply pw_below_drewN | apply below_drew1 | refine below_set ?_ GE275.out) | exact HB.out)⟩⟩
                    case round =>
                      clear H'
                      try clear c1
                      try clear c2
                      try clear p2
                      try clear q2
                      try clear hx2
                      try clear qi2
                      try clear c3
                      try clear c4
                      try clear c5
                      try clear c8
                      try clear c8b0
                      try clear c8b1
                      try clear c8b2
                      try clear c16
                      try clear c18
                      try clear c18b0
                      try clear c18b1
                      try clear c20
                      try clear c27
                      try clear c28
                      try clear p28
                      try clear q28
                      try clear hx28
                      try clear qi28
                      try clear c29
                      try clear c30
                      try clear c31
                      try clear c32
                      try clear c37
                      try clear c38
                      try clear c38b0
                      try clear c39
                      try clear c39b0
                      try clear c39b1
                      try clear c40
                      try clear c40b0
                      try clear c40b1
                      try clear c51
                      try clear c53
                      try clear c53b0
                      try clear c53b1
                      try clear c53b2
                      try clear hcz12_0
                      try clear hcz12_1
                      try clear hcz23_0
                      try clear hcz23_1
                      try clear hcz25_0
                      try clear hcz25_1
                      try clear hcz28_0
                      try clear hcz28_1
                      try clear hcz34_0
                      try clear hcz34_1
                      try clear hcz41_0
                      try clear hcz41_1
                      try clear hcz44_0
                      try clear hcz44_1
                      try clear hcz47_0
                      try clear hcz47_1
                      try clear hcz49_0
                      try clear hcz49_1
                      try clear hcz54_0
                      try clear hcz54_1
                      try clear hfz12_0
                      try clear hfz12_1
                      try clear hfz23_0
                      try clear hfz23_1
                      try clear hfz25_0
                      try clear hfz25_1
                      try clear hfz28_0
                      try clear hfz28_1
                      try clear hfz34_0
                      try clear hfz34_1
                      try clear hfz41_0
                      try clear hfz41_1
                      try clear hfz44_0
                      try clear hfz44_1
                      try clear hfz47_0
                      try clear hfz47_1
                      try clear hfz49_0
                      try clear hfz49_1
                      try clear hfz54_0
                      try clear hfz54_1
                      try clear hx285_0
                      try clear p2
                      try clear p28
                      try clear p285
                      try clear q2
                      try clear q28
                      try clear q285
                      obtain ⟨x9_3, rfl, HA, HK3, HO_6, HO_276001, BK275, HB⟩ := hrel
                      cases gk with
                      | zero => exact absurd HA.out (by simp [laws_FnNets.l0])
                      | succ k3 =>
                        have H := HA.out
                        clear HA
                        simp only [laws_FnNets.l0] at H
                        have HC58 := Aside0.mk H
                        clear H
                        go_upto_region 16 with (fail)
                        go_cut [88] (fun v88 wc => ∃ (kq : Nat) (x88_57 : Bool), v88 = .bool x88_57 ∧ Aside0 (laws_FnNets.j3 kq t273 t274 t276 x9_3 x88_57 t269 t270 = some r) ∧ Aside0 (kq ≤ k3) ∧ Aside0 (Kd.R (Kd.int .i64) 3 wc w.heap.size (fun _ => True) (.slice Ao57 t276.length co57) t276) ∧ Aside0 (Kd.R k93 93 wc w.heap.size (fun _ => True) (.slice Ao13 t270.length co13) t270) ∧ Aside0 (wc.heap[gb275]? = some (.cells #[.int .i64 t269, (.slice Ao13 t270.length co13)] 30 (0, 0))) ∧ Aside0 (Below w.heap.size w wc))
                        case first =>
                          have H := HC58.out
                          clear HC58
                          by_cases c59 : x9_3 < t269
                          · rw [if_pos c59] at H
                            have c59b0 : decide (x9_3 < t269) = true := decide_eq_true c59
                            clear c59
                            (first | rw [c59b0] | (simp only [i64_w, i32_w]; rw [c59b0]) | skip)
                            by_cases c60 : x9_3 < 8
                            · rw [if_pos c60] at H
                              have c60b0 : decide (x9_3 < 8) = true := decide_eq_true c60
                              clear c60
                              have H' := Aside0.mk H
                              clear H
                              have hcz61_0 : wr.cell? ⟨gb275, 0, none⟩ = some (.int .i64 t269) := (blk_cell BK275.out 0).trans rfl
                              have hcz61_1 : wr.cell? ⟨gb275, 1, none⟩ = some (.slice Ao13 t270.length co13) := (blk_cell BK275.out 1).trans rfl
                              have hfz61_0 := blk_frozen BK275.out 0
                              have hfz61_1 := blk_frozen BK275.out 1
                              go_wp2
                              go_meet
                              case rel => exact ⟨_, (decide ((t276.length : Int) > 0)), (by first | rfl | (simp; done) | (simp [*]; done)), H', ⟨by have := HJ8.out; have := HJ32.out; have := HK3.out; first | omega | exact Nat.le_refl _⟩, ⟨by (with_reducible repeat (first | apply Kd.R_alloc | apply Kd.R_drewN | apply Kd.R_drew)); exact HO_6.out⟩, ⟨by (with_reducible repeat (first | apply Kd.R_alloc | apply Kd.R_drewN | apply Kd.R_drew)); exact HO_276001.out⟩, ⟨by (with_reducible repeat (first | refine blk_drewN ?_ _ | refine blk_drew ?_ | refine blk_alloc ?_ _)); exact BK275.out⟩, ⟨by repeat (first | (with_reducible first | exact HB.out | apply below_alloc | apply pw_below_drewN | apply below_drew1 | refine below_set ?_ GE275.out) | exact HB.out)⟩⟩
                            · rw [if_neg c60] at H
                              have c60b0 : decide (x9_3 < 8) = false := decide_eq_false c60
                              clear c60
                              have H' := Aside0.mk H
                              clear H
                              have hcz62_0 : wr.cell? ⟨gb275, 0, none⟩ = some (.int .i64 t269) := (blk_cell BK275.out 0).trans rfl
                              have hcz62_1 : wr.cell? ⟨gb275, 1, none⟩ = some (.slice Ao13 t270.length co13) := (blk_cell BK275.out 1).trans rfl
                              have hfz62_0 := blk_frozen BK275.out 0
                              have hfz62_1 := blk_frozen BK275.out 1
                              go_wp2
                              go_meet
                              case rel => exact ⟨_, (false), (by first | rfl | (simp; done) | (simp [*]; done)), H', ⟨by have := HJ8.out; have := HJ32.out; have := HK3.out; first | omega | exact Nat.le_refl _⟩, ⟨by (with_reducible repeat (first | apply Kd.R_alloc | apply Kd.R_drewN | apply Kd.R_drew)); exact HO_6.out⟩, ⟨by (with_reducible repeat (first | apply Kd.R_alloc | apply Kd.R_drewN | apply Kd.R_drew)); exact HO_276001.out⟩, ⟨by (with_reducible repeat (first | refine blk_drewN ?_ _ | refine blk_drew ?_ | refine blk_alloc ?_ _)); exact BK275.out⟩, ⟨by repeat (first | (with_reducible first | exact HB.out | apply below_alloc | apply pw_below_drewN | apply below_drew1 | refine below_set ?_ GE275.out) | exact HB.out)⟩⟩
                          · rw [if_neg c59] at H
                            have c59b0 : decide (x9_3 < t269) = false := decide_eq_false c59
                            clear c59
                            (first | rw [c59b0] | (simp only [i64_w, i32_w]; rw [c59b0]) | skip)
                            have H' := Aside0.mk H
                            clear H
                            have hcz63_0 : wr.cell? ⟨gb275, 0, none⟩ = some (.int .i64 t269) := (blk_cell BK275.out 0).trans rfl
                            have hcz63_1 : wr.cell? ⟨gb275, 1, none⟩ = some (.slice Ao13 t270.length co13) := (blk_cell BK275.out 1).trans rfl
                            have hfz63_0 := blk_frozen BK275.out 0
                            have hfz63_1 := blk_frozen BK275.out 1
                            go_wp2
                            go_meet
                            case rel => exact ⟨_, (false), (by first | rfl | (simp; done) | (simp [*]; done)), H', ⟨by have := HJ8.out; have := HJ32.out; have := HK3.out; first | omega | exact Nat.le_refl _⟩, ⟨by (with_reducible repeat (first | apply Kd.R_alloc | apply Kd.R_drewN | apply Kd.R_drew)); exact HO_6.out⟩, ⟨by (with_reducible repeat (first | apply Kd.R_alloc | apply Kd.R_drewN | apply Kd.R_drew)); exact HO_276001.out⟩, ⟨by (with_reducible repeat (first | refine blk_drewN ?_ _ | refine blk_drew ?_ | refine blk_alloc ?_ _)); exact BK275.out⟩, ⟨by repeat (first | (with_reducible first | exact HB.out | apply below_alloc | apply pw_below_drewN | apply below_drew1 | refine below_set ?_ GE275.out) | exact HB.out)⟩⟩
                        case rest =>
                          clear HC58
                          try clear c1
                          try clear c2
                          try clear p2
                          try clear q2
                          try clear hx2
                          try clear qi2
                          try clear c3
                          try clear c4
                          try clear c5
                          try clear c6
                          try clear c8
                          try clear c8b0
                          try clear c8b1
                          try clear c8b2
                          try clear c16
                          try clear c18
                          try clear c18b0
                          try clear c18b1
                          try clear c20
                          try clear c27
                          try clear c28
                          try clear p28
                          try clear q28
                          try clear hx28
                          try clear qi28
                          try clear c29
                          try clear c30
                          try clear c31
                          try clear c32
                          try clear c37
                          try clear c38
                          try clear c38b0
                          try clear c39
                          try clear c39b0
                          try clear c39b1
                          try clear c40
                          try clear c40b0
                          try clear c40b1
                          try clear c51
                          try clear c53
                          try clear c53b0
                          try clear c53b1
                          try clear c53b2
                          try clear c59
                          try clear c59b0
                          try clear c60
                          try clear c60b0
                          try clear hcz12_0
                          try clear hcz12_1
                          try clear hcz23_0
                          try clear hcz23_1
                          try clear hcz25_0
                          try clear hcz25_1
                          try clear hcz28_0
                          try clear hcz28_1
                          try clear hcz34_0
                          try clear hcz34_1
                          try clear hcz41_0
                          try clear hcz41_1
                          try clear hcz44_0
                          try clear hcz44_1
                          try clear hcz47_0
                          try clear hcz47_1
                          try clear hcz49_0
                          try clear hcz49_1
                          try clear hcz54_0
                          try clear hcz54_1
                          try clear hcz61_0
                          try clear hcz61_1
                          try clear hcz62_0
                          try clear hcz62_1
                          try clear hcz63_0
                          try clear hcz63_1
                          try clear hfz12_0
                          try clear hfz12_1
                          try clear hfz23_0
                          try clear hfz23_1
                          try clear hfz25_0
                          try clear hfz25_1
                          try clear hfz28_0
                          try clear hfz28_1
                          try clear hfz34_0
                          try clear hfz34_1
                          try clear hfz41_0
                          try clear hfz41_1
                          try clear hfz44_0
                          try clear hfz44_1
                          try clear hfz47_0
                          try clear hfz47_1
                          try clear hfz49_0
                          try clear hfz49_1
                          try clear hfz54_0
                          try clear hfz54_1
                          try clear hfz61_0
                          try clear hfz61_1
                          try clear hfz62_0
                          try clear hfz62_1
                          try clear hfz63_0
                          try clear hfz63_1
                          try clear hx285_0
                          try clear p2
                          try clear p28
                          try clear p285
                          try clear q2
                          try clear q28
                          try clear q285
                          obtain ⟨kq, x88_57, rfl, HA, HJ57, HO_6, HO_276001, BK275, HB⟩ := hcut
                          cases kq with
                          | zero => exact absurd HA.out (by simp [laws_FnNets.j3])
                          | succ kj57 =>
                            have H := HA.out
                            clear HA
                            simp only [laws_FnNets.j3] at H
                            by_cases c64 : x88_57 = true
                            · subst c64
                              have H1 : ((impl_RouteTo.f kj57 t269 t270 t273 x9_3).bind fun t293 => ((impl_RouteTo.f kj57 t269 t270 x9_3 t274).bind fun t296 => (if x9_3 = t273 then (laws_FnNets.l0 kj57 t273 t274 t276 (wrap64 (x9_3 + 1)) t269 t270) else (if x9_3 = t274 then (laws_FnNets.l0 kj57 t273 t274 t276 (wrap64 (x9_3 + 1)) t269 t270) else (if (t293.length : Int) > 0 then (if (t296.length : Int) > 0 then (if (wrap64 ((t293.length : Int) + (t296.length : Int))) < (t276.length : Int) then (some false) else (laws_FnNets.l0 kj57 t273 t274 t276 (wrap64 (x9_3 + 1)) t269 t270)) else (laws_FnNets.l0 kj57 t273 t274 t276 (wrap64 (x9_3 + 1)) t269 t270)) else (laws_FnNets.l0 kj57 t273 t274 t276 (wrap64 (x9_3 + 1)) t269 t270)))))) = some r := by rw [if_pos rfl] at H; exact H
                              clear H
                              have H := H1
                              clear H1
                              replace H := Option.bind_eq_some_iff.mp H
                              obtain ⟨t293, A650, H⟩ := H
                              replace H : ((impl_RouteTo.f kj57 t269 t270 x9_3 t274).bind fun t296 => (if x9_3 = t273 then (laws_FnNets.l0 kj57 t273 t274 t276 (wrap64 (x9_3 + 1)) t269 t270) else (if x9_3 = t274 then (laws_FnNets.l0 kj57 t273 t274 t276 (wrap64 (x9_3 + 1)) t269 t270) else (if (t293.length : Int) > 0 then (if (t296.length : Int) > 0 then (if (wrap64 ((t293.length : Int) + (t296.length : Int))) < (t276.length : Int) then (some false) else (laws_FnNets.l0 kj57 t273 t274 t276 (wrap64 (x9_3 + 1)) t269 t270)) else (laws_FnNets.l0 kj57 t273 t274 t276 (wrap64 (x9_3 + 1)) t269 t270)) else (laws_FnNets.l0 kj57 t273 t274 t276 (wrap64 (x9_3 + 1)) t269 t270))))) = some r := H
                              have A65 := Aside0.mk A650
                              clear A650
                              replace H := Option.bind_eq_some_iff.mp H
                              obtain ⟨t296, A660, H⟩ := H
                              replace H : (if x9_3 = t273 then (laws_FnNets.l0 kj57 t273 t274 t276 (wrap64 (x9_3 + 1)) t269 t270) else (if x9_3 = t274 then (laws_FnNets.l0 kj57 t273 t274 t276 (wrap64 (x9_3 + 1)) t269 t270) else (if (t293.length : Int) > 0 then (if (t296.length : Int) > 0 then (if (wrap64 ((t293.length : Int) + (t296.length : Int))) < (t276.length : Int) then (some false) else (laws_FnNets.l0 kj57 t273 t274 t276 (wrap64 (x9_3 + 1)) t269 t270)) else (laws_FnNets.l0 kj57 t273 t274 t276 (wrap64 (x9_3 + 1)) t269 t270)) else (laws_FnNets.l0 kj57 t273 t274 t276 (wrap64 (x9_3 + 1)) t269 t270)))) = some r := H
                              have A66 := Aside0.mk A660
                              clear A660
                              by_cases c67 : x9_3 = t273
                              · rw [if_pos c67] at H
                                have c67b0 : (x9_3 == t273) = true := beq_iff_eq.mpr c67
                                have c67b1 : (x9_3 != t273) = false := bne_eq_false_iff_eq.mpr c67
                                clear c67
                                have H' := Aside0.mk H
                                clear H
                                have hcz68_0 : wc.cell? ⟨gb275, 0, none⟩ = some (.int .i64 t269) := (blk_cell BK275.out 0).trans rfl
                                have hcz68_1 : wc.cell? ⟨gb275, 1, none⟩ = some (.slice Ao13 t270.length co13) := (blk_cell BK275.out 1).trans rfl
                                have hfz68_0 := blk_frozen BK275.out 0
                                have hfz68_1 := blk_frozen BK275.out 1
                                go_wp2_with (first | ((with_reducible refine gate_callee (f := 16) rfl ?_); refine goesL_ (some 94) rfl rfl Try.func16 (by kernel_rfl) rfl #[.agg #[.int .i64 t269, .slice Ao13 t270.length co13], .int .i64 t273, .int .i64 x9_3] rfl (by (try simp only [List.map_toArray, List.map_cons, List.map_nil]); first | done | rfl | (simp only [List.length_drop, List.length_take]; rfl)) ?_; (with_reducible refine (impl_RouteTo.calls kj57 t269 _ _ t270 t273 x9_3 t293 _ ?side1 ?side2 A65.out).mono ?_); (case side1 => repeat (first | exact (Kd.R_reads' HO_276001.out).2.2 | (with_reducible refine Kd.C_alloc ?_ _) | (with_reducible refine Kd.C_drewN ?_ _) | (with_reducible refine Kd.C_drew ?_))); (case side2 => exact (Kd.R_reads' HO_276001.out).2.1); rintro e w69 ⟨v294, rfl, ho0, hb⟩; refine ⟨_, rfl, ?_⟩; have n0_ := Aside0.mk (Kd.R_elder' (by (with_reducible repeat (first | apply Kd.R_alloc | apply Kd.R_drewN | apply Kd.R_drew)); exact HO_6.out) (Kd.R_base ho0) hb); have n1_ := Aside0.mk (Kd.R_below (by (with_reducible repeat (first | apply Kd.R_alloc | apply Kd.R_drewN | apply Kd.R_drew)); exact HO_276001.out) hb); have n2_ := Aside0.mk (Kd.R_lower (Kd.R_new' ho0 (Kd.R_lt (by (with_reducible repeat (first | apply Kd.R_alloc | apply Kd.R_drewN | apply Kd.R_drew)); exact HO_6.out))) (below_size (by repeat (first | (with_reducible first | exact HB.out | apply below_alloc | apply pw_below_drewN | apply below_drew1 | refine below_set ?_ GE275.out) | exact HB.out)))); have n3_ := Aside0.mk (blk_below (g := gb275) (o := .cells #[.int .i64 t269, .slice Ao13 t270.length co13] 30 (0, 0)) (by (with_reducible repeat (first | refine blk_drewN ?_ _ | refine blk_drew ?_ | refine blk_alloc ?_ _)); exact BK275.out) hb); have n4_ := Aside0.mk (below_step (by repeat (first | (with_reducible first | exact HB.out | apply below_alloc | apply pw_below_drewN | apply below_drew1 | refine below_set ?_ GE275.out) | exact HB.out)) hb); clear HO_6; clear HO_276001; clear BK275; clear HB; have HO_6 := n0_; have HO_276001 := n1_; have HO295 := n2_; have BK275 := n3_; have HB := n4_; clear n0_ n1_ n2_ n3_ n4_; (try clear hb); (try clear hb2); (try clear hk); (try clear hi); (try clear ho0); have hcz70_0 : w69.cell? ⟨gb275, 0, none⟩ = some (.int .i64 t269) := (blk_cell BK275.out 0).trans rfl; have hcz70_1 : w69.cell? ⟨gb275, 1, none⟩ = some (.slice Ao13 t270.length co13) := (blk_cell BK275.out 1).trans rfl; have hfz70_0 := blk_frozen BK275.out 0; have hfz70_1 := blk_frozen BK275.out 1) | ((with_reducible refine gate_callee (f := 16) rfl ?_); refine goesL_ (some 98) rfl rfl Try.func16 (by kernel_rfl) rfl #[.agg #[.int .i64 t269, .slice Ao13 t270.length co13], .int .i64 x9_3, .int .i64 t274] rfl (by (try simp only [List.map_toArray, List.map_cons, List.map_nil]); first | done | rfl | (simp only [List.length_drop, List.length_take]; rfl)) ?_; (with_reducible refine (impl_RouteTo.calls kj57 t269 _ _ t270 x9_3 t274 t296 _ ?side1 ?side2 A66.out).mono ?_); (case side1 => repeat (first | exact (Kd.R_reads' HO_276001.out).2.2 | (with_reducible refine Kd.C_alloc ?_ _) | (with_reducible refine Kd.C_drewN ?_ _) | (with_reducible refine Kd.C_drew ?_))); (case side2 => exact (Kd.R_reads' HO_276001.out).2.1); rintro e w71 ⟨v297, rfl, ho0, hb⟩; refine ⟨_, rfl, ?_⟩; have n0_ := Aside0.mk (Kd.R_elder' (by (with_reducible repeat (first | apply Kd.R_alloc | apply Kd.R_drewN | apply Kd.R_drew)); exact HO_6.out) (Kd.R_base ho0) hb); have n1_ := Aside0.mk (Kd.R_below (by (with_reducible repeat (first | apply Kd.R_alloc | apply Kd.R_drewN | apply Kd.R_drew)); exact HO_276001.out) hb); have n2_ := Aside0.mk (Kd.R_elder' (by (with_reducible repeat (first | apply Kd.R_alloc | apply Kd.R_drewN | apply Kd.R_drew)); exact HO295.out) (Kd.R_base ho0) hb); have n3_ := Aside0.mk (Kd.R_lower (Kd.R_new' (Kd.R_new' ho0 (Kd.R_lt (by (with_reducible repeat (first | apply Kd.R_alloc | apply Kd.R_drewN | apply Kd.R_drew)); exact HO_6.out))) (Kd.R_lt (by (with_reducible repeat (first | apply Kd.R_alloc | apply Kd.R_drewN | apply Kd.R_drew)); exact HO295.out))) (below_size (by repeat (first | (with_reducible first | exact HB.out | apply below_alloc | apply pw_below_drewN | apply below_drew1 | refine below_set ?_ GE275.out) | exact HB.out)))); have n4_ := Aside0.mk (blk_below (g := gb275) (o := .cells #[.int .i64 t269, .slice Ao13 t270.length co13] 30 (0, 0)) (by (with_reducible repeat (first | refine blk_drewN ?_ _ | refine blk_drew ?_ | refine blk_alloc ?_ _)); exact BK275.out) hb); have n5_ := Aside0.mk (below_step (by repeat (first | (with_reducible first | exact HB.out | apply below_alloc | apply pw_below_drewN | apply below_drew1 | refine below_set ?_ GE275.out) | exact HB.out)) hb); clear HO_6; clear HO_276001; clear HO295; clear BK275; clear HB; have HO_6 := n0_; have HO_276001 := n1_; have HO295 := n2_; have HO298 := n3_; have BK275 := n4_; have HB := n5_; clear n0_ n1_ n2_ n3_ n4_ n5_; (try clear hb); (try clear hb2); (try clear hk); (try clear hi); (try clear ho0)))
                                go_roundg kj57
                                case measure => have := HJ8.out; have := HJ32.out; have := HK3.out; have := HJ57.out; omega
                                case rel => exact ⟨(wrap64 (x9_3 + 1)), (by first | rfl | (simp; done) | (simp [*]; done)), H', ⟨by have := HJ8.out; have := HJ32.out; have := HK3.out; have := HJ57.out; omega⟩, ⟨by (with_reducible repeat (first | apply Kd.R_alloc | apply Kd.R_drewN | apply Kd.R_drew)); exact Kd.R_mono HO_6.out (fun _ hk => trivial)⟩, ⟨by (with_reducible repeat (first | apply Kd.R_alloc | apply Kd.R_drewN | apply Kd.R_drew)); exact HO_276001.out⟩, ⟨by (with_reducible repeat (first | refine blk_drewN ?_ _ | refine blk_drew ?_ | refine blk_alloc ?_ _)); exact BK275.out⟩, ⟨by repeat (first | (with_reducible first | exact HB.out | apply below_alloc | apply pw_below_drewN | apply below_drew1 | refine below_set ?_ GE275.out) | exact HB.out)⟩⟩
                              · rw [if_neg c67] at H
                                have c67b0 : (x9_3 == t273) = false := beq_eq_false_iff_ne.mpr c67
                                have c67b1 : (x9_3 != t273) = true := bne_iff_ne.mpr c67
                                by_cases c72 : x9_3 = t274
                                · rw [if_pos c72] at H
                                  have c72b0 : (x9_3 == t274) = true := beq_iff_eq.mpr c72
                                  have c72b1 : (x9_3 != t274) = false := bne_eq_false_iff_eq.mpr c72
                                  clear c72
                                  have H' := Aside0.mk H
                                  clear H
                                  have hcz73_0 : wc.cell? ⟨gb275, 0, none⟩ = some (.int .i64 t269) := (blk_cell BK275.out 0).trans rfl
                                  have hcz73_1 : wc.cell? ⟨gb275, 1, none⟩ = some (.slice Ao13 t270.length co13) := (blk_cell BK275.out 1).trans rfl
                                  have hfz73_0 := blk_frozen BK275.out 0
                                  have hfz73_1 := blk_frozen BK275.out 1
                                  go_wp2_with (first | ((with_reducible refine gate_callee (f := 16) rfl ?_); refine goesL_ (some 94) rfl rfl Try.func16 (by kernel_rfl) rfl #[.agg #[.int .i64 t269, .slice Ao13 t270.length co13], .int .i64 t273, .int .i64 x9_3] rfl (by (try simp only [List.map_toArray, List.map_cons, List.map_nil]); first | done | rfl | (simp only [List.length_drop, List.length_take]; rfl)) ?_; (with_reducible refine (impl_RouteTo.calls kj57 t269 _ _ t270 t273 x9_3 t293 _ ?side1 ?side2 A65.out).mono ?_); (case side1 => repeat (first | exact (Kd.R_reads' HO_276001.out).2.2 | (with_reducible refine Kd.C_alloc ?_ _) | (with_reducible refine Kd.C_drewN ?_ _) | (with_reducible refine Kd.C_drew ?_))); (case side2 => exact (Kd.R_reads' HO_276001.out).2.1); rintro e w74 ⟨v294, rfl, ho0, hb⟩; refine ⟨_, rfl, ?_⟩; have n0_ := Aside0.mk (Kd.R_elder' (by (with_reducible repeat (first | apply Kd.R_alloc | apply Kd.R_drewN | apply Kd.R_drew)); exact HO_6.out) (Kd.R_base ho0) hb); have n1_ := Aside0.mk (Kd.R_below (by (with_reducible repeat (first | apply Kd.R_alloc | apply Kd.R_drewN | apply Kd.R_drew)); exact HO_276001.out) hb); have n2_ := Aside0.mk (Kd.R_lower (Kd.R_new' ho0 (Kd.R_lt (by (with_reducible repeat (first | apply Kd.R_alloc | apply Kd.R_drewN | apply Kd.R_drew)); exact HO_6.out))) (below_size (by repeat (first | (with_reducible first | exact HB.out | apply below_alloc | apply pw_below_drewN | apply below_drew1 | refine below_set ?_ GE275.out) | exact HB.out)))); have n3_ := Aside0.mk (blk_below (g := gb275) (o := .cells #[.int .i64 t269, .slice Ao13 t270.length co13] 30 (0, 0)) (by (with_reducible repeat (first | refine blk_drewN ?_ _ | refine blk_drew ?_ | refine blk_alloc ?_ _)); exact BK275.out) hb); have n4_ := Aside0.mk (below_step (by repeat (first | (with_reducible first | exact HB.out | apply below_alloc | apply pw_below_drewN | apply below_drew1 | refine below_set ?_ GE275.out) | exact HB.out)) hb); clear HO_6; clear HO_276001; clear BK275; clear HB; have HO_6 := n0_; have HO_276001 := n1_; have HO295 := n2_; have BK275 := n3_; have HB := n4_; clear n0_ n1_ n2_ n3_ n4_; (try clear hb); (try clear hb2); (try clear hk); (try clear hi); (try clear ho0); have hcz75_0 : w74.cell? ⟨gb275, 0, none⟩ = some (.int .i64 t269) := (blk_cell BK275.out 0).trans rfl; have hcz75_1 : w74.cell? ⟨gb275, 1, none⟩ = some (.slice Ao13 t270.length co13) := (blk_cell BK275.out 1).trans rfl; have hfz75_0 := blk_frozen BK275.out 0; have hfz75_1 := blk_frozen BK275.out 1) | ((with_reducible refine gate_callee (f := 16) rfl ?_); refine goesL_ (some 98) rfl rfl Try.func16 (by kernel_rfl) rfl #[.agg #[.int .i64 t269, .slice Ao13 t270.length co13], .int .i64 x9_3, .int .i64 t274] rfl (by (try simp only [List.map_toArray, List.map_cons, List.map_nil]); first | done | rfl | (simp only [List.length_drop, List.length_take]; rfl)) ?_; (with_reducible refine (impl_RouteTo.calls kj57 t269 _ _ t270 x9_3 t274 t296 _ ?side1 ?side2 A66.out).mono ?_); (case side1 => repeat (first | exact (Kd.R_reads' HO_276001.out).2.2 | (with_reducible refine Kd.C_alloc ?_ _) | (with_reducible refine Kd.C_drewN ?_ _) | (with_reducible refine Kd.C_drew ?_))); (case side2 => exact (Kd.R_reads' HO_276001.out).2.1); rintro e w76 ⟨v297, rfl, ho0, hb⟩; refine ⟨_, rfl, ?_⟩; have n0_ := Aside0.mk (Kd.R_elder' (by (with_reducible repeat (first | apply Kd.R_alloc | apply Kd.R_drewN | apply Kd.R_drew)); exact HO_6.out) (Kd.R_base ho0) hb); have n1_ := Aside0.mk (Kd.R_below (by (with_reducible repeat (first | apply Kd.R_alloc | apply Kd.R_drewN | apply Kd.R_drew)); exact HO_276001.out) hb); have n2_ := Aside0.mk (Kd.R_elder' (by (with_reducible repeat (first | apply Kd.R_alloc | apply Kd.R_drewN | apply Kd.R_drew)); exact HO295.out) (Kd.R_base ho0) hb); have n3_ := Aside0.mk (Kd.R_lower (Kd.R_new' (Kd.R_new' ho0 (Kd.R_lt (by (with_reducible repeat (first | apply Kd.R_alloc | apply Kd.R_drewN | apply Kd.R_drew)); exact HO_6.out))) (Kd.R_lt (by (with_reducible repeat (first | apply Kd.R_alloc | apply Kd.R_drewN | apply Kd.R_drew)); exact HO295.out))) (below_size (by repeat (first | (with_reducible first | exact HB.out | apply below_alloc | apply pw_below_drewN | apply below_drew1 | refine below_set ?_ GE275.out) | exact HB.out)))); have n4_ := Aside0.mk (blk_below (g := gb275) (o := .cells #[.int .i64 t269, .slice Ao13 t270.length co13] 30 (0, 0)) (by (with_reducible repeat (first | refine blk_drewN ?_ _ | refine blk_drew ?_ | refine blk_alloc ?_ _)); exact BK275.out) hb); have n5_ := Aside0.mk (below_step (by repeat (first | (with_reducible first | exact HB.out | apply below_alloc | apply pw_below_drewN | apply below_drew1 | refine below_set ?_ GE275.out) | exact HB.out)) hb); clear HO_6; clear HO_276001; clear HO295; clear BK275; clear HB; have HO_6 := n0_; have HO_276001 := n1_; have HO295 := n2_; have HO298 := n3_; have BK275 := n4_; have HB := n5_; clear n0_ n1_ n2_ n3_ n4_ n5_; (try clear hb); (try clear hb2); (try clear hk); (try clear hi); (try clear ho0)))
                                  go_roundg kj57
                                  case measure => have := HJ8.out; have := HJ32.out; have := HK3.out; have := HJ57.out; omega
                                  case rel => exact ⟨(wrap64 (x9_3 + 1)), (by first | rfl | (simp; done) | (simp [*]; done)), H', ⟨by have := HJ8.out; have := HJ32.out; have := HK3.out; have := HJ57.out; omega⟩, ⟨by (with_reducible repeat (first | apply Kd.R_alloc | apply Kd.R_drewN | apply Kd.R_drew)); exact Kd.R_mono HO_6.out (fun _ hk => trivial)⟩, ⟨by (with_reducible repeat (first | apply Kd.R_alloc | apply Kd.R_drewN | apply Kd.R_drew)); exact HO_276001.out⟩, ⟨by (with_reducible repeat (first | refine blk_drewN ?_ _ | refine blk_drew ?_ | refine blk_alloc ?_ _)); exact BK275.out⟩, ⟨by repeat (first | (with_reducible first | exact HB.out | apply below_alloc | apply pw_below_drewN | apply below_drew1 | refine below_set ?_ GE275.out) | exact HB.out)⟩⟩
                                · rw [if_neg c72] at H
                                  have c72b0 : (x9_3 == t274) = false := beq_eq_false_iff_ne.mpr c72
                                  have c72b1 : (x9_3 != t274) = true := bne_iff_ne.mpr c72
                                  by_cases c77 : (t293.length : Int) > 0
                                  · rw [if_pos c77] at H
                                    have c77b0 : decide (0 < (t293.length : Int)) = true := decide_eq_true c77
                                    have c77b1 : decide (0 < t293.length) = true := decide_eq_true (by omega)
                                    clear c77
                                    by_cases c78 : (t296.length : Int) > 0
                                    · rw [if_pos c78] at H
                                      have c78b0 : decide (0 < (t296.length : Int)) = true := decide_eq_true c78
                                      have c78b1 : decide (0 < t296.length) = true := decide_eq_true (by omega)
                                      clear c78
                                      by_cases c79 : (wrap64 ((t293.length : Int) + (t296.length : Int))) < (t276.length : Int)
                                      · rw [if_pos c79] at H
                                        have c79b0 : decide ((wrap64 ((t293.length : Int) + (t296.length : Int))) < (t276.length : Int)) = true := decide_eq_true c79
                                        clear c79
                                        exact absurd ((Option.some.inj H).trans hrt.out) (by decide)
                                      · rw [if_neg c79] at H
                                        have c79b0 : decide ((wrap64 ((t293.length : Int) + (t296.length : Int))) < (t276.length : Int)) = false := decide_eq_false c79
                                        clear c79
                                        have H' := Aside0.mk H
                                        clear H
                                        have hcz80_0 : wc.cell? ⟨gb275, 0, none⟩ = some (.int .i64 t269) := (blk_cell BK275.out 0).trans rfl
                                        have hcz80_1 : wc.cell? ⟨gb275, 1, none⟩ = some (.slice Ao13 t270.length co13) := (blk_cell BK275.out 1).trans rfl
                                        have hfz80_0 := blk_frozen BK275.out 0
                                        have hfz80_1 := blk_frozen BK275.out 1
                                        go_wp2_with (first | ((with_reducible refine gate_callee (f := 16) rfl ?_); refine goesL_ (some 94) rfl rfl Try.func16 (by kernel_rfl) rfl #[.agg #[.int .i64 t269, .slice Ao13 t270.length co13], .int .i64 t273, .int .i64 x9_3] rfl (by (try simp only [List.map_toArray, List.map_cons, List.map_nil]); first | done | rfl | (simp only [List.length_drop, List.length_take]; rfl)) ?_; (with_reducible refine (impl_RouteTo.calls kj57 t269 _ _ t270 t273 x9_3 t293 _ ?side1 ?side2 A65.out).mono ?_); (case side1 => repeat (first | exact (Kd.R_reads' HO_276001.out).2.2 | (with_reducible refine Kd.C_alloc ?_ _) | (with_reducible refine Kd.C_drewN ?_ _) | (with_reducible refine Kd.C_drew ?_))); (case side2 => exact (Kd.R_reads' HO_276001.out).2.1); rintro e w81 ⟨v294, rfl, ho0, hb⟩; refine ⟨_, rfl, ?_⟩; have n0_ := Aside0.mk (Kd.R_elder' (by (with_reducible repeat (first | apply Kd.R_alloc | apply Kd.R_drewN | apply Kd.R_drew)); exact HO_6.out) (Kd.R_base ho0) hb); have n1_ := Aside0.mk (Kd.R_below (by (with_reducible repeat (first | apply Kd.R_alloc | apply Kd.R_drewN | apply Kd.R_drew)); exact HO_276001.out) hb); have n2_ := Aside0.mk (Kd.R_lower (Kd.R_new' ho0 (Kd.R_lt (by (with_reducible repeat (first | apply Kd.R_alloc | apply Kd.R_drewN | apply Kd.R_drew)); exact HO_6.out))) (below_size (by repeat (first | (with_reducible first | exact HB.out | apply below_alloc | apply pw_below_drewN | apply below_drew1 | refine below_set ?_ GE275.out) | exact HB.out)))); have n3_ := Aside0.mk (blk_below (g := gb275) (o := .cells #[.int .i64 t269, .slice Ao13 t270.length co13] 30 (0, 0)) (by (with_reducible repeat (first | refine blk_drewN ?_ _ | refine blk_drew ?_ | refine blk_alloc ?_ _)); exact BK275.out) hb); have n4_ := Aside0.mk (below_step (by repeat (first | (with_reducible first | exact HB.out | apply below_alloc | apply pw_below_drewN | apply below_drew1 | refine below_set ?_ GE275.out) | exact HB.out)) hb); clear HO_6; clear HO_276001; clear BK275; clear HB; have HO_6 := n0_; have HO_276001 := n1_; have HO295 := n2_; have BK275 := n3_; have HB := n4_; clear n0_ n1_ n2_ n3_ n4_; (try clear hb); (try clear hb2); (try clear hk); (try clear hi); (try clear ho0); have hcz82_0 : w81.cell? ⟨gb275, 0, none⟩ = some (.int .i64 t269) := (blk_cell BK275.out 0).trans rfl; have hcz82_1 : w81.cell? ⟨gb275, 1, none⟩ = some (.slice Ao13 t270.length co13) := (blk_cell BK275.out 1).trans rfl; have hfz82_0 := blk_frozen BK275.out 0; have hfz82_1 := blk_frozen BK275.out 1) | ((with_reducible refine gate_callee (f := 16) rfl ?_); refine goesL_ (some 98) rfl rfl Try.func16 (by kernel_rfl) rfl #[.agg #[.int .i64 t269, .slice Ao13 t270.length co13], .int .i64 x9_3, .int .i64 t274] rfl (by (try simp only [List.map_toArray, List.map_cons, List.map_nil]); first | done | rfl | (simp only [List.length_drop, List.length_take]; rfl)) ?_; (with_reducible refine (impl_RouteTo.calls kj57 t269 _ _ t270 x9_3 t274 t296 _ ?side1 ?side2 A66.out).mono ?_); (case side1 => repeat (first | exact (Kd.R_reads' HO_276001.out).2.2 | (with_reducible refine Kd.C_alloc ?_ _) | (with_reducible refine Kd.C_drewN ?_ _) | (with_reducible refine Kd.C_drew ?_))); (case side2 => exact (Kd.R_reads' HO_276001.out).2.1); rintro e w83 ⟨v297, rfl, ho0, hb⟩; refine ⟨_, rfl, ?_⟩; have n0_ := Aside0.mk (Kd.R_elder' (by (with_reducible repeat (first | apply Kd.R_alloc | apply Kd.R_drewN | apply Kd.R_drew)); exact HO_6.out) (Kd.R_base ho0) hb); have n1_ := Aside0.mk (Kd.R_below (by (with_reducible repeat (first | apply Kd.R_alloc | apply Kd.R_drewN | apply Kd.R_drew)); exact HO_276001.out) hb); have n2_ := Aside0.mk (Kd.R_elder' (by (with_reducible repeat (first | apply Kd.R_alloc | apply Kd.R_drewN | apply Kd.R_drew)); exact HO295.out) (Kd.R_base ho0) hb); have n3_ := Aside0.mk (Kd.R_lower (Kd.R_new' (Kd.R_new' ho0 (Kd.R_lt (by (with_reducible repeat (first | apply Kd.R_alloc | apply Kd.R_drewN | apply Kd.R_drew)); exact HO_6.out))) (Kd.R_lt (by (with_reducible repeat (first | apply Kd.R_alloc | apply Kd.R_drewN | apply Kd.R_drew)); exact HO295.out))) (below_size (by repeat (first | (with_reducible first | exact HB.out | apply below_alloc | apply pw_below_drewN | apply below_drew1 | refine below_set ?_ GE275.out) | exact HB.out)))); have n4_ := Aside0.mk (blk_below (g := gb275) (o := .cells #[.int .i64 t269, .slice Ao13 t270.length co13] 30 (0, 0)) (by (with_reducible repeat (first | refine blk_drewN ?_ _ | refine blk_drew ?_ | refine blk_alloc ?_ _)); exact BK275.out) hb); have n5_ := Aside0.mk (below_step (by repeat (first | (with_reducible first | exact HB.out | apply below_alloc | apply pw_below_drewN | apply below_drew1 | refine below_set ?_ GE275.out) | exact HB.out)) hb); clear HO_6; clear HO_276001; clear HO295; clear BK275; clear HB; have HO_6 := n0_; have HO_276001 := n1_; have HO295 := n2_; have HO298 := n3_; have BK275 := n4_; have HB := n5_; clear n0_ n1_ n2_ n3_ n4_ n5_; (try clear hb); (try clear hb2); (try clear hk); (try clear hi); (try clear ho0); obtain ⟨Ao84, co84, eo84⟩ := Kd.R_slice HO295.out; subst eo84; obtain ⟨Ao85, co85, eo85⟩ := Kd.R_slice HO298.out; subst eo85))
                                        go_roundg kj57
                                        case measure => have := HJ8.out; have := HJ32.out; have := HK3.out; have := HJ57.out; omega
                                        case rel => exact ⟨(wrap64 (x9_3 + 1)), (by first | rfl | (simp; done) | (simp [*]; done)), H', ⟨by have := HJ8.out; have := HJ32.out; have := HK3.out; have := HJ57.out; omega⟩, ⟨by (with_reducible repeat (first | apply Kd.R_alloc | apply Kd.R_drewN | apply Kd.R_drew)); exact Kd.R_mono HO_6.out (fun _ hk => trivial)⟩, ⟨by (with_reducible repeat (first | apply Kd.R_alloc | apply Kd.R_drewN | apply Kd.R_drew)); exact HO_276001.out⟩, ⟨by (with_reducible repeat (first | refine blk_drewN ?_ _ | refine blk_drew ?_ | refine blk_alloc ?_ _)); exact BK275.out⟩, ⟨by repeat (first | (with_reducible first | exact HB.out | apply below_alloc | apply pw_below_drewN | apply below_drew1 | refine below_set ?_ GE275.out) | exact HB.out)⟩⟩
                                    · rw [if_neg c78] at H
                                      have c78b0 : decide (0 < (t296.length : Int)) = false := decide_eq_false c78
                                      have c78b1 : decide (0 < t296.length) = false := decide_eq_false (by omega)
                                      clear c78
                                      have H' := Aside0.mk H
                                      clear H
                                      have hcz86_0 : wc.cell? ⟨gb275, 0, none⟩ = some (.int .i64 t269) := (blk_cell BK275.out 0).trans rfl
                                      have hcz86_1 : wc.cell? ⟨gb275, 1, none⟩ = some (.slice Ao13 t270.length co13) := (blk_cell BK275.out 1).trans rfl
                                      have hfz86_0 := blk_frozen BK275.out 0
                                      have hfz86_1 := blk_frozen BK275.out 1
                                      go_wp2_with (first | ((with_reducible refine gate_callee (f := 16) rfl ?_); refine goesL_ (some 94) rfl rfl Try.func16 (by kernel_rfl) rfl #[.agg #[.int .i64 t269, .slice Ao13 t270.length co13], .int .i64 t273, .int .i64 x9_3] rfl (by (try simp only [List.map_toArray, List.map_cons, List.map_nil]); first | done | rfl | (simp only [List.length_drop, List.length_take]; rfl)) ?_; (with_reducible refine (impl_RouteTo.calls kj57 t269 _ _ t270 t273 x9_3 t293 _ ?side1 ?side2 A65.out).mono ?_); (case side1 => repeat (first | exact (Kd.R_reads' HO_276001.out).2.2 | (with_reducible refine Kd.C_alloc ?_ _) | (with_reducible refine Kd.C_drewN ?_ _) | (with_reducible refine Kd.C_drew ?_))); (case side2 => exact (Kd.R_reads' HO_276001.out).2.1); rintro e w87 ⟨v294, rfl, ho0, hb⟩; refine ⟨_, rfl, ?_⟩; have n0_ := Aside0.mk (Kd.R_elder' (by (with_reducible repeat (first | apply Kd.R_alloc | apply Kd.R_drewN | apply Kd.R_drew)); exact HO_6.out) (Kd.R_base ho0) hb); have n1_ := Aside0.mk (Kd.R_below (by (with_reducible repeat (first | apply Kd.R_alloc | apply Kd.R_drewN | apply Kd.R_drew)); exact HO_276001.out) hb); have n2_ := Aside0.mk (Kd.R_lower (Kd.R_new' ho0 (Kd.R_lt (by (with_reducible repeat (first | apply Kd.R_alloc | apply Kd.R_drewN | apply Kd.R_drew)); exact HO_6.out))) (below_size (by repeat (first | (with_reducible first | exact HB.out | apply below_alloc | apply pw_below_drewN | apply below_drew1 | refine below_set ?_ GE275.out) | exact HB.out)))); have n3_ := Aside0.mk (blk_below (g := gb275) (o := .cells #[.int .i64 t269, .slice Ao13 t270.length co13] 30 (0, 0)) (by (with_reducible repeat (first | refine blk_drewN ?_ _ | refine blk_drew ?_ | refine blk_alloc ?_ _)); exact BK275.out) hb); have n4_ := Aside0.mk (below_step (by repeat (first | (with_reducible first | exact HB.out | apply below_alloc | apply pw_below_drewN | apply below_drew1 | refine below_set ?_ GE275.out) | exact HB.out)) hb); clear HO_6; clear HO_276001; clear BK275; clear HB; have HO_6 := n0_; have HO_276001 := n1_; have HO295 := n2_; have BK275 := n3_; have HB := n4_; clear n0_ n1_ n2_ n3_ n4_; (try clear hb); (try clear hb2); (try clear hk); (try clear hi); (try clear ho0); have hcz88_0 : w87.cell? ⟨gb275, 0, none⟩ = some (.int .i64 t269) := (blk_cell BK275.out 0).trans rfl; have hcz88_1 : w87.cell? ⟨gb275, 1, none⟩ = some (.slice Ao13 t270.length co13) := (blk_cell BK275.out 1).trans rfl; have hfz88_0 := blk_frozen BK275.out 0; have hfz88_1 := blk_frozen BK275.out 1) | ((with_reducible refine gate_callee (f := 16) rfl ?_); refine goesL_ (some 98) rfl rfl Try.func16 (by kernel_rfl) rfl #[.agg #[.int .i64 t269, .slice Ao13 t270.length co13], .int .i64 x9_3, .int .i64 t274] rfl (by (try simp only [List.map_toArray, List.map_cons, List.map_nil]); first | done | rfl | (simp only [List.length_drop, List.length_take]; rfl)) ?_; (with_reducible refine (impl_RouteTo.calls kj57 t269 _ _ t270 x9_3 t274 t296 _ ?side1 ?side2 A66.out).mono ?_); (case side1 => repeat (first | exact (Kd.R_reads' HO_276001.out).2.2 | (with_reducible refine Kd.C_alloc ?_ _) | (with_reducible refine Kd.C_drewN ?_ _) | (with_reducible refine Kd.C_drew ?_))); (case side2 => exact (Kd.R_reads' HO_276001.out).2.1); rintro e w89 ⟨v297, rfl, ho0, hb⟩; refine ⟨_, rfl, ?_⟩; have n0_ := Aside0.mk (Kd.R_elder' (by (with_reducible repeat (first | apply Kd.R_alloc | apply Kd.R_drewN | apply Kd.R_drew)); exact HO_6.out) (Kd.R_base ho0) hb); have n1_ := Aside0.mk (Kd.R_below (by (with_reducible repeat (first | apply Kd.R_alloc | apply Kd.R_drewN | apply Kd.R_drew)); exact HO_276001.out) hb); have n2_ := Aside0.mk (Kd.R_elder' (by (with_reducible repeat (first | apply Kd.R_alloc | apply Kd.R_drewN | apply Kd.R_drew)); exact HO295.out) (Kd.R_base ho0) hb); have n3_ := Aside0.mk (Kd.R_lower (Kd.R_new' (Kd.R_new' ho0 (Kd.R_lt (by (with_reducible repeat (first | apply Kd.R_alloc | apply Kd.R_drewN | apply Kd.R_drew)); exact HO_6.out))) (Kd.R_lt (by (with_reducible repeat (first | apply Kd.R_alloc | apply Kd.R_drewN | apply Kd.R_drew)); exact HO295.out))) (below_size (by repeat (first | (with_reducible first | exact HB.out | apply below_alloc | apply pw_below_drewN | apply below_drew1 | refine below_set ?_ GE275.out) | exact HB.out)))); have n4_ := Aside0.mk (blk_below (g := gb275) (o := .cells #[.int .i64 t269, .slice Ao13 t270.length co13] 30 (0, 0)) (by (with_reducible repeat (first | refine blk_drewN ?_ _ | refine blk_drew ?_ | refine blk_alloc ?_ _)); exact BK275.out) hb); have n5_ := Aside0.mk (below_step (by repeat (first | (with_reducible first | exact HB.out | apply below_alloc | apply pw_below_drewN | apply below_drew1 | refine below_set ?_ GE275.out) | exact HB.out)) hb); clear HO_6; clear HO_276001; clear HO295; clear BK275; clear HB; have HO_6 := n0_; have HO_276001 := n1_; have HO295 := n2_; have HO298 := n3_; have BK275 := n4_; have HB := n5_; clear n0_ n1_ n2_ n3_ n4_ n5_; (try clear hb); (try clear hb2); (try clear hk); (try clear hi); (try clear ho0); obtain ⟨Ao90, co90, eo90⟩ := Kd.R_slice HO295.out; subst eo90; obtain ⟨Ao91, co91, eo91⟩ := Kd.R_slice HO298.out; subst eo91))
                                      go_roundg kj57
                                      case measure => have := HJ8.out; have := HJ32.out; have := HK3.out; have := HJ57.out; omega
                                      case rel => exact ⟨(wrap64 (x9_3 + 1)), (by first | rfl | (simp; done) | (simp [*]; done)), H', ⟨by have := HJ8.out; have := HJ32.out; have := HK3.out; have := HJ57.out; omega⟩, ⟨by (with_reducible repeat (first | apply Kd.R_alloc | apply Kd.R_drewN | apply Kd.R_drew)); exact Kd.R_mono HO_6.out (fun _ hk => trivial)⟩, ⟨by (with_reducible repeat (first | apply Kd.R_alloc | apply Kd.R_drewN | apply Kd.R_drew)); exact HO_276001.out⟩, ⟨by (with_reducible repeat (first | refine blk_drewN ?_ _ | refine blk_drew ?_ | refine blk_alloc ?_ _)); exact BK275.out⟩, ⟨by repeat (first | (with_reducible first | exact HB.out | apply below_alloc | apply pw_below_drewN | apply below_drew1 | refine below_set ?_ GE275.out) | exact HB.out)⟩⟩
                                  · rw [if_neg c77] at H
                                    have c77b0 : decide (0 < (t293.length : Int)) = false := decide_eq_false c77
                                    have c77b1 : decide (0 < t293.length) = false := decide_eq_false (by omega)
                                    clear c77
                                    have H' := Aside0.mk H
                                    clear H
                                    have hcz92_0 : wc.cell? ⟨gb275, 0, none⟩ = some (.int .i64 t269) := (blk_cell BK275.out 0).trans rfl
                                    have hcz92_1 : wc.cell? ⟨gb275, 1, none⟩ = some (.slice Ao13 t270.length co13) := (blk_cell BK275.out 1).trans rfl
                                    have hfz92_0 := blk_frozen BK275.out 0
                                    have hfz92_1 := blk_frozen BK275.out 1
                                    go_wp2_with (first | ((with_reducible refine gate_callee (f := 16) rfl ?_); refine goesL_ (some 94) rfl rfl Try.func16 (by kernel_rfl) rfl #[.agg #[.int .i64 t269, .slice Ao13 t270.length co13], .int .i64 t273, .int .i64 x9_3] rfl (by (try simp only [List.map_toArray, List.map_cons, List.map_nil]); first | done | rfl | (simp only [List.length_drop, List.length_take]; rfl)) ?_; (with_reducible refine (impl_RouteTo.calls kj57 t269 _ _ t270 t273 x9_3 t293 _ ?side1 ?side2 A65.out).mono ?_); (case side1 => repeat (first | exact (Kd.R_reads' HO_276001.out).2.2 | (with_reducible refine Kd.C_alloc ?_ _) | (with_reducible refine Kd.C_drewN ?_ _) | (with_reducible refine Kd.C_drew ?_))); (case side2 => exact (Kd.R_reads' HO_276001.out).2.1); rintro e w93 ⟨v294, rfl, ho0, hb⟩; refine ⟨_, rfl, ?_⟩; have n0_ := Aside0.mk (Kd.R_elder' (by (with_reducible repeat (first | apply Kd.R_alloc | apply Kd.R_drewN | apply Kd.R_drew)); exact HO_6.out) (Kd.R_base ho0) hb); have n1_ := Aside0.mk (Kd.R_below (by (with_reducible repeat (first | apply Kd.R_alloc | apply Kd.R_drewN | apply Kd.R_drew)); exact HO_276001.out) hb); have n2_ := Aside0.mk (Kd.R_lower (Kd.R_new' ho0 (Kd.R_lt (by (with_reducible repeat (first | apply Kd.R_alloc | apply Kd.R_drewN | apply Kd.R_drew)); exact HO_6.out))) (below_size (by repeat (first | (with_reducible first | exact HB.out | apply below_alloc | apply pw_below_drewN | apply below_drew1 | refine below_set ?_ GE275.out) | exact HB.out)))); have n3_ := Aside0.mk (blk_below (g := gb275) (o := .cells #[.int .i64 t269, .slice Ao13 t270.length co13] 30 (0, 0)) (by (with_reducible repeat (first | refine blk_drewN ?_ _ | refine blk_drew ?_ | refine blk_alloc ?_ _)); exact BK275.out) hb); have n4_ := Aside0.mk (below_step (by repeat (first | (with_reducible first | exact HB.out | apply below_alloc | apply pw_below_drewN | apply below_drew1 | refine below_set ?_ GE275.out) | exact HB.out)) hb); clear HO_6; clear HO_276001; clear BK275; clear HB; have HO_6 := n0_; have HO_276001 := n1_; have HO295 := n2_; have BK275 := n3_; have HB := n4_; clear n0_ n1_ n2_ n3_ n4_; (try clear hb); (try clear hb2); (try clear hk); (try clear hi); (try clear ho0); have hcz94_0 : w93.cell? ⟨gb275, 0, none⟩ = some (.int .i64 t269) := (blk_cell BK275.out 0).trans rfl; have hcz94_1 : w93.cell? ⟨gb275, 1, none⟩ = some (.slice Ao13 t270.length co13) := (blk_cell BK275.out 1).trans rfl; have hfz94_0 := blk_frozen BK275.out 0; have hfz94_1 := blk_frozen BK275.out 1) | ((with_reducible refine gate_callee (f := 16) rfl ?_); refine goesL_ (some 98) rfl rfl Try.func16 (by kernel_rfl) rfl #[.agg #[.int .i64 t269, .slice Ao13 t270.length co13], .int .i64 x9_3, .int .i64 t274] rfl (by (try simp only [List.map_toArray, List.map_cons, List.map_nil]); first | done | rfl | (simp only [List.length_drop, List.length_take]; rfl)) ?_; (with_reducible refine (impl_RouteTo.calls kj57 t269 _ _ t270 x9_3 t274 t296 _ ?side1 ?side2 A66.out).mono ?_); (case side1 => repeat (first | exact (Kd.R_reads' HO_276001.out).2.2 | (with_reducible refine Kd.C_alloc ?_ _) | (with_reducible refine Kd.C_drewN ?_ _) | (with_reducible refine Kd.C_drew ?_))); (case side2 => exact (Kd.R_reads' HO_276001.out).2.1); rintro e w95 ⟨v297, rfl, ho0, hb⟩; refine ⟨_, rfl, ?_⟩; have n0_ := Aside0.mk (Kd.R_elder' (by (with_reducible repeat (first | apply Kd.R_alloc | apply Kd.R_drewN | apply Kd.R_drew)); exact HO_6.out) (Kd.R_base ho0) hb); have n1_ := Aside0.mk (Kd.R_below (by (with_reducible repeat (first | apply Kd.R_alloc | apply Kd.R_drewN | apply Kd.R_drew)); exact HO_276001.out) hb); have n2_ := Aside0.mk (Kd.R_elder' (by (with_reducible repeat (first | apply Kd.R_alloc | apply Kd.R_drewN | apply Kd.R_drew)); exact HO295.out) (Kd.R_base ho0) hb); have n3_ := Aside0.mk (Kd.R_lower (Kd.R_new' (Kd.R_new' ho0 (Kd.R_lt (by (with_reducible repeat (first | apply Kd.R_alloc | apply Kd.R_drewN | apply Kd.R_drew)); exact HO_6.out))) (Kd.R_lt (by (with_reducible repeat (first | apply Kd.R_alloc | apply Kd.R_drewN | apply Kd.R_drew)); exact HO295.out))) (below_size (by repeat (first | (with_reducible first | exact HB.out | apply below_alloc | apply pw_below_drewN | apply below_drew1 | refine below_set ?_ GE275.out) | exact HB.out)))); have n4_ := Aside0.mk (blk_below (g := gb275) (o := .cells #[.int .i64 t269, .slice Ao13 t270.length co13] 30 (0, 0)) (by (with_reducible repeat (first | refine blk_drewN ?_ _ | refine blk_drew ?_ | refine blk_alloc ?_ _)); exact BK275.out) hb); have n5_ := Aside0.mk (below_step (by repeat (first | (with_reducible first | exact HB.out | apply below_alloc | apply pw_below_drewN | apply below_drew1 | refine below_set ?_ GE275.out) | exact HB.out)) hb); clear HO_6; clear HO_276001; clear HO295; clear BK275; clear HB; have HO_6 := n0_; have HO_276001 := n1_; have HO295 := n2_; have HO298 := n3_; have BK275 := n4_; have HB := n5_; clear n0_ n1_ n2_ n3_ n4_ n5_; (try clear hb); (try clear hb2); (try clear hk); (try clear hi); (try clear ho0); obtain ⟨Ao96, co96, eo96⟩ := Kd.R_slice HO295.out; subst eo96))
                                    go_roundg kj57
                                    case measure => have := HJ8.out; have := HJ32.out; have := HK3.out; have := HJ57.out; omega
                                    case rel => exact ⟨(wrap64 (x9_3 + 1)), (by first | rfl | (simp; done) | (simp [*]; done)), H', ⟨by have := HJ8.out; have := HJ32.out; have := HK3.out; have := HJ57.out; omega⟩, ⟨by (with_reducible repeat (first | apply Kd.R_alloc | apply Kd.R_drewN | apply Kd.R_drew)); exact Kd.R_mono HO_6.out (fun _ hk => trivial)⟩, ⟨by (with_reducible repeat (first | apply Kd.R_alloc | apply Kd.R_drewN | apply Kd.R_drew)); exact HO_276001.out⟩, ⟨by (with_reducible repeat (first | refine blk_drewN ?_ _ | refine blk_drew ?_ | refine blk_alloc ?_ _)); exact BK275.out⟩, ⟨by repeat (first | (with_reducible first | exact HB.out | apply below_alloc | apply pw_below_drewN | apply below_drew1 | refine below_set ?_ GE275.out) | exact HB.out)⟩⟩
                            · replace c64 := Bool.eq_false_iff.mpr c64
                              subst c64
                              have H1 : (if (t270.length : Int) = 0 then (some true) else (if (t270.length : Int) > 6 then (some true) else ((impl_RowOf.f kj57 t276 (t270.length : Int)).bind fun t289 => ((laws_sumOf.f kj57 t289).bind fun t292 => (some (t292 == (t276.length : Int))))))) = some r := by rw [if_neg (show ¬ (false = true) by decide)] at H; exact H
                              clear H
                              have H := H1
                              clear H1
                              by_cases c97 : (t270.length : Int) = 0
                              · rw [if_pos c97] at H
                                have c97b0 : ((t270.length : Int) == 0) = true := beq_iff_eq.mpr c97
                                have c97b1 : ((t270.length : Int) != 0) = false := bne_eq_false_iff_eq.mpr c97
                                clear c97
                                obtain rfl := Option.some.inj H
                                have hcz98_0 : wc.cell? ⟨gb275, 0, none⟩ = some (.int .i64 t269) := (blk_cell BK275.out 0).trans rfl
                                have hcz98_1 : wc.cell? ⟨gb275, 1, none⟩ = some (.slice Ao13 t270.length co13) := (blk_cell BK275.out 1).trans rfl
                                have hfz98_0 := blk_frozen BK275.out 0
                                have hfz98_1 := blk_frozen BK275.out 1
                                go_wp2
                                go_ret
                                exact ⟨by first | rfl | (simp [errW_none, errW_some] <;> rfl) | (simp [*, errW_none, errW_some] <;> rfl), by repeat (first | (with_reducible first | exact HB.out | apply below_alloc | apply pw_below_drewN | apply below_drew1 | refine below_set ?_ GE275.out) | exact HB.out)⟩
                              · rw [if_neg c97] at H
                                have c97b0 : ((t270.length : Int) == 0) = false := beq_eq_false_iff_ne.mpr c97
                                have c97b1 : ((t270.length : Int) != 0) = true := bne_iff_ne.mpr c97
                                have c97b2 : ¬ (t270 = []) := fun h_ => c97 (by rw [h_]; rfl)
                                by_cases c99 : (t270.length : Int) > 6
                                · rw [if_pos c99] at H
                                  have c99b0 : decide (6 < (t270.length : Int)) = true := decide_eq_true c99
                                  have c99b1 : decide (6 < t270.length) = true := decide_eq_true (by omega)
                                  clear c99
                                  obtain rfl := Option.some.inj H
                                  have hcz100_0 : wc.cell? ⟨gb275, 0, none⟩ = some (.int .i64 t269) := (blk_cell BK275.out 0).trans rfl
                                  have hcz100_1 : wc.cell? ⟨gb275, 1, none⟩ = some (.slice Ao13 t270.length co13) := (blk_cell BK275.out 1).trans rfl
                                  have hfz100_0 := blk_frozen BK275.out 0
                                  have hfz100_1 := blk_frozen BK275.out 1
                                  go_wp2
                                  go_ret
                                  exact ⟨by first | rfl | (simp [errW_none, errW_some] <;> rfl) | (simp [*, errW_none, errW_some] <;> rfl), by repeat (first | (with_reducible first | exact HB.out | apply below_alloc | apply pw_below_drewN | apply below_drew1 | refine below_set ?_ GE275.out) | exact HB.out)⟩
                                · rw [if_neg c99] at H
                                  have c99b0 : decide (6 < (t270.length : Int)) = false := decide_eq_false c99
                                  have c99b1 : decide (6 < t270.length) = false := decide_eq_false (by omega)
                                  clear c99
                                  replace H := Option.bind_eq_some_iff.mp H
                                  obtain ⟨t289, A1010, H⟩ := H
                                  replace H : ((laws_sumOf.f kj57 t289).bind fun t292 => (some (t292 == (t276.length : Int)))) = some r := H
                                  have A101 := Aside0.mk A1010
                                  clear A1010
                                  replace H := Option.bind_eq_some_iff.mp H
                                  obtain ⟨t292, A1020, H⟩ := H
                                  replace H : (some (t292 == (t276.length : Int))) = some r := H
                                  have A102 := Aside0.mk A1020
                                  clear A1020
                                  obtain rfl := Option.some.inj H
                                  have hcz103_0 : wc.cell? ⟨gb275, 0, none⟩ = some (.int .i64 t269) := (blk_cell BK275.out 0).trans rfl
                                  have hcz103_1 : wc.cell? ⟨gb275, 1, none⟩ = some (.slice Ao13 t270.length co13) := (blk_cell BK275.out 1).trans rfl
                                  have hfz103_0 := blk_frozen BK275.out 0
                                  have hfz103_1 := blk_frozen BK275.out 1
                                  go_wp2_with (first | (go_at_call 34; (with_reducible refine (impl_RowOf.calls kj57 _ _ t276 (t270.length : Int) t289 _ ?side1 ?side2 A101.out).mono ?_); (case side1 => repeat (first | exact (Kd.R_reads' HO_6.out).2.2 | (with_reducible refine Kd.C_alloc ?_ _) | (with_reducible refine Kd.C_drewN ?_ _) | (with_reducible refine Kd.C_drew ?_))); (case side2 => exact (Kd.R_reads' HO_6.out).2.1); rintro e w104 ⟨v290, rfl, ho0, hb⟩; have n0_ := Aside0.mk (Kd.R_elder' (by (with_reducible repeat (first | apply Kd.R_alloc | apply Kd.R_drewN | apply Kd.R_drew)); exact HO_6.out) (Kd.R_base ho0) hb); have n1_ := Aside0.mk (Kd.R_below (by (with_reducible repeat (first | apply Kd.R_alloc | apply Kd.R_drewN | apply Kd.R_drew)); exact HO_276001.out) hb); have n2_ := Aside0.mk (Kd.R_lower (Kd.R_new' ho0 (Kd.R_lt (by (with_reducible repeat (first | apply Kd.R_alloc | apply Kd.R_drewN | apply Kd.R_drew)); exact HO_6.out))) (below_size (by repeat (first | (with_reducible first | exact HB.out | apply below_alloc | apply pw_below_drewN | apply below_drew1 | refine below_set ?_ GE275.out) | exact HB.out)))); have n3_ := Aside0.mk (blk_below (g := gb275) (o := .cells #[.int .i64 t269, .slice Ao13 t270.length co13] 30 (0, 0)) (by (with_reducible repeat (first | refine blk_drewN ?_ _ | refine blk_drew ?_ | refine blk_alloc ?_ _)); exact BK275.out) hb); have n4_ := Aside0.mk (below_step (by repeat (first | (with_reducible first | exact HB.out | apply below_alloc | apply pw_below_drewN | apply below_drew1 | refine below_set ?_ GE275.out) | exact HB.out)) hb); clear HO_6; clear HO_276001; clear BK275; clear HB; have HO_6 := n0_; have HO_276001 := n1_; have HO291 := n2_; have BK275 := n3_; have HB := n4_; clear n0_ n1_ n2_ n3_ n4_; (try clear hb); (try clear hb2); (try clear hk); (try clear hi); (try clear ho0); obtain ⟨Ao105, co105, eo105⟩ := Kd.R_slice HO291.out; subst eo105) | (go_at_call 33; (with_reducible refine (laws_sumOf.calls kj57 _ _ t289 t292 _ ?side1 ?side2 A102.out).mono ?_); (case side1 => repeat (first | exact (Kd.R_reads' HO291.out).2.2 | (with_reducible refine Kd.C_alloc ?_ _) | (with_reducible refine Kd.C_drewN ?_ _) | (with_reducible refine Kd.C_drew ?_))); (case side2 => exact (Kd.R_reads' HO291.out).2.1); rintro e w' ⟨rfl, ⟨nd, rfl⟩⟩))
                                  go_ret
                                  exact ⟨by first | rfl | (simp [errW_none, errW_some] <;> rfl) | (simp [*, errW_none, errW_some] <;> rfl), by repeat (first | (with_reducible first | exact HB.out | apply below_alloc | apply pw_below_drewN | apply below_drew1 | refine below_set ?_ GE275.out) | exact HB.out)⟩
                  · rw [if_neg c53] at H
                    have c53b0 : ((t286.length : Int) == (t276.length : Int)) = false := beq_eq_false_iff_ne.mpr c53
                    have c53b1 : ((t286.length : Int) != (t276.length : Int)) = true := bne_iff_ne.mpr c53
                    have c53b2 : (t286.length == t276.length) = false := by first | simpa using c53 | (simp at c53 ⊢; omega)
                    exact absurd ((Option.some.inj H).trans hrt.out) (by decide)

end Go.Proofs.Ytlplegdcpgbbbaa.Z
