-- Written by this session's wip/mp/mp.py out of the translation. Lean checks it.
import Derived.Test.YtgghhcifkgdpeaaZ0
import Derived.Test.YtgghhcifkgdpeaaZ7
import Derived.Test.YtgghhcifkgdpeaaZ8
import Derived.Test.YtgghhcifkgdpeaaZ10
import Derived.Test.YtgghhcifkgdpeaaZGroups
import Derived.Deep.RegionLaw
namespace Go.Proofs.Ytgghhcifkgdpeaa.Z
open Go.RowKit Go.Proofs.YtgghhcifkgdpeaaW.PrintWords Go.Proofs.YtgghhcifkgdpeaaW.PrintLast Go.Proofs.YtgghhcifkgdpeaaW.PrintMore
attribute [local go_sem] max2_int min2_int max_two min_two max_three min_three max_four min_four   -- for this text's walks alone
set_option linter.unusedVariables false
set_option linter.unusedSimpArgs false

-- GIVEN
-- FUNCTION loop.example/g00958/spec.GroupsOf rounds
-- ALONE
-- EXTRA loop.example/g00958/spec.AreReplies
-- EXTRA loop.example/g00958/spec.AddressesOf
-- EXTRA loop.example/g00958/spec.MayBeOne
-- KIND 24
-- INFO 3
-- INFO 37
-- IMPORT Derived.Test.YtgghhcifkgdpeaaZGroups
-- IMPORT Derived.Deep.RegionLaw
/-! ### spec_GroupsOf: function 8 -/
def spec_GroupsOf.f (k : Nat) (l0 : List S68) : Option (List (List Int)) := (spec_AreReplies.f k l0).bind fun b => if b = true then ((spec_AddressesOf.f k l0).bind fun a => if a.length ≤ 4096 then groupsO (spec_MayBeOne.f k l0) [] a else none) else some []
theorem spec_GroupsOf.mono : ∀ a0 k, LeO (spec_GroupsOf.f k a0) (spec_GroupsOf.f (k + 1) a0) := fun a0 k => LeO.bind (spec_AreReplies.mono a0 k) (fun _ => LeO.ite (LeO.bind (spec_AddressesOf.mono a0 k) (fun _ => LeO.ite (groupsO_mono (fun g => spec_MayBeOne.mono a0 g k) _ _) (LeO.refl _))) (LeO.refl _))

set_option maxRecDepth 100000 in
set_option maxHeartbeats 8000000 in
theorem spec_GroupsOf.calls (k : Nat) (A0 : Option Addr) (c0 : Nat) (l0 : List S68) (r : List (List Int)) (w : World) (hr0 : Kd.C k68 w A0 l0.length l0) (hc0 : l0.length ≤ c0) (h : spec_GroupsOf.f k l0 = some r) :
    Calls Try.prog 8 #[.slice A0 l0.length c0] w fun e w' => ∃ v0_ : Value, e = .returned (v0_) ∧ Kd.S KG 37 w' w.heap.size (fun _ => True) v0_ r ∧ Below w.heap.size w w' := by
  obtain ⟨b, hb, h⟩ := Option.bind_eq_some_iff.1 h
  have HA := Aside0.mk (fun (W : World) (hb0 : Below w.heap.size w W) => spec_AreReplies.calls k A0 c0 l0 b W (Kd.C_below hr0 hb0) hc0 hb)
  cases b with
  | true =>
    rw [if_pos rfl] at h
    obtain ⟨a, hd, h⟩ := Option.bind_eq_some_iff.1 h
    by_cases hn : a.length ≤ 4096
    rotate_left
    · rw [if_neg hn] at h; cases h
    rw [if_pos hn] at h
    have HD := Aside0.mk (fun (W : World) (hb0 : Below w.heap.size w W) => spec_AddressesOf.calls k A0 c0 l0 a W (Kd.C_below hr0 hb0) hc0 hd)
    have HR0 := Aside0.mk hr0
    have HC0 := Aside0.mk hc0
    have HG := Aside0.mk h
    obtain ⟨m, hm⟩ : ∃ m, a.length = m := ⟨_, rfl⟩
    have HAN := Aside0.mk hm
    have HM := Aside0.mk (show m ≤ 4096 by omega)
    clear hr0 hc0 hd h hb hn hm
    go_enter Try.func8, Try.ntmps8
    go_wp2_with (first | (go_at_call 19; refine (HA.out _ (by repeat (first | exact Below.refl _ _ | (with_reducible first | apply below_alloc | apply pw_below_drewN | apply below_drew1)))).mono ?_; rintro e w1 ⟨rfl, ⟨nd, rfl⟩⟩) | (go_at_call 41; refine (HD.out _ (by repeat (first | exact Below.refl _ _ | (with_reducible first | apply below_alloc | apply pw_below_drewN | apply below_drew1)))).mono ?_; rintro e w3 ⟨v4, rfl, ho3, hb3⟩; have B3 := Aside0.mk (below_step (by repeat (first | exact Below.refl _ _ | (with_reducible first | apply below_alloc | apply pw_below_drewN | apply below_drew1))) hb3 : Below w.heap.size w w3); have BE := Aside0.mk (blk_below (show ((w.alloc (.cells #[] 37 (0, 0))).drewN nd).heap[w.heap.size]? = some (.cells #[] 37 (0, 0)) from blk_drewN (blk_new _ _) _) hb3); have HO3 := Aside0.mk ho3; obtain ⟨A3, c3, e3⟩ := Kd.R_slice HO3.out; rw [HAN.out] at e3; subst e3; clear ho3 hb3))
    have HC3 := Aside0.mk (show Kd.C (Kd.int .i64) w3 A3 m a by have h_ := (Kd.R_reads' HO3.out).2.2; rwa [HAN.out] at h_)
    have HCA := Aside0.mk (fun (W : World) (hk : Kept w3 W (fun k => k = w.heap.size)) => (show Kd.C (Kd.int .i64) W A3 m a by
      have hr := Kd.R_mono (Kd.R_tight rfl HO3.out) (fun k hk => (show k ≠ w.heap.size from fun e_ => by have h_ := Kd.R_base HO3.out k hk.symm; subst e_; (try simp at h_); omega))
      have h_ := (Kd.R_reads' (Kd.R_kept hr hk (fun k h1 h2 => h1 h2))).2.2
      rwa [HAN.out] at h_))
    have HOK0 := Aside0.mk (show Kd.S KG 37 w3 w.heap.size (fun k => k = w.heap.size ∨ w3.heap.size ≤ k) (.slice (some ⟨w.heap.size, 0, none⟩) 0 0) [] from ⟨fun _ => 0, fun k hk => .inl (by have e : w.heap.size = k := (by simpa [Value.ownBlock] using hk); exact e.symm), [], ⟨rfl, .inr ⟨w.heap.size, 0, #[], rfl, Nat.le_refl _, BE.out, Nat.le_refl _, by decide, rfl, rfl⟩⟩, Reps.none _ _⟩)
    go_loopg [3, 5] (m + 1) (fun kq v3 v5 w' => ∃ (i : Nat) (gs : List (List Int)), v5 = .int .i64 (i : Int) ∧ Aside0 (i ≤ m ∧ m + 1 ≤ i + kq) ∧ Aside0 (groupsO (spec_MayBeOne.f k l0) gs (a.drop i) = some r) ∧ Aside0 (gs.length ≤ i ∧ ∀ g ∈ gs, g.length ≤ i) ∧ Aside0 (Kd.S KG 37 w' w.heap.size (fun k => k = w.heap.size ∨ w3.heap.size ≤ k) v3 gs) ∧ Aside0 (Kept w3 w' (fun k => k = w.heap.size)) ∧ Aside0 (Below w.heap.size w w'))
    case atStart => exact ⟨0, [], rfl, ⟨by omega⟩, ⟨HG.out⟩, ⟨by simp⟩, HOK0, ⟨Kept.refl _ _⟩, B3⟩
    case round =>
      obtain ⟨i, gs, rfl, HI, HE, HGN, HS, HK, HB⟩ := hrel
      cases gk with
      | zero => exact absurd HI.out (by omega)
      | succ k1 =>
        by_cases hi : i < m
        · have HL := Aside0.mk hi
          have cb : decide ((i : Int) < (m : Int)) = true := decide_eq_true (by omega)
          have cb2 : decide (i < m) = true := decide_eq_true hi
          have hil : i < a.length := by rw [HAN.out]; exact hi
          obtain ⟨ad, e0, q0⟩ := at_int (HCA.out _ HK.out) (i : Int) (by omega) (by omega)
          cases e0
          have hx : rd a (i : Int) = a[i] := getD_at a i _ hil
          have hdr : a.drop i = a[i] :: a.drop (i + 1) := List.drop_eq_getElem_cons hil
          rw [hx] at q0
          have hge := HE.out
          rw [hdr] at hge
          obtain ⟨hm1, hm2⟩ := groupsO_some hge
          have HCX := Aside0.mk (fun (W : World) (hk : Kept w3 W (fun k => k = w.heap.size)) => (show W.cell? (ad.add i) = some (.int .i64 a[i]) by
            obtain ⟨ad2, e2, q2⟩ := at_int (HCA.out _ hk) (i : Int) (by omega) (by omega)
            cases e2
            rw [hx] at q2
            simpa using q2))
          generalize a[i] = x at q0 hm1 hm2 hge HCX
          simp only [Int.toNat_natCast] at q0
          clear hx hdr hge HE hil q0
          obtain ⟨p, hp⟩ : ∃ p, mayP (spec_MayBeOne.f k l0) x = p := ⟨_, rfl⟩
          rw [hp] at hm1 hm2
          have HE2 := Aside0.mk hm2
          have HMM := Aside0.mk hm1
          have HW := Aside0.mk (show wrap64 ((i : Int) + 1) = ((i + 1 : Nat) : Int) by
            have := HM.out
            rw [IntWalk.wrap64_in _ ⟨by omega, by omega⟩]
            omega)
          have hiz : (i : Int) < (m : Int) := by omega
          have hi0 : (0 : Int) ≤ (i : Int) := by omega
          clear hm1 hm2
          obtain ⟨A4, c4, e4⟩ := Kd.S_slice HS.out
          subst e4
          go_wp2
          go_loopg [6] (gs.length + 1) (fun kq v6 w' => ∃ kk : Nat, v6 = .int .i64 (kk : Int) ∧ Aside0 (kk ≤ gs.length ∧ gs.length + 1 ≤ kk + kq) ∧ Aside0 (∀ j (hj : j < gs.length), j < kk → p gs[j] = false) ∧ Aside0 (Kd.S KG 37 w' w.heap.size (fun k => k = w.heap.size ∨ w3.heap.size ≤ k) (.slice A4 gs.length c4) gs) ∧ Aside0 (Kept w3 w' (fun k => k = w.heap.size)) ∧ Aside0 (Below w.heap.size w w'))
          case atStart => exact ⟨0, rfl, ⟨by omega⟩, ⟨fun j _ hj => absurd hj (Nat.not_lt_zero _)⟩, HS, HK, HB⟩
          case round =>
            clear HS HK HB
            obtain ⟨kk, rfl, HI2, HF, HS, HK, HB⟩ := hrel
            have z4 := HCX.out _ HK.out
            cases gk with
            | zero => exact absurd HI2.out (by omega)
            | succ k2 =>
              by_cases hkn : kk < gs.length
              · have c1 : decide ((kk : Int) < (gs.length : Int)) = true := decide_eq_true (by omega)
                have c2 : decide (kk < gs.length) = true := decide_eq_true hkn
                obtain ⟨g, cap, eo, gb, gl, cl, HG⟩ := Kd.S_form HS.out (by omega)
                cases eo
                have HGB := Aside0.mk gb
                have HGL := Aside0.mk gl
                clear gb gl HG cl
                obtain ⟨oki, c_, hcl, hM, hcell, hoki, hH⟩ := Kd.S_lend HS.out [] (kk : Int) (by omega) (by omega)
                obtain ⟨v', ecc, hR⟩ := hM
                subst ecc
                rw [Int.toNat_natCast] at hR
                have z3 : wr.cell? ⟨g, kk, none⟩ = some v' := (hole_at hH hkn).1
                have HNE := Aside0.mk (show ∀ k, (oki k ∨ (k = w.heap.size ∨ w3.heap.size ≤ k) ∧ wr.heap.size ≤ k) → k ≠ g from fun k hk => hk.elim (fun h => (hoki k h).2) (fun h e_ => by have := HGL.out; omega))
                have HHL := Aside0.mk (Kd.H_widen hH)
                obtain ⟨Ai, ci, ei⟩ := Kd.R_slice hR
                subst ei
                have HCR := Aside0.mk (Kd.R_reads' hR).2.2
                have hgm : gs.getD kk [] ∈ gs := by rw [List.getD_eq_getElem?_getD, List.getElem?_eq_getElem hkn]; exact List.getElem_mem hkn
                have hgk : gs.getD kk [] = gs[kk] := by rw [List.getD_eq_getElem?_getD, List.getElem?_eq_getElem hkn]; rfl
                have HRN := Aside0.mk (show (gs.getD kk []).length ≤ 4096 by
                  have h_ := HGN.out.2 _ hgm
                  have := HI.out
                  have := HM.out
                  omega)
                have HMR := Aside0.mk (HMM.out _ hgm)
                have HPK := Aside0.mk (show p (gs.getD kk []) = p gs[kk] by rw [hgk])
                have HGOK := Aside0.mk (show g = w.heap.size ∨ w3.heap.size ≤ g from (Kd.S_R HS.out).1 g (by simp [Value.ownBlock]))
                obtain ⟨row, hrow⟩ : ∃ row, gs.getD kk [] = row := ⟨_, rfl⟩
                rw [hrow] at HRN HMR HCR HPK HHL z3
                have HROW := Aside0.mk hrow
                have HKN := Aside0.mk hkn
                have hlen : (row ++ [x]).length = row.length + 1 := by simp
                have HMY := Aside0.mk (show ∀ (A' : Option Addr) (c' : Nat) (W' : World), Below wr.heap.size wr W' → Kd.C (Kd.int .i64) W' A' (row.length + 1) (row ++ [x]) → row.length + 1 ≤ c' → Calls Try.prog 42 #[.slice A0 l0.length c0, .slice A' (row.length + 1) c'] W' fun e w' => e = .returned (.bool (p row)) ∧ Below W'.heap.size W' w' by
                  intro A' c' W' h1 h2 h3
                  have h := spec_MayBeOne.calls k A0 c0 l0 A' c' (row ++ [x]) (p row) W' (Kd.C_below (Kd.C_below HR0.out HB.out) h1) HC0.out (by rw [hlen]; exact h2) (by rw [hlen]; exact h3) HMR.out
                  rw [hlen] at h
                  exact h)
                have hkz := eq_true (show (kk : Int) < (gs.length : Int) by omega)
                have f1 : decide ((kk : Int) = (gs.length : Int)) = false := decide_eq_false (by omega)
                have f2 : ((kk : Int) == (gs.length : Int)) = false := beq_false_of_ne (by omega)
                have f3 : decide (kk = gs.length) = false := decide_eq_false (by omega)
                have HW2 := Aside0.mk (show wrap64 ((kk : Int) + 1) = ((kk + 1 : Nat) : Int) by
                  have := HM.out
                  have := HGN.out.1
                  have := HI.out
                  rw [IntWalk.wrap64_in _ ⟨by omega, by omega⟩]
                  omega)
                have hk0 := eq_true (show (0 : Int) ≤ (kk : Int) by omega)
                have z3a := (fun (o : Obj) => pw_cell_below (below_alloc (Below.refl _ _) o) z3)
                have z4a := (fun (o : Obj) => pw_cell_below (below_alloc (Below.refl _ _) o) z4)
                clear hrow hgm hgk hlen hR hcell hoki hcl hH
                by_cases hpr : p row = true
                · rw [hpr] at HMY
                  have HE3 := Aside0.mk (show placeP p gs x = gs.set kk (row ++ [x]) by
                    have hfa : firstAt p gs = (kk : Int) := firstAt_hit p gs kk HKN.out (by rw [← HPK.out]; exact hpr) HF.out
                    unfold placeP
                    rw [hfa, if_neg (by omega), Int.toNat_natCast, HROW.out])
                  go_wp2
                  go_cut [40] (fun s40 wx => s40 = .bool false ∧ Aside0 (Below wr.heap.size wr wx))
                  case first =>
                    go_region_held3 (fun w' => w'.cell? ⟨g, kk, none⟩ = some (.slice Ai row.length ci) ∧ w'.cell? (ad.add i) = some (.int .i64 x)) (go_keep) (first | (refine Kd.R_append_rows_step (Kd.int .i64) (Rr := fun x cs => cs = [Value.int .i64 x]) (w0 := wr) wr.heap.size (by rfl) (.tmp 26) (.tmp 30) 37 3 (.int .i64 0) 8 (by rfl) Try.underlying37 info3 (by rfl) (by decide) (by omega) _ [] row _ _ _ (fun k => wr.heap.size ≤ k) (fun _ => False) (by rfl) (by rfl) ?aO ?aR (fun _ _ h => h) (fun _ h => h.elim) ?aF ?aB ?aS ?aL ?_; (case aO => exact R_emptyG (by first | exact blk_new _ _ | exact blk_new1G _ _ _ | exact blk_drew (blk_new _ _) | exact blk_drewN (blk_new _ _) _ | exact blk_alloc (blk_new _ _) _) (by first | exact Nat.le_refl _ | (simp; done) | (simp; omega)) (by first | exact Nat.le_refl _ | (simp; done) | (simp; omega))); (case aR => exact Kd.C_below HCR.out (by repeat (first | exact Below.refl _ _ | (with_reducible first | apply below_alloc | apply pw_below_drewN | apply below_drew1)))); (case aF => exact (fun k hk => Nat.le_trans (by first | exact Nat.le_refl _ | (simp; done) | (simp; omega)) hk)); (case aB => exact (by repeat (first | exact Below.refl _ _ | (with_reducible first | apply below_alloc | apply pw_below_drewN | apply below_drew1)))); (case aS => exact (by first | exact Nat.le_refl _ | (simp; done) | (simp; omega))); (case aL => have := HRN.out; (first | omega | (simp; omega))); intro v5 w5 ho5 hb5 hg5 hat5; rw [List.nil_append] at ho5; have HO5 := Aside0.mk ho5; have HB5 := Aside0.mk hb5; (try have BL := Aside0.mk (blk_grown (o := .cells #[.int .i64 x] 3 (0, 0)) (by first | exact blk_new1G _ _ _ | exact blk_new _ _ | exact blk_alloc (blk_new _ _) _) hg5 (fun e_ => by have e_ := Option.some.inj e_; simp at e_))); clear ho5 hb5 hg5 hat5; have uA := pw_cell_below HB5.out z3; have uB := pw_cell_below HB5.out z4; (try have uAa := (fun (o : Obj) => pw_cell_below (below_alloc (Below.refl _ _) o) uA)); (try have uBa := (fun (o : Obj) => pw_cell_below (below_alloc (Below.refl _ _) o) uB)); obtain ⟨A5, c5, e5⟩ := Kd.R_slice HO5.out; subst e5) | (refine Kd.R_append_rows_step (Kd.int .i64) (Rr := fun x cs => cs = [Value.int .i64 x]) (w0 := wr) wr.heap.size (by rfl) (.tmp 31) (.tmp 36) 37 3 (.int .i64 0) 8 (by rfl) Try.underlying37 info3 (by rfl) (by decide) (by omega) _ row [x] _ _ _ (fun k => wr.heap.size ≤ k) (fun _ => False) (by rfl) (by rfl) ?aO ?aR (fun _ _ h => h) (fun _ h => h.elim) ?aF ?aB ?aS ?aL ?_; (case aO => exact (by (with_reducible repeat (first | apply Kd.R_alloc | apply Kd.R_drewN | apply Kd.R_drew)); exact HO5.out)); (case aR => exact C_oneG (by first | exact blk_new _ _ | exact blk_drew (blk_new _ _) | exact blk_drewN (blk_new _ _) _ | exact BL.out)); (case aF => exact (fun k hk => Nat.le_trans (below_size (by repeat (first | exact HB5.out | (with_reducible first | apply below_alloc | apply pw_below_drewN | apply below_drew1)))) hk)); (case aB => exact (by repeat (first | exact HB5.out | (with_reducible first | apply below_alloc | apply pw_below_drewN | apply below_drew1)))); (case aS => exact below_size (by repeat (first | exact HB5.out | (with_reducible first | apply below_alloc | apply pw_below_drewN | apply below_drew1)))); (case aL => have := HRN.out; omega); intro v6 w6 ho6 hb6 hg6 hat6; have HO6 := Aside0.mk ho6; have HB6 := Aside0.mk hb6; clear ho6 hb6 hg6 hat6; have y1 := pw_cell_below HB6.out z3; have y2 := pw_cell_below HB6.out z4; obtain ⟨A6, c6, e6⟩ := Kd.R_slice HO6.out; rw [List.length_append, List.length_singleton] at e6; subst e6) | (go_at_call 42; (with_reducible refine (HMY.out A6 c6 _ ?m1 ?m2 ?m3).mono ?_); (case m1 => exact (by repeat (first | exact HB6.out | (with_reducible first | apply below_alloc | apply pw_below_drewN | apply below_drew1)))); (case m2 => exact (by (with_reducible repeat (first | apply Kd.C_alloc | apply Kd.C_drewN | apply Kd.C_drew)); have h_ := (Kd.R_reads' HO6.out).2.2; first | exact h_ | rwa [List.length_append, List.length_singleton] at h_)); (case m3 => have h_ := (Kd.R_reads' HO6.out).2.1; first | exact h_ | rwa [List.length_append, List.length_singleton] at h_); rintro e w7 ⟨rfl, hb7⟩; have HB7 := Aside0.mk (below_step (by repeat (first | exact HB6.out | (with_reducible first | apply below_alloc | apply pw_below_drewN | apply below_drew1))) hb7); clear hb7; have y3 := pw_cell_below HB7.out z3; have y4 := pw_cell_below HB7.out z4; have y3a := (fun (o : Obj) => pw_cell_below (below_alloc (Below.refl _ _) o) y3); have y4a := (fun (o : Obj) => pw_cell_below (below_alloc (Below.refl _ _) o) y4); have y3b := (fun (o o' : Obj) => pw_cell_below (below_alloc (below_alloc (Below.refl _ _) o) o') y3); have y4b := (fun (o o' : Obj) => pw_cell_below (below_alloc (below_alloc (Below.refl _ _) o) o') y4)))
                    all_goals (go_wp2; go_meet; exact ⟨rfl, HB7⟩)
                  case rest =>
                    obtain ⟨rfl, HB7⟩ := hcut
                    have y3 := pw_cell_below HB7.out z3
                    have y4 := pw_cell_below HB7.out z4
                    have y3a := (fun (o : Obj) => pw_cell_below (below_alloc (Below.refl _ _) o) y3)
                    have y4a := (fun (o : Obj) => pw_cell_below (below_alloc (Below.refl _ _) o) y4)
                    have y3b := (fun (o o' : Obj) => pw_cell_below (below_alloc (below_alloc (Below.refl _ _) o) o') y3)
                    have y4b := (fun (o o' : Obj) => pw_cell_below (below_alloc (below_alloc (Below.refl _ _) o) o') y4)
                    go_wp2
                    go_region_law (first | (refine Kd.R_append_rows_step (Kd.int .i64) (Rr := fun x cs => cs = [Value.int .i64 x]) (w0 := wr) wr.heap.size (by rfl) (.tmp 57) (.tmp 61) 37 3 (.int .i64 0) 8 (by rfl) Try.underlying37 info3 (by rfl) (by decide) (by omega) _ [] row _ _ _ (fun k => wr.heap.size ≤ k) (fun _ => False) (by rfl) (by rfl) ?aO ?aR (fun _ _ h => h) (fun _ h => h.elim) ?aF ?aB ?aS ?aL ?_; (case aO => exact R_emptyG (by first | exact blk_new _ _ | exact blk_new1G _ _ _ | exact blk_drew (blk_new _ _) | exact blk_drewN (blk_new _ _) _ | exact blk_alloc (blk_new _ _) _) (by have h7_ := HB7.out.size; first | exact h7_ | (simp; omega) | omega) (by have h7_ := HB7.out.size; first | exact h7_ | (simp; omega) | omega)); (case aR => exact Kd.C_below HCR.out (by repeat (first | exact HB7.out | (with_reducible first | apply below_alloc | apply pw_below_drewN | apply below_drew1)))); (case aF => exact (fun k hk => Nat.le_trans (by have h7_ := HB7.out.size; first | exact h7_ | (simp; omega) | omega) hk)); (case aB => exact (by repeat (first | exact HB7.out | (with_reducible first | apply below_alloc | apply pw_below_drewN | apply below_drew1)))); (case aS => exact (by have h7_ := HB7.out.size; first | exact h7_ | (simp; omega) | omega)); (case aL => have := HRN.out; (first | omega | (simp; omega))); intro v5 w5 ho5 hb5 hg5 hat5; rw [List.nil_append] at ho5; have HO5 := Aside0.mk ho5; have HB5 := Aside0.mk hb5; (try have BL := Aside0.mk (blk_grown (o := .cells #[.int .i64 x] 3 (0, 0)) (by first | exact blk_new1G _ _ _ | exact blk_new _ _ | exact blk_alloc (blk_new _ _) _) hg5 (fun e_ => by have e_ := Option.some.inj e_; simp at e_))); clear ho5 hb5 hg5 hat5; have uA := pw_cell_below HB5.out z3; have uB := pw_cell_below HB5.out z4; (try have uAa := (fun (o : Obj) => pw_cell_below (below_alloc (Below.refl _ _) o) uA)); (try have uBa := (fun (o : Obj) => pw_cell_below (below_alloc (Below.refl _ _) o) uB)); obtain ⟨A5, c5, e5⟩ := Kd.R_slice HO5.out; subst e5) | (refine Kd.R_append_rows_step (Kd.int .i64) (Rr := fun x cs => cs = [Value.int .i64 x]) (w0 := wr) wr.heap.size (by rfl) (.tmp 62) (.tmp 67) 37 3 (.int .i64 0) 8 (by rfl) Try.underlying37 info3 (by rfl) (by decide) (by omega) _ row [x] _ _ _ (fun k => wr.heap.size ≤ k) (fun _ => False) (by rfl) (by rfl) ?aO ?aR (fun _ _ h => h) (fun _ h => h.elim) ?aF ?aB ?aS ?aL ?_; (case aO => exact (by (with_reducible repeat (first | apply Kd.R_alloc | apply Kd.R_drewN | apply Kd.R_drew)); exact HO5.out)); (case aR => exact C_oneG (by first | exact blk_new _ _ | exact blk_drew (blk_new _ _) | exact blk_drewN (blk_new _ _) _ | exact BL.out)); (case aF => exact (fun k hk => Nat.le_trans (below_size (by repeat (first | exact HB5.out | (with_reducible first | apply below_alloc | apply pw_below_drewN | apply below_drew1)))) hk)); (case aB => exact (by repeat (first | exact HB5.out | (with_reducible first | apply below_alloc | apply pw_below_drewN | apply below_drew1)))); (case aS => exact below_size (by repeat (first | exact HB5.out | (with_reducible first | apply below_alloc | apply pw_below_drewN | apply below_drew1)))); (case aL => have := HRN.out; omega); intro v6 w6 ho6 hb6 hg6 hat6; have HO6 := Aside0.mk ho6; have HB6 := Aside0.mk hb6; clear ho6 hb6 hg6 hat6; have z6 := pw_cell_below HB6.out z3; have HH9 := Aside0.mk (Kd.H_below HHL.out HB6.out); have z6f := (hole_at HH9.out HKN.out).2; have HB9 := Aside0.mk HB6.out; have HR9 := Aside0.mk (Kd.R_mono (Kd.R_lower HO6.out HB.out.size) (fun k hk => (show oki k ∨ (k = w.heap.size ∨ w3.heap.size ≤ k) ∧ wr.heap.size ≤ k from .inr ⟨.inr (Nat.le_trans HK.out.1 hk), hk⟩))); obtain ⟨A6, c6, e6⟩ := Kd.R_slice HO6.out; rw [List.length_append, List.length_singleton] at e6; subst e6))
                    all_goals go_wp2
                    all_goals go_roundg k1
                    all_goals first | omega | exact ⟨i + 1, gs.set kk (row ++ [x]), by first | rw [HW.out] | rfl | simp, ⟨by have := HI.out; have := HL.out; omega⟩, ⟨by rw [← HE3.out]; exact HE2.out⟩, ⟨by have h_ := HGN.out.1; rw [List.length_set]; exact ⟨by omega, by rw [← HE3.out]; exact placeP_each HGN.out.2⟩⟩, ⟨put_back HH9.out HKN.out HR9.out HNE.out⟩, ⟨Kept.setCell (Kept.below HK.out HB9.out) HGOK.out _⟩, ⟨Below.setCell (HB.out.trans (HB9.out.mono HB.out.size)) HGB.out _⟩⟩
                · have hpr : p row = false := Bool.eq_false_iff.2 hpr
                  rw [hpr] at HMY
                  go_wp2
                  go_region_held3 (fun w' => w'.cell? ⟨g, kk, none⟩ = some (.slice Ai row.length ci) ∧ w'.cell? (ad.add i) = some (.int .i64 x)) (go_keep) (first | (refine Kd.R_append_rows_step (Kd.int .i64) (Rr := fun x cs => cs = [Value.int .i64 x]) (w0 := wr) wr.heap.size (by rfl) (.tmp 26) (.tmp 30) 37 3 (.int .i64 0) 8 (by rfl) Try.underlying37 info3 (by rfl) (by decide) (by omega) _ [] row _ _ _ (fun k => wr.heap.size ≤ k) (fun _ => False) (by rfl) (by rfl) ?aO ?aR (fun _ _ h => h) (fun _ h => h.elim) ?aF ?aB ?aS ?aL ?_; (case aO => exact R_emptyG (by first | exact blk_new _ _ | exact blk_new1G _ _ _ | exact blk_drew (blk_new _ _) | exact blk_drewN (blk_new _ _) _ | exact blk_alloc (blk_new _ _) _) (by first | exact Nat.le_refl _ | (simp; done) | (simp; omega)) (by first | exact Nat.le_refl _ | (simp; done) | (simp; omega))); (case aR => exact Kd.C_below HCR.out (by repeat (first | exact Below.refl _ _ | (with_reducible first | apply below_alloc | apply pw_below_drewN | apply below_drew1)))); (case aF => exact (fun k hk => Nat.le_trans (by first | exact Nat.le_refl _ | (simp; done) | (simp; omega)) hk)); (case aB => exact (by repeat (first | exact Below.refl _ _ | (with_reducible first | apply below_alloc | apply pw_below_drewN | apply below_drew1)))); (case aS => exact (by first | exact Nat.le_refl _ | (simp; done) | (simp; omega))); (case aL => have := HRN.out; (first | omega | (simp; omega))); intro v5 w5 ho5 hb5 hg5 hat5; rw [List.nil_append] at ho5; have HO5 := Aside0.mk ho5; have HB5 := Aside0.mk hb5; (try have BL := Aside0.mk (blk_grown (o := .cells #[.int .i64 x] 3 (0, 0)) (by first | exact blk_new1G _ _ _ | exact blk_new _ _ | exact blk_alloc (blk_new _ _) _) hg5 (fun e_ => by have e_ := Option.some.inj e_; simp at e_))); clear ho5 hb5 hg5 hat5; have uA := pw_cell_below HB5.out z3; have uB := pw_cell_below HB5.out z4; (try have uAa := (fun (o : Obj) => pw_cell_below (below_alloc (Below.refl _ _) o) uA)); (try have uBa := (fun (o : Obj) => pw_cell_below (below_alloc (Below.refl _ _) o) uB)); obtain ⟨A5, c5, e5⟩ := Kd.R_slice HO5.out; subst e5) | (refine Kd.R_append_rows_step (Kd.int .i64) (Rr := fun x cs => cs = [Value.int .i64 x]) (w0 := wr) wr.heap.size (by rfl) (.tmp 31) (.tmp 36) 37 3 (.int .i64 0) 8 (by rfl) Try.underlying37 info3 (by rfl) (by decide) (by omega) _ row [x] _ _ _ (fun k => wr.heap.size ≤ k) (fun _ => False) (by rfl) (by rfl) ?aO ?aR (fun _ _ h => h) (fun _ h => h.elim) ?aF ?aB ?aS ?aL ?_; (case aO => exact (by (with_reducible repeat (first | apply Kd.R_alloc | apply Kd.R_drewN | apply Kd.R_drew)); exact HO5.out)); (case aR => exact C_oneG (by first | exact blk_new _ _ | exact blk_drew (blk_new _ _) | exact blk_drewN (blk_new _ _) _ | exact BL.out)); (case aF => exact (fun k hk => Nat.le_trans (below_size (by repeat (first | exact HB5.out | (with_reducible first | apply below_alloc | apply pw_below_drewN | apply below_drew1)))) hk)); (case aB => exact (by repeat (first | exact HB5.out | (with_reducible first | apply below_alloc | apply pw_below_drewN | apply below_drew1)))); (case aS => exact below_size (by repeat (first | exact HB5.out | (with_reducible first | apply below_alloc | apply pw_below_drewN | apply below_drew1)))); (case aL => have := HRN.out; omega); intro v6 w6 ho6 hb6 hg6 hat6; have HO6 := Aside0.mk ho6; have HB6 := Aside0.mk hb6; clear ho6 hb6 hg6 hat6; have y1 := pw_cell_below HB6.out z3; have y2 := pw_cell_below HB6.out z4; obtain ⟨A6, c6, e6⟩ := Kd.R_slice HO6.out; rw [List.length_append, List.length_singleton] at e6; subst e6) | (go_at_call 42; (with_reducible refine (HMY.out A6 c6 _ ?m1 ?m2 ?m3).mono ?_); (case m1 => exact (by repeat (first | exact HB6.out | (with_reducible first | apply below_alloc | apply pw_below_drewN | apply below_drew1)))); (case m2 => exact (by (with_reducible repeat (first | apply Kd.C_alloc | apply Kd.C_drewN | apply Kd.C_drew)); have h_ := (Kd.R_reads' HO6.out).2.2; first | exact h_ | rwa [List.length_append, List.length_singleton] at h_)); (case m3 => have h_ := (Kd.R_reads' HO6.out).2.1; first | exact h_ | rwa [List.length_append, List.length_singleton] at h_); rintro e w7 ⟨rfl, hb7⟩; have HB7 := Aside0.mk (below_step (by repeat (first | exact HB6.out | (with_reducible first | apply below_alloc | apply pw_below_drewN | apply below_drew1))) hb7); clear hb7; have y3 := pw_cell_below HB7.out z3; have y4 := pw_cell_below HB7.out z4; have y3a := (fun (o : Obj) => pw_cell_below (below_alloc (Below.refl _ _) o) y3); have y4a := (fun (o : Obj) => pw_cell_below (below_alloc (Below.refl _ _) o) y4); have y3b := (fun (o o' : Obj) => pw_cell_below (below_alloc (below_alloc (Below.refl _ _) o) o') y3); have y4b := (fun (o o' : Obj) => pw_cell_below (below_alloc (below_alloc (Below.refl _ _) o) o') y4)))
                  all_goals go_wp2
                  all_goals go_roundg k2
                  all_goals first | omega | exact ⟨kk + 1, by first | rw [HW2.out] | rfl | simp, ⟨by have := HI2.out; have := HKN.out; omega⟩, ⟨fun j hj hlt => by
                    by_cases e : j = kk
                    · subst e; rw [← HPK.out]; exact hpr
                    · exact HF.out j hj (by omega)⟩, ⟨Kd.S_below HS.out HB7.out⟩, ⟨Kept.below HK.out HB7.out⟩, ⟨HB.out.trans (HB7.out.mono HB.out.size)⟩⟩
              · have c1 : decide ((kk : Int) < (gs.length : Int)) = false := decide_eq_false (by omega)
                have c2 : decide (kk < gs.length) = false := decide_eq_false hkn
                have HKE := Aside0.mk (show kk = gs.length by have := HI2.out; omega)
                have HE3 := Aside0.mk (show placeP p gs x = gs ++ [[x]] by
                  have hfa : firstAt p gs = -1 := firstAt_miss p gs (fun j hj => HF.out j hj (by have := HI2.out; omega))
                  unfold placeP
                  rw [hfa, if_pos (by omega)])
                have f1 : decide ((kk : Int) = (gs.length : Int)) = true := decide_eq_true (by have := HKE.out; omega)
                have f2 : ((kk : Int) == (gs.length : Int)) = true := beq_iff_eq.2 (by have := HKE.out; omega)
                have f3 : decide (kk = gs.length) = true := decide_eq_true (by have := HKE.out; omega)
                go_wp2
                go_quiet (fail)
                go_wp2_with (first | ((with_reducible refine gate_builtin (b := .append) (xs := #[.tmp 47, .tmp 53]) rfl ?_); at_builtin; refine Kd.S_append KG (w0 := w) w.heap.size rfl (.tmp 47) (.tmp 53) 24 37 (.slice none 0 0) 24 rfl Try.underlying24 info37 rfl (by decide) (by omega) _ gs [x] [.slice (some ⟨wr.heap.size, 0, none⟩) 1 1] (fun k => k = w.heap.size ∨ w3.heap.size ≤ k) (fun k => k = wr.heap.size) (by rfl) (by first | rfl | (simp [Act.eval]; done) | (go_simp; done)) ?aP ?aK ?aF ?aO ?aB ?aS ?aL ?_; (case aP => exact Kd.M_row (R_oneG (by first | exact blk_new _ _ | exact blk_drewN (blk_new _ _) _) HB.out.size)); (case aK => exact (fun k hk => ⟨.inr (by have := HK.out.1; omega), fun e_ => by have := Kd.S_lt HS.out k e_.symm; omega⟩)); (case aF => exact (fun k hk => .inr (by have := HK.out.1; (try simp at hk); omega))); (case aO => exact (by (with_reducible repeat (first | apply Kd.S_alloc | apply Kd.S_drewN | apply Kd.S_drew)); exact Kd.S_mono (Kd.S_bound HS.out) (fun k hk => ⟨hk.1, fun e_ => by have := hk.2.2.1; omega⟩))); (case aB => exact (by repeat (first | exact HB.out | (with_reducible first | apply below_alloc | apply pw_below_drewN | apply below_drew1)))); (case aS => exact below_size (by repeat (first | exact HB.out | (with_reducible first | apply below_alloc | apply pw_below_drewN | apply below_drew1)))); (case aL => have := HGN.out.1; have := HI.out; have := HM.out; omega); intro v6 w6 ho6 hb6 hg6 hat6; have HO6 := Aside0.mk ho6; have HB6 := Aside0.mk hb6; have HK6 := Aside0.mk (Kept.of_grown hg6 (Kept.below HK.out (by repeat (first | exact Below.refl _ _ | (with_reducible first | apply below_alloc | apply pw_below_drewN | apply below_drew1)))) (fun k e_ => (Kd.S_R HS.out).1 k e_)); clear ho6 hb6 hg6 hat6))
                go_roundg k1
                case measure => omega
                case rel => exact ⟨i + 1, gs ++ [[x]], by first | rw [HW.out] | rfl | simp, ⟨by have := HI.out; have := HL.out; omega⟩, ⟨by rw [← HE3.out]; exact HE2.out⟩, ⟨by have h_ := HGN.out.1; rw [List.length_append, List.length_singleton]; exact ⟨by omega, by rw [← HE3.out]; exact placeP_each HGN.out.2⟩⟩, HO6, HK6, HB6⟩
        · have cb : decide ((i : Int) < (m : Int)) = false := decide_eq_false (by omega)
          have cb2 : decide (i < m) = false := decide_eq_false hi
          have e : i = m := by have := HI.out; omega
          have hge := HE.out
          rw [List.drop_of_length_le (by rw [HAN.out]; omega)] at hge
          obtain rfl : gs = r := Option.some.inj hge
          clear hge
          go_wp2
          go_ret
          exact ⟨_, rfl, Kd.S_mono HS.out (fun _ _ => trivial), HB.out⟩
  | false =>
    rw [if_neg (by decide)] at h
    obtain rfl := Option.some.inj h
    clear h hb hr0 hc0
    go_enter Try.func8, Try.ntmps8
    go_wp2_with (go_at_call 19; refine (HA.out _ (by repeat (first | exact Below.refl _ _ | (with_reducible first | apply below_alloc | apply pw_below_drewN | apply below_drew1)))).mono ?_; rintro e w1 ⟨rfl, ⟨nd, rfl⟩⟩)
    go_ret
    exact ⟨_, rfl, S_emptyG (blk_drewN (blk_new _ _) _) (Nat.le_refl _), (by repeat (first | exact Below.refl _ _ | (with_reducible first | apply below_alloc | apply pw_below_drewN | apply below_drew1)))⟩

end Go.Proofs.Ytgghhcifkgdpeaa.Z
