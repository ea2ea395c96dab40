-- Written by this session's wip/mp/mp.py out of the translation. Lean checks it.
import Derived.Test.YtgghhcifkgdpeaaZ0
import Derived.Test.YtgghhcifkgdpeaaZ2
import Derived.Test.YtgghhcifkgdpeaaZ4
import Derived.Test.YtgghhcifkgdpeaaZ5
import Derived.Test.YtgghhcifkgdpeaaZ6
import Derived.Test.YtgghhcifkgdpeaaZGroups
import Derived.Test.YtgghhcifkgdpeaaZIdxRow
import Derived.Deep.RegionLaw
namespace Go.Proofs.Ytgghhcifkgdpeaa.Z
open Go.RowKit Go.Proofs.YtgghhcifkgdpeaaW.PrintWords Go.Proofs.YtgghhcifkgdpeaaW.PrintLast Go.Proofs.YtgghhcifkgdpeaaW.PrintMore
attribute [local go_sem] max2_int min2_int max_two min_two max_three min_three max_four min_four   -- for this text's walks alone
set_option linter.unusedVariables false
set_option linter.unusedSimpArgs false

-- GIVEN
-- FUNCTION loop.example/g00958/impl.GroupsOf rounds
-- ALONE
-- EXTRA loop.example/g00958/impl.AreReplies
-- EXTRA loop.example/g00958/impl.AddressesOf
-- EXTRA loop.example/g00958/impl.MayBeOne
-- EXTRA slices.Clone[[]int,int]
-- KIND 24
-- INFO 3
-- INFO 37
-- IMPORT Derived.Test.YtgghhcifkgdpeaaZGroups
-- IMPORT Derived.Test.YtgghhcifkgdpeaaZIdxRow
-- IMPORT Derived.Deep.RegionLaw
/-! ### impl_GroupsOf: function 10 -/
def impl_GroupsOf.f (k : Nat) (l0 : List S68) : Option (List (List Int)) := if areReplies l0 = true then (impl_AddressesOf.f k l0).bind fun a => if a.length ≤ 4096 then groupsO (impl_MayBeOne.f k l0) [] a else none else some []
theorem impl_GroupsOf.mono : ∀ a0 k, LeO (impl_GroupsOf.f k a0) (impl_GroupsOf.f (k + 1) a0) := fun a0 k => LeO.ite (LeO.bind (impl_AddressesOf.mono a0 k) (fun _ => LeO.ite (groupsO_mono (fun g => impl_MayBeOne.mono a0 g k) _ _) (LeO.refl _))) (LeO.refl _)

set_option maxRecDepth 100000 in
set_option maxHeartbeats 4000000 in
theorem impl_GroupsOf.pred (k : Nat) (A : Option Addr) (c : Nat) (l : List S68) (x : Int) (gl ga : Nat) (gs : List (List Int)) (p : List Int → Bool) (w : World) (hgl : w.heap[gl]? = some (.cells #[.slice A l.length c] 26 (0, 0))) (hga : w.heap[ga]? = some (.cells #[.int .i64 x] 3 (0, 0))) (hr : Kd.C k68 w A l.length l) (hc : l.length ≤ c)
    (hm : ∀ g ∈ gs, impl_MayBeOne.f k l (g ++ [x]) = some (p g)) (hn : ∀ g ∈ gs, g.length ≤ 4096) : PredRow #[.pointer (some ⟨gl, 0, none⟩), .pointer (some ⟨ga, 0, none⟩)] 45 p gs w := by
  intro y W A_ c_ hy hb hc_ hr_
  show Calls Try.prog 45 #[.slice A_ y.length c_, .pointer (some ⟨gl, 0, none⟩), .pointer (some ⟨ga, 0, none⟩)] W fun e W' => e = .returned (.bool (p y)) ∧ Below W.heap.size W W'
  have hlen : (y ++ [x]).length = y.length + 1 := by simp
  have HR_ := Aside0.mk hr_
  have HC_ := Aside0.mk hc_
  have HN := Aside0.mk (hn y hy)
  have HCL := Aside0.mk (show slices_Clone_Sint.f y = some y by unfold slices_Clone_Sint.f; rw [if_pos (by have := HN.out; omega)])
  have HRL := Aside0.mk (Kd.C_below hr hb)
  have HMY := Aside0.mk (show ∀ (A' : Option Addr) (c' : Nat) (W' : World), Below W.heap.size W W' → Kd.C (Kd.int .i64) W' A' (y.length + 1) (y ++ [x]) → y.length + 1 ≤ c' → Calls Try.prog 21 #[.slice A l.length c, .slice A' (y.length + 1) c'] W' fun e w' => e = .returned (.bool (p y)) ∧ Below W'.heap.size W' w' by
    intro A' c' W' h1 h2 h3
    have h := impl_MayBeOne.calls k A c l A' c' (y ++ [x]) (p y) W' (Kd.C_below (Kd.C_below hr hb) h1) hc (by rw [hlen]; exact h2) (by rw [hlen]; exact h3) (hm y hy)
    rw [hlen] at h
    exact h)
  have HL := Aside0.mk (blk_below hgl hb)
  have HA := Aside0.mk (blk_below hga hb)
  have qs : W.cell? ⟨gl, 0, none⟩ = some (.slice A l.length c) := (blk_cell HL.out 0).trans rfl
  have qa : W.cell? ⟨ga, 0, none⟩ = some (.int .i64 x) := (blk_cell HA.out 0).trans rfl
  have qs1 := (fun (o : Obj) => pw_cell_below (below_alloc (Below.refl _ _) o) qs)
  have qa1 := (fun (o : Obj) => pw_cell_below (below_alloc (Below.refl _ _) o) qa)
  clear hr_ hc_ hgl hga hr hc hm hn hb hy hlen
  go_enter Try.func45, Try.ntmps45
  go_wp2
  go_region_held3 (fun w' => w'.cell? ⟨gl, 0, none⟩ = some (.slice A l.length c) ∧ w'.cell? ⟨ga, 0, none⟩ = some (.int .i64 x)) (go_keep) (first | (go_at_call 46; (with_reducible refine (slices_Clone_Sint.calls A_ c_ y y _ ?k1 ?k2 HCL.out).mono ?_); (case k1 => exact Kd.C_below HR_.out (by repeat (first | exact Below.refl _ _ | (with_reducible first | apply below_alloc | apply pw_below_drewN | apply below_drew1)))); (case k2 => exact HC_.out); rintro e w5 ⟨v5, rfl, ho5, hb5⟩; have B5 := Aside0.mk (below_step (by repeat (first | exact Below.refl _ _ | (with_reducible first | apply below_alloc | apply pw_below_drewN | apply below_drew1))) hb5 : Below W.heap.size W w5); have N5 := Aside0.mk (fun (k : Nat) (hk : v5.ownBlock = some k) => (Nat.le_trans (below_size (by repeat (first | exact Below.refl _ _ | (with_reducible first | apply below_alloc | apply pw_below_drewN | apply below_drew1)))) (Kd.R_base ho5 k hk) : W.heap.size ≤ k)); have HO5 := Aside0.mk (Kd.R_lower ho5 (below_size (by repeat (first | exact Below.refl _ _ | (with_reducible first | apply below_alloc | apply pw_below_drewN | apply below_drew1))) : W.heap.size ≤ _)); have HB5 := Aside0.mk hb5; clear ho5 hb5; have q2 := pw_cell_below B5.out qs; have q3 := pw_cell_below B5.out qa; (try have q4 := (fun (o : Obj) => pw_cell_below (below_alloc (Below.refl _ _) o) q2)); (try have q5 := (fun (o : Obj) => pw_cell_below (below_alloc (Below.refl _ _) o) q3)); obtain ⟨A5, c5, e5⟩ := Kd.R_slice HO5.out; subst e5) | (refine Kd.R_append_rows_step (Kd.int .i64) (Rr := fun x cs => cs = [Value.int .i64 x]) (w0 := W) W.heap.size (by rfl) (.tmp 7) (.tmp 9) 37 3 (.int .i64 0) 8 (by rfl) Try.underlying37 info3 (by rfl) (by decide) (by omega) _ y [x] _ _ _ (fun k => W.heap.size ≤ k) (fun _ => False) (by rfl) (by rfl) ?aO ?aR (fun _ _ h => h) (fun _ h => h.elim) ?aF ?aB ?aS ?aL ?_; (case aO => exact (by (with_reducible repeat (first | apply Kd.R_alloc | apply Kd.R_drewN | apply Kd.R_drew)); exact Kd.R_mono (Kd.R_tight rfl HO5.out) (fun k hk => N5.out k hk.symm))); (case aR => exact C_oneG (by first | exact blk_new _ _ | exact blk_below (by first | exact blk_new _ _ | exact blk_drew (blk_new _ _) | exact blk_drewN (blk_new _ _) _) HB5.out)); (case aF => exact (fun k hk => by have := B5.out.size; (try simp at hk); omega)); (case aB => exact (by repeat (first | exact B5.out | (with_reducible first | apply below_alloc | apply pw_below_drewN | apply below_drew1)))); (case aS => exact below_size (by repeat (first | exact B5.out | (with_reducible first | apply below_alloc | apply pw_below_drewN | apply below_drew1)))); (case aL => have := HN.out; omega); intro v6 w6 ho6 hb6 hg6 hat6; have HO6 := Aside0.mk ho6; have HB6 := Aside0.mk hb6; clear ho6 hb6 hg6 hat6; have r2 := pw_cell_below HB6.out qs; have r3 := pw_cell_below HB6.out qa; obtain ⟨A6, c6, e6⟩ := Kd.R_slice HO6.out; rw [List.length_append, List.length_singleton] at e6; subst e6) | (go_at_call 21; (with_reducible refine (HMY.out A6 c6 _ ?m1 ?m2 ?m3).mono ?_); (case m1 => exact (by repeat (first | exact HB6.out | (with_reducible first | apply below_alloc | apply pw_below_drewN | apply below_drew1)))); (case m2 => exact (by (with_reducible repeat (first | apply Kd.C_alloc | apply Kd.C_drewN | apply Kd.C_drew)); have h_ := (Kd.R_reads' HO6.out).2.2; first | exact h_ | rwa [List.length_append, List.length_singleton] at h_)); (case m3 => have h_ := (Kd.R_reads' HO6.out).2.1; first | exact h_ | rwa [List.length_append, List.length_singleton] at h_); rintro e w7 ⟨rfl, hb7⟩; have HB7 := Aside0.mk (below_step (by repeat (first | exact HB6.out | (with_reducible first | apply below_alloc | apply pw_below_drewN | apply below_drew1))) hb7); clear hb7; have r4 := pw_cell_below HB7.out qs; have r5 := pw_cell_below HB7.out qa))
  all_goals go_wp2
  all_goals go_ret
  all_goals exact ⟨rfl, HB7.out⟩

set_option maxRecDepth 100000 in
set_option maxHeartbeats 8000000 in
theorem impl_GroupsOf.calls (k : Nat) (A0 : Option Addr) (c0 : Nat) (l0 : List S68) (r : List (List Int)) (w : World) (hr0 : Kd.C k68 w A0 l0.length l0) (hc0 : l0.length ≤ c0) (h : impl_GroupsOf.f k l0 = some r) :
    Calls Try.prog 10 #[.slice A0 l0.length c0] w fun e w' => ∃ v0_ : Value, e = .returned (v0_) ∧ Kd.S KG 37 w' w.heap.size (fun _ => True) v0_ r ∧ Below w.heap.size w w' := by
  have eg : ∀ args w, (callFunc 45 args).run Try.prog w = .ok (.enter 45 args) w := enters_of Try.func45 (by kernel_rfl) rfl
  unfold impl_GroupsOf.f at h
  have HA := Aside0.mk (fun (W : World) (hb : Below w.heap.size w W) => impl_AreReplies.calls A0 c0 l0 (areReplies l0) W (Kd.C_below hr0 hb) hc0 rfl)
  by_cases ha : areReplies l0 = true
  · rw [if_pos ha] at h
    obtain ⟨a, hd, h⟩ := Option.bind_eq_some_iff.1 h
    by_cases hn : a.length ≤ 4096
    rotate_left
    · rw [if_neg hn] at h; cases h
    rw [if_pos hn] at h
    rw [ha] at HA
    have HD := Aside0.mk (fun (W : World) (hb : Below w.heap.size w W) => impl_AddressesOf.calls k A0 c0 l0 a W (Kd.C_below hr0 hb) hc0 hd)
    have HR0 := Aside0.mk hr0
    have HC0 := Aside0.mk hc0
    have HG := Aside0.mk h
    obtain ⟨m, hm⟩ : ∃ m, a.length = m := ⟨_, rfl⟩
    have HAN := Aside0.mk hm
    have HM := Aside0.mk (show m ≤ 4096 by omega)
    clear hr0 hc0 hd h ha hn hm
    go_enter Try.func10, Try.ntmps10
    go_wp2_with (first | (go_at_call 18; refine (HA.out _ (by repeat (first | exact Below.refl _ _ | (with_reducible first | apply below_alloc | apply pw_below_drewN | apply below_drew1)))).mono ?_; rintro e w1 ⟨rfl, hb1⟩; have B1 := Aside0.mk (below_step (by repeat (first | exact Below.refl _ _ | (with_reducible first | apply below_alloc | apply pw_below_drewN | apply below_drew1))) hb1 : Below w.heap.size w w1); have BX := Aside0.mk (blk_below (blk_new w (.cells #[.slice A0 l0.length c0] 26)) hb1); have z1 : w1.cell? ⟨w.heap.size, 0, none⟩ = some (.slice A0 l0.length c0) := (blk_cell BX.out 0).trans rfl; clear hb1) | (go_at_call 20; refine (HD.out _ (by repeat (first | exact B1.out | (with_reducible first | apply below_alloc | apply pw_below_drewN | apply below_drew1)))).mono ?_; rintro e w3 ⟨v11, rfl, ho3, hb3⟩; have B3 := Aside0.mk (below_step (by repeat (first | exact B1.out | (with_reducible first | apply below_alloc | apply pw_below_drewN | apply below_drew1))) hb3 : Below w.heap.size w w3); have BY := Aside0.mk (blk_below BX.out (by first | exact hb3 | exact below_step (by repeat (first | exact Below.refl _ _ | (with_reducible first | apply below_alloc | apply pw_below_drewN | apply below_drew1))) hb3)); have HO3 := Aside0.mk ho3; obtain ⟨A3, c3, e3⟩ := Kd.R_slice HO3.out; rw [HAN.out] at e3; subst e3; clear ho3 hb3))
    have HC3 := Aside0.mk (show Kd.C (Kd.int .i64) w3 A3 m a by have h_ := (Kd.R_reads' HO3.out).2.2; rwa [HAN.out] at h_)
    go_loopg [3, 13] (m + 1) (fun kq v3 v13 wr => ∃ (i : Nat) (gs : List (List Int)), v13 = .int .i64 (i : Int) ∧ Aside0 (i ≤ m ∧ m + 1 ≤ i + kq) ∧ Aside0 (groupsO (impl_MayBeOne.f k l0) gs (a.drop i) = some r) ∧ Aside0 (gs.length ≤ i ∧ ∀ g ∈ gs, g.length ≤ i) ∧ Aside0 (Kd.S KG 37 wr w3.heap.size (fun _ => True) v3 gs) ∧ Aside0 (Below w3.heap.size w3 wr))
    case atStart => exact ⟨0, [], rfl, ⟨by omega⟩, ⟨HG.out⟩, ⟨by simp⟩, ⟨Kd.S_nil _ _ _ _ _⟩, ⟨Below.refl _ _⟩⟩
    case round =>
      obtain ⟨i, gs, rfl, HI, HE, HGN, HS, HB⟩ := hrel
      cases gk with
      | zero => exact absurd HI.out (by omega)
      | succ k1 =>
        by_cases hi : i < m
        · have HL := Aside0.mk hi
          have cb : decide ((i : Int) < (m : Int)) = true := decide_eq_true (by omega)
          have cb2 : decide (i < m) = true := decide_eq_true hi
          have hil : i < a.length := by rw [HAN.out]; exact hi
          obtain ⟨ad, e0, q0⟩ := at_int (Kd.C_below HC3.out HB.out) (i : Int) (by omega) (by omega)
          cases e0
          have hx : rd a (i : Int) = a[i] := getD_at a i _ hil
          have hdr : a.drop i = a[i] :: a.drop (i + 1) := List.drop_eq_getElem_cons hil
          rw [hx] at q0
          have hge := HE.out
          rw [hdr] at hge
          obtain ⟨hm1, hm2⟩ := groupsO_some hge
          generalize a[i] = x at q0 hm1 hm2 hge
          simp only [Int.toNat_natCast] at q0
          clear hx hdr hge HE hil
          obtain ⟨p, hp⟩ : ∃ p, mayP (impl_MayBeOne.f k l0) x = p := ⟨_, rfl⟩
          rw [hp] at hm1 hm2
          have HE2 := Aside0.mk hm2
          have HW := Aside0.mk (show wrap64 ((i : Int) + 1) = ((i + 1 : Nat) : Int) by
            have := HM.out
            rw [IntWalk.wrap64_in _ ⟨by omega, by omega⟩]
            omega)
          have HIX := Aside0.mk (show ∀ (A : Option Addr) (c : Nat) (W : World), Below wr.heap.size wr W → wr.heap.size < W.heap.size → W.heap[wr.heap.size]? = some (.cells #[.int .i64 x] 3 (0, 0)) → Kd.C KG W A gs.length gs → Calls Try.prog 44 #[.slice A gs.length c, .func (.func 45) #[] #[.pointer (some ⟨w.heap.size, 0, none⟩), .pointer (some ⟨wr.heap.size, 0, none⟩)]] W fun e w' => e = .returned (.int .i64 (firstAt p gs)) ∧ Below W.heap.size W w' by
            intro A c W hb _ hx hcc
            have hw : Below w3.heap.size w3 W := HB.out.trans (hb.mono HB.out.size)
            exact idxRow A c gs W hcc p 45 #[.pointer (some ⟨w.heap.size, 0, none⟩), .pointer (some ⟨wr.heap.size, 0, none⟩)] eg
              (impl_GroupsOf.pred k A0 c0 l0 x w.heap.size wr.heap.size gs p W (blk_below BY.out hw) hx (Kd.C_below (Kd.C_below HR0.out B3.out) hw) HC0.out hm1 (fun g hg => by have := HGN.out.2 g hg; have := HI.out; have := HM.out; omega)))
          have hiz : (i : Int) < (m : Int) := by omega
          have hi0 : (0 : Int) ≤ (i : Int) := by omega
          clear hm1 hm2
          obtain ⟨A4, c4, e4⟩ := Kd.S_slice HS.out
          subst e4
          obtain ⟨q, hq⟩ : ∃ q, firstAt p gs = q := ⟨_, rfl⟩
          rw [hq] at HIX
          have HQ := Aside0.mk hq
          by_cases hq0 : q < 0
          · have d1 : decide (q < 0) = true := decide_eq_true hq0
            have HE3 := Aside0.mk (show placeP p gs x = gs ++ [[x]] by unfold placeP; rw [HQ.out, if_pos hq0])
            clear hq hq0
            go_wp2_with (first | (go_at_call 44; refine (HIX.out A4 c4 _ ?x1 ?x2 ?x3 ?x4).mono ?_; (case x1 => first | exact (by repeat (first | exact Below.refl _ _ | (with_reducible first | apply below_alloc | apply pw_below_drewN | apply below_drew1))) | exact (by repeat (first | exact Below.refl _ _ | refine below_set ?_ (Nat.le_refl _) | (with_reducible first | apply below_alloc | apply pw_below_drewN | apply below_drew1)))); (case x2 => simp); (case x3 => exact blk_new _ _); (case x4 => exact (Kd.R_reads' (Kd.S_R (Kd.S_below HS.out (by repeat (first | exact Below.refl _ _ | refine below_set ?_ (Nat.le_refl _) | (with_reducible first | apply below_alloc | apply pw_below_drewN | apply below_drew1)))))).2.2); rintro e w2 ⟨rfl, hb2⟩; have B2 := Aside0.mk (below_step (by repeat (first | exact Below.refl _ _ | refine below_set ?_ (Nat.le_refl _) | (with_reducible first | apply below_alloc | apply pw_below_drewN | apply below_drew1))) hb2 : Below wr.heap.size wr w2); have HB2 := Aside0.mk (HB.out.trans (B2.out.mono HB.out.size)); have HS2 := Aside0.mk (Kd.S_below HS.out B2.out); have z2 : w2.cell? ⟨wr.heap.size, 0, none⟩ = some (.int .i64 x) := (blk_cell (blk_below (blk_new wr (.cells #[.int .i64 x] 3 (0, 0))) hb2) 0).trans rfl; clear hb2) | ((with_reducible refine gate_builtin (b := .append) (xs := #[.tmp 22, .tmp 25]) rfl ?_); at_builtin; refine Kd.S_append KG (w0 := w3) w3.heap.size rfl (.tmp 22) (.tmp 25) 24 37 (.slice none 0 0) 24 rfl Try.underlying24 info37 rfl (by decide) (by omega) _ gs [x] [.slice (some ⟨w2.heap.size, 0, none⟩) 1 1] (fun _ => True) (fun k => k = w2.heap.size) (by rfl) (by first | rfl | (simp [Act.eval]; done) | (go_simp; done)) ?aP ?aK (fun _ _ => trivial) ?aO ?aB ?aS ?aL ?_; (case aP => exact Kd.M_row (R_oneG (blk_new w2 _) HB2.out.size)); (case aK => exact (fun k hk => ⟨trivial, fun e_ => by have := Kd.S_lt HS2.out k e_.symm; omega⟩)); (case aO => exact Kd.S_alloc (Kd.S_mono (Kd.S_bound HS2.out) (fun k hk => ⟨trivial, fun e_ => by have := hk.2.2.1; omega⟩)) _); (case aB => exact (by repeat (first | exact HB2.out | (with_reducible first | apply below_alloc | apply pw_below_drewN | apply below_drew1)))); (case aS => exact below_size (by repeat (first | exact HB2.out | (with_reducible first | apply below_alloc | apply pw_below_drewN | apply below_drew1)))); (case aL => have := HGN.out.1; have := HI.out; have := HM.out; omega); intro v6 w6 ho6 hb6 hg6 hat6; have HO6 := Aside0.mk ho6; have HB6 := Aside0.mk hb6; clear ho6 hb6 hg6 hat6))
            go_roundg k1
            case measure => omega
            case rel => exact ⟨i + 1, gs ++ [[x]], by first | rw [HW.out] | rfl | simp, ⟨by have := HI.out; have := HL.out; omega⟩, ⟨by rw [← HE3.out]; exact HE2.out⟩, ⟨by have := HGN.out; rw [List.length_append, List.length_singleton]; refine ⟨by omega, fun g hg => ?_⟩; rcases List.mem_append.1 hg with hg | hg <;> first | (have := this.2 g hg; omega) | (rw [List.mem_singleton.1 hg]; simp)⟩, HO6, HB6⟩
          · have d1 : decide (q < 0) = false := decide_eq_false hq0
            have hlt : q < gs.length := by
              unfold firstAt at hq
              split at hq <;> omega
            obtain ⟨kk, rfl⟩ : ∃ kk : Nat, q = (kk : Int) := ⟨q.toNat, by omega⟩
            have HE3 := Aside0.mk (show placeP p gs x = gs.set kk (gs.getD kk [] ++ [x]) by unfold placeP; rw [HQ.out, if_neg hq0]; rfl)
            have HKN := Aside0.mk (show kk < gs.length by omega)
            have hkz := eq_true (show (kk : Int) < (gs.length : Int) by omega)
            have hk0 := eq_true (show (0 : Int) ≤ (kk : Int) by omega)
            have d2 : decide ((kk : Int) < 0) = false := d1
            clear hq hq0 hlt d1
            obtain ⟨g, cap, eo, gb, gl, cl, HG⟩ := Kd.S_form HS.out (by have := HKN.out; omega)
            cases eo
            have HGB := Aside0.mk gb
            have HGL := Aside0.mk gl
            clear gb gl HG cl
            have HRN := Aside0.mk (show (gs.getD kk []).length ≤ 4096 by
              have h_ := HGN.out.2 (gs.getD kk []) (by rw [List.getD_eq_getElem?_getD, List.getElem?_eq_getElem HKN.out]; exact List.getElem_mem HKN.out)
              have := HI.out
              have := HM.out
              omega)
            obtain ⟨row, hrow⟩ : ∃ row, gs.getD kk [] = row := ⟨_, rfl⟩
            rw [hrow] at HRN HE3
            have HROW := Aside0.mk hrow
            clear hrow
            go_upto_region 10 with (first | (go_at_call 44; refine (HIX.out (some ⟨g, 0, none⟩) c4 _ ?x1 ?x2 ?x3 ?x4).mono ?_; (case x1 => first | exact (by repeat (first | exact Below.refl _ _ | (with_reducible first | apply below_alloc | apply pw_below_drewN | apply below_drew1))) | exact (by repeat (first | exact Below.refl _ _ | refine below_set ?_ (Nat.le_refl _) | (with_reducible first | apply below_alloc | apply pw_below_drewN | apply below_drew1)))); (case x2 => simp); (case x3 => exact blk_new _ _); (case x4 => exact (Kd.R_reads' (Kd.S_R (Kd.S_below HS.out (by repeat (first | exact Below.refl _ _ | refine below_set ?_ (Nat.le_refl _) | (with_reducible first | apply below_alloc | apply pw_below_drewN | apply below_drew1)))))).2.2); rintro e w2 ⟨rfl, hb2⟩; have B2 := Aside0.mk (below_step (by repeat (first | exact Below.refl _ _ | refine below_set ?_ (Nat.le_refl _) | (with_reducible first | apply below_alloc | apply pw_below_drewN | apply below_drew1))) hb2 : Below wr.heap.size wr w2); have HB2 := Aside0.mk (HB.out.trans (B2.out.mono HB.out.size)); have HS2 := Aside0.mk (Kd.S_below HS.out B2.out); have z2 : w2.cell? ⟨wr.heap.size, 0, none⟩ = some (.int .i64 x) := (blk_cell (blk_below (blk_new wr (.cells #[.int .i64 x] 3 (0, 0))) hb2) 0).trans rfl; clear hb2; obtain ⟨oki, c_, hcl, hM, hcell, hoki, hH⟩ := Kd.S_lend HS2.out [] (kk : Int) (by omega) (by have := HKN.out; omega); obtain ⟨v', ecc, hR⟩ := hM; subst ecc; rw [Int.toNat_natCast, HROW.out] at hR; have z3 : w2.cell? ⟨g, kk, none⟩ = some v' := (hole_at hH HKN.out).1; have HNE := Aside0.mk (show ∀ k, (oki k ∨ True ∧ w2.heap.size ≤ k) → k ≠ g from fun k hk => hk.elim (fun h => (hoki k h).2) (fun h e_ => by have := HGL.out; have := B2.out.size; omega)); have HRW := Aside0.mk hR; have HHL := Aside0.mk (Kd.H_widen hH); have HOW := Aside0.mk (fun (k : Nat) (hk : v'.ownBlock = some k) => (show oki k ∨ True ∧ w2.heap.size ≤ k from .inl (hR.1 k hk))); obtain ⟨Ai, ci, ei⟩ := Kd.R_slice hR; subst ei; clear hR hcell hoki hcl hH; have z3a := (fun (o : Obj) => pw_cell_below (below_alloc (Below.refl _ _) o) z3); have z2a := (fun (o : Obj) => pw_cell_below (below_alloc (Below.refl _ _) o) z2)))
            go_region_law (first | (refine Kd.R_append_rows_step (Kd.int .i64) (Rr := fun x cs => cs = [Value.int .i64 x]) (w0 := w3) w3.heap.size (by rfl) (.tmp 32) (.tmp 34) 37 3 (.int .i64 0) 8 (by rfl) Try.underlying37 info3 (by rfl) (by decide) (by omega) _ row [x] _ _ _ (fun k => oki k ∨ True ∧ w2.heap.size ≤ k) (fun _ => False) (by rfl) (by rfl) ?aO ?aR (fun _ _ h => h) (fun _ h => h.elim) ?aF ?aB ?aS ?aL ?_; (case aO => exact (by (with_reducible repeat (first | apply Kd.R_alloc | apply Kd.R_drewN | apply Kd.R_drew)); exact Kd.R_mono HRW.out (fun k hk => .inl hk))); (case aR => exact C_oneG (by first | exact blk_new _ _ | exact blk_drew (blk_new _ _) | exact blk_drewN (blk_new _ _) _)); (case aF => exact (fun k hk => .inr ⟨trivial, Nat.le_trans (by first | exact Nat.le_refl _ | (simp; done) | (simp; omega)) hk⟩)); (case aB => exact (by repeat (first | exact HB2.out | (with_reducible first | apply below_alloc | apply pw_below_drewN | apply below_drew1)))); (case aS => exact below_size (by repeat (first | exact HB2.out | (with_reducible first | apply below_alloc | apply pw_below_drewN | apply below_drew1)))); (case aL => have := HRN.out; omega); intro v6 w6 ho6 hb6 hg6 hat6; have HO6 := Aside0.mk ho6; have HB6 := Aside0.mk hb6; have HH6 := Aside0.mk (Kd.H_grown (by (with_reducible repeat (first | apply Kd.H_alloc | apply Kd.H_drewN | apply Kd.H_drew)); exact HHL.out) hg6 (fun k hk => HOW.out k hk)); clear ho6 hb6 hg6 hat6; obtain ⟨z6, z6f⟩ := hole_at HH6.out HKN.out; obtain ⟨A6, c6, e6⟩ := Kd.R_slice HO6.out; rw [List.length_append, List.length_singleton] at e6; subst e6))
            all_goals go_wp2
            all_goals go_roundg k1
            all_goals first | omega | exact ⟨i + 1, gs.set kk (row ++ [x]), by first | rw [HW.out] | rfl | simp, ⟨by have := HI.out; have := HL.out; omega⟩, ⟨by rw [← HE3.out]; exact HE2.out⟩, ⟨by have h_ := HGN.out.1; rw [List.length_set]; exact ⟨by omega, by rw [← HE3.out]; exact placeP_each HGN.out.2⟩⟩, ⟨put_back HH6.out HKN.out HO6.out HNE.out⟩, ⟨Below.setCell HB6.out HGB.out _⟩⟩
        · have cb : decide ((i : Int) < (m : Int)) = false := decide_eq_false (by omega)
          have cb2 : decide (i < m) = false := decide_eq_false hi
          have e : i = m := by have := HI.out; omega
          have hge := HE.out
          rw [List.drop_of_length_le (by rw [HAN.out]; omega)] at hge
          obtain rfl : gs = r := Option.some.inj hge
          clear hge
          go_wp2
          go_ret
          exact ⟨_, rfl, Kd.S_lower HS.out B3.out.size, B3.out.trans (HB.out.mono B3.out.size)⟩
  · rw [if_neg ha] at h
    obtain rfl := Option.some.inj h
    rw [Bool.eq_false_iff.2 ha] at HA
    clear h ha hr0 hc0
    go_enter Try.func10, Try.ntmps10
    go_wp2_with (go_at_call 18; refine (HA.out _ (by repeat (first | exact Below.refl _ _ | (with_reducible first | apply below_alloc | apply pw_below_drewN | apply below_drew1)))).mono ?_; rintro e w1 ⟨rfl, hb1⟩; have B1 := Aside0.mk (below_step (by repeat (first | exact Below.refl _ _ | (with_reducible first | apply below_alloc | apply pw_below_drewN | apply below_drew1))) hb1 : Below w.heap.size w w1); clear hb1)
    go_ret
    exact ⟨_, rfl, Kd.S_nil _ _ _ _ _, B1.out⟩

end Go.Proofs.Ytgghhcifkgdpeaa.Z
