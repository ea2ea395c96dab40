-- Written by this session's wip/mp/mp.py out of the translation. Lean checks it.
import Derived.Test.YtgghhcifkgdpeaaZ0
import Derived.Test.YtgghhcifkgdpeaaZ2
import Derived.Test.YtgghhcifkgdpeaaZ7
import Derived.Test.YtgghhcifkgdpeaaZSortRp
namespace Go.Proofs.Ytgghhcifkgdpeaa.Z
open Go.RowKit Go.Proofs.YtgghhcifkgdpeaaW.PrintWords Go.Proofs.YtgghhcifkgdpeaaW.PrintLast Go.Proofs.YtgghhcifkgdpeaaW.PrintMore
attribute [local go_sem] max2_int min2_int max_two min_two max_three min_three max_four min_four   -- for this text's walks alone
set_option linter.unusedVariables false
set_option linter.unusedSimpArgs false

-- GIVEN
-- FUNCTION loop.example/g00958/impl.MayBeOne rounds
-- ALONE
-- EXTRA loop.example/g00958/impl.AreReplies
-- EXTRA slices.Contains[[]int,int]
-- IMPORT Derived.Test.YtgghhcifkgdpeaaZSortRp
/-! ### impl_MayBeOne: function 21 -/
def keepO (k : Nat) (ads : List Int) : List S68 → Option (List S68)
  | [] => some []
  | x :: l => (slices_Contains_Sint.f k ads x.f0).bind fun b => (keepO k ads l).bind fun q => some (if b = true then x :: q else q)
def idStep (l : List S68) (i : Nat) : Bool := decide (i = 0) || decide ((rd_T68 l ((i - 1 : Nat) : Int)).f2 < (rd_T68 l (i : Int)).f2)
def idsRise (l : List S68) : Bool := (List.range l.length).all (idStep l)
def impl_MayBeOne.f (k : Nat) (l0 : List S68) (l1 : List Int) : Option Bool := if areReplies l0 = true then (keepO k l1 l0).bind fun q => some (idsRise (sortT q)) else some false

theorem keepO.mono (ads : List Int) (k : Nat) : ∀ l, LeO (keepO k ads l) (keepO (k + 1) ads l)
  | [] => LeO.refl _
  | _ :: l => LeO.bind (slices_Contains_Sint.mono _ _ _) (fun _ => LeO.bind (keepO.mono ads k l) (fun _ => LeO.refl _))
theorem impl_MayBeOne.mono : ∀ a0 a1 k, LeO (impl_MayBeOne.f k a0 a1) (impl_MayBeOne.f (k + 1) a0 a1) := fun a0 a1 k => LeO.ite (LeO.bind (keepO.mono a1 k a0) (fun _ => LeO.refl _)) (LeO.refl _)

theorem areReplies_few {l : List S68} (h : areReplies l = true) : l.length ≤ 12 := by
  unfold areReplies at h
  split at h
  · cases h
  · omega
theorem keepO_len (k : Nat) (ads : List Int) : ∀ (l q : List S68), keepO k ads l = some q → q.length ≤ l.length
  | [], q, h => by obtain rfl := Option.some.inj h; exact Nat.le_refl _
  | x :: l, q, h => by
    obtain ⟨b, _, h⟩ := Option.bind_eq_some_iff.1 h
    obtain ⟨q', hq, h⟩ := Option.bind_eq_some_iff.1 h
    obtain rfl := Option.some.inj h
    have := keepO_len k ads l q' hq
    split <;> simp <;> omega
theorem drop_at {α : Type} (l : List α) (i : Nat) (h : i < l.length) : l.drop i = l[i] :: l.drop (i + 1) := List.drop_eq_getElem_cons h

set_option maxRecDepth 100000 in
set_option maxHeartbeats 4000000 in
/-- The loop that reads the sorted replies. -/
theorem may_ends (l : List S68) (hl : ∀ i, 1 ≤ i → i < l.length → (rd_T68 l ((i - 1 : Nat) : Int)).f2 < (rd_T68 l (i : Int)).f2) : idsRise l = true := by
  unfold idsRise idStep
  rw [List.all_eq_true]
  intro i hi
  have hi := List.mem_range.1 hi
  by_cases h0 : i = 0
  · rw [decide_eq_true h0]; rfl
  · rw [decide_eq_true (hl i (by omega) hi), Bool.or_true]
theorem may_fails (l : List S68) (i : Nat) (h1 : 1 ≤ i) (hi : i < l.length) (h : ¬ (rd_T68 l ((i - 1 : Nat) : Int)).f2 < (rd_T68 l (i : Int)).f2) : idsRise l = false := by
  unfold idsRise idStep
  rw [List.all_eq_false]
  exact ⟨i, List.mem_range.2 hi, by rw [decide_eq_false (by omega), decide_eq_false h]; decide⟩

set_option maxRecDepth 100000 in
set_option maxHeartbeats 4000000 in
theorem impl_MayBeOne.calls (k : Nat) (A0 : Option Addr) (c0 : Nat) (l0 : List S68) (A1 : Option Addr) (c1 : Nat) (l1 : List Int) (r : Bool) (w : World) (hr0 : Kd.C k68 w A0 l0.length l0) (hc0 : l0.length ≤ c0) (hr1 : Kd.C (Kd.int .i64) w A1 l1.length l1) (hc1 : l1.length ≤ c1) (h : impl_MayBeOne.f k l0 l1 = some r) :
    Calls Try.prog 21 #[.slice A0 l0.length c0, .slice A1 l1.length c1] w fun e w' => e = .returned (.bool r) ∧ Below w.heap.size w w' := by
  have hu := Try.underlying68
  have hA := impl_AreReplies.calls A0 c0 l0 (areReplies l0) w hr0 hc0 rfl
  unfold impl_MayBeOne.f at h
  by_cases ha : areReplies l0 = true
  · rw [if_pos ha] at h
    obtain ⟨q, hq, h⟩ := Option.bind_eq_some_iff.1 h
    obtain rfl := Option.some.inj h
    have h12 := areReplies_few ha
    have hql := keepO_len k l1 l0 q hq
    rw [ha] at hA
    obtain ⟨n, hn⟩ : ∃ n, l0.length = n := ⟨_, rfl⟩
    rw [hn] at h12 hql hr0 hc0 hA ⊢
    have HA := Aside0.mk hA
    have HR0 := Aside0.mk hr0
    have HR1 := Aside0.mk hr1
    have HC1 := Aside0.mk hc1
    have H12 := Aside0.mk h12
    have HQ := Aside0.mk hq
    have HQL := Aside0.mk hql
    have HN := Aside0.mk hn
    clear hA hr0 hr1 hc1 h12 hq hql hn h ha hc0
    go_enter Try.func21, Try.ntmps21
    go_wp2_with (go_at_call 18; refine HA.out.mono ?_; rintro e w1 ⟨rfl, hb1⟩; have HB1 := Aside0.mk hb1; clear hb1)
    go_loopg [5, 14] (n + 1) (fun kq v5 v14 w' => ∃ (i : Nat) (o : List S68), v14 = .int .i64 (i : Int) ∧ Aside0 (i ≤ n ∧ n + 1 ≤ i + kq) ∧ Aside0 (∃ q', keepO k l1 (l0.drop i) = some q' ∧ o ++ q' = q) ∧ Aside0 (Kd.R k68 68 w' w.heap.size (fun _ => True) v5 o) ∧ Aside0 (Below w.heap.size w w'))
    case atStart => exact ⟨0, [], rfl, ⟨by omega⟩, ⟨q, HQ.out, rfl⟩, ⟨Kd.R_nil _ _ _ _ _⟩, HB1⟩
    case round =>
      clear HB1 HA
      obtain ⟨i, o, rfl, HI, HK, HO, HB⟩ := hrel
      cases gk with
      | zero => exact absurd HI.out (by omega)
      | succ k1 =>
        by_cases hi : i < n
        · have HL := Aside0.mk hi
          have cb : decide ((i : Int) < (n : Int)) = true := decide_eq_true (by omega)
          have cb2 : decide (i < n) = true := decide_eq_true hi
          have hil : i < l0.length := by rw [HN.out]; exact hi
          obtain ⟨ad, e0, q0, q1, q2⟩ := at_T68 (Kd.C_below HR0.out HB.out) (i : Int) (by omega) (by omega)
          cases e0
          have hx : rd_T68 l0 (i : Int) = l0[i] := getD_at l0 i _ hil
          rw [hx] at q0 q1 q2
          simp only [Int.toNat_natCast] at q0 q1 q2
          obtain ⟨q', hk, ho⟩ := HK.out
          rw [drop_at l0 i hil] at hk
          generalize l0[i] = x at hk q0 q1 q2
          obtain ⟨b, hb1, hk⟩ := Option.bind_eq_some_iff.1 hk
          obtain ⟨q2', hk2, hk⟩ := Option.bind_eq_some_iff.1 hk
          have hk := Option.some.inj hk
          have HCN := Aside0.mk (fun (W : World) (hb : Below w.heap.size w W) => slices_Contains_Sint.calls k A1 c1 l1 x.f0 b W (Kd.C_below HR1.out hb) HC1.out hb1)
          have HK2 := Aside0.mk (And.intro hk2 (And.intro hk ho))
          have HLO := Aside0.mk (show o.length ≤ 12 by
            have h1 : (o ++ q').length = q.length := by rw [ho]
            rw [List.length_append] at h1
            have := HQL.out
            have := H12.out
            omega)
          have HW := Aside0.mk (show wrap64 ((i : Int) + 1) = ((i + 1 : Nat) : Int) by
            have := H12.out
            rw [IntWalk.wrap64_in _ ⟨by omega, by omega⟩]
            omega)
          have hiz : (i : Int) < (n : Int) := by omega
          have hi0 : (0 : Int) ≤ (i : Int) := by omega
          clear hk2 hk ho hb1 hx HK hil
          cases b with
          | false =>
            go_wp2_with (go_at_call 58; refine (HCN.out _ (by repeat (first | (with_reducible first | exact HB.out | apply below_alloc | apply pw_below_drewN | apply below_drew1) | exact HB.out))).mono ?_; rintro e w' ⟨rfl, ⟨nd, rfl⟩⟩)
            go_roundg k1
            case measure => omega
            case rel => exact ⟨i + 1, o, by first | rw [HW.out] | rfl | simp, ⟨by have := HI.out; have := HL.out; omega⟩, ⟨q2', HK2.out.1, by obtain ⟨_, h2, h3⟩ := HK2.out; rw [← h3, ← h2]; rfl⟩, ⟨by (with_reducible repeat (first | apply Kd.R_alloc | apply Kd.R_drewN | apply Kd.R_drew)); exact HO.out⟩, ⟨by repeat (first | (with_reducible first | exact HB.out | apply below_alloc | apply pw_below_drewN | apply below_drew1) | exact HB.out)⟩⟩
          | true =>
            go_wp2_with (first | (go_at_call 58; refine (HCN.out _ (by repeat (first | (with_reducible first | exact HB.out | apply below_alloc | apply pw_below_drewN | apply below_drew1) | exact HB.out))).mono ?_; rintro e w' ⟨rfl, ⟨nd, rfl⟩⟩) | ((with_reducible refine gate_builtin (b := .append) (xs := #[.tmp 22, .tmp 24]) rfl ?_); at_builtin; refine Kd.R_append k68 (w0 := w) w.heap.size rfl (.tmp 22) (.tmp 24) 26 68 (.agg #[(.int .i64 0), (.int .i64 0), (.int .i64 0)]) 24 rfl Try.underlying26 info68 rfl (by decide) (by omega) _ o x [.int .i64 x.f0, .int .i64 x.f1, .int .i64 x.f2] (fun _ => True) (fun _ => False) rfl (by first | rfl | (simp [Act.eval]; done) | (go_simp; done)) ?aP (fun _ hk => hk.elim) ?aF ?aO ?aB ?aS ?aL ?_; (case aP => exact k68_mkM _ _ _ x); (case aB => exact (by repeat (first | (with_reducible first | exact HB.out | apply below_alloc | apply pw_below_drewN | apply below_drew1) | exact HB.out))); (case aF => exact (fun _ _ => trivial)); (case aO => exact (by (with_reducible repeat (first | apply Kd.R_alloc | apply Kd.R_drewN | apply Kd.R_drew)); exact HO.out)); (case aS => exact (below_size (by repeat (first | (with_reducible first | exact HB.out | apply below_alloc | apply pw_below_drewN | apply below_drew1) | exact HB.out)))); (case aL => have := HLO.out; omega); intro v110 w7 ho hb hg hat; have n0_ := Aside0.mk hb; have n1_ := Aside0.mk ho; clear HB HO; have HB := n0_; have HO := n1_; clear n0_ n1_; clear ho hb hg hat))
            go_roundg k1
            case measure => omega
            case rel => exact ⟨i + 1, o ++ [x], by first | rw [HW.out] | rfl | simp, ⟨by have := HI.out; have := HL.out; omega⟩, ⟨q2', HK2.out.1, by obtain ⟨_, h2, h3⟩ := HK2.out; rw [← h3, ← h2]; simp⟩, HO, HB⟩
        · have cb : decide ((i : Int) < (n : Int)) = false := decide_eq_false (by omega)
          have cb2 : decide (i < n) = false := decide_eq_false hi
          have e : i = n := by have := HI.out; omega
          obtain ⟨q', hk, ho⟩ := HK.out
          rw [List.drop_of_length_le (by rw [HN.out]; omega)] at hk
          obtain rfl := Option.some.inj hk
          rw [List.append_nil] at ho
          have he := Aside0.mk ho
          clear hk ho HK e
          have hoq := he.out
          subst hoq
          have hsl := sort_perm o
          by_cases hne : o = []
          · obtain ⟨A5, c5, e5⟩ := Kd.R_slice HO.out
            subst e5
            subst hne
            have hend : idsRise (sortT []) = true := may_ends _ (fun i _ h2 => by rw [hsl] at h2; exact absurd h2 (Nat.not_lt_zero _))
            have HE := Aside0.mk hend
            clear hend hsl
            go_wp2_with (go_at_call 59; refine (AnyF.slices_SortFunc_none Try.sortRp A5 c5 _ _).mono ?_; rintro e w' ⟨rfl, hw⟩; rw [hw]; clear hw)
            go_loopg [8] 1 (fun kq v8 w' => v8 = .int .i64 (1 : Int) ∧ Aside0 (Below w.heap.size w w'))
            case atStart => exact ⟨rfl, HB⟩
            case round =>
              obtain ⟨rfl, HB2⟩ := hrel
              go_wp2
              go_ret
              exact ⟨by rw [HE.out]; rfl, HB2.out⟩
          · obtain ⟨g, cap, cur, rfl, hg, hh, hnc, hcm, hcs, hr⟩ := row3_open hne HO.out
            have h12o : o.length ≤ 12 := by have := H12.out; have := HQL.out; omega
            have HS := Aside0.mk (sortRp_calls g cap cur o wr hh hnc hcs hr h12o)
            obtain ⟨s, hs⟩ : ∃ s, sortT o = s := ⟨_, rfl⟩
            rw [hs] at HS hsl
            have HSQ := Aside0.mk hs
            obtain ⟨m, hm⟩ : ∃ m, o.length = m := ⟨_, rfl⟩
            rw [hm] at HS hsl hnc h12o ⊢
            have HG := Aside0.mk (And.intro hg (And.intro hnc (And.intro hcm h12o)))
            have HSL := Aside0.mk hsl
            have HM := Aside0.mk (show 1 ≤ m by have := List.length_pos_iff.2 hne; omega)
            clear hg hh hnc hcm hcs hr hs hsl hne h12o HO
            go_wp2_with (go_at_call 59; refine HS.out.mono ?_; rintro e w2 ⟨rfl, ⟨cur2, hh2, hs2, hr2⟩, hg2⟩; have HB2 := Aside0.mk (Below.grown HB.out hg2 HB.out.size (fun k hk => by cases hk; exact HG.out.1)); have HC2 := Aside0.mk ((Kd.R_reads' (row3_mk (l := s) HG.out.1 hh2 (by rw [HSL.out]; exact HG.out.2.1) HG.out.2.2.1 hs2 hr2)).2.2); clear hh2 hs2 hr2 hg2)
            go_loopg [8] (m + 1) (fun kq v8 w' => ∃ p : Nat, v8 = .int .i64 (p : Int) ∧ Aside0 (1 ≤ p ∧ (p ≤ m ∨ p = 1) ∧ m + 1 ≤ p + kq) ∧ Aside0 (∀ z, 1 ≤ z → z < p → (rd_T68 s ((z - 1 : Nat) : Int)).f2 < (rd_T68 s (z : Int)).f2) ∧ Drawn0 w2 w')
            case atStart => exact ⟨1, rfl, ⟨by omega⟩, ⟨fun z h1 h2 => by omega⟩, Drawn0.refl _⟩
            case round =>
              obtain ⟨p, rfl, HP, HF, ⟨mm, rfl⟩⟩ := hrel
              cases gk with
              | zero => exact absurd HP.out (by have := HM.out; omega)
              | succ k1 =>
                by_cases hp : p < m
                · have HPL := Aside0.mk hp
                  have cb3 : decide ((p : Int) < (m : Int)) = true := decide_eq_true (by omega)
                  have cb4 : decide (p < m) = true := decide_eq_true hp
                  have hpz : (p : Int) < (m : Int) := by omega
                  have hp0 : (0 : Int) ≤ (p : Int) := by omega
                  obtain ⟨pp, hpp⟩ : ∃ pp : Nat, p - 1 = pp := ⟨_, rfl⟩
                  have hqz : (pp : Int) < (m : Int) := by omega
                  have hq0 : (0 : Int) ≤ (pp : Int) := by omega
                  have hw : IntKind.i64.wrap ((p : Int) - 1) = (pp : Int) := by
                    have := HG.out.2.2.2
                    have := HP.out
                    rw [i64_w, IntWalk.wrap64_in _ ⟨by omega, by omega⟩]
                    omega
                  have HW := Aside0.mk (show wrap64 ((p : Int) + 1) = ((p + 1 : Nat) : Int) by
                    have := HG.out.2.2.2
                    rw [IntWalk.wrap64_in _ ⟨by omega, by omega⟩]
                    omega)
                  obtain ⟨ad, ea, _, _, q2⟩ := at_T68 HC2.out (p : Int) (by omega) (by rw [HSL.out]; omega)
                  obtain ⟨ad', eb, _, _, q3⟩ := at_T68 HC2.out (pp : Int) (by omega) (by rw [HSL.out]; omega)
                  cases ea
                  cases eb
                  have hadd : ∀ z, (⟨g, 0, none⟩ : Addr).add z = ⟨g, z, none⟩ := fun z => by unfold Addr.add; split <;> simp_all
                  simp only [Int.toNat_natCast, hadd] at q2 q3
                  clear hadd
                  by_cases hc : (rd_T68 s (p : Int)).f2 ≤ (rd_T68 s (pp : Int)).f2
                  · have hcb : decide ((rd_T68 s (p : Int)).f2 ≤ (rd_T68 s (pp : Int)).f2) = true := decide_eq_true hc
                    have HF2 := Aside0.mk (may_fails s p HP.out.1 (by rw [HSL.out]; exact hp) (by rw [hpp]; omega))
                    replace hqz := eq_true hqz
                    replace hq0 := eq_true hq0
                    replace hpz := eq_true hpz
                    replace hp0 := eq_true hp0
                    clear hpp
                    go_wp2
                    go_quiet (fail)
                    go_wp2
                    go_ret
                    exact ⟨by rw [HSQ.out, HF2.out]; rfl, by repeat (first | (with_reducible first | exact HB2.out | apply below_alloc | apply pw_below_drewN | apply below_drew1) | exact HB2.out)⟩
                  · have hcb : decide ((rd_T68 s (p : Int)).f2 ≤ (rd_T68 s (pp : Int)).f2) = false := decide_eq_false hc
                    have HPP := Aside0.mk hpp
                    have HCN := Aside0.mk (show (rd_T68 s (pp : Int)).f2 < (rd_T68 s (p : Int)).f2 by omega)
                    replace hqz := eq_true hqz
                    replace hq0 := eq_true hq0
                    replace hpz := eq_true hpz
                    replace hp0 := eq_true hp0
                    clear hpp
                    go_wp2
                    go_quiet (fail)
                    go_wp2
                    go_roundg k1
                    case measure => omega
                    case rel => exact ⟨p + 1, by first | rw [HW.out] | rfl | simp, ⟨by have := HP.out; have := HPL.out; omega⟩, ⟨fun z h1 h2 => by
                      by_cases e : z = p
                      · subst e; rw [HPP.out]; exact HCN.out
                      · exact HF.out z h1 (by omega)⟩, by repeat (first | exact Drawn0.refl _ | apply Drawn0.step)⟩
                · have cb3 : decide ((p : Int) < (m : Int)) = false := decide_eq_false (by omega)
                  have cb4 : decide (p < m) = false := decide_eq_false hp
                  have HE := Aside0.mk (may_ends s (fun z h1 h2 => HF.out z h1 (by rw [HSL.out] at h2; omega)))
                  clear hp
                  go_wp2
                  go_ret
                  exact ⟨by rw [HSQ.out, HE.out]; rfl, by repeat (first | (with_reducible first | exact HB2.out | apply below_alloc | apply pw_below_drewN | apply below_drew1) | exact HB2.out)⟩
  · rw [if_neg ha] at h
    obtain rfl := Option.some.inj h
    rw [Bool.eq_false_iff.2 ha] at hA
    clear h ha hr0 hr1
    go_enter Try.func21, Try.ntmps21
    go_wp2_with (go_at_call 18; refine hA.mono ?_; rintro e w1 ⟨rfl, hb1⟩)
    go_ret
    exact ⟨rfl, hb1⟩

end Go.Proofs.Ytgghhcifkgdpeaa.Z
