/- The statement: at every bytes, the clocks' laws hold: the offset's bounds hold the offset, the one way's hold the way, and what MeetAll gives holds just what lies in all. No condition. -/
import Derived.Test.YthfnnlbppkhhjaaZDefFnClocks
import Derived.Test.YthfnnlbppkhhjaaPClocks
import Derived.Test.YthfnnlbppkhhjaaPCursor
import Derived.Test.YthfnnlbppkhhjaaPAllIn
namespace Go.Proofs.Ythfnnlbppkhhjaa.Pure
open Go.RowKit Go.Proofs.Ythfnnlbppkhhjaa.Z Go.Proofs.YthfnnlbppkhhjaaW.PrintWords

theorem at_range (b : List Int) (i : Int) (h0 : 0 ≤ i) (h1 : i ≤ 4) (hl : b.length ≤ 1048576) (hb : ∀ x ∈ b, (Lit.int .u8 x).wf = true) : ∃ t, laws_at.f b i = some t ∧ 0 ≤ t ∧ t ≤ 255 := by
  unfold laws_at.f
  by_cases h : i < b.length
  · rw [if_pos h, if_pos h0]
    obtain ⟨j, rfl⟩ : ∃ j : Nat, i = (j : Int) := ⟨i.toNat, by omega⟩
    rw [rd_get b j (by omega)]
    have hw := hb _ (List.getElem_mem (show j < b.length by omega))
    have h2 : 0 ≤ b[j] ∧ b[j] ≤ 255 := by
      unfold Lit.wf at hw
      simp only [Bool.and_eq_true, decide_eq_true_eq] at hw
      exact hw
    exact ⟨_, rfl, by rw [wrap_in (by omega) (by omega)]; exact h2⟩
  · rw [if_neg h]
    refine ⟨_, rfl, ?_⟩
    rw [wrap_in (n := i * 31) (by omega) (by omega), wrap_in (n := (b.length : Int) * 7) (by omega) (by omega), wrap_in (by omega) (by omega), Int.tmod_eq_emod_of_nonneg (by omega)]
    omega

theorem tmod_range (t n : Int) (h : 0 ≤ t) (hn : 0 < n) : 0 ≤ Int.tmod t n ∧ Int.tmod t n < n := by
  rw [Int.tmod_eq_emod_of_nonneg h]
  exact ⟨Int.emod_nonneg _ (by omega), Int.emod_lt_of_pos _ hn⟩

theorem offset_clock (a b c d : Int) (ha : 0 ≤ a ∧ a ≤ 100000) (hb : 0 ≤ b ∧ b ≤ 100000) (hc : 0 ≤ c ∧ c ≤ 100000) (hd : 0 ≤ d ∧ d ≤ 100000) (h : c - d ≤ b - a) : Ev (fun k => impl_OffsetOf.f k a b c d) (c - d, b - a, true) := by
  unfold impl_OffsetOf.f
  have e : ([a, b, c, d] : List Int).all (fun n => decide (0 ≤ n ∧ n ≤ 100000)) = true := by simp [ha, hb, hc, hd]
  refine Ev.bind (e ▸ impl_allIn [a, b, c, d] 0 100000 (by simp)) (Ev.ifpos rfl ?_)
  rw [wrap_in (n := c - d) (by omega) (by omega), wrap_in (n := b - a) (by omega) (by omega)]
  exact Ev.ifneg (by omega) (Ev.now _)

theorem oneway_clock (a b lo hi : Int) (ha : 0 ≤ a ∧ a ≤ 100000) (hb : 0 ≤ b ∧ b ≤ 100000) (h1 : isIv lo hi = true) (h2 : b - a = hi) (h3 : hi - lo ≤ 100000) : Ev (fun k => impl_OneWay.f k a b lo hi) (0, hi - lo, true) := by
  have h1' := h1
  unfold isIv at h1'
  simp only [decide_eq_true_eq] at h1'
  unfold impl_OneWay.f
  have e : ([a, b] : List Int).all (fun n => decide (0 ≤ n ∧ n ≤ 100000)) = true := by simp [ha, hb]
  refine Ev.bind (e ▸ impl_allIn [a, b] 0 100000 (by simp)) (Ev.ifpos rfl (Ev.bind0 (clocks_isI _ _) ?_))
  rw [h1]
  refine Ev.step (fun k => by rw [impl_OneWay.j0]) ?_
  refine Ev.ifneg (by decide) ?_
  rw [wrap_in (n := b - a) (by omega) (by omega), wrap_in (n := b - a - hi) (by omega) (by omega), wrap_in (n := b - a - lo) (by omega) (by omega)]
  have e1 : mx 0 (b - a - hi) = 0 := by unfold mx; split <;> omega
  have e2 : b - a - lo = hi - lo := by omega
  rw [e1, e2]
  refine Ev.bind0 (clocks_isI _ _) (Ev.ifpos ?_ (Ev.now _))
  unfold isIv
  exact decide_eq_true (by omega)

theorem raw_clock (x : List Int) (i s : Int) (hx : x.length ≤ 4611686018427387904) (hi : Cur x i) : ∃ v i' s', spec_l9Raw.f x i s = some (v, i', s') ∧ Cur x i' := by
  unfold spec_l9Raw.f spec_l1Once.f
  obtain ⟨v1, i1, s1, e1, h1, c1⟩ := cur_below x i s 6 hx hi (by decide)
  rw [e1]
  show ∃ v i' s', (if (v1 == 0) = true then _ else _) = _ ∧ _
  by_cases h : (v1 == 0) = true
  · rw [if_pos h]
    obtain ⟨v2, i2, s2, e2, h2, c2⟩ := cur_int x i1 s1 [-1, 0, 100000, 100001, -100000, -100001, 9223372036854775807, -9223372036854775808] hx c1 (by decide)
    exact ⟨v2, i2, s2, by rw [e2]; rfl, c2⟩
  · rw [if_neg h]
    obtain ⟨v2, i2, s2, e2, h2, c2⟩ := cur_below x i1 s1 60 hx c1 (by decide)
    exact ⟨v2, i2, s2, by rw [e2]; rfl, c2⟩

theorem any_clock (x : List Int) (i s : Int) (hx : x.length ≤ 4611686018427387904) (hi : Cur x i) : ∃ u v i' s', spec_l9Any.f x i s = some (u, v, i', s') ∧ Cur x i' := by
  unfold spec_l9Any.f
  obtain ⟨v1, i1, s1, e1, h1, c1⟩ := cur_below x i s 50 hx hi (by decide)
  rw [e1, Option.bind_some]
  obtain ⟨v2, i2, s2, e2, h2, c2⟩ := cur_below x i1 s1 20 hx c1 (by decide)
  rw [show spec_l1Below.f x (v1, i1, s1).2.1 (v1, i1, s1).2.2 20 = some (v2, i2, s2) from e2, Option.bind_some]
  obtain ⟨v3, i3, s3, e3, h3, c3⟩ := cur_below x i2 s2 8 hx c2 (by decide)
  rw [show spec_l1Below.f x (v2, i2, s2).2.1 (v2, i2, s2).2.2 8 = some (v3, i3, s3) from e3, Option.bind_some]
  obtain ⟨v4, i4, s4, e4, c4⟩ := raw_clock x i3 s3 hx c3
  rw [show spec_l9Raw.f x (v3, i3, s3).2.1 (v3, i3, s3).2.2 = some (v4, i4, s4) from e4]
  split
  · exact ⟨_, _, _, _, rfl, c4⟩
  · split
    · exact ⟨_, _, _, _, rfl, c4⟩
    · exact ⟨_, _, _, _, rfl, c3⟩

theorem draw_from (x : List Int) (hx : x.length ≤ 4611686018427387904) : ∀ (m : Nat) (l : List S25) (i s : Int), l.length + m ≤ 100 → Cur x i → ∃ q, q.length ≤ 100 ∧ Ev (fun k => spec_DrawMeetAll.l0 k l (m : Int) x i s) q := by
  intro m
  induction m with
  | zero =>
    intro l i s hl hi
    refine ⟨l, by omega, Ev.step (fun k => by rw [spec_DrawMeetAll.l0]) ?_⟩
    exact Ev.ifneg (by omega) (Ev.now _)
  | succ m ih =>
    intro l i s hl hi
    obtain ⟨u, v, i', s', e, c⟩ := any_clock x i s hx hi
    obtain ⟨q, hq, h⟩ := ih (l ++ [⟨u, v⟩]) i' s' (by rw [List.length_append, List.length_singleton]; omega) c
    refine ⟨q, hq, Ev.step (fun k => by rw [spec_DrawMeetAll.l0]) ?_⟩
    refine Ev.ifpos (by omega) (Ev.bind0 e (Ev.ifpos (by omega) ?_))
    have e2 : wrap64 (((m + 1 : Nat) : Int) - 1) = (m : Int) := by rw [wrap_in (by omega) (by omega)]; omega
    rw [e2]
    exact h

theorem draw_clock (x : List Int) (hx : x.length ≤ 4611686018427387904) : ∃ q, q.length ≤ 100 ∧ Ev (fun k => spec_DrawMeetAll.f k x) q := by
  obtain ⟨s, hs⟩ := cur_new x hx
  obtain ⟨v, i1, s1, e1, h1, c1⟩ := cur_below x 0 s 5 hx (cur_zero x) (by decide)
  obtain ⟨m, rfl⟩ : ∃ m : Nat, v = (m : Int) := ⟨v.toNat, by omega⟩
  obtain ⟨q, hq, h⟩ := draw_from x hx m [] i1 s1 (by simp; omega) c1
  refine ⟨q, hq, ?_⟩
  unfold spec_DrawMeetAll.f
  exact Ev.bind hs (Ev.bind0 e1 h)

/-- What the law looks at for one v. -/
def allIn (v : Int) (q : List S25) : Bool := decide ((q.length : Int) > 0) && q.all (inIv v)
def wantIn (r : Int × Int × Bool) (v : Int) : Bool := r.2.2 && (decide (r.1 ≤ v) && decide (v ≤ r.2.1))

theorem l0_clock (q : List S25) (hq : q.length ≤ 100) (r : Int × Int × Bool) (hr : ∀ v : Int, allIn v q = wantIn r v) : Ev (fun k => laws_FnClocks.l0 k q r.2.2 (-15) r.1 r.2.1) true := by
  refine Ev.up0 81 (fun j k => laws_FnClocks.l0 k q r.2.2 ((j : Int) - 15) r.1 r.2.1) (fun _ => true) ?_ ?_ 0 (by decide)
  · refine Ev.step (fun k => by rw [laws_FnClocks.l0]) ?_
    exact Ev.ifneg (by omega) (Ev.now _)
  · intro j hj ih
    generalize hv : (j : Int) - 15 = v at ih ⊢
    have hnext : ((j + 1 : Nat) : Int) - 15 = v + 1 := by omega
    rw [hnext] at ih
    refine Ev.step (fun k => by rw [laws_FnClocks.l0]) ?_
    refine Ev.ifpos (by omega) ?_
    have key := Ev.up q.length (fun i (s : Bool) k => laws_FnClocks.l1 k q r.2.2 v s (i : Int) r.1 r.2.1) (fun _ _ => true) (fun i s => (s && (q.drop i).all (inIv v)) = allIn v q) ?_ ?_ 0 (decide ((q.length : Int) > 0)) (Nat.zero_le _) rfl
    · exact key
    · intro s hs
      rw [List.drop_of_length_le (Nat.le_refl _), List.all_nil, Bool.and_true, hr v] at hs
      refine Ev.step (fun k => by rw [laws_FnClocks.l1]) ?_
      refine Ev.ifneg (by omega) ?_
      have e : wrap64 (v + 1) = v + 1 := wrap_in (by omega) (by omega)
      rw [e, hs]
      unfold wantIn
      cases h1 : r.2.2
      · exact Ev.ifneg (by decide) (Ev.ifneg (by simp) (h1 ▸ ih))
      · refine Ev.ifpos rfl ?_
        by_cases h2 : r.1 ≤ v
        · exact Ev.ifpos h2 (Ev.ifneg (by simp [h2]) (h1 ▸ ih))
        · exact Ev.ifneg h2 (Ev.ifneg (by simp [h2]) (h1 ▸ ih))
    · intro i s hi hs hnx
      rw [drop_get _ i hi, List.all_cons] at hs
      refine Ev.step (fun k => by rw [laws_FnClocks.l1]) ?_
      refine Ev.ifpos (by omega) ?_
      rw [wrap_succ (by omega)]
      cases s
      · exact Ev.ifneg (by decide) (hnx false (by simpa using hs))
      · refine Ev.ifpos rfl (Ev.ifpos (by omega) ?_)
        rw [show rd_T25 q (i : Int) = q[i] from getD_get q i _ hi]
        refine Ev.bind0 (clocks_isI _ _) ?_
        have hin : inIv v q[i] = (isIv q[i].f0 q[i].f1 && decide (q[i].f0 ≤ v ∧ v ≤ q[i].f1)) := rfl
        rw [hin] at hs
        by_cases h1 : isIv q[i].f0 q[i].f1 = true
        · refine Ev.ifpos h1 ?_
          by_cases h2 : q[i].f0 ≤ v
          · refine Ev.ifpos h2 (hnx _ ?_)
            simpa [h1, h2] using hs
          · refine Ev.ifneg h2 (hnx _ ?_)
            simpa [h1, h2] using hs
        · refine Ev.ifneg h1 (hnx _ ?_)
          simpa [h1] using hs

theorem j1_clock (b : List Int) (hl : b.length ≤ 1048576) : Ev (fun k => laws_FnClocks.j1 k b false) true := by
  refine Ev.step (fun k => by rw [laws_FnClocks.j1]) ?_
  obtain ⟨q, hq, h⟩ := draw_clock b (by omega)
  refine Ev.ifneg (by decide) (Ev.bind h ?_)
  cases q with
  | nil =>
    refine Ev.bind (a := (0, 0, false)) ?_ (l0_clock [] (by simp) (0, 0, false) (fun v => rfl))
    unfold impl_MeetAll.f
    exact Ev.ifpos rfl (Ev.now _)
  | cons x l =>
    refine Ev.bind (clocks_meetAll x l (by omega)) (l0_clock (x :: l) hq _ (fun v => ?_))
    rw [Bool.eq_iff_iff]
    unfold allIn wantIn
    simp only [Bool.and_eq_true, decide_eq_true_eq, List.all_eq_true]
    by_cases hx : isIv x.f0 x.f1 = true
    · have key := meetG_in v (x :: l) x.f0 x.f1 hx
      constructor
      · rintro ⟨_, h2⟩
        have h3 := h2 x (List.mem_cons_self ..)
        unfold inIv at h3
        simp only [Bool.and_eq_true, decide_eq_true_eq] at h3
        exact key.2 ⟨h3.2, h2⟩
      · intro h2
        exact ⟨by simp, (key.1 h2).2⟩
    · constructor
      · rintro ⟨_, h2⟩
        have h3 := h2 x (List.mem_cons_self ..)
        unfold inIv at h3
        simp only [Bool.and_eq_true] at h3
        exact absurd h3.1 hx
      · rintro ⟨h2, _⟩
        rw [meetG, if_neg (fun h => hx h.1)] at h2
        exact absurd h2 (by decide)

theorem FnClocks : laws_FnClocks.Pure := by
  intro b _ _ hb
  refine Ev.rounds ?_
  unfold laws_FnClocks.f laws_big.f
  by_cases hbig : (b.length : Int) > 1048576
  · exact Ev.bind0 rfl (Ev.ifpos (decide_eq_true hbig) (Ev.now _))
  refine Ev.bind0 rfl (Ev.ifneg (by rw [decide_eq_true_iff]; exact hbig) ?_)
  have hl : b.length ≤ 1048576 := by omega
  obtain ⟨t0, e0, r0⟩ := at_range b 0 (by decide) (by decide) hl hb
  obtain ⟨t1, e1, r1⟩ := at_range b 1 (by decide) (by decide) hl hb
  obtain ⟨t2, e2, r2⟩ := at_range b 2 (by decide) (by decide) hl hb
  obtain ⟨t3, e3, r3⟩ := at_range b 3 (by decide) (by decide) hl hb
  obtain ⟨t4, e4, r4⟩ := at_range b 4 (by decide) (by decide) hl hb
  refine Ev.bind0 e0 (Ev.bind0 e1 (Ev.bind0 e2 (Ev.bind0 e3 (Ev.bind0 e4 ?_))))
  have u1 := tmod_range t1 50 r1.1 (by decide)
  have u2 := tmod_range t2 50 r2.1 (by decide)
  have u3 := tmod_range t3 200 r3.1 (by decide)
  have u4 := tmod_range t4 20 r4.1 (by decide)
  generalize Int.tmod t1 50 = up at u1 ⊢
  generalize Int.tmod t2 50 = dn at u2 ⊢
  generalize Int.tmod t3 200 = o3 at u3 ⊢
  generalize Int.tmod t4 20 = hd at u4 ⊢
  rw [wrap_in (n := 300 + t0) (by omega) (by omega), wrap_in (n := o3 - 100) (by omega) (by omega), wrap_in (n := 300 + t0 + up) (by omega) (by omega), wrap_in (n := 300 + t0 + up + (o3 - 100)) (by omega) (by omega),
    wrap_in (n := 300 + t0 + up + (o3 - 100) + hd) (by omega) (by omega), wrap_in (n := 300 + t0 + up + (o3 - 100) + hd - (o3 - 100)) (by omega) (by omega), wrap_in (n := 300 + t0 + up + (o3 - 100) + hd - (o3 - 100) + dn) (by omega) (by omega), wrap_in (n := up + dn) (by omega) (by omega)]
  have ho := offset_clock (300 + t0) (300 + t0 + up + (o3 - 100)) (300 + t0 + up + (o3 - 100) + hd) (300 + t0 + up + (o3 - 100) + hd - (o3 - 100) + dn) (by omega) (by omega) (by omega) (by omega) (by omega)
  refine Ev.bind ho (Ev.ifpos rfl (Ev.ifneg ?_ (Ev.ifneg ?_ ?_)))
  · show ¬ 300 + t0 + up + (o3 - 100) + hd - (300 + t0 + up + (o3 - 100) + hd - (o3 - 100) + dn) > o3 - 100
    omega
  · show ¬ 300 + t0 + up + (o3 - 100) - (300 + t0) < o3 - 100
    omega
  generalize hlo : 300 + t0 + up + (o3 - 100) + hd - (300 + t0 + up + (o3 - 100) + hd - (o3 - 100) + dn) = lo
  generalize hhi : 300 + t0 + up + (o3 - 100) - (300 + t0) = hi
  have hiv : isIv lo hi = true := by unfold isIv; exact decide_eq_true (by omega)
  have hw : impl_WidthOf.f lo hi = some (up + dn) := by
    unfold impl_WidthOf.f
    rw [clocks_isI, Option.bind_some, if_pos hiv, wrap_in (by omega) (by omega)]
    congr 1
    omega
  refine Ev.bind0 hw ?_
  have hf : ((up + dn) != (up + dn)) = false := by simp
  rw [hf]
  refine Ev.step (fun k => by rw [laws_FnClocks.j0]) ?_
  refine Ev.ifneg (by decide) (Ev.bind (oneway_clock (300 + t0) (300 + t0 + up + (o3 - 100)) lo hi (by omega) (by omega) hiv (by omega) (by omega)) (Ev.ifpos rfl (Ev.ifneg ?_ ?_)))
  · show ¬ (0 : Int) > up
    omega
  · have hd2 : decide (hi - lo < up) = false := decide_eq_false (by omega)
    show Ev (fun k => laws_FnClocks.j1 k b (decide (hi - lo < up))) true
    rw [hd2]
    exact j1_clock b hl

end Go.Proofs.Ythfnnlbppkhhjaa.Pure
