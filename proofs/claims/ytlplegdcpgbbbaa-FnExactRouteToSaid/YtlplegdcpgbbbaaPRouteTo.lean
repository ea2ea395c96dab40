/- Plain lemma: what the reference's and the program's RouteTo answer. Condition: the list is not longer than a list can be. -/
import Derived.Test.YtlplegdcpgbbbaaPRoute
import Derived.Test.YtlplegdcpgbbbaaZ4
import Derived.Test.YtlplegdcpgbbbaaZ8
namespace Go.Proofs.Ytlplegdcpgbbbaa.Pure
open Go.RowKit Go.Proofs.Ytlplegdcpgbbbaa.Z Go.Proofs.YtlplegdcpgbbbaaW.PrintWords

/-- The route, where the distances are d. -/
def routeOf (d : List Int) (ls : List Lk) (a : Int) : List Int := if rd d a < 0 then [] else routeF d ls (rd d a).toNat a
/-- What is left of the sweeps, then the route. -/
def afterR (N : Nat) (ls : List Lk) (a : Int) (n : Nat) (d : List Int) : List Int := routeOf (((List.range N).drop n).foldl (sweep ls) d) ls a
def routeTo (n : Int) (ls : List Lk) (a b : Int) : List Int := if isNet n ls = true ∧ (0 ≤ a ∧ a < n) ∧ (0 ≤ b ∧ b < n) then routeOf (dist n.toNat ls b) ls a else []

theorem afterR_end (N : Nat) (ls : List Lk) (a : Int) (d : List Int) : afterR N ls a N d = routeOf d ls a := by
  unfold afterR
  rw [List.drop_of_length_le (by simp)]
  rfl
theorem afterR_step (N : Nat) (ls : List Lk) (a : Int) (n : Nat) (d : List Int) (h : n < N) : afterR N ls a n d = afterR N ls a (n + 1) (sweep ls d n) := by
  unfold afterR
  rw [drop_get _ n (by simpa using h), List.foldl_cons, List.getElem_range]

theorem relax_good_len {N : Nat} {ls : List Lk} {tg : Int} {d : List Int} (h : Good N ls tg d) : d.length = N := h.len

section spec
variable {N : Nat} {ls : List Lk} {a b : Int}

theorem spec_end (x : Int) (i : Nat) (hi : i < ls.length) (hl : ls.length ≤ 9223372036854775806) : Ev (fun k => spec_EndOf.f k (N : Int) ls [(i : Int)] x) (across ls[i] x) := by
  have h := spec_endOf (N : Int) ls [(i : Int)] x hl (by simp)
  have e : endOf ls x [(i : Int)] = across ls[i] x := by
    simp only [endOf]
    rw [if_pos (by omega), show rd_T93 ls (i : Int) = ls[i] from getD_get ls i _ hi]
    unfold across
    split
    · rfl
    · split <;> rfl
  rw [e] at h
  exact h

/-- Following the distances down. -/
theorem spec_walk {d : List Int} (hv : Links N ls) (hg : Good N ls b d) (hl : ls.length ≤ 6) (_hN : N ≤ 8) : ∀ (m : Nat) (x : Int) (out : List Int), 0 ≤ x → x < N → rd d x = (m : Int) → out.length + m ≤ 8 →
    Ev (fun k => spec_RouteTo.l3 k b out d x (N : Int) ls) (out ++ routeF d ls m x) := by
  intro m
  induction m with
  | zero =>
    intro x out h0 h1 hm ho
    rw [routeF, List.append_nil]
    refine Ev.step (fun k => by rw [spec_RouteTo.l3]) ?_
    exact Ev.ifpos (hg.zero x h0 h1 hm) (Ev.now _)
  | succ m ih =>
    intro x out h0 h1 hm ho
    have hlen := hg.len
    obtain ⟨f, hf, e1, e2, a0, a1, a2, hmiss⟩ := near_first hv hg h0 h1 (m := m) (by rw [hm]; omega)
    rw [routeF, e1, e2]
    have hnext := ih (across ls[f] x) (out ++ [(f : Int)]) a0 a1 a2 (by rw [List.length_append, List.length_singleton]; omega)
    rw [List.append_assoc, List.singleton_append] at hnext
    have hne : ¬ x = b := fun e => by have := hg.own; rw [← e] at this; omega
    refine Ev.step (fun k => by rw [spec_RouteTo.l3]) ?_
    refine Ev.ifneg hne ?_
    have hfound : Ev (fun k => spec_RouteTo.l4 k b out d x (f : Int) ((f + 1 : Nat) : Int) (N : Int) ls) (out ++ (f : Int) :: routeF d ls m (across ls[f] x)) := by
      have hj : Ev (fun k => spec_RouteTo.j7 k b out d x (f : Int) ((f + 1 : Nat) : Int) false (N : Int) ls) (out ++ (f : Int) :: routeF d ls m (across ls[f] x)) := by
        refine Ev.step (fun k => by rw [spec_RouteTo.j7]) ?_
        refine Ev.ifneg (by decide) (Ev.ifpos (by omega) ?_)
        exact Ev.bind (spec_end x f hf (by omega)) hnext
      refine Ev.step (fun k => by rw [spec_RouteTo.l4]) ?_
      have hdec : decide ((f : Int) < 0) = false := decide_eq_false (by omega)
      by_cases h : ((f + 1 : Nat) : Int) < (ls.length : Int)
      · refine Ev.ifpos h ?_
        rw [hdec]
        exact hj
      · exact Ev.ifneg h hj
    refine Ev.up0 f (fun i k => spec_RouteTo.l4 k b out d x (-1) (i : Int) (N : Int) ls) (fun _ => out ++ (f : Int) :: routeF d ls m (across ls[f] x)) ?_ ?_ 0 (Nat.zero_le _)
    · refine Ev.step (fun k => by rw [spec_RouteTo.l4]) ?_
      refine Ev.ifpos (by omega) ?_
      refine Ev.step (fun k => by rw [spec_RouteTo.j7]) ?_
      refine Ev.ifpos (by decide) (Ev.bind (spec_end x f hf (by omega)) ?_)
      refine Ev.ifpos a0 (Ev.ifpos a0 (Ev.ifpos (by omega) (Ev.ifpos h0 (Ev.ifpos (by omega) (Ev.ifpos ?_ ?_)))))
      · rw [a2, hm, wrap_in (by omega) (by omega)]
        omega
      · rw [wrap_succ (by omega)]
        exact hfound
    · intro i hi hnx
      have hil : i < ls.length := by omega
      have hno := of_decide_eq_false (hmiss i hil hi)
      have hal := across_lt hv (List.getElem_mem hil) x
      have hlo := hg.lo x h0 h1
      refine Ev.step (fun k => by rw [spec_RouteTo.l4]) ?_
      refine Ev.ifpos (by omega) ?_
      refine Ev.step (fun k => by rw [spec_RouteTo.j7]) ?_
      refine Ev.ifpos (by decide) (Ev.bind (spec_end x i hil (by omega)) ?_)
      rw [wrap_succ (by omega)]
      by_cases ha : across ls[i] x ≥ 0
      · refine Ev.ifpos ha (Ev.ifpos ha (Ev.ifpos (by omega) (Ev.ifpos h0 (Ev.ifpos (by omega) (Ev.ifneg ?_ hnx)))))
        rw [wrap_in (by omega) (by omega)]
        exact fun e => hno ⟨ha, e⟩
      · exact Ev.ifneg ha hnx

/-- One link's turn. -/
theorem spec_relax {d : List Int} (hv : Links N ls) (hg : Good N ls b d) (hl : ls.length ≤ 6) (hN : N ≤ 8) (n i : Nat) (hn : n < N) (hi : i < ls.length) (r : List Int) (hr : Ev (fun k => spec_RouteTo.l2 k a b [] (relaxL (n : Int) d ls[i]) (n : Int) ((i + 1 : Nat) : Int) (N : Int) ls) r) :
    Ev (fun k => spec_RouteTo.l2 k a b [] d (n : Int) (i : Int) (N : Int) ls) r := by
  have hlen := hg.len
  have hlk := hv _ (List.getElem_mem hi)
  have hd1 := relax1_good (n := (n : Int)) (a := ls[i].f0) (b := ls[i].f1) hg (List.getElem_mem hi) (by omega) (by omega) ⟨hlk.1, hlk.2.1⟩ ⟨hlk.2.2.1, hlk.2.2.2.1⟩ (by unfold across; rw [if_neg (fun e => hlk.2.2.2.2 e.symm), if_pos rfl])
  have hlen1 := hd1.len
  unfold relaxL at hr
  have hj : ∀ q : Bool, relax1 (n : Int) d ls[i].f0 ls[i].f1 = (if q = true then d.set ls[i].f1.toNat ((n : Int) + 1) else d) → Ev (fun k => spec_RouteTo.j4 k a b [] d (n : Int) (i : Int) ls[i].f0 ls[i].f1 q (N : Int) ls) r := by
    intro q hq
    rw [hq] at hr hlen1
    refine Ev.step (fun k => by rw [spec_RouteTo.j4]) ?_
    cases q
    · rw [if_neg (by decide)] at hr
      refine Ev.ifneg (by decide) (Ev.ifpos hlk.2.2.1 (Ev.ifpos (by omega) ?_))
      have e1 : wrap64 ((n : Int) + 1) = (n : Int) + 1 := wrap_in (by omega) (by omega)
      have e2 : wrap64 ((i : Int) + 1) = ((i + 1 : Nat) : Int) := wrap_succ (by omega)
      rw [e1, e2]
      unfold relax1 at hr
      by_cases h1 : rd d ls[i].f1 = (n : Int)
      · refine Ev.ifpos h1 (Ev.ifpos hlk.1 (Ev.ifpos (by omega) ?_))
        by_cases h2 : rd d ls[i].f0 < 0
        · rw [if_pos ⟨h1, h2⟩] at hr
          exact Ev.ifpos h2 hr
        · rw [if_neg (fun h => h2 h.2)] at hr
          exact Ev.ifneg h2 hr
      · rw [if_neg (fun h => h1 h.1)] at hr
        exact Ev.ifneg h1 hr
    · rw [if_pos rfl] at hr hlen1
      refine Ev.ifpos rfl (Ev.ifpos hlk.2.2.1 (Ev.ifpos (by omega) ?_))
      have e1 : wrap64 ((n : Int) + 1) = (n : Int) + 1 := wrap_in (by omega) (by omega)
      refine Ev.bind0 (a := d.set ls[i].f1.toNat ((n : Int) + 1)) (by rw [e1]) ?_
      generalize hd' : d.set ls[i].f1.toNat ((n : Int) + 1) = d' at hr hlen1 ⊢
      have e2 : wrap64 ((i : Int) + 1) = ((i + 1 : Nat) : Int) := wrap_succ (by omega)
      rw [e1, e2]
      unfold relax1 at hr
      have hlen2 : d.length = d'.length := by rw [← hd']; simp
      by_cases h1 : rd d' ls[i].f1 = (n : Int)
      · refine Ev.ifpos h1 (Ev.ifpos hlk.1 (Ev.ifpos (by omega) ?_))
        by_cases h2 : rd d' ls[i].f0 < 0
        · rw [if_pos ⟨h1, h2⟩] at hr
          exact Ev.ifpos h2 hr
        · rw [if_neg (fun h => h2 h.2)] at hr
          exact Ev.ifneg h2 hr
      · rw [if_neg (fun h => h1 h.1)] at hr
        exact Ev.ifneg h1 hr
  refine Ev.step (fun k => by rw [spec_RouteTo.l2]) ?_
  refine Ev.ifpos (by omega) (Ev.ifpos (by omega) ?_)
  rw [show rd_T93 ls (i : Int) = ls[i] from getD_get ls i _ hi]
  refine Ev.ifpos hlk.1 (Ev.ifpos (by omega) ?_)
  by_cases h1 : rd d ls[i].f0 = (n : Int)
  · refine Ev.ifpos h1 (Ev.ifpos hlk.2.2.1 (Ev.ifpos (by omega) (hj _ ?_)))
    unfold relax1
    by_cases h2 : rd d ls[i].f1 < 0
    · rw [if_pos ⟨h1, h2⟩, if_pos (decide_eq_true h2)]
    · rw [if_neg (fun h => h2 h.2), if_neg (by rw [decide_eq_true_iff]; exact h2)]
  · refine Ev.ifneg h1 (hj _ ?_)
    unfold relax1
    rw [if_neg (fun h => h1 h.1), if_neg (by decide)]

theorem spec_after (hv : Links N ls) (hl : ls.length ≤ 6) (hN : N ≤ 8) (ha : 0 ≤ a ∧ a < N):
    ∀ (n : Nat) (d : List Int), n ≤ N → Good N ls b d → Ev (fun k => spec_RouteTo.l1 k a b [] d (n : Int) (N : Int) ls) (afterR N ls a n d) := by
  refine Ev.up N (fun n d k => spec_RouteTo.l1 k a b [] d (n : Int) (N : Int) ls) (fun n d => afterR N ls a n d) (fun _ d => Good N ls b d) ?_ ?_
  · intro d hg
    rw [afterR_end]
    have hlen := hg.len
    refine Ev.step (fun k => by rw [spec_RouteTo.l1]) ?_
    refine Ev.ifneg (by omega) (Ev.ifpos ha.1 (Ev.ifpos (by omega) ?_))
    unfold routeOf
    by_cases h : rd d a < 0
    · rw [if_pos h]
      exact Ev.ifpos h (Ev.now _)
    · rw [if_neg h]
      have hlo := hg.lo a ha.1 ha.2
      have := spec_walk (b := b) hv hg hl hN (rd d a).toNat a [] ha.1 ha.2 (by omega) (by simp; omega)
      exact Ev.ifneg h this
  · intro n d hn hg ih
    rw [afterR_step _ _ _ _ _ hn]
    refine Ev.step (fun k => by rw [spec_RouteTo.l1]) ?_
    refine Ev.ifpos (by omega) ?_
    refine Ev.up ls.length (fun i d k => spec_RouteTo.l2 k a b [] d (n : Int) (i : Int) (N : Int) ls) (fun i d => afterR N ls a (n + 1) ((ls.drop i).foldl (relaxL (n : Int)) d)) (fun _ d => Good N ls b d) ?_ ?_ 0 d (Nat.zero_le _) hg
    · intro d hg
      rw [List.drop_of_length_le (Nat.le_refl _)]
      refine Ev.step (fun k => by rw [spec_RouteTo.l2]) ?_
      refine Ev.ifneg (by omega) ?_
      rw [wrap_succ (by omega)]
      exact ih d hg
    · intro i d hi hg ih2
      rw [drop_get _ i hi, List.foldl_cons]
      exact spec_relax hv hg hl hN n i hn hi _ (ih2 _ (relaxL_good hv hg (List.getElem_mem hi) (by omega) (by omega)))

theorem spec_fill : ∀ (i : Nat) (s : List Int), i ≤ N → s = List.replicate i (-1) → N ≤ 8 → 0 ≤ b ∧ b < N → ∀ r, Ev (fun k => spec_RouteTo.l1 k a b [] ((List.replicate N (-1)).set b.toNat 0) 0 (N : Int) ls) r → Ev (fun k => spec_RouteTo.l0 k a b [] s (i : Int) (N : Int) ls) r := by
  intro i s hi hs hN hb r hr
  refine Ev.up N (fun i s k => spec_RouteTo.l0 k a b [] s (i : Int) (N : Int) ls) (fun _ _ => r) (fun i s => s = List.replicate i (-1)) ?_ ?_ i s hi hs
  · rintro s rfl
    refine Ev.step (fun k => by rw [spec_RouteTo.l0]) ?_
    exact Ev.ifneg (by omega) (Ev.ifpos hb.1 (Ev.ifpos (by simp; omega) hr))
  · rintro i s hi rfl ih
    refine Ev.step (fun k => by rw [spec_RouteTo.l0]) ?_
    refine Ev.ifpos (by omega) (Ev.ifpos (by simp; omega) ?_)
    rw [wrap_succ (by omega)]
    exact ih _ (by rw [List.replicate_succ'])

theorem impl_across (l : Lk) (x : Int) : impl_Link_across.f l.f0 l.f1 x = some (across l x) := by
  unfold impl_Link_across.f across
  split
  · rfl
  · split <;> rfl

theorem impl_turn {d : List Int} (hlen : d.length = N) (n i : Nat) (hi : i < ls.length) (z j : Int) (u v : Int) (hu : rd [ls[i].f0, ls[i].f1] j = u) (hv : across ls[i] u = v) (hj : 0 ≤ j ∧ j < 2) (hu0 : 0 ≤ u ∧ u < N) (hv0 : 0 ≤ v ∧ v < N) (hn : n < 9) (r : List Int)
    (hr : Ev (fun k => impl_RouteTo.l3 k a b (relax1 (n : Int) d u v) (n : Int) (N : Int) (n : Int) ls (ls.length : Int) z [ls[i].f0, ls[i].f1] 2 (j + 1) (N : Int) ls ls[i].f0 ls[i].f1) r) :
    Ev (fun k => impl_RouteTo.l3 k a b d (n : Int) (N : Int) (n : Int) ls (ls.length : Int) z [ls[i].f0, ls[i].f1] 2 j (N : Int) ls ls[i].f0 ls[i].f1) r := by
  refine Ev.step (fun k => by rw [impl_RouteTo.l3]) ?_
  refine Ev.ifpos (by omega) (Ev.ifpos (by omega) (Ev.ifpos (by simp; omega) ?_))
  rw [hu]
  refine Ev.bind0 (impl_across ls[i] u) ?_
  rw [hv]
  have e1 : wrap64 (j + 1) = j + 1 := wrap_in (by omega) (by omega)
  have e2 : wrap64 ((n : Int) + 1) = (n : Int) + 1 := wrap_in (by omega) (by omega)
  rw [e1, e2]
  unfold relax1 at hr
  refine Ev.ifpos (by omega) (Ev.ifpos (by omega) ?_)
  by_cases h1 : rd d u = (n : Int)
  · refine Ev.ifpos h1 (Ev.ifpos (by omega) (Ev.ifpos (by omega) ?_))
    by_cases h2 : rd d v < 0
    · rw [if_pos ⟨h1, h2⟩] at hr
      exact Ev.ifpos h2 hr
    · rw [if_neg (fun h => h2 h.2)] at hr
      exact Ev.ifneg h2 hr
  · rw [if_neg (fun h => h1 h.1)] at hr
    exact Ev.ifneg h1 hr

theorem impl_relax {d : List Int} (hv : Links N ls) (hg : Good N ls b d) (hl : ls.length ≤ 6) (hN : N ≤ 8) (n i : Nat) (hn : n < N) (hi : i < ls.length) (r : List Int)
    (hr : Ev (fun k => impl_RouteTo.l2 k a b (relaxL (n : Int) d ls[i]) (n : Int) (N : Int) (n : Int) ls (ls.length : Int) ((i + 1 : Nat) : Int) (N : Int) ls) r) :
    Ev (fun k => impl_RouteTo.l2 k a b d (n : Int) (N : Int) (n : Int) ls (ls.length : Int) (i : Int) (N : Int) ls) r := by
  have hlen := hg.len
  have hlk := hv _ (List.getElem_mem hi)
  have c0 : across ls[i] ls[i].f0 = ls[i].f1 := by unfold across; rw [if_pos rfl]
  have c1 : across ls[i] ls[i].f1 = ls[i].f0 := by unfold across; rw [if_neg (fun e => hlk.2.2.2.2 e.symm), if_pos rfl]
  have hlen1 := (relax1_good (n := (n : Int)) (a := ls[i].f0) (b := ls[i].f1) hg (List.getElem_mem hi) (by omega) (by omega) ⟨hlk.1, hlk.2.1⟩ ⟨hlk.2.2.1, hlk.2.2.2.1⟩ c1).len
  refine Ev.step (fun k => by rw [impl_RouteTo.l2]) ?_
  refine Ev.ifpos (by omega) (Ev.ifpos (by omega) (Ev.ifpos (by omega) ?_))
  rw [show rd_T93 ls (i : Int) = ls[i] from getD_get ls i _ hi]
  refine Ev.bind0 (a := [ls[i].f0, ls[i].f1]) rfl ?_
  show Ev (fun k => impl_RouteTo.l3 k a b d (n : Int) (N : Int) (n : Int) ls (ls.length : Int) (i : Int) [ls[i].f0, ls[i].f1] 2 0 (N : Int) ls ls[i].f0 ls[i].f1) r
  refine impl_turn hlen n i hi _ 0 ls[i].f0 ls[i].f1 rfl c0 (by omega) ⟨hlk.1, hlk.2.1⟩ ⟨hlk.2.2.1, hlk.2.2.2.1⟩ (by omega) r ?_
  refine impl_turn hlen1 n i hi _ (0 + 1) ls[i].f1 ls[i].f0 rfl c1 (by omega) ⟨hlk.2.2.1, hlk.2.2.2.1⟩ ⟨hlk.1, hlk.2.1⟩ (by omega) r ?_
  refine Ev.step (fun k => by rw [impl_RouteTo.l3]) ?_
  refine Ev.ifneg (by omega) ?_
  rw [wrap_succ (by omega)]
  exact hr

theorem impl_walk {d : List Int} (hv : Links N ls) (hg : Good N ls b d) (hl : ls.length ≤ 6) (_hN : N ≤ 8) : ∀ (m : Nat) (x : Int) (out : List Int), 0 ≤ x → x < N → rd d x = (m : Int) → out.length + m ≤ 8 →
    Ev (fun k => impl_RouteTo.l4 k b d out x (N : Int) ls) (out ++ routeF d ls m x) := by
  intro m
  induction m with
  | zero =>
    intro x out h0 h1 hm ho
    rw [routeF, List.append_nil]
    refine Ev.step (fun k => by rw [impl_RouteTo.l4]) ?_
    exact Ev.ifpos (hg.zero x h0 h1 hm) (Ev.now _)
  | succ m ih =>
    intro x out h0 h1 hm ho
    have hlen := hg.len
    obtain ⟨f, hf, e1, e2, a0, a1, a2, hmiss⟩ := near_first hv hg h0 h1 (m := m) (by rw [hm]; omega)
    rw [routeF, e1, e2]
    have hnext := ih (across ls[f] x) (out ++ [(f : Int)]) a0 a1 a2 (by rw [List.length_append, List.length_singleton]; omega)
    rw [List.append_assoc, List.singleton_append] at hnext
    have hne : ¬ x = b := fun e => by have := hg.own; rw [← e] at this; omega
    refine Ev.step (fun k => by rw [impl_RouteTo.l4]) ?_
    refine Ev.ifneg hne ?_
    refine Ev.up0 f (fun i k => impl_RouteTo.l5 k b d out x ls (ls.length : Int) (i : Int) (N : Int) ls) (fun _ => out ++ (f : Int) :: routeF d ls m (across ls[f] x)) ?_ ?_ 0 (Nat.zero_le _)
    · refine Ev.step (fun k => by rw [impl_RouteTo.l5]) ?_
      refine Ev.ifpos (by omega) (Ev.ifpos (by omega) (Ev.ifpos (by omega) ?_))
      rw [show rd_T93 ls (f : Int) = ls[f] from getD_get ls f _ hf]
      refine Ev.bind0 (impl_across ls[f] x) ?_
      refine Ev.ifpos a0 (Ev.ifpos a0 (Ev.ifpos (by omega) (Ev.ifpos h0 (Ev.ifpos (by omega) (Ev.ifpos ?_ (Ev.ifpos (by omega) hnext))))))
      rw [a2, hm, wrap_in (by omega) (by omega)]
      omega
    · intro i hi hnx
      have hil : i < ls.length := by omega
      have hno := of_decide_eq_false (hmiss i hil hi)
      have hal := across_lt hv (List.getElem_mem hil) x
      have hlo := hg.lo x h0 h1
      refine Ev.step (fun k => by rw [impl_RouteTo.l5]) ?_
      refine Ev.ifpos (by omega) (Ev.ifpos (by omega) (Ev.ifpos (by omega) ?_))
      rw [show rd_T93 ls (i : Int) = ls[i] from getD_get ls i _ hil, wrap_succ (by omega)]
      refine Ev.bind0 (impl_across ls[i] x) ?_
      by_cases ha : across ls[i] x ≥ 0
      · refine Ev.ifpos ha (Ev.ifpos ha (Ev.ifpos (by omega) (Ev.ifpos h0 (Ev.ifpos (by omega) (Ev.ifneg ?_ hnx)))))
        rw [wrap_in (by omega) (by omega)]
        exact fun e => hno ⟨ha, e⟩
      · exact Ev.ifneg ha hnx

theorem impl_after (hv : Links N ls) (hl : ls.length ≤ 6) (hN : N ≤ 8) (ha : 0 ≤ a ∧ a < N) :
    ∀ (n : Nat) (d : List Int), n ≤ N → Good N ls b d → Ev (fun k => impl_RouteTo.l1 k a b d (N : Int) (n : Int) (N : Int) ls) (afterR N ls a n d) := by
  refine Ev.up N (fun n d k => impl_RouteTo.l1 k a b d (N : Int) (n : Int) (N : Int) ls) (fun n d => afterR N ls a n d) (fun _ d => Good N ls b d) ?_ ?_
  · intro d hg
    rw [afterR_end]
    have hlen := hg.len
    refine Ev.step (fun k => by rw [impl_RouteTo.l1]) ?_
    refine Ev.ifneg (by omega) (Ev.ifpos ha.1 (Ev.ifpos (by omega) ?_))
    unfold routeOf
    by_cases h : rd d a < 0
    · rw [if_pos h]
      exact Ev.ifpos h (Ev.now _)
    · rw [if_neg h]
      have hlo := hg.lo a ha.1 ha.2
      have := impl_walk (b := b) hv hg hl hN (rd d a).toNat a [] ha.1 ha.2 (by omega) (by simp; omega)
      exact Ev.ifneg h this
  · intro n d hn hg ih
    rw [afterR_step _ _ _ _ _ hn]
    refine Ev.step (fun k => by rw [impl_RouteTo.l1]) ?_
    refine Ev.ifpos (by omega) ?_
    refine Ev.up ls.length (fun i d k => impl_RouteTo.l2 k a b d (n : Int) (N : Int) (n : Int) ls (ls.length : Int) (i : Int) (N : Int) ls) (fun i d => afterR N ls a (n + 1) ((ls.drop i).foldl (relaxL (n : Int)) d)) (fun _ d => Good N ls b d) ?_ ?_ 0 d (Nat.zero_le _) hg
    · intro d hg
      rw [List.drop_of_length_le (Nat.le_refl _)]
      refine Ev.step (fun k => by rw [impl_RouteTo.l2]) ?_
      refine Ev.ifneg (by omega) ?_
      rw [wrap_succ (by omega)]
      exact ih d hg
    · intro i d hi hg ih2
      rw [drop_get _ i hi, List.foldl_cons]
      exact impl_relax hv hg hl hN n i hn hi _ (ih2 _ (relaxL_good hv hg (List.getElem_mem hi) (by omega) (by omega)))

theorem take_set_next (s : List Int) (i : Nat) (x : Int) (h : i < s.length) (hs : s.take i = List.replicate i x) : (s.set i x).take (i + 1) = List.replicate (i + 1) x := by
  rw [List.take_succ_eq_append_getElem (by simpa using h), take_set_self, hs, List.replicate_succ']
  simp

theorem impl_fill (hN : N ≤ 8) (hb : 0 ≤ b ∧ b < N) (r : List Int) (hr : Ev (fun k => impl_RouteTo.l1 k a b ((List.replicate N (-1)).set b.toNat 0) (N : Int) 0 (N : Int) ls) r) :
    Ev (fun k => impl_RouteTo.l0 k a b (List.replicate N 0) (N : Int) 0 (N : Int) ls) r := by
  refine Ev.up N (fun i s k => impl_RouteTo.l0 k a b s (N : Int) (i : Int) (N : Int) ls) (fun _ _ => r) (fun i s => s.length = N ∧ s.take i = List.replicate i (-1)) ?_ ?_ 0 _ (Nat.zero_le _) ⟨by simp, rfl⟩
  · rintro s ⟨h1, h2⟩
    rw [List.take_of_length_le (by omega)] at h2
    subst h2
    refine Ev.step (fun k => by rw [impl_RouteTo.l0]) ?_
    exact Ev.ifneg (by omega) (Ev.ifpos hb.1 (Ev.ifpos (by simp; omega) hr))
  · rintro i s hi ⟨h1, h2⟩ ih
    refine Ev.step (fun k => by rw [impl_RouteTo.l0]) ?_
    refine Ev.ifpos (by omega) (Ev.ifpos (by omega) (Ev.ifpos (by omega) ?_))
    rw [wrap_succ (by omega), Int.toNat_natCast]
    exact ih _ ⟨by simpa using h1, take_set_next s i (-1) (by omega) h2⟩

end spec

theorem spec_routeTo (n : Int) (ls : List Lk) (a b : Int) (hl : ls.length ≤ 9223372036854775806) : Ev (fun k => spec_RouteTo.f k n ls a b) (routeTo n ls a b) := by
  unfold spec_RouteTo.f
  refine Ev.bind0 (a := []) rfl (Ev.bind (spec_net n ls hl) ?_)
  by_cases hn : isNet n ls = true
  · obtain ⟨h1, h2, h3⟩ := links_of hn
    have hw : wrap64 (n - 1) = n - 1 := wrap_in (by omega) (by omega)
    rw [hw]
    refine Ev.ifpos hn (Ev.bind0 (spec_in _ _ _) ?_)
    have hbad : ∀ r : List Int, r = [] → Ev (fun k => spec_RouteTo.j0 k a b [] true n ls) r := fun r hr => by
      refine Ev.step (fun k => by rw [spec_RouteTo.j0]) ?_
      exact Ev.ifpos rfl (Ev.pure hr.symm)
    by_cases ha : 0 ≤ a ∧ a ≤ n - 1
    · refine Ev.ifpos (decide_eq_true ha) (Ev.bind0 (spec_in _ _ _) ?_)
      by_cases hb : 0 ≤ b ∧ b ≤ n - 1
      · rw [decide_eq_true hb]
        unfold routeTo
        rw [if_pos ⟨hn, ⟨ha.1, by omega⟩, hb.1, by omega⟩]
        obtain ⟨N, rfl⟩ : ∃ N : Nat, n = (N : Int) := ⟨n.toNat, by omega⟩
        rw [Int.toNat_natCast] at h3 ⊢
        refine Ev.step (fun k => by rw [spec_RouteTo.j0]) ?_
        refine Ev.ifneg (by decide) ?_
        refine spec_fill (ls := ls) (a := a) (b := b) 0 [] (Nat.zero_le _) rfl (by omega) ⟨hb.1, by omega⟩ _ ?_
        exact spec_after h3 h2.2 (by omega) ⟨ha.1, by omega⟩ 0 _ (Nat.zero_le _) (start_good hb.1 (by omega))
      · rw [decide_eq_false hb]
        exact hbad _ (if_neg (fun h => hb ⟨h.2.2.1, by omega⟩))
    · exact Ev.ifneg (by rw [decide_eq_true_iff]; exact ha) (hbad _ (if_neg (fun h => ha ⟨h.2.1.1, by omega⟩)))
  · refine Ev.ifneg hn ?_
    refine Ev.step (fun k => by rw [spec_RouteTo.j0]) ?_
    exact Ev.ifpos rfl (Ev.pure (if_neg (fun h => hn h.1)).symm)

theorem impl_routeTo (n : Int) (ls : List Lk) (a b : Int) (hl : ls.length ≤ 9223372036854775806) : Ev (fun k => impl_RouteTo.f k n ls a b) (routeTo n ls a b) := by
  unfold impl_RouteTo.f
  refine Ev.bind (impl_net n ls hl) ?_
  have hbad : ∀ r : List Int, r = [] → Ev (fun k => impl_RouteTo.j0 k a b true n ls) r := fun r hr => by
    refine Ev.step (fun k => by rw [impl_RouteTo.j0]) ?_
    exact Ev.ifpos rfl (Ev.pure hr.symm)
  by_cases hn : isNet n ls = true
  · obtain ⟨h1, h2, h3⟩ := links_of hn
    refine Ev.ifpos hn (Ev.bind0 (impl_at_eq _ _) ?_)
    by_cases ha : 0 ≤ a ∧ a < n
    · refine Ev.ifpos (decide_eq_true ha) (Ev.bind0 (impl_at_eq _ _) ?_)
      by_cases hb : 0 ≤ b ∧ b < n
      · rw [decide_eq_true hb]
        unfold routeTo
        rw [if_pos ⟨hn, ha, hb⟩]
        obtain ⟨N, rfl⟩ : ∃ N : Nat, n = (N : Int) := ⟨n.toNat, by omega⟩
        rw [Int.toNat_natCast] at h3 ⊢
        refine Ev.step (fun k => by rw [impl_RouteTo.j0]) ?_
        refine Ev.ifneg (by decide) (Ev.ifpos (by omega) (Ev.ifpos (by omega) (Ev.bind0 (a := List.replicate N 0) rfl ?_)))
        rw [List.length_replicate]
        refine impl_fill (by omega) hb _ ?_
        exact impl_after h3 h2.2 (by omega) ha 0 _ (Nat.zero_le _) (start_good hb.1 (by omega))
      · rw [decide_eq_false hb]
        exact hbad _ (if_neg (fun h => hb h.2.2))
    · exact Ev.ifneg (by rw [decide_eq_true_iff]; exact ha) (hbad _ (if_neg (fun h => ha h.2.1)))
  · exact Ev.ifneg hn (hbad _ (if_neg (fun h => hn h.1)))

end Go.Proofs.Ytlplegdcpgbbbaa.Pure
