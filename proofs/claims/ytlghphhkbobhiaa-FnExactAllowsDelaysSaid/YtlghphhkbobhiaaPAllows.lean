/- Plain lemmas: what the reference's and the program's DotOf and AllowsDelays answer. Condition: the lists are not longer than lists can be. -/
import Derived.Test.YtlghphhkbobhiaaPAreBounds
import Derived.Test.YtlghphhkbobhiaaZ11
import Derived.Test.YtlghphhkbobhiaaZ12
namespace Go.Proofs.Ytlghphhkbobhiaa.Pure
open Go.RowKit Go.Proofs.Ytlghphhkbobhiaa.Z Go.Proofs.YtlghphhkbobhiaaW.PrintWords

/-- The sum of the products, as the machine adds it up. -/
def dotF : List Int → List Int → Int → Int
  | a :: l, b :: d, s => dotF l d (wrap64 (s + wrap64 (a * b)))
  | _, _, s => s
theorem dotF_nil (l d : List Int) (s : Int) (h : l = [] ∨ d = []) : dotF l d s = s := by
  rcases h with rfl | rfl
  · rfl
  · cases l <;> rfl

theorem spec_dot (l d : List Int) (hl : l.length ≤ 9223372036854775806) : Ev (fun k => spec_DotOf.f k l d) (dotF l d 0) := by
  unfold spec_DotOf.f
  refine Ev.up (min l.length d.length) (fun i (s : Int) k => spec_DotOf.l0 k l d s (i : Int)) (fun i s => dotF (l.drop i) (d.drop i) s) (fun _ _ => True) ?_ ?_ 0 0 (Nat.zero_le _) trivial
  · intro s _
    rw [dotF_nil _ _ _ (by by_cases h : l.length ≤ d.length
                           · exact Or.inl (List.drop_of_length_le (by omega))
                           · exact Or.inr (List.drop_of_length_le (by omega)))]
    refine Ev.step (fun k => by rw [spec_DotOf.l0]) ?_
    by_cases h : ((min l.length d.length : Nat) : Int) < (l.length : Int)
    · exact Ev.ifpos h (Ev.ifneg (by omega) (Ev.now _))
    · exact Ev.ifneg h (Ev.now _)
  · intro i s hi _ ih
    have h1 : i < l.length := by omega
    have h2 : i < d.length := by omega
    rw [drop_get l i h1, drop_get d i h2, dotF]
    refine Ev.step (fun k => by rw [spec_DotOf.l0]) ?_
    refine Ev.ifpos (by omega) (Ev.ifpos (by omega) (Ev.ifpos (by omega) ?_))
    rw [rd_get l i h1, rd_get d i h2, wrap_succ (by omega)]
    exact ih _ trivial

theorem impl_dot (l d : List Int) (hl : l.length ≤ 9223372036854775806) : Ev (fun k => impl_DotOf.f k l d) (dotF l d 0) := by
  unfold impl_DotOf.f
  have hm : mn (l.length : Int) (d.length : Int) = ((min l.length d.length : Nat) : Int) := by unfold mn; split <;> omega
  rw [hm]
  refine Ev.up (min l.length d.length) (fun i (s : Int) k => impl_DotOf.l0 k l d s ((min l.length d.length : Nat) : Int) (i : Int)) (fun i s => dotF (l.drop i) (d.drop i) s) (fun _ _ => True) ?_ ?_ 0 0 (Nat.zero_le _) trivial
  · intro s _
    rw [dotF_nil _ _ _ (by by_cases h : l.length ≤ d.length
                           · exact Or.inl (List.drop_of_length_le (by omega))
                           · exact Or.inr (List.drop_of_length_le (by omega)))]
    refine Ev.step (fun k => by rw [impl_DotOf.l0]) ?_
    exact Ev.ifneg (by omega) (Ev.now _)
  · intro i s hi _ ih
    have h1 : i < l.length := by omega
    have h2 : i < d.length := by omega
    rw [drop_get l i h1, drop_get d i h2, dotF]
    refine Ev.step (fun k => by rw [impl_DotOf.l0]) ?_
    refine Ev.ifpos (by omega) (Ev.ifpos (by omega) (Ev.ifpos (by omega) (Ev.ifpos (by omega) ?_)))
    rw [rd_get l i h1, rd_get d i h2, wrap_succ (by omega)]
    exact ih _ trivial

def dotOk (m : List (List Int)) (b : List S93) (d : List Int) (i : Nat) : Bool := decide ((rd_T93 b (i : Int)).f0 ≤ dotF (rd_L4 m (i : Int)) d 0 ∧ dotF (rd_L4 m (i : Int)) d 0 ≤ (rd_T93 b (i : Int)).f1)
def allows (m : List (List Int)) (b : List S93) (d : List Int) : Bool := d.all (fun x => decide (0 ≤ x ∧ x ≤ 100000)) && (areBounds m b (d.length : Int) && (List.range m.length).all (dotOk m b d))

theorem bounds_len {m : List (List Int)} {b : List S93} {n : Int} (h : areBounds m b n = true) : b.length = m.length := by
  unfold areBounds at h
  simp only [Bool.and_eq_true, decide_eq_true_eq] at h
  exact h.2.2.2

theorem spec_allows (m : List (List Int)) (b : List S93) (d : List Int) (hm : m.length ≤ 9223372036854775806) (hr : ∀ x ∈ m, x.length ≤ 9223372036854775806) (hb : b.length ≤ 9223372036854775806) (hd : d.length ≤ 9223372036854775806) : Ev (fun k => spec_AllowsDelays.f k m b d) (allows m b d) := by
  unfold spec_AllowsDelays.f allows
  refine all_step (fun x : Int => decide (0 ≤ x ∧ x ≤ 100000)) d (fun i k => spec_AllowsDelays.l0 k m b d (i : Int)) _ ?_ ?_
  · refine Ev.step (fun k => by rw [spec_AllowsDelays.l0]) ?_
    refine Ev.ifneg (by omega) (Ev.bind (spec_areBounds m b _ hm hr hb) ?_)
    cases hA : areBounds m b (d.length : Int)
    · exact Ev.ifneg (by decide) (Ev.now _)
    · refine Ev.ifpos rfl ?_
      have hlen := bounds_len hA
      have key := all_places m.length (dotOk m b d) (fun i k => spec_AllowsDelays.l1 k m b d (i : Int)) true ?_ ?_
      · simpa using key
      · refine Ev.step (fun k => by rw [spec_AllowsDelays.l1]) ?_
        exact Ev.ifneg (by omega) (Ev.now _)
      · intro i hi r hr1
        refine Ev.step (fun k => by rw [spec_AllowsDelays.l1]) ?_
        refine Ev.ifpos (by omega) (Ev.ifpos (by omega) ?_)
        have hrow : (rd_L4 m (i : Int)).length ≤ 9223372036854775806 := by rw [rdRow m i hi]; exact hr _ (List.getElem_mem hi)
        refine Ev.bind (spec_dot _ d hrow) (Ev.ifpos (by omega) ?_)
        unfold dotOk
        rw [wrap_succ (by omega)]
        generalize dotF (rd_L4 m (i : Int)) d 0 = v
        by_cases h1 : v < (rd_T93 b (i : Int)).f0
        · rw [decide_eq_false (by omega)]
          exact Ev.ifpos h1 (Ev.now _)
        · refine Ev.ifneg h1 ?_
          by_cases h2 : v > (rd_T93 b (i : Int)).f1
          · rw [decide_eq_false (by omega)]
            exact Ev.ifpos h2 (Ev.now _)
          · rw [decide_eq_true (by omega), Bool.true_and]
            exact Ev.ifneg h2 hr1
  · intro i hi r hr1
    refine Ev.step (fun k => by rw [spec_AllowsDelays.l0]) ?_
    refine Ev.ifpos (by omega) (Ev.ifpos (by omega) ?_)
    rw [rd_get d i hi, wrap_succ (by omega)]
    refine Ev.bind0 (spec_in _ _ _) ?_
    cases decide (0 ≤ d[i] ∧ d[i] ≤ 100000)
    · exact Ev.ifneg (by decide) (Ev.now _)
    · refine Ev.ifpos rfl ?_
      simpa using hr1

theorem impl_allows (m : List (List Int)) (b : List S93) (d : List Int) (hm : m.length ≤ 9223372036854775806) (hr : ∀ x ∈ m, x.length ≤ 9223372036854775806) (hd : d.length ≤ 9223372036854775806) : Ev (fun k => impl_AllowsDelays.f k m b d) (allows m b d) := by
  unfold impl_AllowsDelays.f allows
  refine Ev.bind (impl_areBounds m b _ hm) ?_
  cases hA : areBounds m b (d.length : Int)
  · refine Ev.ifneg (by decide) ?_
    refine Ev.step (fun k => by rw [impl_AllowsDelays.j0]) ?_
    exact Ev.ifpos rfl (Ev.pure (by simp))
  · refine Ev.ifpos rfl (Ev.bind (impl_allIn d 0 100000 (by omega)) ?_)
    refine Ev.step (fun k => by rw [impl_AllowsDelays.j0]) ?_
    cases d.all (fun x : Int => decide (0 ≤ x ∧ x ≤ 100000))
    · exact Ev.ifpos rfl (Ev.now _)
    · refine Ev.ifneg (by decide) ?_
      have hlen := bounds_len hA
      have key := all_places m.length (dotOk m b d) (fun i k => impl_AllowsDelays.l0 k b d m (m.length : Int) (i : Int)) true ?_ ?_
      · simpa using key
      · refine Ev.step (fun k => by rw [impl_AllowsDelays.l0]) ?_
        exact Ev.ifneg (by omega) (Ev.now _)
      · intro i hi r hr1
        refine Ev.step (fun k => by rw [impl_AllowsDelays.l0]) ?_
        refine Ev.ifpos (by omega) (Ev.ifpos (by omega) (Ev.ifpos (by omega) ?_))
        have hrow : (rd_L4 m (i : Int)).length ≤ 9223372036854775806 := by rw [rdRow m i hi]; exact hr _ (List.getElem_mem hi)
        refine Ev.bind (impl_dot _ d hrow) (Ev.ifpos (by omega) (Ev.bind0 (in_range _ _ _) ?_))
        unfold dotOk
        rw [wrap_succ (by omega)]
        cases decide ((rd_T93 b (i : Int)).f0 ≤ dotF (rd_L4 m (i : Int)) d 0 ∧ dotF (rd_L4 m (i : Int)) d 0 ≤ (rd_T93 b (i : Int)).f1)
        · exact Ev.ifneg (by decide) (Ev.now _)
        · refine Ev.ifpos rfl ?_
          simpa using hr1

end Go.Proofs.Ytlghphhkbobhiaa.Pure
