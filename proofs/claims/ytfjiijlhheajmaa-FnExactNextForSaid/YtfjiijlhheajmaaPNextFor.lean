/- Plain lemma: what the reference's and the program's NextFor answer. Condition: the list is not longer than a list can be. -/
import Derived.Test.YtfjiijlhheajmaaPIsBranch
import Derived.Test.YtfjiijlhheajmaaZ5
import Derived.Test.YtfjiijlhheajmaaZ6
namespace Go.Proofs.Ytfjiijlhheajmaa.Pure
open Go.RowKit Go.Proofs.Ytfjiijlhheajmaa.Z Go.Proofs.YtfjiijlhheajmaaW.PrintWords

def modF (x : Int) : Int := Int.tmod (wrap64 (Int.tmod x 2147483647 + 2147483647)) 2147483647
theorem modF_range (x : Int) : 0 ≤ modF x ∧ modF x < 2147483647 := by
  have h1 := Int.tmod_lt_of_pos x (b := 2147483647) (by decide)
  have h2 := Int.lt_tmod_of_pos x (b := 2147483647) (by decide)
  unfold modF
  rw [wrap_in (by omega) (by omega), Int.tmod_eq_emod_of_nonneg (by omega)]
  omega
def hashStep (h x : Int) : Int := Int.tmod (wrap64 (wrap64 (wrap64 (h * 1000003) + modF x) + 13)) 2147483647
theorem hashStep_range (h x : Int) (h0 : 0 ≤ h) (h1 : h < 2147483647) : 0 ≤ hashStep h x ∧ hashStep h x < 2147483647 := by
  have := modF_range x
  unfold hashStep
  rw [wrap_in (n := h * 1000003) (by omega) (by omega), wrap_in (n := h * 1000003 + modF x) (by omega) (by omega), wrap_in (by omega) (by omega), Int.tmod_eq_emod_of_nonneg (by omega)]
  omega
def hashF (l : List Int) : Int := l.foldl hashStep 11
theorem fold_range (l : List Int) : ∀ h : Int, 0 ≤ h → h < 2147483647 → 0 ≤ l.foldl hashStep h ∧ l.foldl hashStep h < 2147483647 := by
  induction l with
  | nil => intro h h0 h1; exact ⟨h0, h1⟩
  | cons x l ih => intro h h0 h1; have := hashStep_range h x h0 h1; exact ih _ this.1 this.2
theorem hashF_range (l : List Int) : 0 ≤ hashF l ∧ hashF l < 2147483647 := fold_range l 11 (by decide) (by decide)

theorem spec_mod (x : Int) : spec_Mod.f x 2147483647 = some (modF x) := by
  unfold spec_Mod.f
  rw [spec_in]
  rfl
theorem impl_mod (x : Int) : impl_Mod.f x 2147483647 = some (modF x) := by
  unfold impl_Mod.f
  rw [branch_in]
  rfl

theorem spec_hash (l : List Int) (hl : l.length ≤ 9223372036854775806) : Ev (fun k => spec_Hash.f k l) (hashF l) := by
  unfold spec_Hash.f hashF
  refine Ev.up l.length (fun i (s : Int) k => spec_Hash.l0 k l s (i : Int)) (fun i s => (l.drop i).foldl hashStep s) (fun _ _ => True) ?_ ?_ 0 11 (Nat.zero_le _) trivial
  · intro s _
    rw [List.drop_of_length_le (Nat.le_refl _)]
    refine Ev.step (fun k => by rw [spec_Hash.l0]) ?_
    exact Ev.ifneg (by omega) (Ev.now _)
  · intro i s hi _ ih
    rw [drop_get _ i hi, List.foldl_cons]
    refine Ev.step (fun k => by rw [spec_Hash.l0]) ?_
    refine Ev.ifpos (by omega) (Ev.ifpos (by omega) ?_)
    rw [rd_get l i hi, wrap_succ (by omega)]
    exact Ev.bind0 (spec_mod _) (ih _ trivial)

theorem impl_hash (l : List Int) (hl : l.length ≤ 9223372036854775806) : Ev (fun k => impl_Hash.f k l) (hashF l) := by
  unfold impl_Hash.f hashF
  refine Ev.up l.length (fun i (s : Int) k => impl_Hash.l0 k s l (l.length : Int) (i : Int)) (fun i s => (l.drop i).foldl hashStep s) (fun _ _ => True) ?_ ?_ 0 11 (Nat.zero_le _) trivial
  · intro s _
    rw [List.drop_of_length_le (Nat.le_refl _)]
    refine Ev.step (fun k => by rw [impl_Hash.l0]) ?_
    exact Ev.ifneg (by omega) (Ev.now _)
  · intro i s hi _ ih
    rw [drop_get _ i hi, List.foldl_cons]
    refine Ev.step (fun k => by rw [impl_Hash.l0]) ?_
    refine Ev.ifpos (by omega) (Ev.ifpos (by omega) (Ev.ifpos (by omega) ?_))
    rw [rd_get l i hi, wrap_succ (by omega)]
    exact Ev.bind0 (impl_mod _) (ih _ trivial)

/-- The place in a list of n at which the key a leads, at the branch b. -/
def placeOf (b a n : Int) : Int := Int.tmod (hashF [b, a]) n
theorem placeOf_range (b a n : Int) (hn : 1 ≤ n) : 0 ≤ placeOf b a n ∧ placeOf b a n < n := by
  have h := hashF_range [b, a]
  unfold placeOf
  rw [Int.tmod_eq_emod_of_nonneg h.1]
  exact ⟨Int.emod_nonneg _ (by omega), Int.emod_lt_of_pos _ (by omega)⟩
def nextFor (b : Int) (l : List Int) (a : Int) : Int := if isBranch b l = true then (if 0 ≤ a ∧ a ≤ 9999 then rd l (placeOf b a l.length) else -1) else -1

theorem branch_len {b : Int} {l : List Int} (h : isBranch b l = true) : 1 ≤ (l.length : Int) ∧ (l.length : Int) ≤ 4 := by
  unfold isBranch at h
  simp only [Bool.and_eq_true, decide_eq_true_eq] at h
  exact h.2.2

theorem spec_nextFor (b : Int) (l : List Int) (a : Int) (hl : l.length ≤ 9223372036854775806) : Ev (fun k => spec_NextFor.f k b l a) (nextFor b l a) := by
  unfold spec_NextFor.f nextFor
  refine Ev.bind (spec_isBranch b l hl) ?_
  by_cases hb : isBranch b l = true
  · rw [if_pos hb]
    refine Ev.ifpos hb (Ev.bind0 (spec_in _ _ _) ?_)
    by_cases h : 0 ≤ a ∧ a ≤ 9999
    · rw [if_pos h, decide_eq_true h]
      have hlen := branch_len hb
      have hp := placeOf_range b a l.length hlen.1
      have hm : spec_Mod.f (hashF [b, a]) l.length = some (placeOf b a l.length) := by
        unfold spec_Mod.f
        rw [spec_in]
        refine (congrArg (fun z => z) rfl).trans ?_
        rw [Option.bind_some, decide_eq_true (show 1 ≤ (l.length : Int) ∧ (l.length : Int) ≤ 1000000000000 by omega), if_pos rfl, if_neg (by omega)]
        congr 1
        show Int.tmod (wrap64 (placeOf b a l.length + l.length)) l.length = placeOf b a l.length
        rw [wrap_in (by omega) (by omega), Int.tmod_eq_emod_of_nonneg (by omega)]
        rw [Int.add_emod_right]
        exact Int.emod_eq_of_lt hp.1 hp.2
      refine Ev.step (fun k => by rw [spec_NextFor.j0]) ?_
      refine Ev.ifneg (by decide) (Ev.bind (spec_hash [b, a] (by simp)) (Ev.bind0 hm ?_))
      exact Ev.ifpos hp.1 (Ev.ifpos hp.2 (Ev.now _))
    · rw [if_neg h, decide_eq_false h]
      refine Ev.step (fun k => by rw [spec_NextFor.j0]) ?_
      exact Ev.ifpos rfl (Ev.now _)
  · rw [if_neg hb]
    refine Ev.ifneg hb ?_
    refine Ev.step (fun k => by rw [spec_NextFor.j0]) ?_
    exact Ev.ifpos rfl (Ev.now _)

theorem impl_nextFor (b : Int) (l : List Int) (a : Int) (hl : l.length ≤ 17592186044416) : Ev (fun k => impl_NextFor.f k b l a) (nextFor b l a) := by
  unfold impl_NextFor.f nextFor
  refine Ev.bind (impl_isBranch b l hl) ?_
  by_cases hb : isBranch b l = true
  · rw [if_pos hb]
    refine Ev.ifpos hb (Ev.bind0 (branch_in _ _ _) ?_)
    by_cases h : 0 ≤ a ∧ a ≤ 9999
    · rw [if_pos h]
      have hlen := branch_len hb
      have hp := placeOf_range b a l.length hlen.1
      refine Ev.ifpos (decide_eq_true h) (Ev.bind (impl_hash [b, a] (by simp)) ?_)
      exact Ev.ifneg (by omega) (Ev.ifpos hp.1 (Ev.ifpos hp.2 (Ev.now _)))
    · rw [if_neg h]
      exact Ev.ifneg (by rw [decide_eq_true_iff]; exact h) (Ev.now _)
  · rw [if_neg hb]
    exact Ev.ifneg hb (Ev.now _)

end Go.Proofs.Ytfjiijlhheajmaa.Pure
