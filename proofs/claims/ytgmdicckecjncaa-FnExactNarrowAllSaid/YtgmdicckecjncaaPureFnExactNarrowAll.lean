/- The statement: for every matrix, bounds and number of links, the program's NarrowAll answers as the reference's does, leaves the lists as they were, and its answer shares no memory with them or with another answer. No condition. -/
import Derived.Test.YtgmdicckecjncaaPBase
import Derived.Test.YtgmdicckecjncaaZ2
import Derived.Test.YtgmdicckecjncaaZ3
import Derived.Test.YtgmdicckecjncaaZ4
import Derived.Test.YtgmdicckecjncaaZ5
import Derived.Test.YtgmdicckecjncaaZ6
import Derived.Test.YtgmdicckecjncaaPFirst
import Derived.Test.YtgmdicckecjncaaPAllIn
import Derived.Test.YtgmdicckecjncaaZ7
import Derived.Test.YtgmdicckecjncaaZ13
import Derived.Test.YtgmdicckecjncaaZ8
import Derived.Test.YtgmdicckecjncaaZ15
import Derived.Test.YtgmdicckecjncaaZ9
import Derived.Test.YtgmdicckecjncaaZ17
import Derived.Test.YtgmdicckecjncaaZDefFnExactNarrowAll
/- Plain lemmas on the laws' own helpers: copies, comparisons, sizes, marks. No condition. -/
namespace Go.Proofs.Ytgmdicckecjncaa.Pure
open Go.RowKit Go.Proofs.Ytgmdicckecjncaa.Z Go.Proofs.YtgmdicckecjncaaW.PrintWords
set_option linter.unusedSimpArgs false
set_option linter.unusedVariables false
def smL {α : Type} (sm : α → Prop) (l : List α) : Prop := l.length ≤ 1048576 ∧ ∀ x ∈ l, sm x
def okLen {α : Type} (l : List α) : Prop := l.length ≤ maxLen
theorem mark_IntS (l : List Int) (m : Int) (h0 : 0 ≤ m) (h1 : m + ((1 * l.length : Nat) : Int) ≤ 4611686018427387904) : Ev (fun k => laws_markIntS.f k l m) (m + ((1 * l.length : Nat) : Int), marked 1 (fun m => m) m l.length) := by
  unfold laws_markIntS.f
  refine mark_loop 1 (fun m => m) l.length (fun i s m k => laws_markIntS.l0 k s m (i : Int)) ?_ ?_ l m rfl h0 h1
  · intro s m hs
    refine Ev.step (fun k => by rw [laws_markIntS.l0]) ?_
    exact Ev.ifneg (by omega) (Ev.now _)
  · intro i s m r hi hs h0 h1 hr
    refine Ev.step (fun k => by rw [laws_markIntS.l0]) ?_
    refine Ev.ifpos (by omega) (Ev.ifpos (by omega) ?_)
    rw [wrap_succ (by omega), wrap_in (by omega) (by omega), Int.toNat_natCast]
    exact hr
theorem sz_IntS (l : List Int) (hl : l.length ≤ maxLen) (s : Int) (h0 : 0 ≤ s) (h1 : s ≤ 1048576) : ∃ r : Int, laws_szIntS.f l s = some r ∧ (0 ≤ r → r ≤ s ∧ (smL (fun _ => True)) l) := by
  unfold maxLen at hl
  unfold laws_szIntS.f
  rw [wrap_in (by omega) (by omega)]
  by_cases h : s - (l.length : Int) < 0
  · exact ⟨-1, by rw [if_pos h], fun h => by omega⟩
  · exact ⟨s - (l.length : Int), by rw [if_neg h], fun _ => ⟨by omega, by omega, fun _ _ => trivial⟩⟩
theorem rd_L1_get (xs : List (List Int)) (i : Nat) (h : i < xs.length) : rd_L1 xs (i : Int) = xs[i] := getD_get xs i _ h
theorem sz_IntSS (l : List (List Int)) (hl : l.length ≤ maxLen) (hx : ∀ x ∈ l, okLen x) (s : Int) (h0 : 0 ≤ s) (h1 : s ≤ 1048576) : ∃ r : Int, Ev (fun k => laws_szIntSS.f k l s) r ∧ (0 ≤ r → r ≤ s ∧ (smL (smL (fun _ => True))) l) := by
  unfold maxLen at hl
  unfold laws_szIntSS.f
  rw [wrap_in (by omega) (by omega)]
  by_cases h : s - (l.length : Int) < 0
  · exact ⟨-1, Ev.ifpos h (Ev.now _), fun h => by omega⟩
  · have key := sz_loop l (smL (fun _ => True)) (fun i s k => laws_szIntSS.l0 k l s (i : Int)) ?_ ?_ (s - (l.length : Int)) (by omega) (by omega)
    · obtain ⟨r, hr, hr2⟩ := key
      exact ⟨r, Ev.ifneg h hr, fun h => ⟨by have := (hr2 h).1; omega, by omega, (hr2 h).2⟩⟩
    · intro s
      refine Ev.step (fun k => by rw [laws_szIntSS.l0]) ?_
      exact Ev.ifneg (by omega) (Ev.now _)
    · intro i hi s h0 h1
      obtain ⟨q, hq, hq2⟩ := sz_IntS l[i] (hx _ (List.getElem_mem hi)) s h0 h1
      by_cases hneg : q < 0
      · refine .inl (Ev.step (fun k => by rw [laws_szIntSS.l0]) ?_)
        refine Ev.ifpos (by omega) (Ev.ifpos (by omega) ?_)
        rw [rd_L1_get l i hi]
        exact Ev.bind0 hq (Ev.ifpos hneg (Ev.now _))
      · refine .inr ⟨q, by omega, (hq2 (by omega)).1, (hq2 (by omega)).2, fun r hr => ?_⟩
        refine Ev.step (fun k => by rw [laws_szIntSS.l0]) ?_
        refine Ev.ifpos (by omega) (Ev.ifpos (by omega) ?_)
        rw [rd_L1_get l i hi]
        refine Ev.bind0 hq (Ev.ifneg hneg ?_)
        rw [wrap_succ (by omega)]
        exact hr
def smS80 (x : S80) : Prop := (fun _ => True) x.f0 ∧ (fun _ => True) x.f1
theorem sz_IntervalS (l : List S80) (hl : l.length ≤ maxLen) (s : Int) (h0 : 0 ≤ s) (h1 : s ≤ 1048576) : ∃ r : Int, laws_szIntervalS.f l s = some r ∧ (0 ≤ r → r ≤ s ∧ (smL smS80) l) := by
  unfold maxLen at hl
  unfold laws_szIntervalS.f
  rw [wrap_in (by omega) (by omega)]
  by_cases h : s - (l.length : Int) < 0
  · exact ⟨-1, by rw [if_pos h], fun h => by omega⟩
  · exact ⟨s - (l.length : Int), by rw [if_neg h], fun _ => ⟨by omega, by omega, fun _ _ => ⟨trivial, trivial⟩⟩⟩
theorem to_IntS (l : List Int) (h : (smL (fun _ => True)) l) : Ev (fun k => laws_toIntS.f k l) (l) := by
  unfold laws_toIntS.f
  have hl := h.1
  refine Ev.ifpos (by omega) (Ev.ifpos (by omega) ?_)
  rw [Int.toNat_natCast]
  have key := copy_loop l id (fun i s k => laws_toIntS.l0 k l s (i : Int)) ?_ ?_ (List.replicate l.length 0) (by simp)
  · rw [List.map_id] at key; exact key
  · intro s
    refine Ev.step (fun k => by rw [laws_toIntS.l0]) ?_
    exact Ev.ifneg (by omega) (Ev.now _)
  · intro i hi s r hs hr
    refine Ev.step (fun k => by rw [laws_toIntS.l0]) ?_
    refine Ev.ifpos (by omega) (Ev.ifpos (by omega) ?_)
    refine Ev.ifpos (by omega) ?_
    rw [rd_get l i hi, wrap_succ (by omega), Int.toNat_natCast]
    exact hr
theorem to_IntSS (l : List (List Int)) (h : (smL (smL (fun _ => True))) l) : Ev (fun k => laws_toIntSS.f k l) (l) := by
  unfold laws_toIntSS.f
  have hl := h.1
  refine Ev.ifpos (by omega) (Ev.ifpos (by omega) ?_)
  rw [Int.toNat_natCast]
  have key := copy_loop l id (fun i s k => laws_toIntSS.l0 k l s (i : Int)) ?_ ?_ (List.replicate l.length []) (by simp)
  · rw [List.map_id] at key; exact key
  · intro s
    refine Ev.step (fun k => by rw [laws_toIntSS.l0]) ?_
    exact Ev.ifneg (by omega) (Ev.now _)
  · intro i hi s r hs hr
    refine Ev.step (fun k => by rw [laws_toIntSS.l0]) ?_
    refine Ev.ifpos (by omega) (Ev.ifpos (by omega) ?_)
    rw [rd_L1_get l i hi]
    refine Ev.bind (to_IntS l[i] (h.2 _ (List.getElem_mem hi))) ?_
    refine Ev.ifpos (by omega) ?_
    rw [wrap_succ (by omega), Int.toNat_natCast]
    exact hr
def c80_60 (x : S80) : S60 := ⟨x.f0, x.f1⟩
theorem to_Interval (x : S80) : laws_toInterval.f x.f0 x.f1 = some ((c80_60 x).f0, (c80_60 x).f1) := rfl
theorem rd_T80_get (xs : List S80) (i : Nat) (h : i < xs.length) : rd_T80 xs (i : Int) = xs[i] := getD_get xs i _ h
theorem to_IntervalS (l : List S80) (h : (smL smS80) l) : Ev (fun k => laws_toIntervalS.f k l) (l.map c80_60) := by
  unfold laws_toIntervalS.f
  have hl := h.1
  refine Ev.ifpos (by omega) (Ev.ifpos (by omega) ?_)
  rw [Int.toNat_natCast]
  have key := copy_loop l c80_60 (fun i s k => laws_toIntervalS.l0 k l s (i : Int)) ?_ ?_ (List.replicate l.length z60) (by simp)
  · exact key
  · intro s
    refine Ev.step (fun k => by rw [laws_toIntervalS.l0]) ?_
    exact Ev.ifneg (by omega) (Ev.now _)
  · intro i hi s r hs hr
    refine Ev.step (fun k => by rw [laws_toIntervalS.l0]) ?_
    refine Ev.ifpos (by omega) (Ev.ifpos (by omega) ?_)
    rw [rd_T80_get l i hi]
    refine Ev.bind0 (to_Interval l[i]) ?_
    refine Ev.ifpos (by omega) ?_
    rw [wrap_succ (by omega), Int.toNat_natCast]
    exact hr
theorem eq_Interval (x : S60) : laws_eqInterval.f x.f0 x.f1 x.f0 x.f1 = some true := by
  unfold laws_eqInterval.f
  simp
theorem rd_T60_get (xs : List S60) (i : Nat) (h : i < xs.length) : rd_T60 xs (i : Int) = xs[i] := getD_get xs i _ h
theorem eq_IntervalS (l : List S60) (h : l.length ≤ maxLen) : Ev (fun k => laws_eqIntervalS.f k l l) true := by
  unfold maxLen at h
  unfold laws_eqIntervalS.f
  refine Ev.ifpos rfl ?_
  exact Ev.up0 l.length (fun i k => laws_eqIntervalS.l0 k l l (i : Int)) (fun _ => true)
    (Ev.step (fun k => by rw [laws_eqIntervalS.l0]) (Ev.ifneg (by omega) (Ev.now _)))
    (fun i hi ih => by
      refine Ev.step (fun k => by rw [laws_eqIntervalS.l0]) ?_
      refine Ev.ifpos (by omega) (Ev.ifpos (by omega) (Ev.ifpos (by omega) ?_))
      rw [rd_T60_get l i hi]
      refine Ev.bind0 (eq_Interval l[i]) (Ev.ifpos rfl ?_)
      rw [wrap_succ (by omega)]
      exact ih) 0 (Nat.zero_le _)
theorem eq_IntS (l : List Int) (h : l.length ≤ maxLen) : Ev (fun k => laws_eqIntS.f k l l) true := by
  unfold maxLen at h
  unfold laws_eqIntS.f
  refine Ev.ifpos rfl ?_
  exact Ev.up0 l.length (fun i k => laws_eqIntS.l0 k l l (i : Int)) (fun _ => true)
    (Ev.step (fun k => by rw [laws_eqIntS.l0]) (Ev.ifneg (by omega) (Ev.now _)))
    (fun i hi ih => by
      refine Ev.step (fun k => by rw [laws_eqIntS.l0]) ?_
      refine Ev.ifpos (by omega) (Ev.ifpos (by omega) (Ev.ifpos (by omega) ?_))
      refine Ev.ifpos rfl ?_
      rw [wrap_succ (by omega)]
      exact ih) 0 (Nat.zero_le _)
theorem eq_IntSS (l : List (List Int)) (h : (smL (smL (fun _ => True))) l) : Ev (fun k => laws_eqIntSS.f k l l) true := by
  have hl := h.1
  unfold laws_eqIntSS.f
  refine Ev.ifpos rfl ?_
  exact Ev.up0 l.length (fun i k => laws_eqIntSS.l0 k l l (i : Int)) (fun _ => true)
    (Ev.step (fun k => by rw [laws_eqIntSS.l0]) (Ev.ifneg (by omega) (Ev.now _)))
    (fun i hi ih => by
      refine Ev.step (fun k => by rw [laws_eqIntSS.l0]) ?_
      refine Ev.ifpos (by omega) (Ev.ifpos (by omega) (Ev.ifpos (by omega) ?_))
      rw [rd_L1_get l i hi]
      refine Ev.bind (eq_IntS l[i] (by have := (h.2 _ (List.getElem_mem hi)).1; unfold maxLen; omega)) (Ev.ifpos rfl ?_)
      rw [wrap_succ (by omega)]
      exact ih) 0 (Nat.zero_le _)
theorem rd_T60_set (s : List S60) (i : Nat) (v : S60) (h : i < s.length) : rd_T60 (s.set i v) (i : Int) = v := by
  rw [rd_T60_get _ i (by simpa using h)]
  simp
theorem mark_IntervalS (l : List S60) (m : Int) (h0 : 0 ≤ m) (h1 : m + ((2 * l.length : Nat) : Int) ≤ 4611686018427387904) : Ev (fun k => laws_markIntervalS.f k l m) (m + ((2 * l.length : Nat) : Int), marked 2 (fun m => (⟨m, m + 1⟩ : S60)) m l.length) := by
  unfold laws_markIntervalS.f
  refine mark_loop 2 (fun m => (⟨m, m + 1⟩ : S60)) l.length (fun i s m k => laws_markIntervalS.l0 k s m (i : Int)) ?_ ?_ l m rfl h0 h1
  · intro s m hs
    refine Ev.step (fun k => by rw [laws_markIntervalS.l0]) ?_
    exact Ev.ifneg (by omega) (Ev.now _)
  · intro i s m r hi hs h0 h1 hr
    refine Ev.step (fun k => by rw [laws_markIntervalS.l0]) ?_
    refine Ev.ifpos (by omega) (Ev.ifpos (by omega) ?_)
    have ht : (i : Int).toNat = i := Int.toNat_natCast i
    have w1 : wrap64 (m + 1 + 1) = m + 2 := by rw [wrap_in (by omega) (by omega)]; omega
    have w0 : wrap64 (m + 1) = m + 1 := wrap_in (by omega) (by omega)
    simp only [Option.bind_some, ht, w0, w1, rd_T60_set s i _ (by omega), List.set_set]
    rw [wrap_succ (by omega)]
    exact hr
theorem held_IntervalS (n : Nat) (m : Int) (h0 : 0 ≤ m) (h1 : m + ((2 * n : Nat) : Int) ≤ 4611686018427387904) : Ev (fun k => laws_heldIntervalS.f k (marked 2 (fun m => (⟨m, m + 1⟩ : S60)) m n) m) (m + ((2 * n : Nat) : Int)) := by
  unfold laws_heldIntervalS.f
  have hn := marked_length 2 (fun m => (⟨m, m + 1⟩ : S60)) m n
  refine held_loop 2 n m (fun i q k => laws_heldIntervalS.l0 k (marked 2 (fun m => (⟨m, m + 1⟩ : S60)) m n) q (i : Int)) ?_ ?_
  · intro q
    refine Ev.step (fun k => by rw [laws_heldIntervalS.l0]) ?_
    exact Ev.ifneg (by omega) (Ev.now _)
  · intro i r hi hr
    refine Ev.step (fun k => by rw [laws_heldIntervalS.l0]) ?_
    have hle : ((2 * i : Nat) : Int) + 2 ≤ ((2 * n : Nat) : Int) := by omega
    refine Ev.ifpos (by omega) (Ev.ifpos (by omega) ?_)
    rw [rd_T60_get _ i (by omega), marked_get]
    have w0 : wrap64 (m + ((2 * i : Nat) : Int) + 1) = m + ((2 * i : Nat) : Int) + 1 := wrap_in (by omega) (by omega)
    have w1 : wrap64 (m + ((2 * i : Nat) : Int) + 1 + 1) = m + ((2 * i : Nat) : Int) + 2 := by rw [wrap_in (by omega) (by omega)]; omega
    simp only [w0, w1]
    refine Ev.ifpos (by first | trivial | rfl) ?_
    refine Ev.ifpos (by first | trivial | rfl) ?_
    rw [wrap_succ (by omega)]
    exact hr
end Go.Proofs.Ytgmdicckecjncaa.Pure
/- Plain lemma: a loop that goes on while the elements are well. No condition. -/
namespace Go.Proofs.Ytgmdicckecjncaa.Pure
open Go.RowKit Go.Proofs.YtgmdicckecjncaaW.PrintWords

theorem all_step {α : Type} (p : α → Bool) (xs : List α) (G : Nat → Nat → Option Bool) (r0 : Bool) (hend : Ev (G xs.length) r0) (hstep : ∀ i (hi : i < xs.length) r, Ev (G (i + 1)) r → Ev (G i) (p xs[i] && r)) : Ev (G 0) (xs.all p && r0) := by
  have key := Ev.up0 xs.length G (fun i => (xs.drop i).all p && r0)
    (by rw [List.drop_of_length_le (Nat.le_refl _)]; simpa using hend)
    (fun i hi ih => by
      rw [drop_get xs i hi, List.all_cons, Bool.and_assoc]
      exact hstep i hi _ ih) 0 (Nat.zero_le _)
  simpa using key

/-- The same over the places. -/
theorem all_places (n : Nat) (p : Nat → Bool) (G : Nat → Nat → Option Bool) (r0 : Bool) (hend : Ev (G n) r0) (hstep : ∀ i, i < n → ∀ r, Ev (G (i + 1)) r → Ev (G i) (p i && r)) : Ev (G 0) ((List.range n).all p && r0) := by
  refine all_step p (List.range n) G r0 (by rw [List.length_range]; exact hend) (fun i hi r hr => ?_)
  rw [List.getElem_range]
  exact hstep i (by simpa using hi) r hr

end Go.Proofs.Ytgmdicckecjncaa.Pure
/- Plain lemma: what the reference's range test answers. No condition. -/
namespace Go.Proofs.Ytgmdicckecjncaa.Pure
open Go.RowKit Go.Proofs.Ytgmdicckecjncaa.Z Go.Proofs.YtgmdicckecjncaaW.PrintWords

theorem spec_in (n a b : Int) : spec_l1In.f n a b = some (decide (a ≤ n ∧ n ≤ b)) := by
  unfold spec_l1In.f
  by_cases h : a ≤ n <;> simp [h]

end Go.Proofs.Ytgmdicckecjncaa.Pure
/- Plain lemmas: what the program's and the reference's IsInterval answer. No condition. -/
namespace Go.Proofs.Ytgmdicckecjncaa.Pure
open Go.RowKit Go.Proofs.Ytgmdicckecjncaa.Z Go.Proofs.YtgmdicckecjncaaW.PrintWords

/-- Is it an interval? -/
def isI (a b : Int) : Bool := decide (-100000 ≤ a ∧ a ≤ b ∧ b ≤ 100000)

theorem spec_isI (a b : Int) : spec_IsInterval.f a b = some (isI a b) := by
  unfold spec_IsInterval.f spec_l1In.f isI
  by_cases h1 : a ≤ b <;> by_cases h2 : -100000 ≤ a <;> by_cases h3 : b ≤ 100000 <;> by_cases h4 : a ≤ 100000 <;> by_cases h5 : -100000 ≤ b <;> first | omega | simp [h1, h2, h3, h4, h5]

theorem impl_isI (a b : Int) : impl_IsInterval.f a b = some (isI a b) := by
  unfold impl_IsInterval.f isI
  by_cases h1 : a ≤ b <;> by_cases h2 : -100000 ≤ a <;> by_cases h3 : b ≤ 100000 <;> first | omega | simp [h1, h2, h3]

end Go.Proofs.Ytgmdicckecjncaa.Pure
/- Plain lemmas: what the reference's and the program's IsMatrix and AreBounds answer. Condition: the lists are not longer than lists can be. -/
namespace Go.Proofs.Ytgmdicckecjncaa.Pure
open Go.RowKit Go.Proofs.Ytgmdicckecjncaa.Z Go.Proofs.YtgmdicckecjncaaW.PrintWords

def isRowOf (n : Int) (l : List Int) : Bool := decide ((l.length : Int) = n) && l.all fun x => decide (-2 ≤ x ∧ x ≤ 2)
def isMatrix (m : List (List Int)) (n : Int) : Bool := decide (1 ≤ n ∧ n ≤ 6) && (decide (m.length ≤ 12) && m.all (isRowOf n))
def isBitsRow (l : List Int) : Bool := l.all fun x => decide (0 ≤ x ∧ x ≤ 1)
def okBound (x : S60) : Bool := isI x.f0 x.f1 && decide (0 ≤ x.f0)
def areBounds (m : List (List Int)) (b : List S60) (n : Int) : Bool := m.all isBitsRow && (b.all okBound && (isMatrix m n && decide (b.length = m.length)))

theorem rdRow (m : List (List Int)) (i : Nat) (h : i < m.length) : rd_L1 m (i : Int) = m[i] := getD_get m i _ h

theorem spec_isMatrix (m : List (List Int)) (n : Int) (hm : m.length ≤ 9223372036854775806) : Ev (fun k => spec_IsMatrix.f k m n) (isMatrix m n) := by
  unfold spec_IsMatrix.f isMatrix
  refine Ev.bind0 (spec_in _ _ _) ?_
  by_cases h1 : 1 ≤ n ∧ n ≤ 6
  · rw [decide_eq_true h1]
    refine Ev.ifpos rfl ?_
    refine Ev.step (fun k => by rw [spec_IsMatrix.j0]) ?_
    by_cases h2 : m.length ≤ 12
    · rw [decide_eq_true h2]
      refine Ev.ifneg (by rw [decide_eq_true_iff]; omega) ?_
      have key := all_step (isRowOf n) m (fun i k => spec_IsMatrix.l0 k m n (i : Int)) true ?_ ?_
      · simpa using key
      · refine Ev.step (fun k => by rw [spec_IsMatrix.l0]) ?_
        exact Ev.ifneg (by omega) (Ev.now _)
      · intro i hi r hr
        refine Ev.step (fun k => by rw [spec_IsMatrix.l0]) ?_
        refine Ev.ifpos (by omega) (Ev.ifpos (by omega) ?_)
        rw [rdRow m i hi]
        unfold isRowOf
        by_cases h3 : (m[i].length : Int) = n
        · rw [decide_eq_true h3]
          refine Ev.ifpos h3 ?_
          have inner := all_step (fun x : Int => decide (-2 ≤ x ∧ x ≤ 2)) m[i] (fun j k => spec_IsMatrix.l1 k m n (i : Int) (j : Int)) r ?_ ?_
          · simpa using inner
          · refine Ev.step (fun k => by rw [spec_IsMatrix.l1]) ?_
            refine Ev.ifneg (by omega) ?_
            rw [wrap_succ (by omega)]
            exact hr
          · intro j hj q hq
            refine Ev.step (fun k => by rw [spec_IsMatrix.l1]) ?_
            rw [rdRow m i hi]
            refine Ev.ifpos (by omega) (Ev.ifpos (by omega) (Ev.ifpos (by omega) (Ev.ifpos (by omega) (Ev.ifpos (by omega) ?_))))
            rw [rd_get m[i] j hj, wrap_succ (by omega)]
            refine Ev.bind0 (spec_in _ _ _) ?_
            cases decide (-2 ≤ m[i][j] ∧ m[i][j] ≤ 2)
            · exact Ev.ifneg (by decide) (Ev.now _)
            · refine Ev.ifpos rfl ?_
              simpa using hq
        · rw [decide_eq_false h3]
          exact Ev.ifneg h3 (Ev.now _)
    · rw [decide_eq_false h2]
      exact Ev.ifpos (decide_eq_true (by omega)) (Ev.now _)
  · rw [decide_eq_false h1]
    refine Ev.ifneg (by decide) ?_
    refine Ev.step (fun k => by rw [spec_IsMatrix.j0]) ?_
    exact Ev.ifpos rfl (Ev.now _)

theorem in_range (n a b : Int) : impl_InRange.f n a b = some (decide (a ≤ n ∧ n ≤ b)) := by
  unfold impl_InRange.f
  by_cases h1 : a ≤ n <;> by_cases h2 : n ≤ b <;> simp [h1, h2] <;> omega

theorem impl_isMatrix (m : List (List Int)) (n : Int) (hm : m.length ≤ 9223372036854775806) : Ev (fun k => impl_IsMatrix.f k m n) (isMatrix m n) := by
  unfold impl_IsMatrix.f isMatrix
  refine Ev.bind0 (in_range _ _ _) ?_
  by_cases h1 : 1 ≤ n ∧ n ≤ 6
  · rw [decide_eq_true h1]
    refine Ev.ifpos rfl ?_
    refine Ev.step (fun k => by rw [impl_IsMatrix.j0]) ?_
    by_cases h2 : m.length ≤ 12
    · rw [decide_eq_true h2]
      refine Ev.ifneg (by rw [decide_eq_true_iff]; omega) ?_
      have key := all_step (isRowOf n) m (fun i k => impl_IsMatrix.l0 k n m (m.length : Int) (i : Int)) true ?_ ?_
      · simpa using key
      · refine Ev.step (fun k => by rw [impl_IsMatrix.l0]) ?_
        exact Ev.ifneg (by omega) (Ev.now _)
      · intro i hi r hr
        refine Ev.step (fun k => by rw [impl_IsMatrix.l0]) ?_
        refine Ev.ifpos (by omega) (Ev.ifpos (by omega) (Ev.ifpos (by omega) ?_))
        rw [rdRow m i hi]
        unfold isRowOf
        by_cases h3 : (m[i].length : Int) = n
        · rw [decide_eq_true h3]
          refine Ev.ifpos h3 (Ev.bind (impl_allIn m[i] (-2) 2 (by omega)) ?_)
          rw [wrap_succ (by omega)]
          cases m[i].all fun x => decide (-2 ≤ x ∧ x ≤ 2)
          · exact Ev.ifneg (by decide) (Ev.now _)
          · refine Ev.ifpos rfl ?_
            simpa using hr
        · rw [decide_eq_false h3]
          exact Ev.ifneg h3 (Ev.now _)
    · rw [decide_eq_false h2]
      exact Ev.ifpos (decide_eq_true (by omega)) (Ev.now _)
  · rw [decide_eq_false h1]
    refine Ev.ifneg (by decide) ?_
    refine Ev.step (fun k => by rw [impl_IsMatrix.j0]) ?_
    exact Ev.ifpos rfl (Ev.now _)

theorem rdBd (b : List S60) (i : Nat) (h : i < b.length) : rd_T60 b (i : Int) = b[i] := getD_get b i _ h

theorem spec_areBounds (m : List (List Int)) (b : List S60) (n : Int) (hm : m.length ≤ 9223372036854775806) (hr : ∀ x ∈ m, x.length ≤ 9223372036854775806) (hb : b.length ≤ 9223372036854775806) : Ev (fun k => spec_AreBounds.f k m b n) (areBounds m b n) := by
  unfold spec_AreBounds.f areBounds
  refine all_step isBitsRow m (fun i k => spec_AreBounds.l0 k m b n (i : Int)) _ ?_ ?_
  · refine Ev.step (fun k => by rw [spec_AreBounds.l0]) ?_
    refine Ev.ifneg (by omega) ?_
    refine all_step okBound b (fun i k => spec_AreBounds.l2 k m b n (i : Int)) _ ?_ ?_
    · refine Ev.step (fun k => by rw [spec_AreBounds.l2]) ?_
      refine Ev.ifneg (by omega) (Ev.bind (spec_isMatrix m n hm) ?_)
      cases isMatrix m n
      · exact Ev.ifneg (by decide) (Ev.now _)
      · refine Ev.ifpos rfl (Ev.pure ?_)
        rw [Bool.true_and]
        by_cases h : b.length = m.length
        · simp [h]
        · rw [decide_eq_false h, beq_eq_false_iff_ne]
          omega
    · intro i hi r hr
      refine Ev.step (fun k => by rw [spec_AreBounds.l2]) ?_
      refine Ev.ifpos (by omega) (Ev.ifpos (by omega) ?_)
      rw [rdBd b i hi]
      unfold okBound
      refine Ev.bind0 (spec_isI _ _) ?_
      cases isI b[i].f0 b[i].f1
      · exact Ev.ifneg (by decide) (Ev.now _)
      · refine Ev.ifpos rfl ?_
        by_cases h : b[i].f0 < 0
        · rw [decide_eq_false (show ¬ 0 ≤ b[i].f0 by omega)]
          exact Ev.ifpos h (Ev.now _)
        · rw [decide_eq_true (show 0 ≤ b[i].f0 by omega), wrap_succ (by omega)]
          refine Ev.ifneg h ?_
          simpa using hr
  · intro i hi r hr1
    refine Ev.step (fun k => by rw [spec_AreBounds.l0]) ?_
    refine Ev.ifpos (by omega) ?_
    have hlen := hr m[i] (List.getElem_mem hi)
    unfold isBitsRow
    refine all_step (fun x : Int => decide (0 ≤ x ∧ x ≤ 1)) m[i] (fun j k => spec_AreBounds.l1 k m b n (i : Int) (j : Int)) r ?_ ?_
    · refine Ev.step (fun k => by rw [spec_AreBounds.l1]) ?_
      rw [rdRow m i hi]
      refine Ev.ifpos (by omega) (Ev.ifpos (by omega) (Ev.ifneg (by omega) ?_))
      rw [wrap_succ (by omega)]
      exact hr1
    · intro j hj q hq
      refine Ev.step (fun k => by rw [spec_AreBounds.l1]) ?_
      rw [rdRow m i hi]
      refine Ev.ifpos (by omega) (Ev.ifpos (by omega) (Ev.ifpos (by omega) (Ev.ifpos (by omega) ?_)))
      rw [rd_get m[i] j hj, wrap_succ (by omega)]
      refine Ev.bind0 (spec_in _ _ _) ?_
      cases decide (0 ≤ m[i][j] ∧ m[i][j] ≤ 1)
      · exact Ev.ifneg (by decide) (Ev.now _)
      · refine Ev.ifpos rfl ?_
        simpa using hq

theorem notBits_all (m : List (List Int)) : (!(m.any notBits)) = m.all isBitsRow := by
  rw [List.all_eq_not_any_not]
  rfl

theorem isBad_all (b : List S60) : (!(b.any isBadI)) = b.all okBound := by
  rw [List.all_eq_not_any_not]
  rfl

theorem impl_areBounds (m : List (List Int)) (b : List S60) (n : Int) (hm : m.length ≤ 9223372036854775806) : Ev (fun k => impl_AreBounds.f k m b n) (areBounds m b n) := by
  unfold impl_AreBounds.f areBounds
  have hbits : Ev (fun k => impl_isBits.f k m n) (isMatrix m n && m.all isBitsRow) := by
    unfold impl_isBits.f
    rw [← notBits_all]
    exact Ev.bind (impl_isMatrix m n hm) (Ev.now _)
  refine Ev.bind hbits ?_
  have hg : impl_goodIntervals.f b = some (b.all okBound) := by
    unfold impl_goodIntervals.f
    rw [isBad_all]
  cases hA : isMatrix m n
  · exact Ev.ifneg (by simp) (Ev.pure (by simp))
  · cases hB : m.all isBitsRow
    · exact Ev.ifneg (by decide) (Ev.now _)
    · refine Ev.ifpos rfl ?_
      by_cases h : b.length = m.length
      · refine Ev.ifpos (by omega) (Ev.bind0 hg (Ev.pure ?_))
        simp [h]
      · refine Ev.ifneg (by omega) (Ev.pure ?_)
        simp [h]

end Go.Proofs.Ytgmdicckecjncaa.Pure
/- Plain lemma: what the reference's and the program's NarrowOnce answer. Condition: the lists are not longer than the law's can be. -/
namespace Go.Proofs.Ytgmdicckecjncaa.Pure
open Go.RowKit Go.Proofs.Ytgmdicckecjncaa.Z Go.Proofs.YtgmdicckecjncaaW.PrintWords Go.Proofs.YtgmdicckecjncaaW.PrintLast Go.Proofs.YtgmdicckecjncaaW.PrintMore

abbrev Iv := S60

/-- The sums of the other links' bounds, one link more. -/
def sumStep (row : List Int) (x : List Iv) (c : Nat) (s : Int × Int) (i : Nat) : Int × Int := if rd row (i : Int) = 1 ∧ i ≠ c then (wrap64 (s.1 + (rd_T60 x (i : Int)).f0), wrap64 (s.2 + (rd_T60 x (i : Int)).f1)) else s
def sumsFrom (row : List Int) (x : List Iv) (c i : Nat) (s : Int × Int) : Int × Int := ((List.range x.length).drop i).foldl (sumStep row x c) s
/-- A link's bounds by one row. -/
def newIv (row : List Int) (y : Iv) (x : List Iv) (c : Nat) : Iv := ⟨mx (rd_T60 x (c : Int)).f0 (wrap64 (y.f0 - (sumsFrom row x c 0 (0, 0)).2)), mn (rd_T60 x (c : Int)).f1 (wrap64 (y.f1 - (sumsFrom row x c 0 (0, 0)).1))⟩
def colStep (row : List Int) (y : Iv) (o : Option (List Iv)) (c : Nat) : Option (List Iv) := o.bind fun x => if rd row (c : Int) = 0 then some x else if (newIv row y x c).f0 > (newIv row y x c).f1 then none else some (x.set c (newIv row y x c))
def rowFrom (N : Nat) (row : List Int) (y : Iv) (c : Nat) (o : Option (List Iv)) : Option (List Iv) := ((List.range N).drop c).foldl (colStep row y) o
def rowStep (N : Nat) (m : List (List Int)) (l : List Iv) (o : Option (List Iv)) (i : Nat) : Option (List Iv) := rowFrom N (rd_L1 m (i : Int)) (rd_T60 l (i : Int)) 0 o
def rowsFrom (N : Nat) (m : List (List Int)) (l : List Iv) (i : Nat) (o : Option (List Iv)) : Option (List Iv) := ((List.range m.length).drop i).foldl (rowStep N m l) o
def outN (o : Option (List Iv)) : List Iv × Bool := match o with
  | none => ([], false)
  | some x => (x, true)
def narrowOnce (m : List (List Int)) (l x : List Iv) : List Iv × Bool := if areBounds m l (x.length : Int) = true ∧ x.all okBound = true then outN (rowsFrom x.length m l 0 (some x)) else ([], false)

theorem foldl_none {α β : Type} (f : Option α → β → Option α) (h : ∀ b, f none b = none) : ∀ l : List β, l.foldl f none = none
  | [] => rfl
  | b :: l => by rw [List.foldl_cons, h b, foldl_none f h l]
theorem rowFrom_none (N : Nat) (row : List Int) (y : Iv) (c : Nat) : rowFrom N row y c none = none := foldl_none _ (fun _ => rfl) _
theorem rowsFrom_none (N : Nat) (m : List (List Int)) (l : List Iv) (i : Nat) : rowsFrom N m l i none = none := foldl_none _ (fun _ => rowFrom_none _ _ _ _) _
theorem range_drop (N c : Nat) (h : c < N) : (List.range N).drop c = c :: (List.range N).drop (c + 1) := by
  rw [drop_get _ c (by simpa using h), List.getElem_range]
theorem rowFrom_step (N : Nat) (row : List Int) (y : Iv) (c : Nat) (o : Option (List Iv)) (h : c < N) : rowFrom N row y c o = rowFrom N row y (c + 1) (colStep row y o c) := by
  unfold rowFrom
  rw [range_drop N c h, List.foldl_cons]
theorem rowFrom_end (N : Nat) (row : List Int) (y : Iv) (o : Option (List Iv)) : rowFrom N row y N o = o := by
  unfold rowFrom
  rw [List.drop_of_length_le (by simp)]
  rfl
theorem rowsFrom_step (N : Nat) (m : List (List Int)) (l : List Iv) (i : Nat) (o : Option (List Iv)) (h : i < m.length) : rowsFrom N m l i o = rowsFrom N m l (i + 1) (rowStep N m l o i) := by
  unfold rowsFrom
  rw [range_drop _ i h, List.foldl_cons]
theorem rowsFrom_end (N : Nat) (m : List (List Int)) (l : List Iv) (o : Option (List Iv)) : rowsFrom N m l m.length o = o := by
  unfold rowsFrom
  rw [List.drop_of_length_le (by simp)]
  rfl
theorem sumsFrom_step (row : List Int) (x : List Iv) (c i : Nat) (s : Int × Int) (h : i < x.length) : sumsFrom row x c i s = sumsFrom row x c (i + 1) (sumStep row x c s i) := by
  unfold sumsFrom
  rw [range_drop _ i h, List.foldl_cons]
theorem sumsFrom_end (row : List Int) (x : List Iv) (c : Nat) (s : Int × Int) : sumsFrom row x c x.length s = s := by
  unfold sumsFrom
  rw [List.drop_of_length_le (by simp)]
  rfl
theorem set_rd (x : List Iv) (c : Nat) (v : Iv) (h : c < x.length) : rd_T60 (x.set (c : Int).toNat v) (c : Int) = v := by
  show (x.set (c : Int).toNat v).getD (c : Int).toNat _ = v
  rw [List.getD_eq_getElem?_getD, List.getElem?_set_self (by simpa using h)]
  rfl

theorem spec_max (a b : Int) : spec_Max.f a b = some (mx a b) := by
  unfold spec_Max.f mx
  by_cases h : a < b
  · rw [if_pos h, if_pos h]
  · rw [if_neg h, if_neg h]
theorem spec_min (a b : Int) : spec_Min.f a b = some (mn a b) := by
  unfold spec_Min.f mn
  by_cases h : b < a
  · rw [if_pos h, if_pos h]
  · rw [if_neg h, if_neg h]

theorem spec_narrow1 (row : List Int) (y : Iv) (x : List Iv) (c : Nat) (hc : c < x.length) (hr : row.length = x.length) (hx : x.length ≤ 6) : Ev (fun k => spec_l10Narrow.f k row y.f0 y.f1 x (c : Int)) ((newIv row y x c).f0, (newIv row y x c).f1) := by
  unfold spec_l10Narrow.f
  refine Ev.up x.length (fun i (s : Int × Int) k => spec_l10Narrow.l0 k row x (c : Int) s.1 s.2 (i : Int) y.f0 y.f1) (fun i s => (mx (rd_T60 x (c : Int)).f0 (wrap64 (y.f0 - (sumsFrom row x c i s).2)), mn (rd_T60 x (c : Int)).f1 (wrap64 (y.f1 - (sumsFrom row x c i s).1)))) (fun _ _ => True) ?_ ?_ 0 (0, 0) (Nat.zero_le _) trivial
  · intro s _
    rw [sumsFrom_end]
    refine Ev.step (fun k => by rw [spec_l10Narrow.l0]) ?_
    exact Ev.ifneg (by omega) (Ev.ifpos (by omega) (Ev.ifpos (by omega) (Ev.bind0 (spec_max _ _) (Ev.bind0 (spec_min _ _) (Ev.now _)))))
  · intro i s hi _ ih
    rw [sumsFrom_step row x c i s hi]
    have hn := ih (sumStep row x c s i) trivial
    unfold sumStep at hn
    refine Ev.step (fun k => by rw [spec_l10Narrow.l0]) ?_
    refine Ev.ifpos (by omega) ?_
    rw [wrap_succ (by omega)]
    by_cases h1 : i = c
    · rw [if_neg (fun h => h.2 h1)] at hn
      unfold sumStep
      rw [if_neg (fun h => h.2 h1)]
      exact Ev.ifpos (by omega) hn
    · refine Ev.ifneg (by omega) (Ev.ifpos (by omega) (Ev.ifpos (by omega) ?_))
      unfold sumStep
      by_cases h2 : rd row (i : Int) = 1
      · rw [if_pos ⟨h2, h1⟩] at hn ⊢
        exact Ev.ifpos h2 hn
      · rw [if_neg (fun h => h2 h.1)] at hn ⊢
        exact Ev.ifneg h2 hn

/-- What is known where the bounds are good. -/
structure Good10 (m : List (List Int)) (l : List Iv) (N : Nat) : Prop where
  n : 1 ≤ N ∧ N ≤ 6
  rows : ∀ i (h : i < m.length), m[i].length = N
  len : l.length = m.length
  few : m.length ≤ 12

theorem good10 {m : List (List Int)} {l : List Iv} {N : Nat} (h : areBounds m l (N : Int) = true) : Good10 m l N := by
  unfold areBounds isMatrix at h
  simp only [Bool.and_eq_true, decide_eq_true_eq, List.all_eq_true] at h
  obtain ⟨_, _, ⟨h1, h2, h3⟩, h4⟩ := h
  refine ⟨by omega, fun i hi => ?_, h4, h2⟩
  have := h3 m[i] (List.getElem_mem hi)
  unfold isRowOf at this
  simp only [Bool.and_eq_true, decide_eq_true_eq] at this
  omega

section
variable {m : List (List Int)} {l : List Iv} {N : Nat}

theorem spec_rows (hg : Good10 m l N) : ∀ (i : Nat) (x : List Iv), i ≤ m.length → x.length = N → Ev (fun k => spec_NarrowOnce.l1 k m l x (i : Int)) (outN (rowsFrom N m l i (some x))) := by
  have hn := hg.n
  have hf := hg.few
  have hlen := hg.len
  refine Ev.up m.length (fun i (x : List Iv) k => spec_NarrowOnce.l1 k m l x (i : Int)) (fun i x => outN (rowsFrom N m l i (some x))) (fun _ x => x.length = N) ?_ ?_
  · intro x _
    rw [rowsFrom_end]
    refine Ev.step (fun k => by rw [spec_NarrowOnce.l1]) ?_
    exact Ev.ifneg (by omega) (Ev.now _)
  · intro i x hi hx ih
    have hrow := hg.rows i hi
    have er : rd_L1 m (i : Int) = m[i] := getD_get m i _ hi
    rw [rowsFrom_step N m l i _ hi]
    refine Ev.step (fun k => by rw [spec_NarrowOnce.l1]) ?_
    refine Ev.ifpos (by omega) ?_
    refine Ev.up N (fun c (x : List Iv) k => spec_NarrowOnce.l2 k m l x (i : Int) (c : Int)) (fun c x => outN (rowsFrom N m l (i + 1) (rowFrom N (rd_L1 m (i : Int)) (rd_T60 l (i : Int)) c (some x)))) (fun _ x => x.length = N) ?_ ?_ 0 x (Nat.zero_le _) hx
    · intro x hx
      rw [rowFrom_end]
      refine Ev.step (fun k => by rw [spec_NarrowOnce.l2]) ?_
      refine Ev.ifneg (by omega) ?_
      rw [wrap_succ (by omega)]
      exact ih x hx
    · intro c x hc hx ih2
      rw [rowFrom_step _ _ _ _ _ hc]
      refine Ev.step (fun k => by rw [spec_NarrowOnce.l2]) ?_
      rw [er]
      refine Ev.ifpos (by omega) (Ev.ifpos (by omega) (Ev.ifpos (by omega) (Ev.ifpos (by omega) (Ev.ifpos (by omega) ?_))))
      rw [er] at ih2
      rw [wrap_succ (by omega)]
      unfold colStep
      rw [Option.bind_some]
      by_cases h0 : rd m[i] (c : Int) = 0
      · rw [if_pos h0]
        exact Ev.ifpos h0 (ih2 x hx)
      · rw [if_neg h0]
        refine Ev.ifneg h0 (Ev.ifpos (by omega) (Ev.bind (spec_narrow1 m[i] (rd_T60 l (i : Int)) x c (by omega) (by omega) (by omega)) ?_))
        by_cases h1 : (newIv m[i] (rd_T60 l (i : Int)) x c).f0 > (newIv m[i] (rd_T60 l (i : Int)) x c).f1
        · rw [if_pos h1, rowFrom_none, rowsFrom_none]
          exact Ev.ifpos h1 (Ev.now _)
        · rw [if_neg h1]
          refine Ev.ifneg h1 ?_
          rw [Int.toNat_natCast]
          exact ih2 _ (by simpa using hx)

theorem impl_sums (hg : Good10 m l N) (x : List Iv) (hx : x.length = N) (i c : Nat) (hi : i < m.length) (hc : c < N) (r : List Iv × Bool)
    (hbad : (newIv m[i] (rd_T60 l (i : Int)) x c).f0 > (newIv m[i] (rd_T60 l (i : Int)) x c).f1 → r = ([], false))
    (hok : ¬ (newIv m[i] (rd_T60 l (i : Int)) x c).f0 > (newIv m[i] (rd_T60 l (i : Int)) x c).f1 → Ev (fun k => impl_NarrowOnce.l1 k l (x.set c (newIv m[i] (rd_T60 l (i : Int)) x c)) (i : Int) m[i] m (m.length : Int) (i : Int) m[i] (m[i].length : Int) ((c + 1 : Nat) : Int)) r) :
    Ev (fun k => impl_NarrowOnce.l2 k l x (i : Int) m[i] (c : Int) m (m.length : Int) (i : Int) m[i] (m[i].length : Int) (c : Int) m[i] (m[i].length : Int) 0 0 0) r := by
  have hn := hg.n
  have hf := hg.few
  have hlen := hg.len
  have hrow := hg.rows i hi
  refine Ev.up N (fun j (s : Int × Int) k => impl_NarrowOnce.l2 k l x (i : Int) m[i] (c : Int) m (m.length : Int) (i : Int) m[i] (m[i].length : Int) (c : Int) m[i] (m[i].length : Int) (j : Int) s.1 s.2) (fun _ _ => r) (fun j s => sumsFrom m[i] x c j s = sumsFrom m[i] x c 0 (0, 0)) ?_ ?_ 0 (0, 0) (Nat.zero_le _) rfl
  · intro s hs
    rw [← hx, sumsFrom_end] at hs
    refine Ev.step (fun k => by rw [impl_NarrowOnce.l2]) ?_
    refine Ev.ifneg (by omega) (Ev.ifpos (by omega) (Ev.ifpos (by omega) (Ev.ifpos (by omega) (Ev.ifpos (by omega) (Ev.bind0 rfl ?_)))))
    rw [hs]
    have e : (⟨mx (rd_T60 x (c : Int)).f0 (wrap64 ((rd_T60 l (i : Int)).f0 - (sumsFrom m[i] x c 0 (0, 0)).2)), mn (rd_T60 x (c : Int)).f1 (wrap64 ((rd_T60 l (i : Int)).f1 - (sumsFrom m[i] x c 0 (0, 0)).1))⟩ : Iv) = newIv m[i] (rd_T60 l (i : Int)) x c := rfl
    rw [e, set_rd x c _ (by omega), wrap_succ (by omega), Int.toNat_natCast]
    by_cases h1 : (newIv m[i] (rd_T60 l (i : Int)) x c).f0 > (newIv m[i] (rd_T60 l (i : Int)) x c).f1
    · rw [hbad h1]
      exact Ev.ifpos h1 (Ev.now _)
    · exact Ev.ifneg h1 (hok h1)
  · intro j s hj hs ih
    rw [sumsFrom_step _ _ _ _ _ (by omega)] at hs
    have hn2 := ih _ hs
    refine Ev.step (fun k => by rw [impl_NarrowOnce.l2]) ?_
    refine Ev.ifpos (by omega) (Ev.ifpos (by omega) (Ev.ifpos (by omega) ?_))
    rw [wrap_succ (by omega)]
    unfold sumStep at hn2
    by_cases h2 : rd m[i] (j : Int) = 1
    · refine Ev.ifpos h2 ?_
      by_cases h1 : j = c
      · rw [if_neg (fun h => h.2 h1)] at hn2
        exact Ev.ifpos (by omega) hn2
      · rw [if_pos ⟨h2, h1⟩] at hn2
        exact Ev.ifneg (by omega) (Ev.ifpos (by omega) hn2)
    · rw [if_neg (fun h => h2 h.1)] at hn2
      exact Ev.ifneg h2 hn2

theorem impl_rows (hg : Good10 m l N) : ∀ (i : Nat) (x : List Iv), i ≤ m.length → x.length = N → Ev (fun k => impl_NarrowOnce.l0 k l x m (m.length : Int) (i : Int)) (outN (rowsFrom N m l i (some x))) := by
  have hn := hg.n
  have hf := hg.few
  have hlen := hg.len
  refine Ev.up m.length (fun i (x : List Iv) k => impl_NarrowOnce.l0 k l x m (m.length : Int) (i : Int)) (fun i x => outN (rowsFrom N m l i (some x))) (fun _ x => x.length = N) ?_ ?_
  · intro x _
    rw [rowsFrom_end]
    refine Ev.step (fun k => by rw [impl_NarrowOnce.l0]) ?_
    exact Ev.ifneg (by omega) (Ev.now _)
  · intro i x hi hx ih
    have hrow := hg.rows i hi
    have er : rd_L1 m (i : Int) = m[i] := getD_get m i _ hi
    rw [rowsFrom_step N m l i _ hi]
    refine Ev.step (fun k => by rw [impl_NarrowOnce.l0]) ?_
    refine Ev.ifpos (by omega) (Ev.ifpos (by omega) (Ev.ifpos (by omega) ?_))
    unfold rowStep
    rw [er]
    refine Ev.up N (fun c (x : List Iv) k => impl_NarrowOnce.l1 k l x (i : Int) m[i] m (m.length : Int) (i : Int) m[i] (m[i].length : Int) (c : Int)) (fun c x => outN (rowsFrom N m l (i + 1) (rowFrom N m[i] (rd_T60 l (i : Int)) c (some x)))) (fun _ x => x.length = N) ?_ ?_ 0 x (Nat.zero_le _) hx
    · intro x hx
      rw [rowFrom_end]
      refine Ev.step (fun k => by rw [impl_NarrowOnce.l1]) ?_
      refine Ev.ifneg (by omega) ?_
      rw [wrap_succ (by omega)]
      exact ih x hx
    · intro c x hc hx ih2
      rw [rowFrom_step _ _ _ _ _ hc]
      refine Ev.step (fun k => by rw [impl_NarrowOnce.l1]) ?_
      refine Ev.ifpos (by omega) (Ev.ifpos (by omega) (Ev.ifpos (by omega) ?_))
      unfold colStep
      rw [Option.bind_some]
      by_cases h0 : rd m[i] (c : Int) = 0
      · rw [if_pos h0, wrap_succ (by omega)]
        exact Ev.ifpos h0 (ih2 x hx)
      · rw [if_neg h0]
        refine Ev.ifneg h0 (impl_sums hg x hx i c hi hc _ (fun h1 => ?_) (fun h1 => ?_))
        · rw [if_pos h1, rowFrom_none, rowsFrom_none]
          rfl
        · rw [if_neg h1]
          exact ih2 _ (by simpa using hx)

end

theorem spec_narrowOnce (m : List (List Int)) (l x : List Iv) (hm : m.length ≤ 1048576) (hr : ∀ r ∈ m, r.length ≤ 1048576) (hl : l.length ≤ 1048576) (hx : x.length ≤ 1048576) : Ev (fun k => spec_NarrowOnce.f k m l x) (narrowOnce m l x) := by
  unfold spec_NarrowOnce.f narrowOnce
  refine Ev.bind (spec_areBounds m l (x.length : Int) (by omega) (fun r h => by have := hr r h; omega) (by omega)) ?_
  by_cases hb : areBounds m l (x.length : Int) = true
  · have hg := good10 hb
    refine Ev.ifpos hb (Ev.bind0 rfl (Ev.ifpos (by simp; omega) ?_))
    rw [List.nil_append]
    have key := Ev.up0 x.length (fun i k => spec_NarrowOnce.l0 k m l x x (i : Int)) (fun i => if (x.drop i).all okBound = true then outN (rowsFrom x.length m l 0 (some x)) else ([], false)) ?_ ?_ 0 (Nat.zero_le _)
    · rw [List.drop_zero] at key
      by_cases h : x.all okBound = true
      · rw [if_pos h] at key
        rw [if_pos ⟨hb, h⟩]
        exact key
      · rw [if_neg h] at key
        rw [if_neg (fun q => h q.2)]
        exact key
    · rw [List.drop_of_length_le (Nat.le_refl _), if_pos (by rfl)]
      refine Ev.step (fun k => by rw [spec_NarrowOnce.l0]) ?_
      exact Ev.ifneg (by omega) (spec_rows hg 0 x (Nat.zero_le _) rfl)
    · intro i hi ih
      rw [drop_get x i hi, List.all_cons]
      refine Ev.step (fun k => by rw [spec_NarrowOnce.l0]) ?_
      refine Ev.ifpos (by omega) (Ev.ifpos (by omega) ?_)
      rw [rdBd x i hi, wrap_succ (by omega)]
      refine Ev.bind0 (spec_isI _ _) ?_
      unfold okBound at ih ⊢
      by_cases h1 : isI x[i].f0 x[i].f1 = true
      · refine Ev.ifpos h1 ?_
        by_cases h2 : x[i].f0 < 0
        · rw [if_neg (by simp; omega)]
          exact Ev.ifpos h2 (Ev.now _)
        · refine Ev.ifneg h2 ?_
          have e : (isI x[i].f0 x[i].f1 && decide (0 ≤ x[i].f0)) = true := by rw [h1, decide_eq_true (by omega)]; rfl
          rw [e, Bool.true_and]
          exact ih
      · rw [if_neg (by simp [h1])]
        exact Ev.ifneg h1 (Ev.now _)
  · rw [if_neg (fun h => hb h.1)]
    exact Ev.ifneg hb (Ev.now _)

theorem impl_narrowOnce (m : List (List Int)) (l x : List Iv) (hm : m.length ≤ 1048576) (hx : x.length ≤ 1048576) : Ev (fun k => impl_NarrowOnce.f k m l x) (narrowOnce m l x) := by
  unfold impl_NarrowOnce.f narrowOnce
  refine Ev.bind (impl_areBounds m l (x.length : Int) (by omega)) ?_
  have hbad : ∀ r : List Iv × Bool, r = ([], false) → Ev (fun k => impl_NarrowOnce.j0 k m l x true) r := fun r hr => by
    refine Ev.step (fun k => by rw [impl_NarrowOnce.j0]) ?_
    exact Ev.ifpos rfl (Ev.pure hr.symm)
  by_cases hb : areBounds m l (x.length : Int) = true
  · have hg := good10 hb
    refine Ev.ifpos hb (Ev.bind0 rfl ?_)
    rw [isBad_all]
    by_cases h : x.all okBound = true
    · rw [if_pos ⟨hb, h⟩, h]
      refine Ev.step (fun k => by rw [impl_NarrowOnce.j0]) ?_
      refine Ev.ifneg (by decide) (Ev.bind0 (a := x) ?_ (impl_rows hg 0 x (Nat.zero_le _) rfl))
      unfold slices_Clone_SInterval.f
      rw [if_pos (by omega)]
    · rw [if_neg (fun q => h q.2), Bool.eq_false_iff.2 h]
      exact hbad _ rfl
  · rw [if_neg (fun h => hb h.1)]
    exact Ev.ifneg hb (hbad _ rfl)

theorem rowFrom_length (N : Nat) (row : List Int) (y : Iv) : ∀ (q : List Nat) (x : List Iv) (z : List Iv), q.foldl (colStep row y) (some x) = some z → z.length = x.length
  | [], x, z, h => by rw [List.foldl_nil] at h; cases h; rfl
  | c :: q, x, z, h => by
    rw [List.foldl_cons] at h
    unfold colStep at h
    rw [Option.bind_some] at h
    split at h
    · exact rowFrom_length N row y q x z h
    · split at h
      · rw [show q.foldl _ none = none from foldl_none _ (fun _ => rfl) q] at h; cases h
      · have := rowFrom_length N row y q _ z h
        rwa [List.length_set] at this

theorem rowsFrom_length (N : Nat) (m : List (List Int)) (l : List Iv) : ∀ (q : List Nat) (x : List Iv) (z : List Iv), q.foldl (rowStep N m l) (some x) = some z → z.length = x.length
  | [], x, z, h => by rw [List.foldl_nil] at h; cases h; rfl
  | i :: q, x, z, h => by
    rw [List.foldl_cons] at h
    cases e : rowStep N m l (some x) i with
    | none => rw [e, show q.foldl _ none = none from foldl_none _ (fun _ => rowFrom_none _ _ _ _) q] at h; cases h
    | some v =>
      rw [e] at h
      rw [rowsFrom_length N m l q v z h]
      exact rowFrom_length N _ _ _ x v e

theorem narrowOnce_length (m : List (List Int)) (l x : List Iv) : (narrowOnce m l x).1.length ≤ x.length := by
  unfold narrowOnce
  split
  · unfold outN rowsFrom
    cases e : ((List.range m.length).drop 0).foldl (rowStep x.length m l) (some x) with
    | none => simp
    | some z => exact Nat.le_of_eq (rowsFrom_length _ _ _ _ x z e)
  · simp

end Go.Proofs.Ytgmdicckecjncaa.Pure
/- Plain lemma: the bounds that one starts from. No condition. -/
namespace Go.Proofs.Ytgmdicckecjncaa.Pure
open Go.RowKit Go.Proofs.Ytgmdicckecjncaa.Z Go.Proofs.YtgmdicckecjncaaW.PrintWords

def startB (a : Int) : List S60 := if 1 ≤ a ∧ a ≤ 6 then List.replicate a.toNat ⟨0, 100000⟩ else []
theorem startB_len (a : Int) : (startB a).length ≤ 6 := by
  unfold startB
  split
  · rw [List.length_replicate]; omega
  · simp

theorem spec_startBounds (a : Int) : Ev (fun k => spec_StartBounds.f k a) (startB a) := by
  unfold spec_StartBounds.f startB
  by_cases h : 1 ≤ a ∧ a ≤ 6
  · rw [if_pos h]
    obtain ⟨c, rfl⟩ : ∃ c : Nat, a = (c : Int) := ⟨a.toNat, by omega⟩
    rw [Int.toNat_natCast]
    refine Ev.up c (fun i (out : List S60) k => spec_StartBounds.l0 k (c : Int) out (i : Int)) (fun _ _ => List.replicate c ⟨0, 100000⟩) (fun i out => out = List.replicate i ⟨0, 100000⟩) ?_ ?_ 0 [] (Nat.zero_le _) rfl
    · intro out ho
      refine Ev.step (fun k => by rw [spec_StartBounds.l0]) ?_
      exact Ev.ifneg (by omega) (Ev.pure ho)
    · intro i out hi ho ih
      refine Ev.step (fun k => by rw [spec_StartBounds.l0]) ?_
      rw [wrap_succ (by omega)]
      have hl : out.length = i := by rw [ho, List.length_replicate]
      exact Ev.ifpos (by omega) (Ev.ifpos (by omega) (Ev.ifpos (by omega) (ih _ (by rw [ho, List.replicate_succ']))))
  · rw [if_neg h]
    refine Ev.step (fun k => by rw [spec_StartBounds.l0]) ?_
    by_cases h0 : 0 < a
    · exact Ev.ifpos h0 (Ev.ifneg (by omega) (Ev.now _))
    · exact Ev.ifneg h0 (Ev.now _)

theorem impl_startBounds (a : Int) : impl_StartBounds.f a = some (startB a) := by
  unfold impl_StartBounds.f impl_InRange.f startB
  by_cases h1 : 1 ≤ a
  · by_cases h2 : a ≤ 6
    · rw [if_pos h1, if_pos ⟨h1, h2⟩, decide_eq_true h2, Option.bind_some, if_pos rfl]
      unfold slices_Repeat_SInterval.f
      rw [if_pos ⟨rfl, h1, h2⟩]
      rfl
    · rw [if_pos h1, if_neg (fun h => h2 h.2), decide_eq_false h2, Option.bind_some, if_neg (by decide)]
  · rw [if_neg h1, if_neg (fun h => h1 h.1), Option.bind_some, if_neg (by decide)]

end Go.Proofs.Ytgmdicckecjncaa.Pure
/- Plain lemma: what the reference's and the program's NarrowAll answer. Condition: the lists are not longer than the law's can be. -/
namespace Go.Proofs.Ytgmdicckecjncaa.Pure
open Go.RowKit Go.Proofs.Ytgmdicckecjncaa.Z Go.Proofs.YtgmdicckecjncaaW.PrintWords

def sameIv (a b : Iv) : Bool := a.f0 == b.f0 && a.f1 == b.f1
theorem sameIv_iff (a b : Iv) : sameIv a b = true ↔ a = b := by
  unfold sameIv
  cases a; cases b
  simp
def same : List Iv → List Iv → Bool
  | [], [] => true
  | a :: x, b :: y => sameIv a b && same x y
  | _, _ => false
theorem same_iff : ∀ x y : List Iv, same x y = true ↔ x = y
  | [], [] => by simp [same]
  | [], _ :: _ => by simp [same]
  | _ :: _, [] => by simp [same]
  | a :: x, b :: y => by
    rw [same, Bool.and_eq_true, sameIv_iff, same_iff x y, List.cons.injEq]
theorem same_symm (x y : List Iv) : same x y = same y x := by
  rw [Bool.eq_iff_iff, same_iff, same_iff]
  exact eq_comm
theorem same_len {x y : List Iv} (h : x.length ≠ y.length) : same x y = false := by
  rw [← Bool.not_eq_true, same_iff]
  exact fun e => h (by rw [e])

theorem same_loop (x y : List Iv) (hl : x.length = y.length) (G : Nat → Nat → Option Bool) (hend : Ev (G x.length) true) (hstep : ∀ i (hi : i < x.length) (hj : i < y.length), ∀ r, Ev (G (i + 1)) r → Ev (G i) (sameIv x[i] y[i] && r)) : Ev (G 0) (same x y) := by
  refine Ev.up0 x.length G (fun i => same (x.drop i) (y.drop i)) ?_ ?_ 0 (Nat.zero_le _)
  · rw [List.drop_of_length_le (Nat.le_refl _), List.drop_of_length_le (by omega)]
    exact hend
  · intro i hi ih
    rw [drop_get x i hi, drop_get y i (by omega), same]
    exact hstep i hi (by omega) _ ih

theorem same_test {a b : Iv} {f g : Nat → Option Bool} {r : Bool} (hf : Ev f false) (hg : Ev g r) : Ev (fun k => if (!(a.f0 == b.f0) || (!(a.f1 == b.f1))) = true then f k else g k) (sameIv a b && r) := by
  unfold sameIv
  by_cases h : (a.f0 == b.f0 && a.f1 == b.f1) = true
  · rw [h, Bool.true_and]
    refine Ev.ifneg ?_ hg
    rw [Bool.and_eq_true] at h
    rw [h.1, h.2]
    decide
  · have h2 : (a.f0 == b.f0 && a.f1 == b.f1) = false := Bool.eq_false_iff.2 h
    rw [h2, Bool.false_and]
    refine Ev.ifpos ?_ hf
    revert h2
    cases a.f0 == b.f0 <;> cases a.f1 == b.f1 <;> decide

theorem spec_same (x y : List Iv) (hx : x.length ≤ 1048576) : Ev (fun k => spec_l10Same.f k x y) (same x y) := by
  unfold spec_l10Same.f
  by_cases hl : x.length = y.length
  · refine Ev.ifpos (by omega) (same_loop x y hl (fun i k => spec_l10Same.l0 k x y (i : Int)) ?_ ?_)
    · refine Ev.step (fun k => by rw [spec_l10Same.l0]) ?_
      exact Ev.ifneg (by omega) (Ev.now _)
    · intro i hi hj r hr
      refine Ev.step (fun k => by rw [spec_l10Same.l0]) ?_
      rw [wrap_succ (by omega), show rd_T60 x (i : Int) = x[i] from getD_get x i _ hi, show rd_T60 y (i : Int) = y[i] from getD_get y i _ hj]
      exact Ev.ifpos (by omega) (Ev.ifpos (by omega) (Ev.ifpos (by omega) (same_test (Ev.now _) hr)))
  · rw [same_len hl]
    exact Ev.ifneg (by omega) (Ev.now _)

theorem impl_same (x y : List Iv) (hx : x.length ≤ 1048576) : Ev (fun k => slices_Equal_SInterval.f k x y) (same x y) := by
  unfold slices_Equal_SInterval.f
  by_cases hl : x.length = y.length
  · refine Ev.ifpos (by omega) (same_loop x y hl (fun i k => slices_Equal_SInterval.l0 k x y (x.length : Int) (i : Int)) ?_ ?_)
    · refine Ev.step (fun k => by rw [slices_Equal_SInterval.l0]) ?_
      exact Ev.ifneg (by omega) (Ev.now _)
    · intro i hi hj r hr
      refine Ev.step (fun k => by rw [slices_Equal_SInterval.l0]) ?_
      rw [wrap_succ (by omega), show rd_T60 x (i : Int) = x[i] from getD_get x i _ hi, show rd_T60 y (i : Int) = y[i] from getD_get y i _ hj]
      exact Ev.ifpos (by omega) (Ev.ifpos (by omega) (Ev.ifpos (by omega) (Ev.ifpos (by omega) (same_test (Ev.now _) hr))))
  · rw [same_len hl]
    exact Ev.ifneg (by omega) (Ev.now _)

def narrowFrom (m : List (List Int)) (l : List Iv) : Nat → List Iv → List Iv × Bool
  | 0, x => (x, true)
  | d + 1, x => if (narrowOnce m l x).2 = true then (if same x (narrowOnce m l x).1 = true then (x, true) else narrowFrom m l d (narrowOnce m l x).1) else ([], false)
def narrowAll (m : List (List Int)) (l : List Iv) (a : Int) : List Iv × Bool := if areBounds m l a = true then narrowFrom m l 20 (startB a) else ([], false)

theorem narrowFrom_length (m : List (List Int)) (l : List Iv) : ∀ (d : Nat) (x : List Iv), (narrowFrom m l d x).1.length ≤ x.length
  | 0, x => Nat.le_refl _
  | d + 1, x => by
    rw [narrowFrom]
    have h := narrowOnce_length m l x
    split
    · split
      · exact Nat.le_refl _
      · have := narrowFrom_length m l d (narrowOnce m l x).1
        omega
    · simp
theorem narrowAll_length (m : List (List Int)) (l : List Iv) (a : Int) : (narrowAll m l a).1.length ≤ 6 := by
  unfold narrowAll
  split
  · have := narrowFrom_length m l 20 (startB a)
    have := startB_len a
    omega
  · simp

section
variable (m : List (List Int)) (l : List Iv) (hm : m.length ≤ 1048576) (hr : ∀ r ∈ m, r.length ≤ 1048576) (hl : l.length ≤ 1048576)
include hm hr hl

theorem spec_narrowFrom : ∀ (d i : Nat) (x : List Iv), i + d = 20 → x.length ≤ 6 → Ev (fun k => spec_NarrowAll.l0 k m l x (i : Int)) (narrowFrom m l d x) := by
  intro d
  induction d with
  | zero =>
    intro i x hi hx
    refine Ev.step (fun k => by rw [spec_NarrowAll.l0]) ?_
    exact Ev.ifneg (by omega) (Ev.now _)
  | succ d ih =>
    intro i x hi hx
    have hlen := narrowOnce_length m l x
    rw [narrowFrom]
    refine Ev.step (fun k => by rw [spec_NarrowAll.l0]) ?_
    rw [wrap_succ (by omega)]
    refine Ev.ifpos (by omega) (Ev.bind (spec_narrowOnce m l x hm hr hl (by omega)) ?_)
    by_cases h : (narrowOnce m l x).2 = true
    · rw [if_pos h]
      refine Ev.ifpos h (Ev.bind (spec_same x (narrowOnce m l x).1 (by omega)) ?_)
      by_cases h2 : same x (narrowOnce m l x).1 = true
      · rw [if_pos h2]
        exact Ev.ifpos h2 (Ev.pure (by rw [← (same_iff _ _).1 h2]))
      · rw [if_neg h2]
        exact Ev.ifneg h2 (ih (i + 1) _ (by omega) (by omega))
    · rw [if_neg h]
      exact Ev.ifneg h (Ev.now _)

theorem spec_narrowAll (a : Int) : Ev (fun k => spec_NarrowAll.f k m l a) (narrowAll m l a) := by
  unfold spec_NarrowAll.f narrowAll
  refine Ev.bind (spec_areBounds m l a (by omega) (fun r h => by have := hr r h; omega) (by omega)) ?_
  by_cases hb : areBounds m l a = true
  · rw [if_pos hb]
    exact Ev.ifpos hb (Ev.bind (spec_startBounds a) (spec_narrowFrom m l hm hr hl 20 0 _ rfl (startB_len a)))
  · rw [if_neg hb]
    exact Ev.ifneg hb (Ev.now _)

end

theorem impl_narrowFrom (m : List (List Int)) (l : List Iv) (hm : m.length ≤ 1048576) : ∀ (d i : Nat) (x : List Iv), i + d = 20 → x.length ≤ 6 → Ev (fun k => impl_NarrowAll.l0 k m l x (i : Int)) (narrowFrom m l d x) := by
  intro d
  induction d with
  | zero =>
    intro i x hi hx
    refine Ev.step (fun k => by rw [impl_NarrowAll.l0]) ?_
    exact Ev.ifneg (by omega) (Ev.now _)
  | succ d ih =>
    intro i x hi hx
    have hlen := narrowOnce_length m l x
    rw [narrowFrom]
    refine Ev.step (fun k => by rw [impl_NarrowAll.l0]) ?_
    rw [wrap_succ (by omega)]
    refine Ev.ifpos (by omega) (Ev.bind (impl_narrowOnce m l x hm (by omega)) ?_)
    by_cases h : (narrowOnce m l x).2 = true
    · rw [if_pos h]
      refine Ev.ifpos h (Ev.bind (impl_same (narrowOnce m l x).1 x (by omega)) ?_)
      rw [same_symm]
      by_cases h2 : same x (narrowOnce m l x).1 = true
      · rw [if_pos h2]
        exact Ev.ifpos h2 (Ev.now _)
      · rw [if_neg h2]
        exact Ev.ifneg h2 (ih (i + 1) _ (by omega) (by omega))
    · rw [if_neg h]
      exact Ev.ifneg h (Ev.now _)

theorem impl_narrowAll (m : List (List Int)) (l : List Iv) (hm : m.length ≤ 1048576) (a : Int) : Ev (fun k => impl_NarrowAll.f k m l a) (narrowAll m l a) := by
  unfold impl_NarrowAll.f narrowAll
  refine Ev.bind (impl_areBounds m l a (by omega)) ?_
  by_cases hb : areBounds m l a = true
  · rw [if_pos hb]
    exact Ev.ifpos hb (Ev.bind0 (impl_startBounds a) (impl_narrowFrom m l hm 20 0 _ rfl (startB_len a)))
  · rw [if_neg hb]
    exact Ev.ifneg hb (Ev.now _)

end Go.Proofs.Ytgmdicckecjncaa.Pure
/- Plain lemmas: marks of numbers; the middle of a list. Condition: the numbers fit. -/
namespace Go.Proofs.Ytgmdicckecjncaa.Pure
open Go.RowKit Go.Proofs.Ytgmdicckecjncaa.Z Go.Proofs.YtgmdicckecjncaaW.PrintWords

theorem pm_IntS (l : List Int) (m : Int) (h0 : 0 ≤ m) (h1 : m + ((1 * l.length : Nat) : Int) ≤ 4611686018427387904) : Ev (fun k => laws_markIntS.f k l m) (m + ((1 * l.length : Nat) : Int), marked 1 (fun m => m) m l.length) := by
  unfold laws_markIntS.f
  refine mark_loop 1 (fun m => m) l.length (fun i s m k => laws_markIntS.l0 k s m (i : Int)) ?_ ?_ l m rfl h0 h1
  · intro s m hs
    refine Ev.step (fun k => by rw [laws_markIntS.l0]) ?_
    exact Ev.ifneg (by omega) (Ev.now _)
  · intro i s m r hi hs h0 h1 hr
    refine Ev.step (fun k => by rw [laws_markIntS.l0]) ?_
    refine Ev.ifpos (by omega) (Ev.ifpos (by omega) ?_)
    rw [wrap_succ (by omega), wrap_in (by omega) (by omega), Int.toNat_natCast]
    exact hr

theorem getD_mid {α : Type} (a : List α) (x z : α) (b : List α) : (a ++ x :: b).getD ((a.length : Int)).toNat z = x := by
  rw [Int.toNat_natCast, List.getD_eq_getElem?_getD, List.getElem?_append_right (Nat.le_refl _), Nat.sub_self]
  rfl
theorem set_mid {α : Type} (a : List α) (x y : α) (b : List α) : (a ++ x :: b).set ((a.length : Int)).toNat y = (a ++ [y]) ++ b := by
  rw [Int.toNat_natCast, List.set_append_right _ _ (Nat.le_refl _), Nat.sub_self, List.set_cons_zero, List.append_assoc]
  rfl

end Go.Proofs.Ytgmdicckecjncaa.Pure
/- Plain lemmas: marks of rows of rows. Condition: the numbers fit. -/
namespace Go.Proofs.Ytgmdicckecjncaa.Pure
open Go.RowKit Go.Proofs.Ytgmdicckecjncaa.Z Go.Proofs.YtgmdicckecjncaaW.PrintWords

/-- How many numbers there are in all rows. -/
def tot : List (List Int) → Nat
  | [] => 0
  | r :: rs => r.length + tot rs
/-- What the marks leave. -/
def markSS : Int → List (List Int) → List (List Int)
  | _, [] => []
  | m, r :: rs => marked 1 (fun m => m) m r.length :: markSS (m + (r.length : Int)) rs
theorem markSS_length : ∀ (m : Int) (l : List (List Int)), (markSS m l).length = l.length
  | _, [] => rfl
  | m, r :: rs => by rw [markSS, List.length_cons, markSS_length, List.length_cons]

theorem mark_SS_from : ∀ (l done : List (List Int)) (m : Int), 0 ≤ m → m + (tot l : Int) ≤ 4611686018427387904 → done.length + l.length ≤ 4611686018427387904 → Ev (fun k => laws_markIntSS.l0 k (done ++ l) m (done.length : Int)) (m + (tot l : Int), done ++ markSS m l)
  | [], done, m, h0, h1, h2 => by
    rw [List.append_nil, markSS, List.append_nil, tot]
    refine Ev.step (fun k => by rw [laws_markIntSS.l0]) ?_
    exact Ev.ifneg (by omega) (Ev.pure (by simp))
  | r :: rs, done, m, h0, h1, h2 => by
    rw [tot] at h1
    rw [List.length_cons] at h2
    have hl : (done ++ r :: rs).length = done.length + rs.length + 1 := by simp; omega
    refine Ev.step (fun k => by rw [laws_markIntSS.l0]) ?_
    refine Ev.ifpos (by omega) (Ev.ifpos (by omega) ?_)
    rw [getD_mid]
    refine Ev.bind (pm_IntS r m h0 (by omega)) ?_
    rw [set_mid, wrap_succ (by omega)]
    have ih := mark_SS_from rs (done ++ [marked 1 (fun m => m) m r.length]) (m + (r.length : Int)) (by omega) (by omega) (by rw [List.length_append, List.length_singleton]; omega)
    rw [List.length_append, List.length_singleton] at ih
    rw [markSS, tot]
    have e1 : m + ((1 * r.length : Nat) : Int) = m + (r.length : Int) := by omega
    have e2 : m + (r.length : Int) + (tot rs : Int) = m + ((r.length + tot rs : Nat) : Int) := by omega
    rw [e2] at ih
    simp only [List.append_assoc, List.singleton_append] at ih
    simp only [e1]
    rw [List.append_assoc, List.singleton_append]
    exact ih

theorem mark_IntSS (l : List (List Int)) (m : Int) (h0 : 0 ≤ m) (h1 : m + (tot l : Int) ≤ 4611686018427387904) (h2 : l.length ≤ 4611686018427387904) : Ev (fun k => laws_markIntSS.f k l m) (m + (tot l : Int), markSS m l) := by
  unfold laws_markIntSS.f
  have := mark_SS_from l [] m h0 h1 (by simpa using h2)
  simpa using this

theorem tot_le (n : Nat) : ∀ l : List (List Int), (∀ r ∈ l, r.length ≤ n) → tot l ≤ n * l.length
  | [], _ => Nat.zero_le _
  | r :: rs, h => by
    have := tot_le n rs (fun x hx => h x (List.mem_cons_of_mem _ hx))
    have := h r (List.mem_cons_self ..)
    rw [tot, List.length_cons, Nat.mul_succ]
    omega

end Go.Proofs.Ytgmdicckecjncaa.Pure
namespace Go.Proofs.Ytgmdicckecjncaa.Pure
open Go.RowKit Go.Proofs.Ytgmdicckecjncaa.Z Go.Proofs.YtgmdicckecjncaaW.PrintWords

theorem FnExactNarrowAll : laws_FnExactNarrowAll.Pure := by
  intro m b a hm hb _
  refine Ev.rounds ?_
  unfold laws_FnExactNarrowAll.f
  obtain ⟨z, hz, hz2⟩ := sz_IntSS m hm.1 (fun x hx => (hm.2 x hx).1) 1048576 (by omega) (by omega)
  by_cases hn : z < 0
  · exact Ev.bind hz (Ev.ifpos hn (Ev.now _))
  have hsm := hz2 (by omega)
  obtain ⟨y, hy, hy2⟩ := sz_IntervalS b hb.1 z (by omega) (by omega)
  by_cases hn2 : y < 0
  · exact Ev.bind hz (Ev.ifneg hn (Ev.bind0 hy (Ev.ifpos hn2 (Ev.now _))))
  have hsb := hy2 (by omega)
  have tm := to_IntSS m hsm.2
  have tb := to_IntervalS b hsb.2
  have hml := hsm.2.1
  have hmr : ∀ r ∈ m, r.length ≤ 1048576 := fun r hr => (hsm.2.2 r hr).1
  have hbl : (b.map c80_60).length ≤ 1048576 := by simpa using hsb.2.1
  have em := eq_IntSS m hsm.2
  have eb := eq_IntervalS (b.map c80_60) (by unfold maxLen; omega)
  generalize b.map c80_60 = p at *
  have h1 := spec_narrowAll m p hml hmr hbl a
  have h2 := impl_narrowAll m p hml a
  have hr := narrowAll_length m p a
  generalize narrowAll m p a = r at *
  have er := eq_IntervalS r.1 (by unfold maxLen; omega)
  have htl := tot_le 1048576 m hmr
  have hb1 : tot m ≤ 1048576 * 1048576 := Nat.le_trans htl (Nat.mul_le_mul_left _ hml)
  have mm := mark_IntSS m 1 (by omega) (by omega) (by omega)
  have mp := mark_IntervalS p (1 + (tot m : Int)) (by omega) (by omega)
  have mr := mark_IntervalS r.1 1 (by omega) (by omega)
  have hr' := held_IntervalS r.1.length 1 (by omega) (by omega)
  refine Ev.bind hz (Ev.ifneg hn (Ev.bind0 hy (Ev.ifneg hn2 ?_)))
  refine Ev.bind tm (Ev.bind tb (Ev.bind h1 (Ev.bind tm (Ev.bind tb (Ev.bind h2 (Ev.bind er (Ev.ifpos rfl (Ev.ifpos rfl ?_))))))))
  refine Ev.bind tm (Ev.bind em (Ev.ifpos rfl (Ev.bind tb (Ev.bind eb (Ev.ifpos rfl ?_)))))
  refine Ev.bind mm (Ev.bind mp (Ev.ifneg (by simp only []; omega) (Ev.bind er (Ev.ifpos rfl (Ev.ifpos rfl ?_)))))
  refine Ev.bind mr (Ev.bind hr' (Ev.ifneg (by omega) (Ev.ifpos rfl ?_)))
  exact Ev.bind tm (Ev.bind tb (Ev.bind h2 (Ev.bind er (Ev.ifpos rfl (Ev.ifpos rfl (Ev.bind hr' (Ev.ifneg (by omega) (Ev.ifpos rfl (Ev.now _)))))))))

end Go.Proofs.Ytgmdicckecjncaa.Pure
