/- The statement: at every bytes, the bounds' laws hold: delays that a measurement allows are never cut off, and narrowing again stays within. No condition. -/
import Derived.Test.YtgmdicckecjncaaPBase
import Derived.Test.YtgmdicckecjncaaZ9
import Derived.Test.YtgmdicckecjncaaZ2
import Derived.Test.YtgmdicckecjncaaPFirst
import Derived.Test.YtgmdicckecjncaaPAllIn
import Derived.Test.YtgmdicckecjncaaZ6
import Derived.Test.YtgmdicckecjncaaZ11
import Derived.Test.YtgmdicckecjncaaZ8
import Derived.Test.YtgmdicckecjncaaZ12
import Derived.Test.YtgmdicckecjncaaZ14
import Derived.Test.YtgmdicckecjncaaZ0
import Derived.Test.YtgmdicckecjncaaZ16
import Derived.Test.YtgmdicckecjncaaZ15
import Derived.Test.YtgmdicckecjncaaZDefFnBounds
/- Plain lemma: a loop that goes on while the elements are well. No condition. -/
namespace Go.Proofs.Ytgmdicckecjncaa.Pure
open Go.RowKit Go.Proofs.YtgmdicckecjncaaW.PrintWords

theorem all_step {α : Type} (p : α → Bool) (xs : List α) (G : Nat → Nat → Option Bool) (r0 : Bool) (hend : Ev (G xs.length) r0) (hstep : ∀ i (hi : i < xs.length) r, Ev (G (i + 1)) r → Ev (G i) (p xs[i] && r)) : Ev (G 0) (xs.all p && r0) := by
  have key := Ev.up0 xs.length G (fun i => (xs.drop i).all p && r0)
    (by rw [List.drop_of_length_le (Nat.le_refl _)]; simpa using hend)
    (fun i hi ih => by
      rw [drop_get xs i hi, List.all_cons, Bool.and_assoc]
      exact hstep i hi _ ih) 0 (Nat.zero_le _)
  simpa using key

/-- The same over the places. -/
theorem all_places (n : Nat) (p : Nat → Bool) (G : Nat → Nat → Option Bool) (r0 : Bool) (hend : Ev (G n) r0) (hstep : ∀ i, i < n → ∀ r, Ev (G (i + 1)) r → Ev (G i) (p i && r)) : Ev (G 0) ((List.range n).all p && r0) := by
  refine all_step p (List.range n) G r0 (by rw [List.length_range]; exact hend) (fun i hi r hr => ?_)
  rw [List.getElem_range]
  exact hstep i (by simpa using hi) r hr

end Go.Proofs.Ytgmdicckecjncaa.Pure
/- Plain lemma: what the reference's range test answers. No condition. -/
namespace Go.Proofs.Ytgmdicckecjncaa.Pure
open Go.RowKit Go.Proofs.Ytgmdicckecjncaa.Z Go.Proofs.YtgmdicckecjncaaW.PrintWords

theorem spec_in (n a b : Int) : spec_l1In.f n a b = some (decide (a ≤ n ∧ n ≤ b)) := by
  unfold spec_l1In.f
  by_cases h : a ≤ n <;> simp [h]

end Go.Proofs.Ytgmdicckecjncaa.Pure
/- Plain lemmas: what the program's and the reference's IsInterval answer. No condition. -/
namespace Go.Proofs.Ytgmdicckecjncaa.Pure
open Go.RowKit Go.Proofs.Ytgmdicckecjncaa.Z Go.Proofs.YtgmdicckecjncaaW.PrintWords

/-- Is it an interval? -/
def isI (a b : Int) : Bool := decide (-100000 ≤ a ∧ a ≤ b ∧ b ≤ 100000)

theorem spec_isI (a b : Int) : spec_IsInterval.f a b = some (isI a b) := by
  unfold spec_IsInterval.f spec_l1In.f isI
  by_cases h1 : a ≤ b <;> by_cases h2 : -100000 ≤ a <;> by_cases h3 : b ≤ 100000 <;> by_cases h4 : a ≤ 100000 <;> by_cases h5 : -100000 ≤ b <;> first | omega | simp [h1, h2, h3, h4, h5]

theorem impl_isI (a b : Int) : impl_IsInterval.f a b = some (isI a b) := by
  unfold impl_IsInterval.f isI
  by_cases h1 : a ≤ b <;> by_cases h2 : -100000 ≤ a <;> by_cases h3 : b ≤ 100000 <;> first | omega | simp [h1, h2, h3]

end Go.Proofs.Ytgmdicckecjncaa.Pure
/- Plain lemmas: what the reference's and the program's IsMatrix and AreBounds answer. Condition: the lists are not longer than lists can be. -/
namespace Go.Proofs.Ytgmdicckecjncaa.Pure
open Go.RowKit Go.Proofs.Ytgmdicckecjncaa.Z Go.Proofs.YtgmdicckecjncaaW.PrintWords

def isRowOf (n : Int) (l : List Int) : Bool := decide ((l.length : Int) = n) && l.all fun x => decide (-2 ≤ x ∧ x ≤ 2)
def isMatrix (m : List (List Int)) (n : Int) : Bool := decide (1 ≤ n ∧ n ≤ 6) && (decide (m.length ≤ 12) && m.all (isRowOf n))
def isBitsRow (l : List Int) : Bool := l.all fun x => decide (0 ≤ x ∧ x ≤ 1)
def okBound (x : S60) : Bool := isI x.f0 x.f1 && decide (0 ≤ x.f0)
def areBounds (m : List (List Int)) (b : List S60) (n : Int) : Bool := m.all isBitsRow && (b.all okBound && (isMatrix m n && decide (b.length = m.length)))

theorem rdRow (m : List (List Int)) (i : Nat) (h : i < m.length) : rd_L1 m (i : Int) = m[i] := getD_get m i _ h

theorem spec_isMatrix (m : List (List Int)) (n : Int) (hm : m.length ≤ 9223372036854775806) : Ev (fun k => spec_IsMatrix.f k m n) (isMatrix m n) := by
  unfold spec_IsMatrix.f isMatrix
  refine Ev.bind0 (spec_in _ _ _) ?_
  by_cases h1 : 1 ≤ n ∧ n ≤ 6
  · rw [decide_eq_true h1]
    refine Ev.ifpos rfl ?_
    refine Ev.step (fun k => by rw [spec_IsMatrix.j0]) ?_
    by_cases h2 : m.length ≤ 12
    · rw [decide_eq_true h2]
      refine Ev.ifneg (by rw [decide_eq_true_iff]; omega) ?_
      have key := all_step (isRowOf n) m (fun i k => spec_IsMatrix.l0 k m n (i : Int)) true ?_ ?_
      · simpa using key
      · refine Ev.step (fun k => by rw [spec_IsMatrix.l0]) ?_
        exact Ev.ifneg (by omega) (Ev.now _)
      · intro i hi r hr
        refine Ev.step (fun k => by rw [spec_IsMatrix.l0]) ?_
        refine Ev.ifpos (by omega) (Ev.ifpos (by omega) ?_)
        rw [rdRow m i hi]
        unfold isRowOf
        by_cases h3 : (m[i].length : Int) = n
        · rw [decide_eq_true h3]
          refine Ev.ifpos h3 ?_
          have inner := all_step (fun x : Int => decide (-2 ≤ x ∧ x ≤ 2)) m[i] (fun j k => spec_IsMatrix.l1 k m n (i : Int) (j : Int)) r ?_ ?_
          · simpa using inner
          · refine Ev.step (fun k => by rw [spec_IsMatrix.l1]) ?_
            refine Ev.ifneg (by omega) ?_
            rw [wrap_succ (by omega)]
            exact hr
          · intro j hj q hq
            refine Ev.step (fun k => by rw [spec_IsMatrix.l1]) ?_
            rw [rdRow m i hi]
            refine Ev.ifpos (by omega) (Ev.ifpos (by omega) (Ev.ifpos (by omega) (Ev.ifpos (by omega) (Ev.ifpos (by omega) ?_))))
            rw [rd_get m[i] j hj, wrap_succ (by omega)]
            refine Ev.bind0 (spec_in _ _ _) ?_
            cases decide (-2 ≤ m[i][j] ∧ m[i][j] ≤ 2)
            · exact Ev.ifneg (by decide) (Ev.now _)
            · refine Ev.ifpos rfl ?_
              simpa using hq
        · rw [decide_eq_false h3]
          exact Ev.ifneg h3 (Ev.now _)
    · rw [decide_eq_false h2]
      exact Ev.ifpos (decide_eq_true (by omega)) (Ev.now _)
  · rw [decide_eq_false h1]
    refine Ev.ifneg (by decide) ?_
    refine Ev.step (fun k => by rw [spec_IsMatrix.j0]) ?_
    exact Ev.ifpos rfl (Ev.now _)

theorem in_range (n a b : Int) : impl_InRange.f n a b = some (decide (a ≤ n ∧ n ≤ b)) := by
  unfold impl_InRange.f
  by_cases h1 : a ≤ n <;> by_cases h2 : n ≤ b <;> simp [h1, h2] <;> omega

theorem impl_isMatrix (m : List (List Int)) (n : Int) (hm : m.length ≤ 9223372036854775806) : Ev (fun k => impl_IsMatrix.f k m n) (isMatrix m n) := by
  unfold impl_IsMatrix.f isMatrix
  refine Ev.bind0 (in_range _ _ _) ?_
  by_cases h1 : 1 ≤ n ∧ n ≤ 6
  · rw [decide_eq_true h1]
    refine Ev.ifpos rfl ?_
    refine Ev.step (fun k => by rw [impl_IsMatrix.j0]) ?_
    by_cases h2 : m.length ≤ 12
    · rw [decide_eq_true h2]
      refine Ev.ifneg (by rw [decide_eq_true_iff]; omega) ?_
      have key := all_step (isRowOf n) m (fun i k => impl_IsMatrix.l0 k n m (m.length : Int) (i : Int)) true ?_ ?_
      · simpa using key
      · refine Ev.step (fun k => by rw [impl_IsMatrix.l0]) ?_
        exact Ev.ifneg (by omega) (Ev.now _)
      · intro i hi r hr
        refine Ev.step (fun k => by rw [impl_IsMatrix.l0]) ?_
        refine Ev.ifpos (by omega) (Ev.ifpos (by omega) (Ev.ifpos (by omega) ?_))
        rw [rdRow m i hi]
        unfold isRowOf
        by_cases h3 : (m[i].length : Int) = n
        · rw [decide_eq_true h3]
          refine Ev.ifpos h3 (Ev.bind (impl_allIn m[i] (-2) 2 (by omega)) ?_)
          rw [wrap_succ (by omega)]
          cases m[i].all fun x => decide (-2 ≤ x ∧ x ≤ 2)
          · exact Ev.ifneg (by decide) (Ev.now _)
          · refine Ev.ifpos rfl ?_
            simpa using hr
        · rw [decide_eq_false h3]
          exact Ev.ifneg h3 (Ev.now _)
    · rw [decide_eq_false h2]
      exact Ev.ifpos (decide_eq_true (by omega)) (Ev.now _)
  · rw [decide_eq_false h1]
    refine Ev.ifneg (by decide) ?_
    refine Ev.step (fun k => by rw [impl_IsMatrix.j0]) ?_
    exact Ev.ifpos rfl (Ev.now _)

theorem rdBd (b : List S60) (i : Nat) (h : i < b.length) : rd_T60 b (i : Int) = b[i] := getD_get b i _ h

theorem spec_areBounds (m : List (List Int)) (b : List S60) (n : Int) (hm : m.length ≤ 9223372036854775806) (hr : ∀ x ∈ m, x.length ≤ 9223372036854775806) (hb : b.length ≤ 9223372036854775806) : Ev (fun k => spec_AreBounds.f k m b n) (areBounds m b n) := by
  unfold spec_AreBounds.f areBounds
  refine all_step isBitsRow m (fun i k => spec_AreBounds.l0 k m b n (i : Int)) _ ?_ ?_
  · refine Ev.step (fun k => by rw [spec_AreBounds.l0]) ?_
    refine Ev.ifneg (by omega) ?_
    refine all_step okBound b (fun i k => spec_AreBounds.l2 k m b n (i : Int)) _ ?_ ?_
    · refine Ev.step (fun k => by rw [spec_AreBounds.l2]) ?_
      refine Ev.ifneg (by omega) (Ev.bind (spec_isMatrix m n hm) ?_)
      cases isMatrix m n
      · exact Ev.ifneg (by decide) (Ev.now _)
      · refine Ev.ifpos rfl (Ev.pure ?_)
        rw [Bool.true_and]
        by_cases h : b.length = m.length
        · simp [h]
        · rw [decide_eq_false h, beq_eq_false_iff_ne]
          omega
    · intro i hi r hr
      refine Ev.step (fun k => by rw [spec_AreBounds.l2]) ?_
      refine Ev.ifpos (by omega) (Ev.ifpos (by omega) ?_)
      rw [rdBd b i hi]
      unfold okBound
      refine Ev.bind0 (spec_isI _ _) ?_
      cases isI b[i].f0 b[i].f1
      · exact Ev.ifneg (by decide) (Ev.now _)
      · refine Ev.ifpos rfl ?_
        by_cases h : b[i].f0 < 0
        · rw [decide_eq_false (show ¬ 0 ≤ b[i].f0 by omega)]
          exact Ev.ifpos h (Ev.now _)
        · rw [decide_eq_true (show 0 ≤ b[i].f0 by omega), wrap_succ (by omega)]
          refine Ev.ifneg h ?_
          simpa using hr
  · intro i hi r hr1
    refine Ev.step (fun k => by rw [spec_AreBounds.l0]) ?_
    refine Ev.ifpos (by omega) ?_
    have hlen := hr m[i] (List.getElem_mem hi)
    unfold isBitsRow
    refine all_step (fun x : Int => decide (0 ≤ x ∧ x ≤ 1)) m[i] (fun j k => spec_AreBounds.l1 k m b n (i : Int) (j : Int)) r ?_ ?_
    · refine Ev.step (fun k => by rw [spec_AreBounds.l1]) ?_
      rw [rdRow m i hi]
      refine Ev.ifpos (by omega) (Ev.ifpos (by omega) (Ev.ifneg (by omega) ?_))
      rw [wrap_succ (by omega)]
      exact hr1
    · intro j hj q hq
      refine Ev.step (fun k => by rw [spec_AreBounds.l1]) ?_
      rw [rdRow m i hi]
      refine Ev.ifpos (by omega) (Ev.ifpos (by omega) (Ev.ifpos (by omega) (Ev.ifpos (by omega) ?_)))
      rw [rd_get m[i] j hj, wrap_succ (by omega)]
      refine Ev.bind0 (spec_in _ _ _) ?_
      cases decide (0 ≤ m[i][j] ∧ m[i][j] ≤ 1)
      · exact Ev.ifneg (by decide) (Ev.now _)
      · refine Ev.ifpos rfl ?_
        simpa using hq

theorem notBits_all (m : List (List Int)) : (!(m.any notBits)) = m.all isBitsRow := by
  rw [List.all_eq_not_any_not]
  rfl

theorem isBad_all (b : List S60) : (!(b.any isBadI)) = b.all okBound := by
  rw [List.all_eq_not_any_not]
  rfl

theorem impl_areBounds (m : List (List Int)) (b : List S60) (n : Int) (hm : m.length ≤ 9223372036854775806) : Ev (fun k => impl_AreBounds.f k m b n) (areBounds m b n) := by
  unfold impl_AreBounds.f areBounds
  have hbits : Ev (fun k => impl_isBits.f k m n) (isMatrix m n && m.all isBitsRow) := by
    unfold impl_isBits.f
    rw [← notBits_all]
    exact Ev.bind (impl_isMatrix m n hm) (Ev.now _)
  refine Ev.bind hbits ?_
  have hg : impl_goodIntervals.f b = some (b.all okBound) := by
    unfold impl_goodIntervals.f
    rw [isBad_all]
  cases hA : isMatrix m n
  · exact Ev.ifneg (by simp) (Ev.pure (by simp))
  · cases hB : m.all isBitsRow
    · exact Ev.ifneg (by decide) (Ev.now _)
    · refine Ev.ifpos rfl ?_
      by_cases h : b.length = m.length
      · refine Ev.ifpos (by omega) (Ev.bind0 hg (Ev.pure ?_))
        simp [h]
      · refine Ev.ifneg (by omega) (Ev.pure ?_)
        simp [h]

end Go.Proofs.Ytgmdicckecjncaa.Pure
/- Plain lemma: what the reference's and the program's NarrowOnce answer. Condition: the lists are not longer than the law's can be. -/
namespace Go.Proofs.Ytgmdicckecjncaa.Pure
open Go.RowKit Go.Proofs.Ytgmdicckecjncaa.Z Go.Proofs.YtgmdicckecjncaaW.PrintWords Go.Proofs.YtgmdicckecjncaaW.PrintLast Go.Proofs.YtgmdicckecjncaaW.PrintMore

abbrev Iv := S60

/-- The sums of the other links' bounds, one link more. -/
def sumStep (row : List Int) (x : List Iv) (c : Nat) (s : Int × Int) (i : Nat) : Int × Int := if rd row (i : Int) = 1 ∧ i ≠ c then (wrap64 (s.1 + (rd_T60 x (i : Int)).f0), wrap64 (s.2 + (rd_T60 x (i : Int)).f1)) else s
def sumsFrom (row : List Int) (x : List Iv) (c i : Nat) (s : Int × Int) : Int × Int := ((List.range x.length).drop i).foldl (sumStep row x c) s
/-- A link's bounds by one row. -/
def newIv (row : List Int) (y : Iv) (x : List Iv) (c : Nat) : Iv := ⟨mx (rd_T60 x (c : Int)).f0 (wrap64 (y.f0 - (sumsFrom row x c 0 (0, 0)).2)), mn (rd_T60 x (c : Int)).f1 (wrap64 (y.f1 - (sumsFrom row x c 0 (0, 0)).1))⟩
def colStep (row : List Int) (y : Iv) (o : Option (List Iv)) (c : Nat) : Option (List Iv) := o.bind fun x => if rd row (c : Int) = 0 then some x else if (newIv row y x c).f0 > (newIv row y x c).f1 then none else some (x.set c (newIv row y x c))
def rowFrom (N : Nat) (row : List Int) (y : Iv) (c : Nat) (o : Option (List Iv)) : Option (List Iv) := ((List.range N).drop c).foldl (colStep row y) o
def rowStep (N : Nat) (m : List (List Int)) (l : List Iv) (o : Option (List Iv)) (i : Nat) : Option (List Iv) := rowFrom N (rd_L1 m (i : Int)) (rd_T60 l (i : Int)) 0 o
def rowsFrom (N : Nat) (m : List (List Int)) (l : List Iv) (i : Nat) (o : Option (List Iv)) : Option (List Iv) := ((List.range m.length).drop i).foldl (rowStep N m l) o
def outN (o : Option (List Iv)) : List Iv × Bool := match o with
  | none => ([], false)
  | some x => (x, true)
def narrowOnce (m : List (List Int)) (l x : List Iv) : List Iv × Bool := if areBounds m l (x.length : Int) = true ∧ x.all okBound = true then outN (rowsFrom x.length m l 0 (some x)) else ([], false)

theorem foldl_none {α β : Type} (f : Option α → β → Option α) (h : ∀ b, f none b = none) : ∀ l : List β, l.foldl f none = none
  | [] => rfl
  | b :: l => by rw [List.foldl_cons, h b, foldl_none f h l]
theorem rowFrom_none (N : Nat) (row : List Int) (y : Iv) (c : Nat) : rowFrom N row y c none = none := foldl_none _ (fun _ => rfl) _
theorem rowsFrom_none (N : Nat) (m : List (List Int)) (l : List Iv) (i : Nat) : rowsFrom N m l i none = none := foldl_none _ (fun _ => rowFrom_none _ _ _ _) _
theorem range_drop (N c : Nat) (h : c < N) : (List.range N).drop c = c :: (List.range N).drop (c + 1) := by
  rw [drop_get _ c (by simpa using h), List.getElem_range]
theorem rowFrom_step (N : Nat) (row : List Int) (y : Iv) (c : Nat) (o : Option (List Iv)) (h : c < N) : rowFrom N row y c o = rowFrom N row y (c + 1) (colStep row y o c) := by
  unfold rowFrom
  rw [range_drop N c h, List.foldl_cons]
theorem rowFrom_end (N : Nat) (row : List Int) (y : Iv) (o : Option (List Iv)) : rowFrom N row y N o = o := by
  unfold rowFrom
  rw [List.drop_of_length_le (by simp)]
  rfl
theorem rowsFrom_step (N : Nat) (m : List (List Int)) (l : List Iv) (i : Nat) (o : Option (List Iv)) (h : i < m.length) : rowsFrom N m l i o = rowsFrom N m l (i + 1) (rowStep N m l o i) := by
  unfold rowsFrom
  rw [range_drop _ i h, List.foldl_cons]
theorem rowsFrom_end (N : Nat) (m : List (List Int)) (l : List Iv) (o : Option (List Iv)) : rowsFrom N m l m.length o = o := by
  unfold rowsFrom
  rw [List.drop_of_length_le (by simp)]
  rfl
theorem sumsFrom_step (row : List Int) (x : List Iv) (c i : Nat) (s : Int × Int) (h : i < x.length) : sumsFrom row x c i s = sumsFrom row x c (i + 1) (sumStep row x c s i) := by
  unfold sumsFrom
  rw [range_drop _ i h, List.foldl_cons]
theorem sumsFrom_end (row : List Int) (x : List Iv) (c : Nat) (s : Int × Int) : sumsFrom row x c x.length s = s := by
  unfold sumsFrom
  rw [List.drop_of_length_le (by simp)]
  rfl
theorem set_rd (x : List Iv) (c : Nat) (v : Iv) (h : c < x.length) : rd_T60 (x.set (c : Int).toNat v) (c : Int) = v := by
  show (x.set (c : Int).toNat v).getD (c : Int).toNat _ = v
  rw [List.getD_eq_getElem?_getD, List.getElem?_set_self (by simpa using h)]
  rfl

theorem spec_max (a b : Int) : spec_Max.f a b = some (mx a b) := by
  unfold spec_Max.f mx
  by_cases h : a < b
  · rw [if_pos h, if_pos h]
  · rw [if_neg h, if_neg h]
theorem spec_min (a b : Int) : spec_Min.f a b = some (mn a b) := by
  unfold spec_Min.f mn
  by_cases h : b < a
  · rw [if_pos h, if_pos h]
  · rw [if_neg h, if_neg h]

theorem spec_narrow1 (row : List Int) (y : Iv) (x : List Iv) (c : Nat) (hc : c < x.length) (hr : row.length = x.length) (hx : x.length ≤ 6) : Ev (fun k => spec_l10Narrow.f k row y.f0 y.f1 x (c : Int)) ((newIv row y x c).f0, (newIv row y x c).f1) := by
  unfold spec_l10Narrow.f
  refine Ev.up x.length (fun i (s : Int × Int) k => spec_l10Narrow.l0 k row x (c : Int) s.1 s.2 (i : Int) y.f0 y.f1) (fun i s => (mx (rd_T60 x (c : Int)).f0 (wrap64 (y.f0 - (sumsFrom row x c i s).2)), mn (rd_T60 x (c : Int)).f1 (wrap64 (y.f1 - (sumsFrom row x c i s).1)))) (fun _ _ => True) ?_ ?_ 0 (0, 0) (Nat.zero_le _) trivial
  · intro s _
    rw [sumsFrom_end]
    refine Ev.step (fun k => by rw [spec_l10Narrow.l0]) ?_
    exact Ev.ifneg (by omega) (Ev.ifpos (by omega) (Ev.ifpos (by omega) (Ev.bind0 (spec_max _ _) (Ev.bind0 (spec_min _ _) (Ev.now _)))))
  · intro i s hi _ ih
    rw [sumsFrom_step row x c i s hi]
    have hn := ih (sumStep row x c s i) trivial
    unfold sumStep at hn
    refine Ev.step (fun k => by rw [spec_l10Narrow.l0]) ?_
    refine Ev.ifpos (by omega) ?_
    rw [wrap_succ (by omega)]
    by_cases h1 : i = c
    · rw [if_neg (fun h => h.2 h1)] at hn
      unfold sumStep
      rw [if_neg (fun h => h.2 h1)]
      exact Ev.ifpos (by omega) hn
    · refine Ev.ifneg (by omega) (Ev.ifpos (by omega) (Ev.ifpos (by omega) ?_))
      unfold sumStep
      by_cases h2 : rd row (i : Int) = 1
      · rw [if_pos ⟨h2, h1⟩] at hn ⊢
        exact Ev.ifpos h2 hn
      · rw [if_neg (fun h => h2 h.1)] at hn ⊢
        exact Ev.ifneg h2 hn

/-- What is known where the bounds are good. -/
structure Good10 (m : List (List Int)) (l : List Iv) (N : Nat) : Prop where
  n : 1 ≤ N ∧ N ≤ 6
  rows : ∀ i (h : i < m.length), m[i].length = N
  len : l.length = m.length
  few : m.length ≤ 12

theorem good10 {m : List (List Int)} {l : List Iv} {N : Nat} (h : areBounds m l (N : Int) = true) : Good10 m l N := by
  unfold areBounds isMatrix at h
  simp only [Bool.and_eq_true, decide_eq_true_eq, List.all_eq_true] at h
  obtain ⟨_, _, ⟨h1, h2, h3⟩, h4⟩ := h
  refine ⟨by omega, fun i hi => ?_, h4, h2⟩
  have := h3 m[i] (List.getElem_mem hi)
  unfold isRowOf at this
  simp only [Bool.and_eq_true, decide_eq_true_eq] at this
  omega

section
variable {m : List (List Int)} {l : List Iv} {N : Nat}

theorem spec_rows (hg : Good10 m l N) : ∀ (i : Nat) (x : List Iv), i ≤ m.length → x.length = N → Ev (fun k => spec_NarrowOnce.l1 k m l x (i : Int)) (outN (rowsFrom N m l i (some x))) := by
  have hn := hg.n
  have hf := hg.few
  have hlen := hg.len
  refine Ev.up m.length (fun i (x : List Iv) k => spec_NarrowOnce.l1 k m l x (i : Int)) (fun i x => outN (rowsFrom N m l i (some x))) (fun _ x => x.length = N) ?_ ?_
  · intro x _
    rw [rowsFrom_end]
    refine Ev.step (fun k => by rw [spec_NarrowOnce.l1]) ?_
    exact Ev.ifneg (by omega) (Ev.now _)
  · intro i x hi hx ih
    have hrow := hg.rows i hi
    have er : rd_L1 m (i : Int) = m[i] := getD_get m i _ hi
    rw [rowsFrom_step N m l i _ hi]
    refine Ev.step (fun k => by rw [spec_NarrowOnce.l1]) ?_
    refine Ev.ifpos (by omega) ?_
    refine Ev.up N (fun c (x : List Iv) k => spec_NarrowOnce.l2 k m l x (i : Int) (c : Int)) (fun c x => outN (rowsFrom N m l (i + 1) (rowFrom N (rd_L1 m (i : Int)) (rd_T60 l (i : Int)) c (some x)))) (fun _ x => x.length = N) ?_ ?_ 0 x (Nat.zero_le _) hx
    · intro x hx
      rw [rowFrom_end]
      refine Ev.step (fun k => by rw [spec_NarrowOnce.l2]) ?_
      refine Ev.ifneg (by omega) ?_
      rw [wrap_succ (by omega)]
      exact ih x hx
    · intro c x hc hx ih2
      rw [rowFrom_step _ _ _ _ _ hc]
      refine Ev.step (fun k => by rw [spec_NarrowOnce.l2]) ?_
      rw [er]
      refine Ev.ifpos (by omega) (Ev.ifpos (by omega) (Ev.ifpos (by omega) (Ev.ifpos (by omega) (Ev.ifpos (by omega) ?_))))
      rw [er] at ih2
      rw [wrap_succ (by omega)]
      unfold colStep
      rw [Option.bind_some]
      by_cases h0 : rd m[i] (c : Int) = 0
      · rw [if_pos h0]
        exact Ev.ifpos h0 (ih2 x hx)
      · rw [if_neg h0]
        refine Ev.ifneg h0 (Ev.ifpos (by omega) (Ev.bind (spec_narrow1 m[i] (rd_T60 l (i : Int)) x c (by omega) (by omega) (by omega)) ?_))
        by_cases h1 : (newIv m[i] (rd_T60 l (i : Int)) x c).f0 > (newIv m[i] (rd_T60 l (i : Int)) x c).f1
        · rw [if_pos h1, rowFrom_none, rowsFrom_none]
          exact Ev.ifpos h1 (Ev.now _)
        · rw [if_neg h1]
          refine Ev.ifneg h1 ?_
          rw [Int.toNat_natCast]
          exact ih2 _ (by simpa using hx)

theorem impl_sums (hg : Good10 m l N) (x : List Iv) (hx : x.length = N) (i c : Nat) (hi : i < m.length) (hc : c < N) (r : List Iv × Bool)
    (hbad : (newIv m[i] (rd_T60 l (i : Int)) x c).f0 > (newIv m[i] (rd_T60 l (i : Int)) x c).f1 → r = ([], false))
    (hok : ¬ (newIv m[i] (rd_T60 l (i : Int)) x c).f0 > (newIv m[i] (rd_T60 l (i : Int)) x c).f1 → Ev (fun k => impl_NarrowOnce.l1 k l (x.set c (newIv m[i] (rd_T60 l (i : Int)) x c)) (i : Int) m[i] m (m.length : Int) (i : Int) m[i] (m[i].length : Int) ((c + 1 : Nat) : Int)) r) :
    Ev (fun k => impl_NarrowOnce.l2 k l x (i : Int) m[i] (c : Int) m (m.length : Int) (i : Int) m[i] (m[i].length : Int) (c : Int) m[i] (m[i].length : Int) 0 0 0) r := by
  have hn := hg.n
  have hf := hg.few
  have hlen := hg.len
  have hrow := hg.rows i hi
  refine Ev.up N (fun j (s : Int × Int) k => impl_NarrowOnce.l2 k l x (i : Int) m[i] (c : Int) m (m.length : Int) (i : Int) m[i] (m[i].length : Int) (c : Int) m[i] (m[i].length : Int) (j : Int) s.1 s.2) (fun _ _ => r) (fun j s => sumsFrom m[i] x c j s = sumsFrom m[i] x c 0 (0, 0)) ?_ ?_ 0 (0, 0) (Nat.zero_le _) rfl
  · intro s hs
    rw [← hx, sumsFrom_end] at hs
    refine Ev.step (fun k => by rw [impl_NarrowOnce.l2]) ?_
    refine Ev.ifneg (by omega) (Ev.ifpos (by omega) (Ev.ifpos (by omega) (Ev.ifpos (by omega) (Ev.ifpos (by omega) (Ev.bind0 rfl ?_)))))
    rw [hs]
    have e : (⟨mx (rd_T60 x (c : Int)).f0 (wrap64 ((rd_T60 l (i : Int)).f0 - (sumsFrom m[i] x c 0 (0, 0)).2)), mn (rd_T60 x (c : Int)).f1 (wrap64 ((rd_T60 l (i : Int)).f1 - (sumsFrom m[i] x c 0 (0, 0)).1))⟩ : Iv) = newIv m[i] (rd_T60 l (i : Int)) x c := rfl
    rw [e, set_rd x c _ (by omega), wrap_succ (by omega), Int.toNat_natCast]
    by_cases h1 : (newIv m[i] (rd_T60 l (i : Int)) x c).f0 > (newIv m[i] (rd_T60 l (i : Int)) x c).f1
    · rw [hbad h1]
      exact Ev.ifpos h1 (Ev.now _)
    · exact Ev.ifneg h1 (hok h1)
  · intro j s hj hs ih
    rw [sumsFrom_step _ _ _ _ _ (by omega)] at hs
    have hn2 := ih _ hs
    refine Ev.step (fun k => by rw [impl_NarrowOnce.l2]) ?_
    refine Ev.ifpos (by omega) (Ev.ifpos (by omega) (Ev.ifpos (by omega) ?_))
    rw [wrap_succ (by omega)]
    unfold sumStep at hn2
    by_cases h2 : rd m[i] (j : Int) = 1
    · refine Ev.ifpos h2 ?_
      by_cases h1 : j = c
      · rw [if_neg (fun h => h.2 h1)] at hn2
        exact Ev.ifpos (by omega) hn2
      · rw [if_pos ⟨h2, h1⟩] at hn2
        exact Ev.ifneg (by omega) (Ev.ifpos (by omega) hn2)
    · rw [if_neg (fun h => h2 h.1)] at hn2
      exact Ev.ifneg h2 hn2

theorem impl_rows (hg : Good10 m l N) : ∀ (i : Nat) (x : List Iv), i ≤ m.length → x.length = N → Ev (fun k => impl_NarrowOnce.l0 k l x m (m.length : Int) (i : Int)) (outN (rowsFrom N m l i (some x))) := by
  have hn := hg.n
  have hf := hg.few
  have hlen := hg.len
  refine Ev.up m.length (fun i (x : List Iv) k => impl_NarrowOnce.l0 k l x m (m.length : Int) (i : Int)) (fun i x => outN (rowsFrom N m l i (some x))) (fun _ x => x.length = N) ?_ ?_
  · intro x _
    rw [rowsFrom_end]
    refine Ev.step (fun k => by rw [impl_NarrowOnce.l0]) ?_
    exact Ev.ifneg (by omega) (Ev.now _)
  · intro i x hi hx ih
    have hrow := hg.rows i hi
    have er : rd_L1 m (i : Int) = m[i] := getD_get m i _ hi
    rw [rowsFrom_step N m l i _ hi]
    refine Ev.step (fun k => by rw [impl_NarrowOnce.l0]) ?_
    refine Ev.ifpos (by omega) (Ev.ifpos (by omega) (Ev.ifpos (by omega) ?_))
    unfold rowStep
    rw [er]
    refine Ev.up N (fun c (x : List Iv) k => impl_NarrowOnce.l1 k l x (i : Int) m[i] m (m.length : Int) (i : Int) m[i] (m[i].length : Int) (c : Int)) (fun c x => outN (rowsFrom N m l (i + 1) (rowFrom N m[i] (rd_T60 l (i : Int)) c (some x)))) (fun _ x => x.length = N) ?_ ?_ 0 x (Nat.zero_le _) hx
    · intro x hx
      rw [rowFrom_end]
      refine Ev.step (fun k => by rw [impl_NarrowOnce.l1]) ?_
      refine Ev.ifneg (by omega) ?_
      rw [wrap_succ (by omega)]
      exact ih x hx
    · intro c x hc hx ih2
      rw [rowFrom_step _ _ _ _ _ hc]
      refine Ev.step (fun k => by rw [impl_NarrowOnce.l1]) ?_
      refine Ev.ifpos (by omega) (Ev.ifpos (by omega) (Ev.ifpos (by omega) ?_))
      unfold colStep
      rw [Option.bind_some]
      by_cases h0 : rd m[i] (c : Int) = 0
      · rw [if_pos h0, wrap_succ (by omega)]
        exact Ev.ifpos h0 (ih2 x hx)
      · rw [if_neg h0]
        refine Ev.ifneg h0 (impl_sums hg x hx i c hi hc _ (fun h1 => ?_) (fun h1 => ?_))
        · rw [if_pos h1, rowFrom_none, rowsFrom_none]
          rfl
        · rw [if_neg h1]
          exact ih2 _ (by simpa using hx)

end

theorem spec_narrowOnce (m : List (List Int)) (l x : List Iv) (hm : m.length ≤ 1048576) (hr : ∀ r ∈ m, r.length ≤ 1048576) (hl : l.length ≤ 1048576) (hx : x.length ≤ 1048576) : Ev (fun k => spec_NarrowOnce.f k m l x) (narrowOnce m l x) := by
  unfold spec_NarrowOnce.f narrowOnce
  refine Ev.bind (spec_areBounds m l (x.length : Int) (by omega) (fun r h => by have := hr r h; omega) (by omega)) ?_
  by_cases hb : areBounds m l (x.length : Int) = true
  · have hg := good10 hb
    refine Ev.ifpos hb (Ev.bind0 rfl (Ev.ifpos (by simp; omega) ?_))
    rw [List.nil_append]
    have key := Ev.up0 x.length (fun i k => spec_NarrowOnce.l0 k m l x x (i : Int)) (fun i => if (x.drop i).all okBound = true then outN (rowsFrom x.length m l 0 (some x)) else ([], false)) ?_ ?_ 0 (Nat.zero_le _)
    · rw [List.drop_zero] at key
      by_cases h : x.all okBound = true
      · rw [if_pos h] at key
        rw [if_pos ⟨hb, h⟩]
        exact key
      · rw [if_neg h] at key
        rw [if_neg (fun q => h q.2)]
        exact key
    · rw [List.drop_of_length_le (Nat.le_refl _), if_pos (by rfl)]
      refine Ev.step (fun k => by rw [spec_NarrowOnce.l0]) ?_
      exact Ev.ifneg (by omega) (spec_rows hg 0 x (Nat.zero_le _) rfl)
    · intro i hi ih
      rw [drop_get x i hi, List.all_cons]
      refine Ev.step (fun k => by rw [spec_NarrowOnce.l0]) ?_
      refine Ev.ifpos (by omega) (Ev.ifpos (by omega) ?_)
      rw [rdBd x i hi, wrap_succ (by omega)]
      refine Ev.bind0 (spec_isI _ _) ?_
      unfold okBound at ih ⊢
      by_cases h1 : isI x[i].f0 x[i].f1 = true
      · refine Ev.ifpos h1 ?_
        by_cases h2 : x[i].f0 < 0
        · rw [if_neg (by simp; omega)]
          exact Ev.ifpos h2 (Ev.now _)
        · refine Ev.ifneg h2 ?_
          have e : (isI x[i].f0 x[i].f1 && decide (0 ≤ x[i].f0)) = true := by rw [h1, decide_eq_true (by omega)]; rfl
          rw [e, Bool.true_and]
          exact ih
      · rw [if_neg (by simp [h1])]
        exact Ev.ifneg h1 (Ev.now _)
  · rw [if_neg (fun h => hb h.1)]
    exact Ev.ifneg hb (Ev.now _)

theorem impl_narrowOnce (m : List (List Int)) (l x : List Iv) (hm : m.length ≤ 1048576) (hx : x.length ≤ 1048576) : Ev (fun k => impl_NarrowOnce.f k m l x) (narrowOnce m l x) := by
  unfold impl_NarrowOnce.f narrowOnce
  refine Ev.bind (impl_areBounds m l (x.length : Int) (by omega)) ?_
  have hbad : ∀ r : List Iv × Bool, r = ([], false) → Ev (fun k => impl_NarrowOnce.j0 k m l x true) r := fun r hr => by
    refine Ev.step (fun k => by rw [impl_NarrowOnce.j0]) ?_
    exact Ev.ifpos rfl (Ev.pure hr.symm)
  by_cases hb : areBounds m l (x.length : Int) = true
  · have hg := good10 hb
    refine Ev.ifpos hb (Ev.bind0 rfl ?_)
    rw [isBad_all]
    by_cases h : x.all okBound = true
    · rw [if_pos ⟨hb, h⟩, h]
      refine Ev.step (fun k => by rw [impl_NarrowOnce.j0]) ?_
      refine Ev.ifneg (by decide) (Ev.bind0 (a := x) ?_ (impl_rows hg 0 x (Nat.zero_le _) rfl))
      unfold slices_Clone_SInterval.f
      rw [if_pos (by omega)]
    · rw [if_neg (fun q => h q.2), Bool.eq_false_iff.2 h]
      exact hbad _ rfl
  · rw [if_neg (fun h => hb h.1)]
    exact Ev.ifneg hb (hbad _ rfl)

theorem rowFrom_length (N : Nat) (row : List Int) (y : Iv) : ∀ (q : List Nat) (x : List Iv) (z : List Iv), q.foldl (colStep row y) (some x) = some z → z.length = x.length
  | [], x, z, h => by rw [List.foldl_nil] at h; cases h; rfl
  | c :: q, x, z, h => by
    rw [List.foldl_cons] at h
    unfold colStep at h
    rw [Option.bind_some] at h
    split at h
    · exact rowFrom_length N row y q x z h
    · split at h
      · rw [show q.foldl _ none = none from foldl_none _ (fun _ => rfl) q] at h; cases h
      · have := rowFrom_length N row y q _ z h
        rwa [List.length_set] at this

theorem rowsFrom_length (N : Nat) (m : List (List Int)) (l : List Iv) : ∀ (q : List Nat) (x : List Iv) (z : List Iv), q.foldl (rowStep N m l) (some x) = some z → z.length = x.length
  | [], x, z, h => by rw [List.foldl_nil] at h; cases h; rfl
  | i :: q, x, z, h => by
    rw [List.foldl_cons] at h
    cases e : rowStep N m l (some x) i with
    | none => rw [e, show q.foldl _ none = none from foldl_none _ (fun _ => rowFrom_none _ _ _ _) q] at h; cases h
    | some v =>
      rw [e] at h
      rw [rowsFrom_length N m l q v z h]
      exact rowFrom_length N _ _ _ x v e

theorem narrowOnce_length (m : List (List Int)) (l x : List Iv) : (narrowOnce m l x).1.length ≤ x.length := by
  unfold narrowOnce
  split
  · unfold outN rowsFrom
    cases e : ((List.range m.length).drop 0).foldl (rowStep x.length m l) (some x) with
    | none => simp
    | some z => exact Nat.le_of_eq (rowsFrom_length _ _ _ _ x z e)
  · simp

end Go.Proofs.Ytgmdicckecjncaa.Pure
/- Plain lemma: the bounds that one starts from. No condition. -/
namespace Go.Proofs.Ytgmdicckecjncaa.Pure
open Go.RowKit Go.Proofs.Ytgmdicckecjncaa.Z Go.Proofs.YtgmdicckecjncaaW.PrintWords

def startB (a : Int) : List S60 := if 1 ≤ a ∧ a ≤ 6 then List.replicate a.toNat ⟨0, 100000⟩ else []
theorem startB_len (a : Int) : (startB a).length ≤ 6 := by
  unfold startB
  split
  · rw [List.length_replicate]; omega
  · simp

theorem spec_startBounds (a : Int) : Ev (fun k => spec_StartBounds.f k a) (startB a) := by
  unfold spec_StartBounds.f startB
  by_cases h : 1 ≤ a ∧ a ≤ 6
  · rw [if_pos h]
    obtain ⟨c, rfl⟩ : ∃ c : Nat, a = (c : Int) := ⟨a.toNat, by omega⟩
    rw [Int.toNat_natCast]
    refine Ev.up c (fun i (out : List S60) k => spec_StartBounds.l0 k (c : Int) out (i : Int)) (fun _ _ => List.replicate c ⟨0, 100000⟩) (fun i out => out = List.replicate i ⟨0, 100000⟩) ?_ ?_ 0 [] (Nat.zero_le _) rfl
    · intro out ho
      refine Ev.step (fun k => by rw [spec_StartBounds.l0]) ?_
      exact Ev.ifneg (by omega) (Ev.pure ho)
    · intro i out hi ho ih
      refine Ev.step (fun k => by rw [spec_StartBounds.l0]) ?_
      rw [wrap_succ (by omega)]
      have hl : out.length = i := by rw [ho, List.length_replicate]
      exact Ev.ifpos (by omega) (Ev.ifpos (by omega) (Ev.ifpos (by omega) (ih _ (by rw [ho, List.replicate_succ']))))
  · rw [if_neg h]
    refine Ev.step (fun k => by rw [spec_StartBounds.l0]) ?_
    by_cases h0 : 0 < a
    · exact Ev.ifpos h0 (Ev.ifneg (by omega) (Ev.now _))
    · exact Ev.ifneg h0 (Ev.now _)

theorem impl_startBounds (a : Int) : impl_StartBounds.f a = some (startB a) := by
  unfold impl_StartBounds.f impl_InRange.f startB
  by_cases h1 : 1 ≤ a
  · by_cases h2 : a ≤ 6
    · rw [if_pos h1, if_pos ⟨h1, h2⟩, decide_eq_true h2, Option.bind_some, if_pos rfl]
      unfold slices_Repeat_SInterval.f
      rw [if_pos ⟨rfl, h1, h2⟩]
      rfl
    · rw [if_pos h1, if_neg (fun h => h2 h.2), decide_eq_false h2, Option.bind_some, if_neg (by decide)]
  · rw [if_neg h1, if_neg (fun h => h1 h.1), Option.bind_some, if_neg (by decide)]

end Go.Proofs.Ytgmdicckecjncaa.Pure
/- Plain lemma: what the reference's and the program's NarrowAll answer. Condition: the lists are not longer than the law's can be. -/
namespace Go.Proofs.Ytgmdicckecjncaa.Pure
open Go.RowKit Go.Proofs.Ytgmdicckecjncaa.Z Go.Proofs.YtgmdicckecjncaaW.PrintWords

def sameIv (a b : Iv) : Bool := a.f0 == b.f0 && a.f1 == b.f1
theorem sameIv_iff (a b : Iv) : sameIv a b = true ↔ a = b := by
  unfold sameIv
  cases a; cases b
  simp
def same : List Iv → List Iv → Bool
  | [], [] => true
  | a :: x, b :: y => sameIv a b && same x y
  | _, _ => false
theorem same_iff : ∀ x y : List Iv, same x y = true ↔ x = y
  | [], [] => by simp [same]
  | [], _ :: _ => by simp [same]
  | _ :: _, [] => by simp [same]
  | a :: x, b :: y => by
    rw [same, Bool.and_eq_true, sameIv_iff, same_iff x y, List.cons.injEq]
theorem same_symm (x y : List Iv) : same x y = same y x := by
  rw [Bool.eq_iff_iff, same_iff, same_iff]
  exact eq_comm
theorem same_len {x y : List Iv} (h : x.length ≠ y.length) : same x y = false := by
  rw [← Bool.not_eq_true, same_iff]
  exact fun e => h (by rw [e])

theorem same_loop (x y : List Iv) (hl : x.length = y.length) (G : Nat → Nat → Option Bool) (hend : Ev (G x.length) true) (hstep : ∀ i (hi : i < x.length) (hj : i < y.length), ∀ r, Ev (G (i + 1)) r → Ev (G i) (sameIv x[i] y[i] && r)) : Ev (G 0) (same x y) := by
  refine Ev.up0 x.length G (fun i => same (x.drop i) (y.drop i)) ?_ ?_ 0 (Nat.zero_le _)
  · rw [List.drop_of_length_le (Nat.le_refl _), List.drop_of_length_le (by omega)]
    exact hend
  · intro i hi ih
    rw [drop_get x i hi, drop_get y i (by omega), same]
    exact hstep i hi (by omega) _ ih

theorem same_test {a b : Iv} {f g : Nat → Option Bool} {r : Bool} (hf : Ev f false) (hg : Ev g r) : Ev (fun k => if (!(a.f0 == b.f0) || (!(a.f1 == b.f1))) = true then f k else g k) (sameIv a b && r) := by
  unfold sameIv
  by_cases h : (a.f0 == b.f0 && a.f1 == b.f1) = true
  · rw [h, Bool.true_and]
    refine Ev.ifneg ?_ hg
    rw [Bool.and_eq_true] at h
    rw [h.1, h.2]
    decide
  · have h2 : (a.f0 == b.f0 && a.f1 == b.f1) = false := Bool.eq_false_iff.2 h
    rw [h2, Bool.false_and]
    refine Ev.ifpos ?_ hf
    revert h2
    cases a.f0 == b.f0 <;> cases a.f1 == b.f1 <;> decide

theorem spec_same (x y : List Iv) (hx : x.length ≤ 1048576) : Ev (fun k => spec_l10Same.f k x y) (same x y) := by
  unfold spec_l10Same.f
  by_cases hl : x.length = y.length
  · refine Ev.ifpos (by omega) (same_loop x y hl (fun i k => spec_l10Same.l0 k x y (i : Int)) ?_ ?_)
    · refine Ev.step (fun k => by rw [spec_l10Same.l0]) ?_
      exact Ev.ifneg (by omega) (Ev.now _)
    · intro i hi hj r hr
      refine Ev.step (fun k => by rw [spec_l10Same.l0]) ?_
      rw [wrap_succ (by omega), show rd_T60 x (i : Int) = x[i] from getD_get x i _ hi, show rd_T60 y (i : Int) = y[i] from getD_get y i _ hj]
      exact Ev.ifpos (by omega) (Ev.ifpos (by omega) (Ev.ifpos (by omega) (same_test (Ev.now _) hr)))
  · rw [same_len hl]
    exact Ev.ifneg (by omega) (Ev.now _)

theorem impl_same (x y : List Iv) (hx : x.length ≤ 1048576) : Ev (fun k => slices_Equal_SInterval.f k x y) (same x y) := by
  unfold slices_Equal_SInterval.f
  by_cases hl : x.length = y.length
  · refine Ev.ifpos (by omega) (same_loop x y hl (fun i k => slices_Equal_SInterval.l0 k x y (x.length : Int) (i : Int)) ?_ ?_)
    · refine Ev.step (fun k => by rw [slices_Equal_SInterval.l0]) ?_
      exact Ev.ifneg (by omega) (Ev.now _)
    · intro i hi hj r hr
      refine Ev.step (fun k => by rw [slices_Equal_SInterval.l0]) ?_
      rw [wrap_succ (by omega), show rd_T60 x (i : Int) = x[i] from getD_get x i _ hi, show rd_T60 y (i : Int) = y[i] from getD_get y i _ hj]
      exact Ev.ifpos (by omega) (Ev.ifpos (by omega) (Ev.ifpos (by omega) (Ev.ifpos (by omega) (same_test (Ev.now _) hr))))
  · rw [same_len hl]
    exact Ev.ifneg (by omega) (Ev.now _)

def narrowFrom (m : List (List Int)) (l : List Iv) : Nat → List Iv → List Iv × Bool
  | 0, x => (x, true)
  | d + 1, x => if (narrowOnce m l x).2 = true then (if same x (narrowOnce m l x).1 = true then (x, true) else narrowFrom m l d (narrowOnce m l x).1) else ([], false)
def narrowAll (m : List (List Int)) (l : List Iv) (a : Int) : List Iv × Bool := if areBounds m l a = true then narrowFrom m l 20 (startB a) else ([], false)

theorem narrowFrom_length (m : List (List Int)) (l : List Iv) : ∀ (d : Nat) (x : List Iv), (narrowFrom m l d x).1.length ≤ x.length
  | 0, x => Nat.le_refl _
  | d + 1, x => by
    rw [narrowFrom]
    have h := narrowOnce_length m l x
    split
    · split
      · exact Nat.le_refl _
      · have := narrowFrom_length m l d (narrowOnce m l x).1
        omega
    · simp
theorem narrowAll_length (m : List (List Int)) (l : List Iv) (a : Int) : (narrowAll m l a).1.length ≤ 6 := by
  unfold narrowAll
  split
  · have := narrowFrom_length m l 20 (startB a)
    have := startB_len a
    omega
  · simp

section
variable (m : List (List Int)) (l : List Iv) (hm : m.length ≤ 1048576) (hr : ∀ r ∈ m, r.length ≤ 1048576) (hl : l.length ≤ 1048576)
include hm hr hl

theorem spec_narrowFrom : ∀ (d i : Nat) (x : List Iv), i + d = 20 → x.length ≤ 6 → Ev (fun k => spec_NarrowAll.l0 k m l x (i : Int)) (narrowFrom m l d x) := by
  intro d
  induction d with
  | zero =>
    intro i x hi hx
    refine Ev.step (fun k => by rw [spec_NarrowAll.l0]) ?_
    exact Ev.ifneg (by omega) (Ev.now _)
  | succ d ih =>
    intro i x hi hx
    have hlen := narrowOnce_length m l x
    rw [narrowFrom]
    refine Ev.step (fun k => by rw [spec_NarrowAll.l0]) ?_
    rw [wrap_succ (by omega)]
    refine Ev.ifpos (by omega) (Ev.bind (spec_narrowOnce m l x hm hr hl (by omega)) ?_)
    by_cases h : (narrowOnce m l x).2 = true
    · rw [if_pos h]
      refine Ev.ifpos h (Ev.bind (spec_same x (narrowOnce m l x).1 (by omega)) ?_)
      by_cases h2 : same x (narrowOnce m l x).1 = true
      · rw [if_pos h2]
        exact Ev.ifpos h2 (Ev.pure (by rw [← (same_iff _ _).1 h2]))
      · rw [if_neg h2]
        exact Ev.ifneg h2 (ih (i + 1) _ (by omega) (by omega))
    · rw [if_neg h]
      exact Ev.ifneg h (Ev.now _)

theorem spec_narrowAll (a : Int) : Ev (fun k => spec_NarrowAll.f k m l a) (narrowAll m l a) := by
  unfold spec_NarrowAll.f narrowAll
  refine Ev.bind (spec_areBounds m l a (by omega) (fun r h => by have := hr r h; omega) (by omega)) ?_
  by_cases hb : areBounds m l a = true
  · rw [if_pos hb]
    exact Ev.ifpos hb (Ev.bind (spec_startBounds a) (spec_narrowFrom m l hm hr hl 20 0 _ rfl (startB_len a)))
  · rw [if_neg hb]
    exact Ev.ifneg hb (Ev.now _)

end

theorem impl_narrowFrom (m : List (List Int)) (l : List Iv) (hm : m.length ≤ 1048576) : ∀ (d i : Nat) (x : List Iv), i + d = 20 → x.length ≤ 6 → Ev (fun k => impl_NarrowAll.l0 k m l x (i : Int)) (narrowFrom m l d x) := by
  intro d
  induction d with
  | zero =>
    intro i x hi hx
    refine Ev.step (fun k => by rw [impl_NarrowAll.l0]) ?_
    exact Ev.ifneg (by omega) (Ev.now _)
  | succ d ih =>
    intro i x hi hx
    have hlen := narrowOnce_length m l x
    rw [narrowFrom]
    refine Ev.step (fun k => by rw [impl_NarrowAll.l0]) ?_
    rw [wrap_succ (by omega)]
    refine Ev.ifpos (by omega) (Ev.bind (impl_narrowOnce m l x hm (by omega)) ?_)
    by_cases h : (narrowOnce m l x).2 = true
    · rw [if_pos h]
      refine Ev.ifpos h (Ev.bind (impl_same (narrowOnce m l x).1 x (by omega)) ?_)
      rw [same_symm]
      by_cases h2 : same x (narrowOnce m l x).1 = true
      · rw [if_pos h2]
        exact Ev.ifpos h2 (Ev.now _)
      · rw [if_neg h2]
        exact Ev.ifneg h2 (ih (i + 1) _ (by omega) (by omega))
    · rw [if_neg h]
      exact Ev.ifneg h (Ev.now _)

theorem impl_narrowAll (m : List (List Int)) (l : List Iv) (hm : m.length ≤ 1048576) (a : Int) : Ev (fun k => impl_NarrowAll.f k m l a) (narrowAll m l a) := by
  unfold impl_NarrowAll.f narrowAll
  refine Ev.bind (impl_areBounds m l a (by omega)) ?_
  by_cases hb : areBounds m l a = true
  · rw [if_pos hb]
    exact Ev.ifpos hb (Ev.bind0 (impl_startBounds a) (impl_narrowFrom m l hm 20 0 _ rfl (startB_len a)))
  · rw [if_neg hb]
    exact Ev.ifneg hb (Ev.now _)

end Go.Proofs.Ytgmdicckecjncaa.Pure
/- Plain lemmas: what the reference's and the program's DotOf and AllowsDelays answer. Condition: the lists are not longer than lists can be. -/
namespace Go.Proofs.Ytgmdicckecjncaa.Pure
open Go.RowKit Go.Proofs.Ytgmdicckecjncaa.Z Go.Proofs.YtgmdicckecjncaaW.PrintWords

/-- The sum of the products, as the machine adds it up. -/
def dotF : List Int → List Int → Int → Int
  | a :: l, b :: d, s => dotF l d (wrap64 (s + wrap64 (a * b)))
  | _, _, s => s
theorem dotF_nil (l d : List Int) (s : Int) (h : l = [] ∨ d = []) : dotF l d s = s := by
  rcases h with rfl | rfl
  · rfl
  · cases l <;> rfl

theorem spec_dot (l d : List Int) (hl : l.length ≤ 9223372036854775806) : Ev (fun k => spec_DotOf.f k l d) (dotF l d 0) := by
  unfold spec_DotOf.f
  refine Ev.up (min l.length d.length) (fun i (s : Int) k => spec_DotOf.l0 k l d s (i : Int)) (fun i s => dotF (l.drop i) (d.drop i) s) (fun _ _ => True) ?_ ?_ 0 0 (Nat.zero_le _) trivial
  · intro s _
    rw [dotF_nil _ _ _ (by by_cases h : l.length ≤ d.length
                           · exact Or.inl (List.drop_of_length_le (by omega))
                           · exact Or.inr (List.drop_of_length_le (by omega)))]
    refine Ev.step (fun k => by rw [spec_DotOf.l0]) ?_
    by_cases h : ((min l.length d.length : Nat) : Int) < (l.length : Int)
    · exact Ev.ifpos h (Ev.ifneg (by omega) (Ev.now _))
    · exact Ev.ifneg h (Ev.now _)
  · intro i s hi _ ih
    have h1 : i < l.length := by omega
    have h2 : i < d.length := by omega
    rw [drop_get l i h1, drop_get d i h2, dotF]
    refine Ev.step (fun k => by rw [spec_DotOf.l0]) ?_
    refine Ev.ifpos (by omega) (Ev.ifpos (by omega) (Ev.ifpos (by omega) ?_))
    rw [rd_get l i h1, rd_get d i h2, wrap_succ (by omega)]
    exact ih _ trivial

theorem impl_dot (l d : List Int) (hl : l.length ≤ 9223372036854775806) : Ev (fun k => impl_DotOf.f k l d) (dotF l d 0) := by
  unfold impl_DotOf.f
  have hm : mn (l.length : Int) (d.length : Int) = ((min l.length d.length : Nat) : Int) := by unfold mn; split <;> omega
  rw [hm]
  refine Ev.up (min l.length d.length) (fun i (s : Int) k => impl_DotOf.l0 k l d s ((min l.length d.length : Nat) : Int) (i : Int)) (fun i s => dotF (l.drop i) (d.drop i) s) (fun _ _ => True) ?_ ?_ 0 0 (Nat.zero_le _) trivial
  · intro s _
    rw [dotF_nil _ _ _ (by by_cases h : l.length ≤ d.length
                           · exact Or.inl (List.drop_of_length_le (by omega))
                           · exact Or.inr (List.drop_of_length_le (by omega)))]
    refine Ev.step (fun k => by rw [impl_DotOf.l0]) ?_
    exact Ev.ifneg (by omega) (Ev.now _)
  · intro i s hi _ ih
    have h1 : i < l.length := by omega
    have h2 : i < d.length := by omega
    rw [drop_get l i h1, drop_get d i h2, dotF]
    refine Ev.step (fun k => by rw [impl_DotOf.l0]) ?_
    refine Ev.ifpos (by omega) (Ev.ifpos (by omega) (Ev.ifpos (by omega) (Ev.ifpos (by omega) ?_)))
    rw [rd_get l i h1, rd_get d i h2, wrap_succ (by omega)]
    exact ih _ trivial

def dotOk (m : List (List Int)) (b : List S60) (d : List Int) (i : Nat) : Bool := decide ((rd_T60 b (i : Int)).f0 ≤ dotF (rd_L1 m (i : Int)) d 0 ∧ dotF (rd_L1 m (i : Int)) d 0 ≤ (rd_T60 b (i : Int)).f1)
def allows (m : List (List Int)) (b : List S60) (d : List Int) : Bool := d.all (fun x => decide (0 ≤ x ∧ x ≤ 100000)) && (areBounds m b (d.length : Int) && (List.range m.length).all (dotOk m b d))

theorem bounds_len {m : List (List Int)} {b : List S60} {n : Int} (h : areBounds m b n = true) : b.length = m.length := by
  unfold areBounds at h
  simp only [Bool.and_eq_true, decide_eq_true_eq] at h
  exact h.2.2.2

theorem impl_allows (m : List (List Int)) (b : List S60) (d : List Int) (hm : m.length ≤ 9223372036854775806) (hr : ∀ x ∈ m, x.length ≤ 9223372036854775806) (hd : d.length ≤ 9223372036854775806) : Ev (fun k => impl_AllowsDelays.f k m b d) (allows m b d) := by
  unfold impl_AllowsDelays.f allows
  refine Ev.bind (impl_areBounds m b _ hm) ?_
  cases hA : areBounds m b (d.length : Int)
  · refine Ev.ifneg (by decide) ?_
    refine Ev.step (fun k => by rw [impl_AllowsDelays.j0]) ?_
    exact Ev.ifpos rfl (Ev.pure (by simp))
  · refine Ev.ifpos rfl (Ev.bind (impl_allIn d 0 100000 (by omega)) ?_)
    refine Ev.step (fun k => by rw [impl_AllowsDelays.j0]) ?_
    cases d.all (fun x : Int => decide (0 ≤ x ∧ x ≤ 100000))
    · exact Ev.ifpos rfl (Ev.now _)
    · refine Ev.ifneg (by decide) ?_
      have hlen := bounds_len hA
      have key := all_places m.length (dotOk m b d) (fun i k => impl_AllowsDelays.l0 k b d m (m.length : Int) (i : Int)) true ?_ ?_
      · simpa using key
      · refine Ev.step (fun k => by rw [impl_AllowsDelays.l0]) ?_
        exact Ev.ifneg (by omega) (Ev.now _)
      · intro i hi r hr1
        refine Ev.step (fun k => by rw [impl_AllowsDelays.l0]) ?_
        refine Ev.ifpos (by omega) (Ev.ifpos (by omega) (Ev.ifpos (by omega) ?_))
        have hrow : (rd_L1 m (i : Int)).length ≤ 9223372036854775806 := by rw [rdRow m i hi]; exact hr _ (List.getElem_mem hi)
        refine Ev.bind (impl_dot _ d hrow) (Ev.ifpos (by omega) (Ev.bind0 (in_range _ _ _) ?_))
        unfold dotOk
        rw [wrap_succ (by omega)]
        cases decide ((rd_T60 b (i : Int)).f0 ≤ dotF (rd_L1 m (i : Int)) d 0 ∧ dotF (rd_L1 m (i : Int)) d 0 ≤ (rd_T60 b (i : Int)).f1)
        · exact Ev.ifneg (by decide) (Ev.now _)
        · refine Ev.ifpos rfl ?_
          simpa using hr1

end Go.Proofs.Ytgmdicckecjncaa.Pure
/- Plain law: what a measurement allows is never cut off by narrowing; narrowed bounds lie in the old ones. No program in sight. -/
namespace Go.Proofs.Ytgmdicckecjncaa.Pure
open Go.RowKit Go.Proofs.Ytgmdicckecjncaa.Z Go.Proofs.YtgmdicckecjncaaW.PrintWords Go.Proofs.YtgmdicckecjncaaW.PrintLast Go.Proofs.YtgmdicckecjncaaW.PrintMore

/-- What the other links of a row take. -/
def othStep (row d : List Int) (c : Nat) (s : Int) (i : Nat) : Int := if rd row (i : Int) = 1 ∧ i ≠ c then s + rd d (i : Int) else s
def oth (row d : List Int) (c i : Nat) (s : Int) : Int := ((List.range d.length).drop i).foldl (othStep row d c) s
theorem oth_step (row d : List Int) (c i : Nat) (s : Int) (h : i < d.length) : oth row d c i s = oth row d c (i + 1) (othStep row d c s i) := by
  unfold oth
  rw [range_drop _ i h, List.foldl_cons]
theorem oth_end (row d : List Int) (c : Nat) (s : Int) : oth row d c d.length s = s := by
  unfold oth
  rw [List.drop_of_length_le (by simp)]
  rfl

/-- The delays lie in the bounds. -/
structure Box (x : List Iv) (d : List Int) : Prop where
  len : x.length = d.length
  in_ : ∀ (k : Nat) (h : k < x.length), 0 ≤ x[k].f0 ∧ x[k].f0 ≤ rd d (k : Int) ∧ rd d (k : Int) ≤ x[k].f1 ∧ x[k].f1 ≤ 100000

theorem rdIv (x : List Iv) (k : Nat) (h : k < x.length) : rd_T60 x (k : Int) = x[k] := getD_get x k _ h

theorem sums_oth {row d : List Int} {x : List Iv} {c : Nat} (hb : Box x d) (h6 : d.length ≤ 6) : ∀ (e i : Nat) (s : Int × Int) (t : Int), i + e = x.length → 0 ≤ s.1 → s.1 ≤ t → t ≤ s.2 → s.2 ≤ 100000 * (i : Int) →
    0 ≤ (sumsFrom row x c i s).1 ∧ (sumsFrom row x c i s).1 ≤ oth row d c i t ∧ oth row d c i t ≤ (sumsFrom row x c i s).2 ∧ (sumsFrom row x c i s).2 ≤ 600000 := by
  have hl := hb.len
  intro e
  induction e with
  | zero =>
    intro i s t hi h0 h1 h2 h3
    have hi : i = x.length := by omega
    subst hi
    rw [sumsFrom_end]
    have e2 : oth row d c x.length t = t := by rw [hl]; exact oth_end row d c t
    rw [e2]
    omega
  | succ e ih =>
    intro i s t hi h0 h1 h2 h3
    have hix : i < x.length := by omega
    have hk := hb.in_ i hix
    rw [sumsFrom_step row x c i s hix, oth_step row d c i t (by omega)]
    unfold sumStep othStep
    by_cases hc : rd row (i : Int) = 1 ∧ i ≠ c
    · rw [if_pos hc, if_pos hc, rdIv x i hix, wrap_in (by omega) (by omega), wrap_in (by omega) (by omega)]
      exact ih (i + 1) _ _ (by omega) (by show 0 ≤ s.1 + x[i].f0; omega) (by show s.1 + x[i].f0 ≤ t + rd d (i : Int); omega) (by show t + rd d (i : Int) ≤ s.2 + x[i].f1; omega) (by show s.2 + x[i].f1 ≤ 100000 * ((i + 1 : Nat) : Int); omega)
    · rw [if_neg hc, if_neg hc]
      exact ih (i + 1) _ _ (by omega) h0 h1 h2 (by omega)

theorem dot_oth {row d : List Int} (c : Nat) (hrow : row.length = d.length) (hbits : ∀ (i : Nat) (h : i < row.length), row[i] = 0 ∨ row[i] = 1) (hd : ∀ (i : Nat) (h : i < d.length), 0 ≤ d[i] ∧ d[i] ≤ 100000) (h6 : d.length ≤ 6) : ∀ (e i : Nat) (s t : Int), i + e = d.length → 0 ≤ s → s ≤ 100000 * (i : Int) → (s = t + if c < i ∧ rd row (c : Int) = 1 then rd d (c : Int) else 0) →
    c < d.length → dotF (row.drop i) (d.drop i) s = oth row d c i t + if rd row (c : Int) = 1 then rd d (c : Int) else 0 := by
  intro e
  induction e with
  | zero =>
    intro i s t hi h0 h1 h2 hc
    have hi : i = d.length := by omega
    subst hi
    rw [oth_end, dotF_nil _ _ _ (.inr (List.drop_of_length_le (Nat.le_refl _))), h2]
    by_cases h : rd row (c : Int) = 1
    · rw [if_pos ⟨hc, h⟩, if_pos h]
    · rw [if_neg (fun q => h q.2), if_neg h]
  | succ e ih =>
    intro i s t hi h0 h1 h2 hc
    have hid : i < d.length := by omega
    have hir : i < row.length := by omega
    have hdi := hd i hid
    rw [drop_get row i hir, drop_get d i hid, dotF, oth_step row d c i t hid]
    have er : rd row (i : Int) = row[i] := rd_get row i hir
    have ed : rd d (i : Int) = d[i] := rd_get d i hid
    rcases hbits i hir with hz | hz
    · rw [hz, Int.zero_mul, wrap_in (n := 0) (by omega) (by omega), Int.add_zero, wrap_in (by omega) (by omega)]
      have e1 : othStep row d c t i = t := by unfold othStep; rw [if_neg (fun q => by rw [er, hz] at q; exact absurd q.1 (by decide))]
      rw [e1]
      refine ih (i + 1) s t (by omega) h0 (by omega) ?_ hc
      rw [h2]
      by_cases hci : c = i
      · subst hci
        rw [if_neg (fun q => absurd q.1 (Nat.lt_irrefl _)), if_neg (fun q => by rw [er, hz] at q; exact absurd q.2 (by decide))]
      · by_cases hlt : c < i ∧ rd row (c : Int) = 1
        · rw [if_pos hlt, if_pos ⟨by omega, hlt.2⟩]
        · rw [if_neg hlt, if_neg (fun q => hlt ⟨by omega, q.2⟩)]
    · rw [hz, Int.one_mul, wrap_in (n := d[i]) (by omega) (by omega), wrap_in (by omega) (by omega)]
      by_cases hci : c = i
      · subst hci
        have e1 : othStep row d c t c = t := by unfold othStep; rw [if_neg (fun q => q.2 rfl)]
        rw [e1]
        refine ih (c + 1) (s + d[c]) t (by omega) (by omega) (by omega) ?_ hc
        rw [if_neg (fun q => absurd q.1 (Nat.lt_irrefl _))] at h2
        rw [if_pos ⟨by omega, by rw [er]; exact hz⟩, ed]
        omega
      · have e1 : othStep row d c t i = t + d[i] := by unfold othStep; rw [if_pos ⟨by rw [er]; exact hz, fun q => hci q.symm⟩, ed]
        rw [e1]
        refine ih (i + 1) (s + d[i]) (t + d[i]) (by omega) (by omega) (by omega) ?_ hc
        by_cases hlt : c < i ∧ rd row (c : Int) = 1
        · rw [if_pos hlt] at h2
          rw [if_pos ⟨by omega, hlt.2⟩]
          omega
        · rw [if_neg hlt] at h2
          rw [if_neg (fun q => hlt ⟨by omega, q.2⟩)]
          omega

/-- What is known of a row that the delays fit. -/
structure RowFit (row d : List Int) (y : Iv) : Prop where
  len : row.length = d.length
  bits : ∀ (i : Nat) (h : i < row.length), row[i] = 0 ∨ row[i] = 1
  lo : 0 ≤ y.f0 ∧ y.f1 ≤ 100000
  dot : y.f0 ≤ dotF row d 0 ∧ dotF row d 0 ≤ y.f1

structure Delays (d : List Int) : Prop where
  few : d.length ≤ 6
  in_ : ∀ (i : Nat) (h : i < d.length), 0 ≤ d[i] ∧ d[i] ≤ 100000

theorem new_in {row d : List Int} {y : Iv} {x : List Iv} {c : Nat} (hd : Delays d) (hr : RowFit row d y) (hb : Box x d) (hc : c < x.length) (h1 : rd row (c : Int) ≠ 0) :
    0 ≤ (newIv row y x c).f0 ∧ (newIv row y x c).f0 ≤ rd d (c : Int) ∧ rd d (c : Int) ≤ (newIv row y x c).f1 ∧ (newIv row y x c).f1 ≤ 100000 := by
  have hl := hb.len
  have hk := hb.in_ c hc
  have hs := sums_oth (row := row) (c := c) hb hd.few x.length 0 (0, 0) 0 (by omega) (by decide) (by decide) (by decide) (by decide)
  have hdot := dot_oth c hr.len hr.bits hd.in_ hd.few d.length 0 0 0 (by omega) (by decide) (by decide) (by rw [if_neg (fun q => absurd q.1 (Nat.not_lt_zero _))]; rfl) (by omega)
  have hone : rd row (c : Int) = 1 := by
    have hcr : c < row.length := by have := hr.len; omega
    rw [rd_get row c hcr] at h1 ⊢
    exact (hr.bits c hcr).resolve_left h1
  rw [List.drop_zero, List.drop_zero, if_pos hone] at hdot
  have h2 := hr.dot
  have h3 := hr.lo
  unfold newIv
  rw [rdIv x c hc]
  obtain ⟨a0, a1, a2, a3⟩ := hs
  rw [wrap_in (n := y.f0 - (sumsFrom row x c 0 (0, 0)).2) (by omega) (by omega), wrap_in (n := y.f1 - (sumsFrom row x c 0 (0, 0)).1) (by omega) (by omega)]
  show 0 ≤ mx x[c].f0 _ ∧ mx x[c].f0 _ ≤ rd d (c : Int) ∧ rd d (c : Int) ≤ mn x[c].f1 _ ∧ mn x[c].f1 _ ≤ 100000
  unfold mx mn
  refine ⟨?_, ?_, ?_, ?_⟩ <;> split <;> omega

theorem col_box {row d : List Int} {y : Iv} {x : List Iv} {c : Nat} (hd : Delays d) (hr : RowFit row d y) (hb : Box x d) (hc : c < d.length) : ∃ z, colStep row y (some x) c = some z ∧ Box z d := by
  have hl := hb.len
  unfold colStep
  rw [Option.bind_some]
  by_cases h0 : rd row (c : Int) = 0
  · rw [if_pos h0]
    exact ⟨x, rfl, hb⟩
  · obtain ⟨a0, a1, a2, a3⟩ := new_in hd hr hb (by omega) h0
    rw [if_neg h0, if_neg (by omega)]
    refine ⟨_, rfl, by rw [List.length_set]; exact hl, fun k hk => ?_⟩
    rw [List.length_set] at hk
    rw [List.getElem_set]
    by_cases e : c = k
    · subst e
      rw [if_pos rfl]
      exact ⟨a0, a1, a2, a3⟩
    · rw [if_neg e]
      exact hb.in_ k hk

theorem cols_box {row d : List Int} {y : Iv} (hd : Delays d) (hr : RowFit row d y) : ∀ (q : List Nat) (x : List Iv), (∀ c ∈ q, c < d.length) → Box x d → ∃ z, q.foldl (colStep row y) (some x) = some z ∧ Box z d
  | [], x, _, hb => ⟨x, rfl, hb⟩
  | c :: q, x, hq, hb => by
    obtain ⟨z, h1, h2⟩ := col_box hd hr hb (hq c (List.mem_cons_self ..))
    rw [List.foldl_cons, h1]
    exact cols_box hd hr q z (fun k hk => hq k (List.mem_cons_of_mem _ hk)) h2

theorem rows_box {m : List (List Int)} {l : List Iv} {d : List Int} (hd : Delays d) (hfit : ∀ (i : Nat), i < m.length → RowFit (rd_L1 m (i : Int)) d (rd_T60 l (i : Int))) : ∀ (q : List Nat) (x : List Iv), (∀ i ∈ q, i < m.length) → Box x d → ∃ z, q.foldl (rowStep d.length m l) (some x) = some z ∧ Box z d
  | [], x, _, hb => ⟨x, rfl, hb⟩
  | i :: q, x, hq, hb => by
    obtain ⟨z, h1, h2⟩ := cols_box hd (hfit i (hq i (List.mem_cons_self ..))) (List.range d.length) x (fun c hc => List.mem_range.1 hc) hb
    have e : rowStep d.length m l (some x) i = some z := by
      unfold rowStep rowFrom
      rw [List.drop_zero]
      exact h1
    rw [List.foldl_cons, e]
    exact rows_box hd hfit q z (fun k hk => hq k (List.mem_cons_of_mem _ hk)) h2

theorem box_ok {x : List Iv} {d : List Int} (hb : Box x d) : x.all okBound = true := by
  rw [List.all_eq_true]
  intro y hy
  obtain ⟨k, hk, rfl⟩ := List.getElem_of_mem hy
  have h := hb.in_ k hk
  unfold okBound isI
  rw [Bool.and_eq_true, decide_eq_true_iff, decide_eq_true_iff]
  omega

/-- What AllowsDelays says, row by row. -/
theorem allows_fit {m : List (List Int)} {l : List Iv} {d : List Int} (h : allows m l d = true) : Delays d ∧ areBounds m l (d.length : Int) = true ∧ ∀ (i : Nat), i < m.length → RowFit (rd_L1 m (i : Int)) d (rd_T60 l (i : Int)) := by
  unfold allows at h
  simp only [Bool.and_eq_true, List.all_eq_true, List.mem_range] at h
  obtain ⟨h1, h2, h3⟩ := h
  have hg := good10 h2
  have hn := hg.n
  refine ⟨⟨hn.2, fun i hi => of_decide_eq_true (h1 _ (List.getElem_mem hi))⟩, h2, fun i hi => ?_⟩
  have h4 := h3 i hi
  unfold dotOk at h4
  have h4 := of_decide_eq_true h4
  have hb2 := h2
  unfold areBounds at hb2
  simp only [Bool.and_eq_true, List.all_eq_true] at hb2
  have hil : i < l.length := by rw [hg.len]; exact hi
  have er : rd_L1 m (i : Int) = m[i] := getD_get m i _ hi
  have hbits := hb2.1 m[i] (List.getElem_mem hi)
  have hbd := hb2.2.1 l[i] (List.getElem_mem hil)
  unfold isBitsRow at hbits
  unfold okBound isI at hbd
  simp only [List.all_eq_true, Bool.and_eq_true, decide_eq_true_eq] at hbits hbd
  refine ⟨by rw [er]; exact hg.rows i hi, fun k hk => ?_, ?_, h4⟩
  · have hk2 : k < m[i].length := by rw [← er]; exact hk
    have e : (rd_L1 m (i : Int))[k] = m[i][k] := by simp only [er]
    have := hbits m[i][k] (List.getElem_mem hk2)
    rw [e]
    omega
  · rw [show rd_T60 l (i : Int) = l[i] from getD_get l i _ hil]
    omega

theorem once_box {m : List (List Int)} {l : List Iv} {d : List Int} (h : allows m l d = true) {x : List Iv} (hb : Box x d) : ∃ z, narrowOnce m l x = (z, true) ∧ Box z d := by
  obtain ⟨hd, h2, hfit⟩ := allows_fit h
  obtain ⟨z, h3, h4⟩ := rows_box hd hfit (List.range m.length) x (fun i hi => List.mem_range.1 hi) hb
  refine ⟨z, ?_, h4⟩
  unfold narrowOnce rowsFrom
  rw [hb.len, List.drop_zero, h3, if_pos ⟨h2, box_ok hb⟩]
  rfl

theorem from_box {m : List (List Int)} {l : List Iv} {d : List Int} (h : allows m l d = true) : ∀ (n : Nat) (x : List Iv), Box x d → ∃ z, narrowFrom m l n x = (z, true) ∧ Box z d
  | 0, x, hb => ⟨x, rfl, hb⟩
  | n + 1, x, hb => by
    obtain ⟨z, h1, h2⟩ := once_box h hb
    rw [narrowFrom, h1, if_pos rfl]
    split
    · exact ⟨x, rfl, hb⟩
    · exact from_box h n z h2

theorem all_box {m : List (List Int)} {l : List Iv} {d : List Int} (h : allows m l d = true) : ∃ z, narrowAll m l (d.length : Int) = (z, true) ∧ Box z d := by
  obtain ⟨hd, h2, _⟩ := allows_fit h
  have hn := (good10 h2).n
  unfold narrowAll
  rw [if_pos h2]
  refine from_box h 20 _ ⟨?_, fun k hk => ?_⟩
  · unfold startB
    rw [if_pos (by omega), List.length_replicate, Int.toNat_natCast]
  · unfold startB at hk ⊢
    rw [if_pos (by omega), List.length_replicate, Int.toNat_natCast] at hk
    have h3 := hd.in_ k hk
    rw [rd_get d k hk]
    have e : (if 1 ≤ (d.length : Int) ∧ (d.length : Int) ≤ 6 then List.replicate (d.length : Int).toNat (⟨0, 100000⟩ : Iv) else []) = List.replicate d.length ⟨0, 100000⟩ := by rw [if_pos (by omega), Int.toNat_natCast]
    simp only [e, List.getElem_replicate]
    exact ⟨by decide, h3.1, h3.2, by decide⟩

/-- The bounds z lie in x's. -/
structure Sub (x z : List Iv) : Prop where
  len : z.length = x.length
  in_ : ∀ (k : Nat) (h : k < z.length) (h2 : k < x.length), x[k].f0 ≤ z[k].f0 ∧ z[k].f0 ≤ z[k].f1 ∧ z[k].f1 ≤ x[k].f1

theorem col_sub {row : List Int} {y : Iv} {x0 x z : List Iv} {c : Nat} (h : colStep row y (some x) c = some z) (hs : Sub x0 x) (_hc : c < x.length) : Sub x0 z := by
  unfold colStep at h
  rw [Option.bind_some] at h
  split at h
  · injection h with h; rw [← h]; exact hs
  · split at h
    · cases h
    · rename_i h0 h1
      injection h with h
      subst h
      refine ⟨by rw [List.length_set]; exact hs.len, fun k hk hk2 => ?_⟩
      rw [List.length_set] at hk
      rw [List.getElem_set]
      have h3 := hs.in_ k hk hk2
      by_cases e : c = k
      · subst e
        rw [if_pos rfl]
        have e1 : x[c].f0 ≤ (newIv row y x c).f0 := by
          unfold newIv
          rw [rdIv x c hk]
          show x[c].f0 ≤ mx x[c].f0 _
          unfold mx
          split <;> omega
        have e2 : (newIv row y x c).f1 ≤ x[c].f1 := by
          unfold newIv
          rw [rdIv x c hk]
          show mn x[c].f1 _ ≤ x[c].f1
          unfold mn
          split <;> omega
        omega
      · rw [if_neg e]
        exact h3

theorem cols_sub {row : List Int} {y : Iv} {x0 : List Iv} : ∀ (q : List Nat) (x z : List Iv), q.foldl (colStep row y) (some x) = some z → (∀ c ∈ q, c < x0.length) → Sub x0 x → Sub x0 z
  | [], x, z, h, _, hs => by rw [List.foldl_nil] at h; injection h with h; rw [← h]; exact hs
  | c :: q, x, z, h, hq, hs => by
    rw [List.foldl_cons] at h
    cases e : colStep row y (some x) c with
    | none => rw [e, show q.foldl _ none = none from foldl_none _ (fun _ => rfl) q] at h; cases h
    | some v =>
      rw [e] at h
      exact cols_sub q v z h (fun k hk => hq k (List.mem_cons_of_mem _ hk)) (col_sub e hs (by rw [hs.len]; exact hq c (List.mem_cons_self ..)))

theorem rows_sub {N : Nat} {m : List (List Int)} {l : List Iv} {x0 : List Iv} (hN : N = x0.length) : ∀ (q : List Nat) (x z : List Iv), q.foldl (rowStep N m l) (some x) = some z → Sub x0 x → Sub x0 z
  | [], x, z, h, hs => by rw [List.foldl_nil] at h; injection h with h; rw [← h]; exact hs
  | i :: q, x, z, h, hs => by
    rw [List.foldl_cons] at h
    cases e : rowStep N m l (some x) i with
    | none => rw [e, show q.foldl _ none = none from foldl_none _ (fun _ => rowFrom_none _ _ _ _) q] at h; cases h
    | some v =>
      rw [e] at h
      unfold rowStep rowFrom at e
      rw [List.drop_zero] at e
      exact rows_sub hN q v z h (cols_sub _ x v e (fun c hc => by rw [← hN]; exact List.mem_range.1 hc) hs)

theorem once_sub {m : List (List Int)} {l x : List Iv} (h : (narrowOnce m l x).2 = true) : Sub x (narrowOnce m l x).1 ∧ ∀ (k : Nat) (hk : k < (narrowOnce m l x).1.length), isI (narrowOnce m l x).1[k].f0 (narrowOnce m l x).1[k].f1 = true := by
  unfold narrowOnce at h ⊢
  by_cases hc : areBounds m l (x.length : Int) = true ∧ x.all okBound = true
  · simp only [if_pos hc] at h ⊢
    cases e : rowsFrom x.length m l 0 (some x) with
    | none => rw [e] at h; exact absurd h (by decide)
    | some z =>
      have hok := List.all_eq_true.1 hc.2
      have hself : Sub x x := ⟨rfl, fun k h1 _ => by
        have := hok x[k] (List.getElem_mem h1)
        unfold okBound isI at this
        simp only [Bool.and_eq_true, decide_eq_true_eq] at this
        omega⟩
      have e2 := e
      unfold rowsFrom at e2
      have hs := rows_sub rfl _ x z e2 hself
      refine ⟨hs, fun k hk => ?_⟩
      have hk : k < z.length := hk
      have hkx : k < x.length := by rw [← hs.len]; exact hk
      have h1 := hs.in_ k hk hkx
      have h2 := hok x[k] (List.getElem_mem hkx)
      unfold okBound isI at h2
      simp only [Bool.and_eq_true, decide_eq_true_eq] at h2
      show isI z[k].f0 z[k].f1 = true
      unfold isI
      exact decide_eq_true (by omega)
  · simp only [if_neg hc] at h
    exact absurd h (by decide)

end Go.Proofs.Ytgmdicckecjncaa.Pure
/- Plain lemmas: what is drawn from the bytes: each draw answers; Below n lies in 0..n-1; Int gives an element. Condition: the bytes are no more than a slice can hold. -/
namespace Go.Proofs.Ytgmdicckecjncaa.Pure
open Go.RowKit Go.Proofs.Ytgmdicckecjncaa.Z Go.Proofs.YtgmdicckecjncaaW.PrintWords

theorem and255 (x : Int) : 0 ≤ Go.bits .and .i64 x 255 ∧ Go.bits .and .i64 x 255 ≤ 255 := by
  have h : (BitVec.ofInt 64 x &&& BitVec.ofInt 64 255).toNat ≤ 255 := by
    rw [BitVec.toNat_and]
    exact Nat.and_le_right
  have e : Go.bits .and .i64 x 255 = wrap64 ((BitVec.ofInt 64 x &&& BitVec.ofInt 64 255).toNat : Int) := by
    unfold Go.bits
    exact Go.Proofs.YtgmdicckecjncaaW.PrintLast.i64_w _
  rw [e, wrap_in (by omega) (by omega)]
  omega

/-- A place in the bytes. -/
def Cur (x : List Int) (i : Int) : Prop := 0 ≤ i ∧ i ≤ x.length

theorem cur_byte (x : List Int) (i s : Int) (hx : x.length ≤ 4611686018427387904) (hi : Cur x i) : ∃ v i' s', spec_l1Byte.f x i s = some (v, i', s') ∧ (0 ≤ v ∧ v ≤ 255) ∧ Cur x i' := by
  unfold spec_l1Byte.f
  by_cases h : i < x.length
  · rw [if_pos h, if_pos hi.1]
    refine ⟨_, _, _, rfl, and255 _, ?_⟩
    have h0 := hi.1
    rw [wrap_in (by omega) (by omega)]
    exact ⟨by omega, by omega⟩
  · rw [if_neg h]
    exact ⟨_, _, _, rfl, and255 _, hi⟩

theorem cur_below (x : List Int) (i s n : Int) (hx : x.length ≤ 4611686018427387904) (hi : Cur x i) (hn : 0 < n) : ∃ v i' s', spec_l1Below.f x i s n = some (v, i', s') ∧ (0 ≤ v ∧ v < n) ∧ Cur x i' := by
  unfold spec_l1Below.f
  rw [if_neg (by omega)]
  obtain ⟨v1, i1, s1, e1, h1, c1⟩ := cur_byte x i s hx hi
  rw [e1]
  by_cases h : n ≤ 256
  · rw [if_pos h, Option.bind_some, if_neg (by omega)]
    refine ⟨_, _, _, rfl, ?_, c1⟩
    show 0 ≤ Int.tmod v1 n ∧ Int.tmod v1 n < n
    rw [Int.tmod_eq_emod_of_nonneg h1.1]
    exact ⟨Int.emod_nonneg _ (by omega), Int.emod_lt_of_pos _ hn⟩
  · obtain ⟨v2, i2, s2, e2, h2, c2⟩ := cur_byte x i1 s1 hx c1
    obtain ⟨v3, i3, s3, e3, h3, c3⟩ := cur_byte x i2 s2 hx c2
    rw [if_neg h, Option.bind_some]
    show ∃ v i' s', ((spec_l1Byte.f x i1 s1).bind _) = _ ∧ _
    rw [e2, Option.bind_some]
    show ∃ v i' s', ((spec_l1Byte.f x i2 s2).bind _) = _ ∧ _
    rw [e3, Option.bind_some, if_neg (by omega)]
    refine ⟨_, _, _, rfl, ?_, c3⟩
    show 0 ≤ Int.tmod (wrap64 (wrap64 (wrap64 (v1 * 65536) + wrap64 (v2 * 256)) + v3)) n ∧ _
    rw [wrap_in (n := v1 * 65536) (by omega) (by omega), wrap_in (n := v2 * 256) (by omega) (by omega), wrap_in (n := v1 * 65536 + v2 * 256) (by omega) (by omega), wrap_in (by omega) (by omega), Int.tmod_eq_emod_of_nonneg (by omega)]
    exact ⟨Int.emod_nonneg _ (by omega), Int.emod_lt_of_pos _ hn⟩

theorem cur_int (x : List Int) (i s : Int) (l : List Int) (hx : x.length ≤ 4611686018427387904) (hi : Cur x i) (hl : 0 < l.length) : ∃ v i' s', spec_l1Int.f x i s l = some (v, i', s') ∧ v ∈ l ∧ Cur x i' := by
  obtain ⟨v, i', s', e, h, c⟩ := cur_below x i s l.length hx hi (by omega)
  unfold spec_l1Int.f
  rw [e, Option.bind_some]
  refine ⟨rd l v, i', s', ?_, ?_, c⟩
  · show (if 0 ≤ v then (if v < (l.length : Int) then some (rd l v, i', s') else none) else none) = _
    rw [if_pos h.1, if_pos h.2]
  · obtain ⟨j, rfl⟩ : ∃ j : Nat, v = (j : Int) := ⟨v.toNat, by omega⟩
    rw [rd_get l j (by omega)]
    exact List.getElem_mem _

theorem cur_new_from (x : List Int) (_hx : x.length ≤ 4611686018427387904) : ∀ d i h, i + d = x.length → ∃ s, Ev (fun k => spec_l1New.l0 k x h (i : Int)) (x, 0, s) := by
  intro d
  induction d with
  | zero =>
    intro i h hi
    refine ⟨h, Ev.step (fun k => by rw [spec_l1New.l0]) ?_⟩
    exact Ev.ifneg (by omega) (Ev.now _)
  | succ d ih =>
    intro i h hi
    by_cases h4 : (i : Int) < 4000
    · obtain ⟨s, hs⟩ := ih (i + 1) (Go.bits .and .i64 (wrap64 ((wrap64 ((wrap64 (h * 137)) + (wrap64 (rd x i)))) + 11)) 1073741823) (by omega)
      refine ⟨s, Ev.step (fun k => by rw [spec_l1New.l0]) ?_⟩
      refine Ev.ifpos (by omega) (Ev.ifpos h4 (Ev.ifpos (by omega) ?_))
      have e : wrap64 ((i : Int) + 1) = ((i + 1 : Nat) : Int) := wrap_succ (by omega)
      rw [e]
      exact hs
    · refine ⟨h, Ev.step (fun k => by rw [spec_l1New.l0]) ?_⟩
      exact Ev.ifpos (by omega) (Ev.ifneg h4 (Ev.now _))

theorem cur_new (x : List Int) (hx : x.length ≤ 4611686018427387904) : ∃ s, Ev (fun k => spec_l1New.f k x) (x, 0, s) := by
  unfold spec_l1New.f
  exact cur_new_from x hx x.length 0 _ (by omega)

theorem cur_zero (x : List Int) : Cur x 0 := ⟨by omega, by omega⟩

end Go.Proofs.Ytgmdicckecjncaa.Pure
/- Plain lemmas: a drawn measurement has at most six rows, bounds and delays. Condition: the bytes are no more than a slice can hold. -/
namespace Go.Proofs.Ytgmdicckecjncaa.Pure
open Go.RowKit Go.Proofs.Ytgmdicckecjncaa.Z Go.Proofs.YtgmdicckecjncaaW.PrintWords

theorem max10 (a b : Int) : ∃ v, spec_Max.f a b = some v := by
  unfold spec_Max.f
  split <;> exact ⟨_, rfl⟩

section
variable (x : List Int) (hx : x.length ≤ 4611686018427387904)
include hx

theorem raw10 (i s : Int) (hi : Cur x i) : ∃ v i' s', spec_l9Raw.f x i s = some (v, i', s') ∧ Cur x i' := by
  unfold spec_l9Raw.f spec_l1Once.f
  obtain ⟨v1, i1, s1, e1, h1, c1⟩ := cur_below x i s 6 hx hi (by decide)
  rw [e1]
  show ∃ v i' s', (if (v1 == 0) = true then _ else _) = _ ∧ _
  by_cases h : (v1 == 0) = true
  · rw [if_pos h]
    obtain ⟨v2, i2, s2, e2, h2, c2⟩ := cur_int x i1 s1 [-1, 0, 100000, 100001, -100000, -100001, 9223372036854775807, -9223372036854775808] hx c1 (by decide)
    exact ⟨v2, i2, s2, by rw [e2]; rfl, c2⟩
  · rw [if_neg h]
    obtain ⟨v2, i2, s2, e2, h2, c2⟩ := cur_below x i1 s1 60 hx c1 (by decide)
    exact ⟨v2, i2, s2, by rw [e2]; rfl, c2⟩

theorem any9 (i s : Int) (hi : Cur x i) : ∃ u v i' s', spec_l9Any.f x i s = some (u, v, i', s') ∧ Cur x i' := by
  unfold spec_l9Any.f
  obtain ⟨v1, i1, s1, e1, h1, c1⟩ := cur_below x i s 50 hx hi (by decide)
  rw [e1, Option.bind_some]
  obtain ⟨v2, i2, s2, e2, h2, c2⟩ := cur_below x i1 s1 20 hx c1 (by decide)
  rw [show spec_l1Below.f x (v1, i1, s1).2.1 (v1, i1, s1).2.2 20 = some (v2, i2, s2) from e2, Option.bind_some]
  obtain ⟨v3, i3, s3, e3, h3, c3⟩ := cur_below x i2 s2 8 hx c2 (by decide)
  rw [show spec_l1Below.f x (v2, i2, s2).2.1 (v2, i2, s2).2.2 8 = some (v3, i3, s3) from e3, Option.bind_some]
  obtain ⟨v4, i4, s4, e4, c4⟩ := raw10 x hx i3 s3 c3
  rw [show spec_l9Raw.f x (v3, i3, s3).2.1 (v3, i3, s3).2.2 = some (v4, i4, s4) from e4]
  split
  · exact ⟨_, _, _, _, rfl, c4⟩
  · split
    · exact ⟨_, _, _, _, rfl, c4⟩
    · exact ⟨_, _, _, _, rfl, c3⟩

theorem bits_row (R N : Nat) (hN : N ≤ 6) (i : Nat) (hi6 : i ≤ 6) (m : List (List Int)) (hm : m.length = i) (next : ∀ (r : List Int) (a s : Int), r.length = N → Cur x a → ∃ q a' s', Ev (fun k => spec_l5Bits.l0 k (R : Int) (N : Int) (m ++ [r]) ((i + 1 : Nat) : Int) x a s) (q, a', s') ∧ q.length = R ∧ (∀ r ∈ q, r.length = N) ∧ Cur x a') :
    ∀ (e j : Nat) (r : List Int) (a s : Int), j + e = N → r.length = j → Cur x a → ∃ q a' s', Ev (fun k => spec_l5Bits.l1 k (R : Int) (N : Int) m (i : Int) r (j : Int) x a s) (q, a', s') ∧ q.length = R ∧ (∀ r ∈ q, r.length = N) ∧ Cur x a' := by
  intro e
  induction e with
  | zero =>
    intro j r a s hj hr ha
    obtain ⟨q, a', s', h1, h2⟩ := next r a s (by omega) ha
    refine ⟨q, a', s', Ev.step (fun k => by rw [spec_l5Bits.l1]) ?_, h2⟩
    rw [wrap_succ (i := i) (by omega)]
    exact Ev.ifneg (by omega) (Ev.ifpos (by omega) h1)
  | succ e ih =>
    intro j r a s hj hr ha
    obtain ⟨v, a1, s1, e1, _, c1⟩ := cur_below x a s 2 hx ha (by decide)
    obtain ⟨q, a', s', h1, h2⟩ := ih (j + 1) (r ++ [v]) a1 s1 (by omega) (by rw [List.length_append, List.length_singleton]; omega) c1
    refine ⟨q, a', s', Ev.step (fun k => by rw [spec_l5Bits.l1]) ?_, h2⟩
    rw [wrap_succ (i := j) (by omega)]
    exact Ev.ifpos (by omega) (Ev.bind0 e1 (Ev.ifpos (by omega) h1))

theorem bits_rows (R N : Nat) (hR : R ≤ 6) (hN : N ≤ 6) : ∀ (e i : Nat) (m : List (List Int)) (a s : Int), i + e = R → m.length = i → (∀ r ∈ m, r.length = N) → Cur x a → ∃ q a' s', Ev (fun k => spec_l5Bits.l0 k (R : Int) (N : Int) m (i : Int) x a s) (q, a', s') ∧ q.length = R ∧ (∀ r ∈ q, r.length = N) ∧ Cur x a' := by
  intro e
  induction e with
  | zero =>
    intro i m a s hi hm hr ha
    exact ⟨m, a, s, Ev.step (fun k => by rw [spec_l5Bits.l0]) (Ev.ifneg (by omega) (Ev.now _)), by omega, hr, ha⟩
  | succ e ih =>
    intro i m a s hi hm hr ha
    obtain ⟨q, a', s', h1, h2⟩ := bits_row x hx R N hN i (by omega) m hm (fun r a s hrl ha => ih (i + 1) (m ++ [r]) a s (by omega) (by rw [List.length_append, List.length_singleton]; omega) (fun r' hr' => by
      rcases List.mem_append.1 hr' with h | h
      · exact hr r' h
      · rw [List.mem_singleton.1 h]; exact hrl) ha) N 0 [] a s (by omega) rfl ha
    refine ⟨q, a', s', Ev.step (fun k => by rw [spec_l5Bits.l0]) ?_, h2⟩
    exact Ev.ifpos (by omega) h1

theorem draw10_bounds (m : List (List Int)) (d : List Int) (hm : m.length ≤ 6) (hr : ∀ r ∈ m, r.length ≤ 6) : ∀ (e i : Nat) (l : List S60) (a s : Int), i + e = m.length → l.length = i → Cur x a → ∃ q a' s', Ev (fun k => spec_l10Draw.l1 k m d l (i : Int) x a s) (m, q, d, a', s') ∧ q.length = m.length ∧ Cur x a' := by
  intro e
  induction e with
  | zero =>
    intro i l a s hi hl ha
    exact ⟨l, a, s, Ev.step (fun k => by rw [spec_l10Draw.l1]) (Ev.ifneg (by omega) (Ev.now _)), by omega, ha⟩
  | succ e ih =>
    intro i l a s hi hl ha
    have him : i < m.length := by omega
    have hd := spec_dot m[i] d (by have := hr m[i] (List.getElem_mem him); omega)
    obtain ⟨v1, a1, s1, e1, _, c1⟩ := cur_below x a s 5 hx ha (by decide)
    obtain ⟨u, hu⟩ := max10 0 (wrap64 (dotF m[i] d 0 - v1))
    obtain ⟨v2, a2, s2, e2, _, c2⟩ := cur_below x a1 s1 5 hx c1 (by decide)
    obtain ⟨q, a', s', h1, h2⟩ := ih (i + 1) (l ++ [⟨u, wrap64 (dotF m[i] d 0 + v2)⟩]) a2 s2 (by omega) (by rw [List.length_append, List.length_singleton]; omega) c2
    refine ⟨q, a', s', Ev.step (fun k => by rw [spec_l10Draw.l1]) ?_, h2⟩
    rw [wrap_succ (i := i) (by omega), rdRow m i him]
    exact Ev.ifpos (by omega) (Ev.ifpos (by omega) (Ev.bind hd (Ev.bind0 e1 (Ev.bind0 hu (Ev.bind0 e2 (Ev.ifpos (by omega) h1))))))

theorem draw10_delays (N : Nat) (hN : N ≤ 6) (m : List (List Int)) (hm : m.length ≤ 6) (hr : ∀ r ∈ m, r.length ≤ 6) : ∀ (e i : Nat) (d : List Int) (a s : Int), i + e = N → d.length = i → Cur x a → ∃ q d' a' s', Ev (fun k => spec_l10Draw.l0 k (N : Int) m d (i : Int) x a s) (m, q, d', a', s') ∧ q.length = m.length ∧ d'.length = N ∧ Cur x a' := by
  intro e
  induction e with
  | zero =>
    intro i d a s hi hd ha
    obtain ⟨q, a', s', h1, h2, h3⟩ := draw10_bounds x hx m d hm hr m.length 0 [] a s (by omega) rfl ha
    have h1' : Ev (fun k => spec_l10Draw.l1 k m d [] 0 x a s) (m, q, d, a', s') := h1
    have hiN : ¬ (i : Int) < (N : Int) := by omega
    refine ⟨q, d, a', s', Ev.step (fun k => by rw [spec_l10Draw.l0]) ?_, h2, by omega, h3⟩
    exact Ev.ifneg hiN h1'
  | succ e ih =>
    intro i d a s hi hd ha
    obtain ⟨v1, a1, s1, e1, _, c1⟩ := cur_below x a s 30 hx ha (by decide)
    obtain ⟨q, d', a', s', h1, h2⟩ := ih (i + 1) (d ++ [v1]) a1 s1 (by omega) (by rw [List.length_append, List.length_singleton]; omega) c1
    refine ⟨q, d', a', s', Ev.step (fun k => by rw [spec_l10Draw.l0]) ?_, h2⟩
    rw [wrap_succ (i := i) (by omega)]
    exact Ev.ifpos (by omega) (Ev.bind0 e1 (Ev.ifpos (by omega) h1))

theorem draw10 (a s : Int) (ha : Cur x a) : ∃ m l d a' s', Ev (fun k => spec_l10Draw.f k x a s) (m, l, d, a', s') ∧ (1 ≤ m.length ∧ m.length ≤ 6) ∧ (∀ r ∈ m, 1 ≤ r.length ∧ r.length ≤ 6) ∧ l.length = m.length ∧ (1 ≤ d.length ∧ d.length ≤ 6) ∧ Cur x a' := by
  obtain ⟨v1, a1, s1, e1, h1, c1⟩ := cur_below x a s 6 hx ha (by decide)
  obtain ⟨v2, a2, s2, e2, h2, c2⟩ := cur_below x a1 s1 6 hx c1 (by decide)
  have w1 : wrap64 (1 + v1) = ((1 + v1.toNat : Nat) : Int) := by rw [wrap_in (by omega) (by omega)]; omega
  have w2 : wrap64 (1 + v2) = ((1 + v2.toNat : Nat) : Int) := by rw [wrap_in (by omega) (by omega)]; omega
  obtain ⟨m, a3, s3, h3, h4, h5, c3⟩ := bits_rows x hx (1 + v2.toNat) (1 + v1.toNat) (by omega) (by omega) (1 + v2.toNat) 0 [] a2 s2 (by omega) rfl (fun r h => absurd h (by simp)) c2
  obtain ⟨l, d, a4, s4, h6, h7, h8, c4⟩ := draw10_delays x hx (1 + v1.toNat) (by omega) m (by omega) (fun r hr => by rw [h5 r hr]; omega) (1 + v1.toNat) 0 [] a3 s3 (by omega) rfl c3
  refine ⟨m, l, d, a4, s4, ?_, by omega, fun r hr => by rw [h5 r hr]; omega, h7, by omega, c4⟩
  unfold spec_l10Draw.f
  refine Ev.bind0 e1 (Ev.bind0 e2 ?_)
  show Ev (fun k => (spec_l5Bits.f k x a2 s2 (wrap64 (1 + v2)) (wrap64 (1 + v1))).bind fun bt265 => (spec_l10Draw.l0 k (wrap64 (1 + v1)) bt265.1 (([] : List Int)) 0 x bt265.2.1 bt265.2.2)) _
  rw [w1, w2]
  have h3' : Ev (fun k => spec_l5Bits.f k x a2 s2 ((1 + v2.toNat : Nat) : Int) ((1 + v1.toNat : Nat) : Int)) (m, a3, s3) := h3
  exact Ev.bind h3' h6

theorem draw_allows : ∃ m l d, Ev (fun k => spec_DrawAllowsDelays.f k x) (m, l, d) ∧ m.length ≤ 6 ∧ (∀ r ∈ m, r.length ≤ 6) ∧ l.length ≤ 6 ∧ d.length ≤ 6 := by
  obtain ⟨s, hs⟩ := cur_new x hx
  obtain ⟨m, l, d, a1, s1, h1, h2, h3, h4, h5, c1⟩ := draw10 x hx 0 s (cur_zero x)
  obtain ⟨v, a2, s2, e2, _, c2⟩ := cur_below x a1 s1 9 hx c1 (by decide)
  have h3' : ∀ r ∈ m, r.length ≤ 6 := fun r hr => (h3 r hr).2
  have l0 : (0 : Int) < (l.length : Int) := by omega
  have l1 : (1 : Int) ≤ (l.length : Int) := by omega
  have m0 : (0 : Int) < (m.length : Int) := by omega
  have d0 : (0 : Int) < (d.length : Int) := by omega
  have hm0 : 0 < m.length := by omega
  have er : rd_L1 m 0 = m[0] := getD_get m 0 _ hm0
  have r0 : (0 : Int) < ((rd_L1 m 0).length : Int) := by rw [er]; have := (h3 m[0] (List.getElem_mem hm0)).1; omega
  have done : ∀ (m' : List (List Int)) (l' : List S60) (d' : List Int) (a s' : Int), Ev (fun k => spec_l10Any.f k x 0 s) (m', l', d', a, s') → m'.length ≤ 6 → (∀ r ∈ m', r.length ≤ 6) → l'.length ≤ 6 → d'.length ≤ 6 → ∃ m l d, Ev (fun k => spec_DrawAllowsDelays.f k x) (m, l, d) ∧ m.length ≤ 6 ∧ (∀ r ∈ m, r.length ≤ 6) ∧ l.length ≤ 6 ∧ d.length ≤ 6 := fun m' l' d' a s' h q1 q2 q3 q4 => by
    refine ⟨m', l', d', ?_, q1, q2, q3, q4⟩
    unfold spec_DrawAllowsDelays.f
    refine Ev.bind hs (Ev.bind h ?_)
    exact Ev.now _
  by_cases v0 : v = 0
  · obtain ⟨u, w, a3, s3, e3, c3⟩ := any9 x hx a2 s2 c2
    refine done m (l.set (0 : Int).toNat ⟨u, w⟩) d a3 s3 ?_ (by omega) h3' (by rw [List.length_set]; omega) (by omega)
    unfold spec_l10Any.f
    refine Ev.bind h1 (Ev.bind0 e2 (Ev.ifpos v0 (Ev.bind0 e3 (Ev.ifpos l0 ?_))))
    exact Ev.now _
  by_cases v1 : v = 1
  · refine done m (l.drop (1 : Int).toNat) d a2 s2 ?_ (by omega) h3' (by rw [List.length_drop]; omega) (by omega)
    unfold spec_l10Any.f
    refine Ev.bind h1 (Ev.bind0 e2 (Ev.ifneg v0 (Ev.ifpos v1 (Ev.ifpos l1 ?_))))
    exact Ev.now _
  by_cases v2 : v = 2
  · obtain ⟨u, a3, s3, e3, _, c3⟩ := cur_int x a2 s2 [2, (-1), 1] hx c2 (by decide)
    refine done (m.set (0 : Int).toNat ((rd_L1 m 0).set (0 : Int).toNat u)) l d a3 s3 ?_ (by rw [List.length_set]; omega) (fun r hr => ?_) (by omega) (by omega)
    · unfold spec_l10Any.f
      refine Ev.bind h1 (Ev.bind0 e2 (Ev.ifneg v0 (Ev.ifneg v1 (Ev.ifpos v2 (Ev.ifpos m0 (Ev.bind0 e3 (Ev.ifpos r0 ?_)))))))
      exact Ev.now _
    · rcases List.mem_or_eq_of_mem_set hr with h | h
      · exact h3' r h
      · rw [h, List.length_set, er]
        exact h3' _ (List.getElem_mem hm0)
  by_cases v3 : v = 3
  · obtain ⟨u, a3, s3, e3, c3⟩ := raw10 x hx a2 s2 c2
    refine done m l (d.set (0 : Int).toNat u) a3 s3 ?_ (by omega) h3' (by omega) (by rw [List.length_set]; omega)
    unfold spec_l10Any.f
    refine Ev.bind h1 (Ev.bind0 e2 (Ev.ifneg v0 (Ev.ifneg v1 (Ev.ifneg v2 (Ev.ifpos v3 (Ev.bind0 e3 (Ev.ifpos d0 ?_)))))))
    exact Ev.now _
  · refine done m l d a2 s2 ?_ (by omega) h3' (by omega) (by omega)
    unfold spec_l10Any.f
    refine Ev.bind h1 (Ev.bind0 e2 (Ev.ifneg v0 (Ev.ifneg v1 (Ev.ifneg v2 (Ev.ifneg v3 ?_)))))
    exact Ev.now _

end

end Go.Proofs.Ytgmdicckecjncaa.Pure
namespace Go.Proofs.Ytgmdicckecjncaa.Pure
open Go.RowKit Go.Proofs.Ytgmdicckecjncaa.Z Go.Proofs.YtgmdicckecjncaaW.PrintWords

theorem from_len {m : List (List Int)} {l : List Iv} : ∀ (n : Nat) (x : List Iv), (narrowFrom m l n x).2 = true → (narrowFrom m l n x).1.length = x.length
  | 0, x, _ => rfl
  | n + 1, x, h => by
    rw [narrowFrom] at h ⊢
    by_cases h1 : (narrowOnce m l x).2 = true
    · rw [if_pos h1] at h ⊢
      split
      · rfl
      · rename_i h2
        rw [if_neg h2] at h
        rw [from_len n _ h]
        exact (once_sub h1).1.len
    · rw [if_neg h1] at h
      exact absurd h (by decide)

theorem all_len {m : List (List Int)} {l : List Iv} {d : List Int} (h : (narrowAll m l (d.length : Int)).2 = true) : (narrowAll m l (d.length : Int)).1.length = d.length := by
  unfold narrowAll at h ⊢
  by_cases hb : areBounds m l (d.length : Int) = true
  · rw [if_pos hb] at h ⊢
    rw [from_len 20 _ h]
    have hn := (good10 hb).n
    unfold startB
    rw [if_pos (by omega), List.length_replicate, Int.toNat_natCast]
  · rw [if_neg hb] at h
    exact absurd h (by decide)

theorem bounds_again (m : List (List Int)) (l : List Iv) (d : List Int) (hm : m.length ≤ 6) (x : List Iv) (ok : Bool) (hx : x.length ≤ 6) (h1 : ok = true → x.length = d.length) (h0 : ok = false → x = []) : Ev (fun k => laws_FnBounds.j1 k m l d x ok) true := by
  refine Ev.step (fun k => by rw [laws_FnBounds.j1]) ?_
  refine Ev.bind (impl_narrowOnce m l x (by omega) (by omega)) ?_
  cases ok with
  | false =>
    refine Ev.ifneg (by decide) (Ev.pure ?_)
    rw [h0 rfl]
    rfl
  | true =>
    refine Ev.ifpos rfl ?_
    by_cases h : (narrowOnce m l x).2 = true
    · obtain ⟨hs, hi⟩ := once_sub h
      refine Ev.ifpos h ?_
      generalize (narrowOnce m l x).1 = y at hs hi ⊢
      have hl := hs.len
      refine Ev.up0 x.length (fun i k => laws_FnBounds.l1 k d x y (i : Int)) (fun _ => true) ?_ ?_ 0 (Nat.zero_le _)
      · refine Ev.step (fun k => by rw [laws_FnBounds.l1]) ?_
        have := h1 rfl
        exact Ev.ifneg (by omega) (Ev.pure (by rw [beq_iff_eq]; omega))
      · intro i hi2 ih
        have hk := hs.in_ i (by omega) hi2
        refine Ev.step (fun k => by rw [laws_FnBounds.l1]) ?_
        rw [wrap_succ (i := i) (by omega), rdIv x i hi2, rdIv y i (by omega)]
        refine Ev.ifpos (by omega) (Ev.ifpos (by omega) (Ev.ifpos (by omega) (Ev.ifneg (by omega) (Ev.ifneg (by omega) (Ev.bind0 (impl_isI _ _) (Ev.ifpos (hi i (by omega)) ih))))))
    · exact Ev.ifneg h (Ev.now _)

theorem FnBounds : laws_FnBounds.Pure := by
  intro b hb _ _
  refine Ev.rounds ?_
  unfold laws_FnBounds.f laws_big.f
  by_cases hbig : (b.length : Int) > 1048576
  · exact Ev.bind0 (a := true) (by rw [decide_eq_true hbig]) (Ev.ifpos rfl (Ev.now _))
  refine Ev.bind0 (a := false) (by rw [decide_eq_false hbig]) (Ev.ifneg (by decide) ?_)
  obtain ⟨m, l, d, hd, hm, hr, hl, hdl⟩ := draw_allows b (by omega)
  refine Ev.bind hd (Ev.bind (impl_narrowAll m l (by omega) (d.length : Int)) (Ev.bind (spec_narrowAll m l (by omega) (fun r h => by have := hr r h; omega) (by omega) (d.length : Int)) (Ev.ifneg (by simp) (Ev.bind (impl_allows m l d (by omega) (fun r h => by have := hr r h; omega) (by omega)) ?_))))
  have hx := narrowAll_length m l (d.length : Int)
  have h1 := @all_len m l d
  have h0 : (narrowAll m l (d.length : Int)).2 = false → (narrowAll m l (d.length : Int)).1 = [] := by
    intro h
    unfold narrowAll at h ⊢
    split at h
    · rename_i hb
      rw [if_pos hb]
      have key : ∀ (n : Nat) (x : List Iv), (narrowFrom m l n x).2 = false → (narrowFrom m l n x).1 = [] := by
        intro n
        induction n with
        | zero => intro x h; exact absurd h (by rw [narrowFrom]; simp)
        | succ n ih =>
          intro x h
          rw [narrowFrom] at h ⊢
          split
          · rename_i h1
            rw [if_pos h1] at h
            split
            · rename_i h2
              rw [if_pos h2] at h
              exact absurd h (by simp)
            · rename_i h2
              rw [if_neg h2] at h
              exact ih _ h
          · rfl
      exact key 20 _ h
    · rename_i hb
      rw [if_neg hb]
  by_cases ha : allows m l d = true
  · refine Ev.ifpos ha ?_
    obtain ⟨z, hz, hbox⟩ := all_box ha
    rw [hz] at hx h1 ⊢
    have hx : z.length ≤ 6 := hx
    have hl2 := hbox.len
    refine Ev.ifpos rfl ?_
    refine Ev.up0 z.length (fun i k => laws_FnBounds.l0 k m l d z true (i : Int)) (fun _ => true) ?_ ?_ 0 (Nat.zero_le _)
    · refine Ev.step (fun k => by rw [laws_FnBounds.l0]) ?_
      exact Ev.ifneg (by omega) (bounds_again m l d hm z true hx (fun _ => hl2) (fun h => absurd h (by decide)))
    · intro i hi ih
      have hk := hbox.in_ i hi
      refine Ev.step (fun k => by rw [laws_FnBounds.l0]) ?_
      rw [wrap_succ (i := i) (by omega), rdIv z i hi]
      exact Ev.ifpos (by omega) (Ev.ifpos (by omega) (Ev.ifpos (by omega) (Ev.ifneg (by omega) (Ev.ifneg (by omega) ih))))
  · exact Ev.ifneg ha (bounds_again m l d hm _ _ hx h1 h0)

end Go.Proofs.Ytgmdicckecjncaa.Pure
