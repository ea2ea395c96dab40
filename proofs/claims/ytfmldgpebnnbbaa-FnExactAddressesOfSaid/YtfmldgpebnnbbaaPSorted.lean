/- Plain laws of the ordered list without repeats ('sortedF'): it rises strictly, it has the members of the list, it is the only such list; it is as long as the list if and only if the list has no repeats. No condition. -/
import Derived.Test.YtfmldgpebnnbbaaPBase
import Derived.Test.YtfmldgpebnnbbaaZ4
namespace Go.Proofs.Ytfmldgpebnnbbaa.Pure
open Go.RowKit Go.Proofs.Ytfmldgpebnnbbaa.Z Go.Proofs.YtfmldgpebnnbbaaW.PrintWords

theorem ms_perm (l : List Int) : (l.mergeSort fun x y => decide (x ≤ y)).Perm l := List.mergeSort_perm l _
theorem ms_pair (l : List Int) : (l.mergeSort fun x y => decide (x ≤ y)).Pairwise (fun x y => x ≤ y) := by
  have h := List.pairwise_mergeSort (le := fun x y : Int => decide (x ≤ y)) (fun a b c h1 h2 => by simp only [decide_eq_true_eq] at *; omega) (fun a b => by simp only [Bool.or_eq_true, decide_eq_true_eq]; omega) l
  exact h.imp (fun h => by simpa using h)

theorem getB (zs : List Int) (j : Nat) (h : j < zs.length) : zs.toArray[j]! = zs[j] := by simp [h]
theorem getB' (zs : List Int) (j : Nat) : zs.toArray[j]! = zs.getD j 0 := by
  by_cases h : j < zs.length
  · rw [getB zs j h, List.getD_eq_getElem?_getD, List.getElem?_eq_getElem h]; rfl
  · simp [h]

theorem keep_iff (zs : List Int) (j : Nat) : Lib.keeps zs.toArray j = true ↔ j = 0 ∨ zs.getD j 0 ≠ zs.getD (j - 1) 0 := by
  unfold Lib.keeps
  rw [decide_eq_true_iff, getB', getB']

theorem compact_eq (zs : List Int) : Lib.compact zs = ((List.range zs.length).filter fun j => Lib.keeps zs.toArray j).map (fun j => zs.getD j 0) := by
  unfold Lib.compact Lib.compactUpTo
  apply List.map_congr_left
  intro j _
  exact getB' zs j

theorem compact_mem (zs : List Int) (x : Int) : x ∈ Lib.compact zs ↔ x ∈ zs := by
  rw [compact_eq]
  simp only [List.mem_map, List.mem_filter, List.mem_range]
  constructor
  · rintro ⟨j, ⟨hj, _⟩, rfl⟩
    rw [List.getD_eq_getElem?_getD, List.getElem?_eq_getElem hj]
    exact List.getElem_mem hj
  · intro hx
    obtain ⟨j, hj, e⟩ := List.getElem_of_mem hx
    have key : ∀ j, j < zs.length → zs.getD j 0 = x → ∃ a, (a < zs.length ∧ Lib.keeps zs.toArray a = true) ∧ zs.getD a 0 = x := by
      intro j
      induction j with
      | zero => intro h e; exact ⟨0, ⟨h, (keep_iff zs 0).2 (Or.inl rfl)⟩, e⟩
      | succ j ih =>
        intro h e
        by_cases h2 : zs.getD (j + 1) 0 = zs.getD j 0
        · exact ih (by omega) (by rw [← h2]; exact e)
        · exact ⟨j + 1, ⟨h, (keep_iff zs _).2 (Or.inr h2)⟩, e⟩
    exact key j hj (by rw [List.getD_eq_getElem?_getD, List.getElem?_eq_getElem hj]; exact e)

theorem pair_get {zs : List Int} (h : zs.Pairwise (fun x y => x ≤ y)) {i j : Nat} (hij : i ≤ j) (hj : j < zs.length) : zs.getD i 0 ≤ zs.getD j 0 := by
  rw [List.getD_eq_getElem?_getD, List.getElem?_eq_getElem (by omega), List.getD_eq_getElem?_getD, List.getElem?_eq_getElem hj]
  rcases Nat.lt_or_ge i j with h1 | h1
  · exact (List.pairwise_iff_getElem.1 h) i j (by omega) hj h1
  · obtain rfl : i = j := by omega
    exact Int.le_refl _

theorem compact_rise {zs : List Int} (h : zs.Pairwise (fun x y => x ≤ y)) : (Lib.compact zs).Pairwise (fun x y => x < y) := by
  rw [compact_eq, List.pairwise_map]
  have h2 : ((List.range zs.length).filter fun j => Lib.keeps zs.toArray j).Pairwise (fun a b => a < b) := List.Pairwise.filter _ List.pairwise_lt_range
  refine h2.imp_of_mem (fun {a b} ha hb hab => ?_)
  simp only [List.mem_filter, List.mem_range] at ha hb
  rcases (keep_iff zs b).1 hb.2 with h0 | h0
  · omega
  · have h1 := pair_get h (i := a) (j := b - 1) (by omega) (by omega)
    have h3 := pair_get h (i := b - 1) (j := b) (by omega) hb.1
    omega

theorem sorted_rise (l : List Int) : (sortedF l).Pairwise (fun x y => x < y) := compact_rise (ms_pair l)
theorem sorted_mem (l : List Int) (x : Int) : x ∈ sortedF l ↔ x ∈ l := (compact_mem _ x).trans (ms_perm l).mem_iff

/-- Two lists that rise strictly and have the same members are one. -/
theorem rise_ext : ∀ {l m : List Int}, l.Pairwise (fun x y => x < y) → m.Pairwise (fun x y => x < y) → (∀ x, x ∈ l ↔ x ∈ m) → l = m
  | [], [], _, _, _ => rfl
  | [], b :: m, _, _, h => absurd ((h b).2 (List.mem_cons_self ..)) (by simp)
  | a :: l, [], _, _, h => absurd ((h a).1 (List.mem_cons_self ..)) (by simp)
  | a :: l, b :: m, hl, hm, h => by
    rw [List.pairwise_cons] at hl hm
    have e : a = b := by
      have h1 := (h a).1 (List.mem_cons_self ..)
      have h2 := (h b).2 (List.mem_cons_self ..)
      rcases List.mem_cons.1 h1 with h1 | h1
      · exact h1
      · rcases List.mem_cons.1 h2 with h2 | h2
        · exact h2.symm
        · have := hm.1 a h1
          have := hl.1 b h2
          omega
    subst e
    rw [rise_ext hl.2 hm.2 (fun x => ?_)]
    constructor
    · intro hx
      rcases List.mem_cons.1 ((h x).1 (List.mem_cons_of_mem _ hx)) with h1 | h1
      · subst h1
        exact absurd (hl.1 _ hx) (by omega)
      · exact h1
    · intro hx
      rcases List.mem_cons.1 ((h x).2 (List.mem_cons_of_mem _ hx)) with h1 | h1
      · subst h1
        exact absurd (hm.1 _ hx) (by omega)
      · exact h1

theorem sorted_eq {l m : List Int} (hm : m.Pairwise (fun x y => x < y)) (h : ∀ x, x ∈ m ↔ x ∈ l) : sortedF l = m := rise_ext (sorted_rise l) hm (fun x => (sorted_mem l x).trans (h x).symm)

theorem sorted_len_le (l : List Int) : (sortedF l).length ≤ l.length := by
  have h := Lib.compact_length_le (l.mergeSort fun x y => decide (x ≤ y))
  rw [(ms_perm l).length_eq] at h
  exact h

theorem sorted_len (l : List Int) : (sortedF l).length = l.length ↔ l.Nodup := by
  have hlen : (l.mergeSort fun x y => decide (x ≤ y)).length = l.length := (ms_perm l).length_eq
  rw [← (ms_perm l).nodup_iff]
  constructor
  · intro h
    unfold sortedF at h
    have hall : ∀ j, j < (l.mergeSort fun x y => decide (x ≤ y)).length → Lib.keeps (l.mergeSort fun x y => decide (x ≤ y)).toArray j = true := by
      rw [compact_eq, List.length_map, ← hlen] at h
      have h2 := List.length_filter_eq_length_iff.1 (h.trans List.length_range.symm)
      intro j hj
      exact h2 j (List.mem_range.2 hj)
    have e := Lib.compact_all _ hall
    rw [← e]
    exact (compact_rise (ms_pair l)).imp (fun h => by omega)
  · intro h
    have hs := ms_pair l
    unfold sortedF
    rw [Lib.compact_all, hlen]
    intro j hj
    rw [keep_iff]
    rcases Nat.eq_zero_or_pos j with h0 | h0
    · exact Or.inl h0
    · refine Or.inr ?_
      rw [List.getD_eq_getElem?_getD, List.getElem?_eq_getElem hj, List.getD_eq_getElem?_getD, List.getElem?_eq_getElem (by omega)]
      exact fun e => (List.pairwise_iff_getElem.1 h) (j - 1) j (by omega) hj (by omega) e.symm

end Go.Proofs.Ytfmldgpebnnbbaa.Pure
