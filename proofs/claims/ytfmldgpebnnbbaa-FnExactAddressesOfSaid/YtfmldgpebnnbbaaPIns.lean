/- Plain laws: a number put into a rising list at its place; many put in one after another are the ordered list without repeats. No condition. -/
import Derived.Test.YtfmldgpebnnbbaaPSorted
namespace Go.Proofs.Ytfmldgpebnnbbaa.Pure
open Go.RowKit Go.Proofs.Ytfmldgpebnnbbaa.Z Go.Proofs.YtfmldgpebnnbbaaW.PrintWords

/-- The first place whose number is not below x. -/
def posOf (x : Int) : List Int → Nat
  | [] => 0
  | y :: ys => if y < x then posOf x ys + 1 else 0
theorem posOf_le (x : Int) : ∀ l : List Int, posOf x l ≤ l.length
  | [] => Nat.le_refl _
  | y :: ys => by
    have := posOf_le x ys
    rw [posOf, List.length_cons]
    split <;> omega
theorem posOf_lt (x : Int) : ∀ (l : List Int) (p : Nat) (hp : p < l.length), p < posOf x l → l[p] < x
  | [], p, hp, _ => absurd hp (by simp)
  | y :: ys, p, hp, h => by
    rw [posOf] at h
    by_cases c : y < x
    · rw [if_pos c] at h
      match p, hp, h with
      | 0, _, _ => exact c
      | p + 1, hp, h => exact posOf_lt x ys p (by simpa using hp) (by omega)
    · rw [if_neg c] at h; omega
theorem posOf_at (x : Int) : ∀ (l : List Int) (h : posOf x l < l.length), ¬ l[posOf x l] < x
  | [], h => absurd h (by simp)
  | y :: ys, h => by
    by_cases c : y < x
    · have e : posOf x (y :: ys) = posOf x ys + 1 := by rw [posOf, if_pos c]
      simp only [e, List.getElem_cons_succ]
      exact posOf_at x ys (by rw [e] at h; simpa using h)
    · have e : posOf x (y :: ys) = 0 := by rw [posOf, if_neg c]
      simp only [e, List.getElem_cons_zero]
      exact c

/-- x put in at its place, if it is not there. -/
def ins (x : Int) (l : List Int) : List Int := if posOf x l < l.length ∧ l.getD (posOf x l) 0 = x then l else l.take (posOf x l) ++ ([x] ++ l.drop (posOf x l))
def insAll (out : List Int) (l : List Int) : List Int := l.foldl (fun o x => ins x o) out

theorem ins_length (x : Int) (l : List Int) : (ins x l).length ≤ l.length + 1 := by
  unfold ins
  split
  · omega
  · simp; omega

theorem ins_mem (x : Int) (l : List Int) (y : Int) : y ∈ ins x l ↔ y = x ∨ y ∈ l := by
  unfold ins
  split
  · rename_i h
    constructor
    · exact .inr
    · rintro (rfl | h2)
      · have : l.getD (posOf y l) 0 ∈ l := by
          rw [List.getD_eq_getElem?_getD, List.getElem?_eq_getElem h.1]
          exact List.getElem_mem _
        rwa [h.2] at this
      · exact h2
  · have e : y ∈ l ↔ y ∈ l.take (posOf x l) ∨ y ∈ l.drop (posOf x l) := by
      rw [← List.mem_append, List.take_append_drop]
    rw [e]
    simp only [List.mem_append, List.mem_singleton]
    constructor
    · rintro (h | h | h)
      · exact .inr (.inl h)
      · exact .inl h
      · exact .inr (.inr h)
    · rintro (h | h | h)
      · exact .inr (.inl h)
      · exact .inl h
      · exact .inr (.inr h)

theorem ins_rise (x : Int) (l : List Int) (h : l.Pairwise (fun x y => x < y)) : (ins x l).Pairwise (fun x y => x < y) := by
  unfold ins
  split
  · exact h
  · rename_i hc
    have h2 := h
    rw [← List.take_append_drop (posOf x l) l, List.pairwise_append] at h2
    obtain ⟨h3, h4, h5⟩ := h2
    have hlow : ∀ a ∈ l.take (posOf x l), a < x := by
      intro a ha
      obtain ⟨i, hi, rfl⟩ := List.getElem_of_mem ha
      rw [List.length_take] at hi
      rw [List.getElem_take]
      exact posOf_lt x l i (by omega) (by omega)
    have hhigh : ∀ b ∈ l.drop (posOf x l), x < b := by
      intro b hb
      by_cases hl : posOf x l < l.length
      · have h6 : ¬ l[posOf x l] < x := posOf_at x l hl
        have h7 : l[posOf x l] ≠ x := fun e => hc ⟨hl, by rw [List.getD_eq_getElem?_getD, List.getElem?_eq_getElem hl]; exact e⟩
        rw [drop_get l _ hl] at hb h4
        rw [List.pairwise_cons] at h4
        rcases List.mem_cons.1 hb with rfl | hb
        · omega
        · have := h4.1 b hb
          omega
      · rw [List.drop_of_length_le (by omega)] at hb
        exact absurd hb (by simp)
    rw [List.pairwise_append, List.singleton_append, List.pairwise_cons]
    refine ⟨h3, ⟨fun b hb => hhigh b hb, h4⟩, fun a ha b hb => ?_⟩
    rcases List.mem_cons.1 hb with rfl | hb
    · exact hlow a ha
    · exact h5 a ha b hb

theorem insAll_spec : ∀ (l out : List Int), out.Pairwise (fun x y => x < y) → (insAll out l).Pairwise (fun x y => x < y) ∧ ∀ y, y ∈ insAll out l ↔ y ∈ out ∨ y ∈ l
  | [], out, h => ⟨h, fun y => by simp [insAll]⟩
  | x :: l, out, h => by
    obtain ⟨h1, h2⟩ := insAll_spec l (ins x out) (ins_rise x out h)
    refine ⟨h1, fun y => ?_⟩
    show y ∈ insAll (ins x out) l ↔ _
    rw [h2 y, ins_mem, List.mem_cons]
    constructor
    · rintro ((h | h) | h)
      · exact .inr (.inl h)
      · exact .inl h
      · exact .inr (.inr h)
    · rintro (h | h | h)
      · exact .inl (.inr h)
      · exact .inl (.inl h)
      · exact .inr h

theorem insAll_sorted (l : List Int) : insAll [] l = sortedF l := by
  obtain ⟨h1, h2⟩ := insAll_spec l [] List.Pairwise.nil
  exact (sorted_eq h1 (fun x => by rw [h2 x]; simp)).symm

theorem insAll_append (out a b : List Int) : insAll out (a ++ b) = insAll (insAll out a) b := by unfold insAll; rw [List.foldl_append]

/-- A loop that looks for the place. -/
theorem pos_loop {β : Type} (x : Int) (out : List Int) (G : Nat → Nat → Option β) (r : β) (hend : Ev (G (posOf x out)) r) (hskip : ∀ p (hp : p < out.length), out[p] < x → Ev (G (p + 1)) r → Ev (G p) r) : Ev (G 0) r :=
  Ev.up0 (posOf x out) G (fun _ => r) hend (fun p hp ih => hskip p (by have := posOf_le x out; omega) (posOf_lt x out p (by have := posOf_le x out; omega) hp) ih) 0 (Nat.zero_le _)

end Go.Proofs.Ytfmldgpebnnbbaa.Pure
