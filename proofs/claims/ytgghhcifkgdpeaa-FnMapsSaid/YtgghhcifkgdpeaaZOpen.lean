/- What a row's arguments read as, opened kind by kind: a value of any kind that is read as data (ints, bools, slices, structs of these) is read in the kind's own words. No condition. -/
import Derived.Test.YtgghhcifkgdpeaaWWords
import Derived.Deep.Slices
import Derived.ChangeArms
import Derived.Lib.SmallJoins
namespace Go.Proofs.Ytgghhcifkgdpeaa.ZOpen
open Go.RowKit Go.Proofs.YtgghhcifkgdpeaaW.PrintWords Go.ChangeShapes Go.WideShapes

/-- A value's cells of type t, if they are read as data, read in the kind d, and what is read is ok. -/
def Opens (P : Program) (t : TypeId) {α : Type} (d : Kd α) (ok : α → Prop) : Prop :=
  P.cellsOf t = d.sz ∧ ∀ {H : Type} (enc : TypeId × Value → H) (W : World) (fuel : Nat) (cs : List Value) (x : DataW H × List MemPlace),
    DataW.trod enc P W 0 (fun _ => true) true fuel t cs = some x → ∃ a, d.K W a cs ∧ ok a

def okI (k : IntKind) (x : Int) : Prop := (Lit.int k x).wf = true
def okL {α : Type} (ok : α → Prop) (xs : List α) : Prop := xs.length ≤ maxLen ∧ ∀ x ∈ xs, ok x
variable {P : Program}

theorem opens_int {t : TypeId} {k : IntKind} (hu : P.underlying t = some (.int k)) (hc : P.cellsOf t = 1) : Opens P t (Kd.int k) (okI k) := by
  refine ⟨hc, fun enc W fuel cs x h => ?_⟩
  obtain ⟨n, rfl, _, hw⟩ := DataW.trod_int hu h
  exact ⟨n, rfl, hw⟩

theorem opens_slice {t e : TypeId} {α : Type} {d : Kd α} {ok : α → Prop} (hu : P.underlying t = some (.slice e)) (hc : P.cellsOf t = 1) (he : Opens P e d ok) (z : α) :
    Opens P t (Kd.slice e d) (okL ok) := by
  have : Inhabited α := ⟨z⟩
  refine ⟨hc, fun {H} enc W fuel cs x h => ?_⟩
  rcases Deep.open_slice hu h with ⟨rfl, _⟩ | ⟨a, len, cap, m, n, D, Pl, rfl, _, hl, hm, hm', _, hel⟩
  · exact ⟨[], ⟨none, 0, rfl, Nat.le_refl _, rfl, by simp, fun hn => absurd hn (by simp)⟩, by simp [okL]⟩
  · have hlm : len ≤ m := by rw [hm']; split <;> omega
    have hex : ∀ i, i < len → ∃ y : α, ∃ cs', W.cells? 0 (a.add (i * P.cellsOf e)) (P.cellsOf e) = some cs' ∧ d.K W y cs' ∧ ok y := by
      intro i hi
      obtain ⟨cs', h1, h2⟩ := hel i (by omega)
      obtain ⟨y, hy, hok⟩ := he.2 enc W n cs' _ h2
      exact ⟨y, cs', h1, hy, hok⟩
    obtain ⟨f, hf⟩ := Deep.choose_lt hex
    refine ⟨(List.range len).map f, ⟨some a, cap, by simp, by simpa using hl, by simp, ?_, fun _ => ⟨a, rfl, fun j p hj => ?_⟩⟩, ?_, ?_⟩
    · unfold maxLen at hm
      simp
      omega
    · have hj' : j < len ∧ p = f j := by
        rw [List.getElem?_map] at hj
        by_cases hlt : j < len
        · rw [List.getElem?_range hlt] at hj
          exact ⟨hlt, by simpa using hj.symm⟩
        · rw [List.getElem?_eq_none (by simp; omega)] at hj
          simp at hj
      obtain ⟨hlt, rfl⟩ := hj'
      obtain ⟨cs', h1, h2, _⟩ := hf j hlt
      refine ⟨cs', d.K_len h2, h2, fun i u hu' => ?_⟩
      obtain ⟨_, h4⟩ := World.cells?_some h1
      obtain ⟨h5, h6⟩ := h4
      have hi : i < P.cellsOf e := by
        have := (List.getElem?_eq_some_iff.1 hu').1
        omega
      have := h6 i hi
      rw [← he.1, ← Deep.add_add, this, hu']
    · simp
      omega
    · intro x hx
      obtain ⟨j, hj, rfl⟩ := List.mem_map.1 hx
      obtain ⟨_, _, _, hok⟩ := hf j (List.mem_range.1 hj)
      exact hok

end Go.Proofs.Ytgghhcifkgdpeaa.ZOpen
