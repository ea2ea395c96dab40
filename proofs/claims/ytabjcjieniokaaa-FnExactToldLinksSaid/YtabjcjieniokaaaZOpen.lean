/- What a row's arguments read as, opened kind by kind: a value of any kind that is read as data (ints, bools, slices, structs of these) is read in the kind's own words. No condition. -/
import Derived.Test.YtabjcjieniokaaaWWords
import Derived.Deep.Slices
import Derived.ChangeArms
import Derived.Lib.SmallJoins
namespace Go.Proofs.Ytabjcjieniokaaa.ZOpen
open Go.RowKit Go.Proofs.YtabjcjieniokaaaW.PrintWords Go.ChangeShapes Go.WideShapes

/-- A value's cells of type t, if they are read as data, read in the kind d, and what is read is ok. -/
def Opens (P : Program) (t : TypeId) {α : Type} (d : Kd α) (ok : α → Prop) : Prop :=
  P.cellsOf t = d.sz ∧ ∀ {H : Type} (enc : TypeId × Value → H) (W : World) (fuel : Nat) (cs : List Value) (x : DataW H × List MemPlace),
    DataW.trod enc P W 0 (fun _ => true) true fuel t cs = some x → ∃ a, d.K W a cs ∧ ok a

def okI (k : IntKind) (x : Int) : Prop := (Lit.int k x).wf = true
def okB (_ : Bool) : Prop := True
def okL {α : Type} (ok : α → Prop) (xs : List α) : Prop := xs.length ≤ maxLen ∧ ∀ x ∈ xs, ok x
def okP {α β : Type} (oa : α → Prop) (ob : β → Prop) (x : α × β) : Prop := oa x.1 ∧ ob x.2

variable {P : Program}

theorem opens_int {t : TypeId} {k : IntKind} (hu : P.underlying t = some (.int k)) (hc : P.cellsOf t = 1) : Opens P t (Kd.int k) (okI k) := by
  refine ⟨hc, fun enc W fuel cs x h => ?_⟩
  obtain ⟨n, rfl, _, hw⟩ := DataW.trod_int hu h
  exact ⟨n, rfl, hw⟩

theorem opens_bool {t : TypeId} (hu : P.underlying t = some .bool) (hc : P.cellsOf t = 1) : Opens P t Kd.bool okB := by
  refine ⟨hc, fun enc W fuel cs x h => ?_⟩
  obtain ⟨n, rfl, _⟩ := DataW.trod_bool hu h
  exact ⟨n, rfl, trivial⟩

theorem opens_slice {t e : TypeId} {α : Type} {d : Kd α} {ok : α → Prop} (hu : P.underlying t = some (.slice e)) (hc : P.cellsOf t = 1) (he : Opens P e d ok) (z : α) :
    Opens P t (Kd.slice e d) (okL ok) := by
  have : Inhabited α := ⟨z⟩
  refine ⟨hc, fun {H} enc W fuel cs x h => ?_⟩
  rcases Deep.open_slice hu h with ⟨rfl, _⟩ | ⟨a, len, cap, m, n, D, Pl, rfl, _, hl, hm, hm', _, hel⟩
  · exact ⟨[], ⟨none, 0, rfl, Nat.le_refl _, rfl, by simp, fun hn => absurd hn (by simp)⟩, by simp [okL]⟩
  · have hlm : len ≤ m := by rw [hm']; split <;> omega
    have hex : ∀ i, i < len → ∃ y : α, ∃ cs', W.cells? 0 (a.add (i * P.cellsOf e)) (P.cellsOf e) = some cs' ∧ d.K W y cs' ∧ ok y := by
      intro i hi
      obtain ⟨cs', h1, h2⟩ := hel i (by omega)
      obtain ⟨y, hy, hok⟩ := he.2 enc W n cs' _ h2
      exact ⟨y, cs', h1, hy, hok⟩
    obtain ⟨f, hf⟩ := Deep.choose_lt hex
    refine ⟨(List.range len).map f, ⟨some a, cap, by simp, by simpa using hl, by simp, ?_, fun _ => ⟨a, rfl, fun j p hj => ?_⟩⟩, ?_, ?_⟩
    · unfold maxLen at hm
      simp
      omega
    · have hj' : j < len ∧ p = f j := by
        rw [List.getElem?_map] at hj
        by_cases hlt : j < len
        · rw [List.getElem?_range hlt] at hj
          exact ⟨hlt, by simpa using hj.symm⟩
        · rw [List.getElem?_eq_none (by simp; omega)] at hj
          simp at hj
      obtain ⟨hlt, rfl⟩ := hj'
      obtain ⟨cs', h1, h2, _⟩ := hf j hlt
      refine ⟨cs', d.K_len h2, h2, fun i u hu' => ?_⟩
      obtain ⟨_, h4⟩ := World.cells?_some h1
      obtain ⟨h5, h6⟩ := h4
      have hi : i < P.cellsOf e := by
        have := (List.getElem?_eq_some_iff.1 hu').1
        omega
      have := h6 i hi
      rw [← he.1, ← Deep.add_add, this, hu']
    · simp
      omega
    · intro x hx
      obtain ⟨j, hj, rfl⟩ := List.mem_map.1 hx
      obtain ⟨_, _, _, hok⟩ := hf j (List.mem_range.1 hj)
      exact hok

theorem opens_struct1 {t : TypeId} {f0 : Field} {α β : Type} {d0 : Kd α} {o0 : α → Prop} (g : β → α) (mk : α → β) (hg : ∀ a, g (mk a) = a)
    (hu : P.underlying t = some (.struct #[f0])) (hc : P.cellsOf t = d0.sz) (e0 : f0.offset = 0) (h0 : Opens P f0.type d0 o0) :
    Opens P t (Kd.iso d0 g) (fun x => o0 (g x)) := by
  refine ⟨hc, fun {H} enc W fuel cs x h => ?_⟩
  obtain ⟨xs, n, _, _, hlen, hxs, hf⟩ := DataW.trod_struct hu h
  match xs, hxs with
  | [y0], _ =>
    have r0 := hf 0 f0 rfl
    rw [e0, h0.1, List.drop_zero, List.take_of_length_le (by omega)] at r0
    obtain ⟨a, ha, hoa⟩ := h0.2 enc W n _ _ r0
    exact ⟨mk a, by show d0.K W (g (mk a)) cs; rw [hg]; exact ha, by show o0 (g (mk a)); rw [hg]; exact hoa⟩

theorem opens_struct2 {t : TypeId} {f0 f1 : Field} {α0 α1 β : Type} {d0 : Kd α0} {d1 : Kd α1} {o0 : α0 → Prop} {o1 : α1 → Prop} (g : β → α0 × α1) (mk : α0 × α1 → β) (hg : ∀ a, g (mk a) = a)
    (hu : P.underlying t = some (.struct #[f0, f1])) (hc : P.cellsOf t = d0.sz + d1.sz) (e0 : f0.offset = 0) (e1 : f1.offset = d0.sz) (h0 : Opens P f0.type d0 o0) (h1 : Opens P f1.type d1 o1) :
    Opens P t (Kd.iso (Kd.pair d0 d1) g) (fun x => okP o0 o1 (g x)) := by
  refine ⟨hc, fun {H} enc W fuel cs x h => ?_⟩
  obtain ⟨xs, n, _, _, hlen, hxs, hf⟩ := DataW.trod_struct hu h
  match xs, hxs with
  | [y0, y1], _ =>
    have r0 := hf 0 f0 rfl
    have r1 := hf 1 f1 rfl
    rw [e0, h0.1, List.drop_zero] at r0
    rw [e1, h1.1, List.take_of_length_le (by rw [List.length_drop]; omega)] at r1
    obtain ⟨a, ha, hoa⟩ := h0.2 enc W n _ _ r0
    obtain ⟨b, hb, hob⟩ := h1.2 enc W n _ _ r1
    refine ⟨mk (a, b), ?_, ?_⟩
    · show (Kd.pair d0 d1).K W (g (mk (a, b))) cs
      rw [hg]
      exact ⟨_, _, (List.take_append_drop d0.sz cs).symm, ha, hb⟩
    · show okP o0 o1 (g (mk (a, b)))
      rw [hg]
      exact ⟨hoa, hob⟩

theorem opens_struct3 {t : TypeId} {f0 f1 f2 : Field} {α0 α1 α2 β : Type} {d0 : Kd α0} {d1 : Kd α1} {d2 : Kd α2} {o0 : α0 → Prop} {o1 : α1 → Prop} {o2 : α2 → Prop} (g : β → α0 × (α1 × α2)) (mk : α0 × (α1 × α2) → β) (hg : ∀ a, g (mk a) = a)
    (hu : P.underlying t = some (.struct #[f0, f1, f2])) (hc : P.cellsOf t = d0.sz + (d1.sz + d2.sz)) (e0 : f0.offset = 0) (e1 : f1.offset = d0.sz) (e2 : f2.offset = d0.sz + d1.sz) (h0 : Opens P f0.type d0 o0) (h1 : Opens P f1.type d1 o1) (h2 : Opens P f2.type d2 o2) :
    Opens P t (Kd.iso (Kd.pair d0 (Kd.pair d1 d2)) g) (fun x => okP o0 (okP o1 o2) (g x)) := by
  refine ⟨hc, fun {H} enc W fuel cs x h => ?_⟩
  obtain ⟨xs, n, _, _, hlen, hxs, hf⟩ := DataW.trod_struct hu h
  match xs, hxs with
  | [y0, y1, y2], _ =>
    have r0 := hf 0 f0 rfl
    have r1 := hf 1 f1 rfl
    have r2 := hf 2 f2 rfl
    rw [e0, h0.1, List.drop_zero] at r0
    rw [e1, h1.1] at r1
    rw [e2, h2.1, List.take_of_length_le (by rw [List.length_drop]; omega)] at r2
    obtain ⟨a, ha, hoa⟩ := h0.2 enc W n _ _ r0
    obtain ⟨b, hb, hob⟩ := h1.2 enc W n _ _ r1
    obtain ⟨c, hc2, hoc⟩ := h2.2 enc W n _ _ r2
    refine ⟨mk (a, (b, c)), ?_, ?_⟩
    · show (Kd.pair d0 (Kd.pair d1 d2)).K W (g (mk (a, (b, c)))) cs
      rw [hg]
      refine ⟨_, _, (List.take_append_drop d0.sz cs).symm, ha, _, _, ?_, hb, hc2⟩
      rw [← List.drop_drop]
      exact (List.take_append_drop d1.sz (cs.drop d0.sz)).symm
    · show okP o0 (okP o1 o2) (g (mk (a, (b, c))))
      rw [hg]
      exact ⟨hoa, hob, hoc⟩

end Go.Proofs.Ytabjcjieniokaaa.ZOpen
