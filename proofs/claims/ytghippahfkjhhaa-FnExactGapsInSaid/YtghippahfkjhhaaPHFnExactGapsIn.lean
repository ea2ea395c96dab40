/- Plain lemmas on the laws' own helpers: copies, comparisons, sizes, marks. No condition. -/
import Derived.Test.YtghippahfkjhhaaPBase
import Derived.Test.YtghippahfkjhhaaZ6
import Derived.Test.YtghippahfkjhhaaZ19
import Derived.Test.YtghippahfkjhhaaZ20
import Derived.Test.YtghippahfkjhhaaZ21
import Derived.Test.YtghippahfkjhhaaZ22
import Derived.Test.YtghippahfkjhhaaZ23
namespace Go.Proofs.Ytghippahfkjhhaa.Pure
open Go.RowKit Go.Proofs.Ytghippahfkjhhaa.Z Go.Proofs.YtghippahfkjhhaaW.PrintWords
set_option linter.unusedSimpArgs false
set_option linter.unusedVariables false
def smL {α : Type} (sm : α → Prop) (l : List α) : Prop := l.length ≤ 1048576 ∧ ∀ x ∈ l, sm x
def okLen {α : Type} (l : List α) : Prop := l.length ≤ maxLen
theorem eq_IntS (l : List Int) (h : l.length ≤ maxLen) : Ev (fun k => laws_eqIntS.f k l l) true := by
  unfold maxLen at h
  unfold laws_eqIntS.f
  refine Ev.ifpos rfl ?_
  exact Ev.up0 l.length (fun i k => laws_eqIntS.l0 k l l (i : Int)) (fun _ => true)
    (Ev.step (fun k => by rw [laws_eqIntS.l0]) (Ev.ifneg (by omega) (Ev.now _)))
    (fun i hi ih => by
      refine Ev.step (fun k => by rw [laws_eqIntS.l0]) ?_
      refine Ev.ifpos (by omega) (Ev.ifpos (by omega) (Ev.ifpos (by omega) ?_))
      refine Ev.ifpos rfl ?_
      rw [wrap_succ (by omega)]
      exact ih) 0 (Nat.zero_le _)
theorem sz_IntS (l : List Int) (hl : l.length ≤ maxLen) (s : Int) (h0 : 0 ≤ s) (h1 : s ≤ 1048576) : ∃ r : Int, laws_szIntS.f l s = some r ∧ (0 ≤ r → r ≤ s ∧ (smL (fun _ => True)) l) := by
  unfold maxLen at hl
  unfold laws_szIntS.f
  rw [wrap_in (by omega) (by omega)]
  by_cases h : s - (l.length : Int) < 0
  · exact ⟨-1, by rw [if_pos h], fun h => by omega⟩
  · exact ⟨s - (l.length : Int), by rw [if_neg h], fun _ => ⟨by omega, by omega, fun _ _ => trivial⟩⟩
def smS99 (x : S99) : Prop := (smL (fun _ => True)) x.f0
theorem sz_Trace (x : S99) (hx : (fun x : S99 => okLen x.f0) x) (s : Int) (h0 : 0 ≤ s) (h1 : s ≤ 1048576) : ∃ r : Int, laws_szTrace.f x.f0 s = some r ∧ (0 ≤ r → r ≤ s ∧ smS99 x) := by
  obtain ⟨q, hq, hq2⟩ := sz_IntS x.f0 hx s h0 h1
  unfold laws_szTrace.f
  rw [hq]
  simp only [Option.bind_some]
  by_cases hneg : q < 0
  · exact ⟨-1, by rw [if_pos hneg], fun h => by omega⟩
  · exact ⟨q, by rw [if_neg hneg], fun h => ⟨(hq2 h).1, have hs := (hq2 h).2; hs⟩⟩
theorem rd_T99_get (xs : List S99) (i : Nat) (h : i < xs.length) : rd_T99 xs (i : Int) = xs[i] := getD_get xs i _ h
theorem sz_TraceS (l : List S99) (hl : l.length ≤ maxLen) (hx : ∀ x ∈ l, (fun x : S99 => okLen x.f0) x) (s : Int) (h0 : 0 ≤ s) (h1 : s ≤ 1048576) : ∃ r : Int, Ev (fun k => laws_szTraceS.f k l s) r ∧ (0 ≤ r → r ≤ s ∧ (smL smS99) l) := by
  unfold maxLen at hl
  unfold laws_szTraceS.f
  rw [wrap_in (by omega) (by omega)]
  by_cases h : s - (l.length : Int) < 0
  · exact ⟨-1, Ev.ifpos h (Ev.now _), fun h => by omega⟩
  · have key := sz_loop l smS99 (fun i s k => laws_szTraceS.l0 k l s (i : Int)) ?_ ?_ (s - (l.length : Int)) (by omega) (by omega)
    · obtain ⟨r, hr, hr2⟩ := key
      exact ⟨r, Ev.ifneg h hr, fun h => ⟨by have := (hr2 h).1; omega, by omega, (hr2 h).2⟩⟩
    · intro s
      refine Ev.step (fun k => by rw [laws_szTraceS.l0]) ?_
      exact Ev.ifneg (by omega) (Ev.now _)
    · intro i hi s h0 h1
      obtain ⟨q, hq, hq2⟩ := sz_Trace l[i] (hx _ (List.getElem_mem hi)) s h0 h1
      by_cases hneg : q < 0
      · refine .inl (Ev.step (fun k => by rw [laws_szTraceS.l0]) ?_)
        refine Ev.ifpos (by omega) (Ev.ifpos (by omega) ?_)
        rw [rd_T99_get l i hi]
        exact Ev.bind0 hq (Ev.ifpos hneg (Ev.now _))
      · refine .inr ⟨q, by omega, (hq2 (by omega)).1, (hq2 (by omega)).2, fun r hr => ?_⟩
        refine Ev.step (fun k => by rw [laws_szTraceS.l0]) ?_
        refine Ev.ifpos (by omega) (Ev.ifpos (by omega) ?_)
        rw [rd_T99_get l i hi]
        refine Ev.bind0 hq (Ev.ifneg hneg ?_)
        rw [wrap_succ (by omega)]
        exact hr
theorem to_IntS (l : List Int) (h : (smL (fun _ => True)) l) : Ev (fun k => laws_toIntS.f k l) (l) := by
  unfold laws_toIntS.f
  have hl := h.1
  refine Ev.ifpos (by omega) (Ev.ifpos (by omega) ?_)
  rw [Int.toNat_natCast]
  have key := copy_loop l id (fun i s k => laws_toIntS.l0 k l s (i : Int)) ?_ ?_ (List.replicate l.length 0) (by simp)
  · rw [List.map_id] at key; exact key
  · intro s
    refine Ev.step (fun k => by rw [laws_toIntS.l0]) ?_
    exact Ev.ifneg (by omega) (Ev.now _)
  · intro i hi s r hs hr
    refine Ev.step (fun k => by rw [laws_toIntS.l0]) ?_
    refine Ev.ifpos (by omega) (Ev.ifpos (by omega) ?_)
    refine Ev.ifpos (by omega) ?_
    rw [rd_get l i hi, wrap_succ (by omega), Int.toNat_natCast]
    exact hr
def c99_100 (x : S99) : S100 := ⟨x.f0⟩
theorem to_Trace (x : S99) (h : smS99 x) : Ev (fun k => laws_toTrace.f k x.f0) (c99_100 x).f0 := by
  unfold laws_toTrace.f
  exact Ev.bind (to_IntS x.f0 h) (Ev.now _)
theorem to_TraceS (l : List S99) (h : (smL smS99) l) : Ev (fun k => laws_toTraceS.f k l) (l.map c99_100) := by
  unfold laws_toTraceS.f
  have hl := h.1
  refine Ev.ifpos (by omega) (Ev.ifpos (by omega) ?_)
  rw [Int.toNat_natCast]
  have key := copy_loop l c99_100 (fun i s k => laws_toTraceS.l0 k l s (i : Int)) ?_ ?_ (List.replicate l.length z100) (by simp)
  · exact key
  · intro s
    refine Ev.step (fun k => by rw [laws_toTraceS.l0]) ?_
    exact Ev.ifneg (by omega) (Ev.now _)
  · intro i hi s r hs hr
    refine Ev.step (fun k => by rw [laws_toTraceS.l0]) ?_
    refine Ev.ifpos (by omega) (Ev.ifpos (by omega) ?_)
    rw [rd_T99_get l i hi]
    refine Ev.bind (to_Trace l[i] (h.2 _ (List.getElem_mem hi))) ?_
    refine Ev.ifpos (by omega) ?_
    rw [wrap_succ (by omega), Int.toNat_natCast]
    exact hr
def smS100 (x : S100) : Prop := (smL (fun _ => True)) x.f0
theorem eq_Trace (x : S100) (h : smS100 x) : Ev (fun k => laws_eqTrace.f k x.f0 x.f0) true := by
  unfold laws_eqTrace.f
  refine Ev.bind (eq_IntS x.f0 (Nat.le_trans (h).1 (by decide))) (Ev.ifpos rfl ?_)
  exact Ev.now _
theorem rd_T100_get (xs : List S100) (i : Nat) (h : i < xs.length) : rd_T100 xs (i : Int) = xs[i] := getD_get xs i _ h
theorem eq_TraceS (l : List S100) (h : (smL smS100) l) : Ev (fun k => laws_eqTraceS.f k l l) true := by
  have hl := h.1
  unfold laws_eqTraceS.f
  refine Ev.ifpos rfl ?_
  exact Ev.up0 l.length (fun i k => laws_eqTraceS.l0 k l l (i : Int)) (fun _ => true)
    (Ev.step (fun k => by rw [laws_eqTraceS.l0]) (Ev.ifneg (by omega) (Ev.now _)))
    (fun i hi ih => by
      refine Ev.step (fun k => by rw [laws_eqTraceS.l0]) ?_
      refine Ev.ifpos (by omega) (Ev.ifpos (by omega) (Ev.ifpos (by omega) ?_))
      rw [rd_T100_get l i hi]
      refine Ev.bind (eq_Trace l[i] (h.2 _ (List.getElem_mem hi))) (Ev.ifpos rfl ?_)
      rw [wrap_succ (by omega)]
      exact ih) 0 (Nat.zero_le _)
end Go.Proofs.Ytghippahfkjhhaa.Pure
