/- Plain lemmas on the laws' own helpers: copies, comparisons, sizes, marks. No condition. -/
import Derived.Test.YtghippahfkjhhaaPBase
import Derived.Test.YtghippahfkjhhaaZ6
import Derived.Test.YtghippahfkjhhaaZ23
import Derived.Test.YtghippahfkjhhaaZ24
import Derived.Test.YtghippahfkjhhaaZ28
import Derived.Test.YtghippahfkjhhaaZ29
import Derived.Test.YtghippahfkjhhaaZ31
import Derived.Test.YtghippahfkjhhaaZ32
namespace Go.Proofs.Ytghippahfkjhhaa.Pure
open Go.RowKit Go.Proofs.Ytghippahfkjhhaa.Z Go.Proofs.YtghippahfkjhhaaW.PrintWords
set_option linter.unusedSimpArgs false
set_option linter.unusedVariables false
def smL {α : Type} (sm : α → Prop) (l : List α) : Prop := l.length ≤ 1048576 ∧ ∀ x ∈ l, sm x
def okLen {α : Type} (l : List α) : Prop := l.length ≤ maxLen
theorem eq_IntS (l : List Int) (h : l.length ≤ maxLen) : Ev (fun k => laws_eqIntS.f k l l) true := by
  unfold maxLen at h
  unfold laws_eqIntS.f
  refine Ev.ifpos rfl ?_
  exact Ev.up0 l.length (fun i k => laws_eqIntS.l0 k l l (i : Int)) (fun _ => true)
    (Ev.step (fun k => by rw [laws_eqIntS.l0]) (Ev.ifneg (by omega) (Ev.now _)))
    (fun i hi ih => by
      refine Ev.step (fun k => by rw [laws_eqIntS.l0]) ?_
      refine Ev.ifpos (by omega) (Ev.ifpos (by omega) (Ev.ifpos (by omega) ?_))
      refine Ev.ifpos rfl ?_
      rw [wrap_succ (by omega)]
      exact ih) 0 (Nat.zero_le _)
theorem sz_IntS (l : List Int) (hl : l.length ≤ maxLen) (s : Int) (h0 : 0 ≤ s) (h1 : s ≤ 1048576) : ∃ r : Int, laws_szIntS.f l s = some r ∧ (0 ≤ r → r ≤ s ∧ (smL (fun _ => True)) l) := by
  unfold maxLen at hl
  unfold laws_szIntS.f
  rw [wrap_in (by omega) (by omega)]
  by_cases h : s - (l.length : Int) < 0
  · exact ⟨-1, by rw [if_pos h], fun h => by omega⟩
  · exact ⟨s - (l.length : Int), by rw [if_neg h], fun _ => ⟨by omega, by omega, fun _ _ => trivial⟩⟩
theorem to_IntS (l : List Int) (h : (smL (fun _ => True)) l) : Ev (fun k => laws_toIntS.f k l) (l) := by
  unfold laws_toIntS.f
  have hl := h.1
  refine Ev.ifpos (by omega) (Ev.ifpos (by omega) ?_)
  rw [Int.toNat_natCast]
  have key := copy_loop l id (fun i s k => laws_toIntS.l0 k l s (i : Int)) ?_ ?_ (List.replicate l.length 0) (by simp)
  · rw [List.map_id] at key; exact key
  · intro s
    refine Ev.step (fun k => by rw [laws_toIntS.l0]) ?_
    exact Ev.ifneg (by omega) (Ev.now _)
  · intro i hi s r hs hr
    refine Ev.step (fun k => by rw [laws_toIntS.l0]) ?_
    refine Ev.ifpos (by omega) (Ev.ifpos (by omega) ?_)
    refine Ev.ifpos (by omega) ?_
    rw [rd_get l i hi, wrap_succ (by omega), Int.toNat_natCast]
    exact hr
def smS105 (x : S105) : Prop := (fun _ => True) x.f0 ∧ (fun _ => True) x.f1 ∧ (smL (fun _ => True)) x.f2
theorem sz_Probe (x : S105) (hx : (fun x : S105 => okLen x.f2) x) (s : Int) (h0 : 0 ≤ s) (h1 : s ≤ 1048576) : ∃ r : Int, laws_szProbe.f x.f0 x.f1 x.f2 s = some r ∧ (0 ≤ r → r ≤ s ∧ smS105 x) := by
  obtain ⟨q, hq, hq2⟩ := sz_IntS x.f2 hx s h0 h1
  unfold laws_szProbe.f
  rw [hq]
  simp only [Option.bind_some]
  by_cases hneg : q < 0
  · exact ⟨-1, by rw [if_pos hneg], fun h => by omega⟩
  · exact ⟨q, by rw [if_neg hneg], fun h => ⟨(hq2 h).1, have hs := (hq2 h).2; ⟨trivial, trivial, hs⟩⟩⟩
theorem rd_T105_get (xs : List S105) (i : Nat) (h : i < xs.length) : rd_T105 xs (i : Int) = xs[i] := getD_get xs i _ h
theorem sz_ProbeS (l : List S105) (hl : l.length ≤ maxLen) (hx : ∀ x ∈ l, (fun x : S105 => okLen x.f2) x) (s : Int) (h0 : 0 ≤ s) (h1 : s ≤ 1048576) : ∃ r : Int, Ev (fun k => laws_szProbeS.f k l s) r ∧ (0 ≤ r → r ≤ s ∧ (smL smS105) l) := by
  unfold maxLen at hl
  unfold laws_szProbeS.f
  rw [wrap_in (by omega) (by omega)]
  by_cases h : s - (l.length : Int) < 0
  · exact ⟨-1, Ev.ifpos h (Ev.now _), fun h => by omega⟩
  · have key := sz_loop l smS105 (fun i s k => laws_szProbeS.l0 k l s (i : Int)) ?_ ?_ (s - (l.length : Int)) (by omega) (by omega)
    · obtain ⟨r, hr, hr2⟩ := key
      exact ⟨r, Ev.ifneg h hr, fun h => ⟨by have := (hr2 h).1; omega, by omega, (hr2 h).2⟩⟩
    · intro s
      refine Ev.step (fun k => by rw [laws_szProbeS.l0]) ?_
      exact Ev.ifneg (by omega) (Ev.now _)
    · intro i hi s h0 h1
      obtain ⟨q, hq, hq2⟩ := sz_Probe l[i] (hx _ (List.getElem_mem hi)) s h0 h1
      by_cases hneg : q < 0
      · refine .inl (Ev.step (fun k => by rw [laws_szProbeS.l0]) ?_)
        refine Ev.ifpos (by omega) (Ev.ifpos (by omega) ?_)
        rw [rd_T105_get l i hi]
        exact Ev.bind0 hq (Ev.ifpos hneg (Ev.now _))
      · refine .inr ⟨q, by omega, (hq2 (by omega)).1, (hq2 (by omega)).2, fun r hr => ?_⟩
        refine Ev.step (fun k => by rw [laws_szProbeS.l0]) ?_
        refine Ev.ifpos (by omega) (Ev.ifpos (by omega) ?_)
        rw [rd_T105_get l i hi]
        refine Ev.bind0 hq (Ev.ifneg hneg ?_)
        rw [wrap_succ (by omega)]
        exact hr
def c105_106 (x : S105) : S106 := ⟨x.f0, x.f1, x.f2⟩
theorem to_Probe (x : S105) (h : smS105 x) : Ev (fun k => laws_toProbe.f k x.f0 x.f1 x.f2) ((c105_106 x).f0, (c105_106 x).f1, (c105_106 x).f2) := by
  unfold laws_toProbe.f
  exact Ev.bind (to_IntS x.f2 h.2.2) (Ev.now _)
theorem to_ProbeS (l : List S105) (h : (smL smS105) l) : Ev (fun k => laws_toProbeS.f k l) (l.map c105_106) := by
  unfold laws_toProbeS.f
  have hl := h.1
  refine Ev.ifpos (by omega) (Ev.ifpos (by omega) ?_)
  rw [Int.toNat_natCast]
  have key := copy_loop l c105_106 (fun i s k => laws_toProbeS.l0 k l s (i : Int)) ?_ ?_ (List.replicate l.length z106) (by simp)
  · exact key
  · intro s
    refine Ev.step (fun k => by rw [laws_toProbeS.l0]) ?_
    exact Ev.ifneg (by omega) (Ev.now _)
  · intro i hi s r hs hr
    refine Ev.step (fun k => by rw [laws_toProbeS.l0]) ?_
    refine Ev.ifpos (by omega) (Ev.ifpos (by omega) ?_)
    rw [rd_T105_get l i hi]
    refine Ev.bind (to_Probe l[i] (h.2 _ (List.getElem_mem hi))) ?_
    refine Ev.ifpos (by omega) ?_
    rw [wrap_succ (by omega), Int.toNat_natCast]
    exact hr
def smS106 (x : S106) : Prop := (fun _ => True) x.f0 ∧ (fun _ => True) x.f1 ∧ (smL (fun _ => True)) x.f2
theorem eq_Probe (x : S106) (h : smS106 x) : Ev (fun k => laws_eqProbe.f k x.f0 x.f1 x.f2 x.f0 x.f1 x.f2) true := by
  unfold laws_eqProbe.f
  refine Ev.ifpos rfl ?_
  refine Ev.ifpos rfl ?_
  refine Ev.bind (eq_IntS x.f2 (Nat.le_trans (h.2.2).1 (by decide))) (Ev.ifpos rfl ?_)
  exact Ev.now _
theorem rd_T106_get (xs : List S106) (i : Nat) (h : i < xs.length) : rd_T106 xs (i : Int) = xs[i] := getD_get xs i _ h
theorem eq_ProbeS (l : List S106) (h : (smL smS106) l) : Ev (fun k => laws_eqProbeS.f k l l) true := by
  have hl := h.1
  unfold laws_eqProbeS.f
  refine Ev.ifpos rfl ?_
  exact Ev.up0 l.length (fun i k => laws_eqProbeS.l0 k l l (i : Int)) (fun _ => true)
    (Ev.step (fun k => by rw [laws_eqProbeS.l0]) (Ev.ifneg (by omega) (Ev.now _)))
    (fun i hi ih => by
      refine Ev.step (fun k => by rw [laws_eqProbeS.l0]) ?_
      refine Ev.ifpos (by omega) (Ev.ifpos (by omega) (Ev.ifpos (by omega) ?_))
      rw [rd_T106_get l i hi]
      refine Ev.bind (eq_Probe l[i] (h.2 _ (List.getElem_mem hi))) (Ev.ifpos rfl ?_)
      rw [wrap_succ (by omega)]
      exact ih) 0 (Nat.zero_le _)
end Go.Proofs.Ytghippahfkjhhaa.Pure
