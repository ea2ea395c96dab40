/- Plain lemmas on the laws' own helpers: copies, comparisons, sizes, marks. No condition. -/
import Derived.Test.YtlghphhkbobhiaaPBase
import Derived.Test.YtlghphhkbobhiaaZ4
import Derived.Test.YtlghphhkbobhiaaZ5
import Derived.Test.YtlghphhkbobhiaaZ6
namespace Go.Proofs.Ytlghphhkbobhiaa.Pure
open Go.RowKit Go.Proofs.Ytlghphhkbobhiaa.Z Go.Proofs.YtlghphhkbobhiaaW.PrintWords
set_option linter.unusedSimpArgs false
set_option linter.unusedVariables false
def smL {α : Type} (sm : α → Prop) (l : List α) : Prop := l.length ≤ 1048576 ∧ ∀ x ∈ l, sm x
def okLen {α : Type} (l : List α) : Prop := l.length ≤ maxLen
def smS116 (x : S116) : Prop := (fun _ => True) x.f0 ∧ (fun _ => True) x.f1
theorem sz_LinkS (l : List S116) (hl : l.length ≤ maxLen) (s : Int) (h0 : 0 ≤ s) (h1 : s ≤ 1048576) : ∃ r : Int, laws_szLinkS.f l s = some r ∧ (0 ≤ r → r ≤ s ∧ (smL smS116) l) := by
  unfold maxLen at hl
  unfold laws_szLinkS.f
  rw [wrap_in (by omega) (by omega)]
  by_cases h : s - (l.length : Int) < 0
  · exact ⟨-1, by rw [if_pos h], fun h => by omega⟩
  · exact ⟨s - (l.length : Int), by rw [if_neg h], fun _ => ⟨by omega, by omega, fun _ _ => ⟨trivial, trivial⟩⟩⟩
def smS31 (x : S31) : Prop := (fun _ => True) x.f0 ∧ (smL smS116) x.f1
theorem sz_Net (x : S31) (hx : (fun x : S31 => okLen x.f1) x) (s : Int) (h0 : 0 ≤ s) (h1 : s ≤ 1048576) : ∃ r : Int, laws_szNet.f x.f0 x.f1 s = some r ∧ (0 ≤ r → r ≤ s ∧ smS31 x) := by
  obtain ⟨q, hq, hq2⟩ := sz_LinkS x.f1 hx s h0 h1
  unfold laws_szNet.f
  rw [hq]
  simp only [Option.bind_some]
  by_cases hneg : q < 0
  · exact ⟨-1, by rw [if_pos hneg], fun h => by omega⟩
  · exact ⟨q, by rw [if_neg hneg], fun h => ⟨(hq2 h).1, have hs := (hq2 h).2; ⟨trivial, hs⟩⟩⟩
def c116_107 (x : S116) : S107 := ⟨x.f0, x.f1⟩
theorem to_Link (x : S116) : laws_toLink.f x.f0 x.f1 = some ((c116_107 x).f0, (c116_107 x).f1) := rfl
theorem rd_T116_get (xs : List S116) (i : Nat) (h : i < xs.length) : rd_T116 xs (i : Int) = xs[i] := getD_get xs i _ h
theorem to_LinkS (l : List S116) (h : (smL smS116) l) : Ev (fun k => laws_toLinkS.f k l) (l.map c116_107) := by
  unfold laws_toLinkS.f
  have hl := h.1
  refine Ev.ifpos (by omega) (Ev.ifpos (by omega) ?_)
  rw [Int.toNat_natCast]
  have key := copy_loop l c116_107 (fun i s k => laws_toLinkS.l0 k l s (i : Int)) ?_ ?_ (List.replicate l.length z107) (by simp)
  · exact key
  · intro s
    refine Ev.step (fun k => by rw [laws_toLinkS.l0]) ?_
    exact Ev.ifneg (by omega) (Ev.now _)
  · intro i hi s r hs hr
    refine Ev.step (fun k => by rw [laws_toLinkS.l0]) ?_
    refine Ev.ifpos (by omega) (Ev.ifpos (by omega) ?_)
    rw [rd_T116_get l i hi]
    refine Ev.bind0 (to_Link l[i]) ?_
    refine Ev.ifpos (by omega) ?_
    rw [wrap_succ (by omega), Int.toNat_natCast]
    exact hr
def c31_37 (x : S31) : S37 := ⟨x.f0, (List.map c116_107) x.f1⟩
theorem to_Net (x : S31) (h : smS31 x) : Ev (fun k => laws_toNet.f k x.f0 x.f1) ((c31_37 x).f0, (c31_37 x).f1) := by
  unfold laws_toNet.f
  exact Ev.bind (to_LinkS x.f1 h.2) (Ev.now _)
theorem eq_Link (x : S107) : laws_eqLink.f x.f0 x.f1 x.f0 x.f1 = some true := by
  unfold laws_eqLink.f
  simp
theorem rd_T107_get (xs : List S107) (i : Nat) (h : i < xs.length) : rd_T107 xs (i : Int) = xs[i] := getD_get xs i _ h
theorem eq_LinkS (l : List S107) (h : l.length ≤ maxLen) : Ev (fun k => laws_eqLinkS.f k l l) true := by
  unfold maxLen at h
  unfold laws_eqLinkS.f
  refine Ev.ifpos rfl ?_
  exact Ev.up0 l.length (fun i k => laws_eqLinkS.l0 k l l (i : Int)) (fun _ => true)
    (Ev.step (fun k => by rw [laws_eqLinkS.l0]) (Ev.ifneg (by omega) (Ev.now _)))
    (fun i hi ih => by
      refine Ev.step (fun k => by rw [laws_eqLinkS.l0]) ?_
      refine Ev.ifpos (by omega) (Ev.ifpos (by omega) (Ev.ifpos (by omega) ?_))
      rw [rd_T107_get l i hi]
      refine Ev.bind0 (eq_Link l[i]) (Ev.ifpos rfl ?_)
      rw [wrap_succ (by omega)]
      exact ih) 0 (Nat.zero_le _)
def smS107 (x : S107) : Prop := (fun _ => True) x.f0 ∧ (fun _ => True) x.f1
def smS37 (x : S37) : Prop := (fun _ => True) x.f0 ∧ (smL smS107) x.f1
theorem eq_Net (x : S37) (h : smS37 x) : Ev (fun k => laws_eqNet.f k x.f0 x.f1 x.f0 x.f1) true := by
  unfold laws_eqNet.f
  refine Ev.ifpos rfl ?_
  refine Ev.bind (eq_LinkS x.f1 (Nat.le_trans (h.2).1 (by decide))) (Ev.ifpos rfl ?_)
  exact Ev.now _
theorem sz_IntS (l : List Int) (hl : l.length ≤ maxLen) (s : Int) (h0 : 0 ≤ s) (h1 : s ≤ 1048576) : ∃ r : Int, laws_szIntS.f l s = some r ∧ (0 ≤ r → r ≤ s ∧ (smL (fun _ => True)) l) := by
  unfold maxLen at hl
  unfold laws_szIntS.f
  rw [wrap_in (by omega) (by omega)]
  by_cases h : s - (l.length : Int) < 0
  · exact ⟨-1, by rw [if_pos h], fun h => by omega⟩
  · exact ⟨s - (l.length : Int), by rw [if_neg h], fun _ => ⟨by omega, by omega, fun _ _ => trivial⟩⟩
def smS101 (x : S101) : Prop := (fun _ => True) x.f0 ∧ (fun _ => True) x.f1 ∧ (smL (fun _ => True)) x.f2
theorem sz_Probe (x : S101) (hx : (fun x : S101 => okLen x.f2) x) (s : Int) (h0 : 0 ≤ s) (h1 : s ≤ 1048576) : ∃ r : Int, laws_szProbe.f x.f0 x.f1 x.f2 s = some r ∧ (0 ≤ r → r ≤ s ∧ smS101 x) := by
  obtain ⟨q, hq, hq2⟩ := sz_IntS x.f2 hx s h0 h1
  unfold laws_szProbe.f
  rw [hq]
  simp only [Option.bind_some]
  by_cases hneg : q < 0
  · exact ⟨-1, by rw [if_pos hneg], fun h => by omega⟩
  · exact ⟨q, by rw [if_neg hneg], fun h => ⟨(hq2 h).1, have hs := (hq2 h).2; ⟨trivial, trivial, hs⟩⟩⟩
theorem rd_T101_get (xs : List S101) (i : Nat) (h : i < xs.length) : rd_T101 xs (i : Int) = xs[i] := getD_get xs i _ h
theorem sz_ProbeS (l : List S101) (hl : l.length ≤ maxLen) (hx : ∀ x ∈ l, (fun x : S101 => okLen x.f2) x) (s : Int) (h0 : 0 ≤ s) (h1 : s ≤ 1048576) : ∃ r : Int, Ev (fun k => laws_szProbeS.f k l s) r ∧ (0 ≤ r → r ≤ s ∧ (smL smS101) l) := by
  unfold maxLen at hl
  unfold laws_szProbeS.f
  rw [wrap_in (by omega) (by omega)]
  by_cases h : s - (l.length : Int) < 0
  · exact ⟨-1, Ev.ifpos h (Ev.now _), fun h => by omega⟩
  · have key := sz_loop l smS101 (fun i s k => laws_szProbeS.l0 k l s (i : Int)) ?_ ?_ (s - (l.length : Int)) (by omega) (by omega)
    · obtain ⟨r, hr, hr2⟩ := key
      exact ⟨r, Ev.ifneg h hr, fun h => ⟨by have := (hr2 h).1; omega, by omega, (hr2 h).2⟩⟩
    · intro s
      refine Ev.step (fun k => by rw [laws_szProbeS.l0]) ?_
      exact Ev.ifneg (by omega) (Ev.now _)
    · intro i hi s h0 h1
      obtain ⟨q, hq, hq2⟩ := sz_Probe l[i] (hx _ (List.getElem_mem hi)) s h0 h1
      by_cases hneg : q < 0
      · refine .inl (Ev.step (fun k => by rw [laws_szProbeS.l0]) ?_)
        refine Ev.ifpos (by omega) (Ev.ifpos (by omega) ?_)
        rw [rd_T101_get l i hi]
        exact Ev.bind0 hq (Ev.ifpos hneg (Ev.now _))
      · refine .inr ⟨q, by omega, (hq2 (by omega)).1, (hq2 (by omega)).2, fun r hr => ?_⟩
        refine Ev.step (fun k => by rw [laws_szProbeS.l0]) ?_
        refine Ev.ifpos (by omega) (Ev.ifpos (by omega) ?_)
        rw [rd_T101_get l i hi]
        refine Ev.bind0 hq (Ev.ifneg hneg ?_)
        rw [wrap_succ (by omega)]
        exact hr
theorem to_IntS (l : List Int) (h : (smL (fun _ => True)) l) : Ev (fun k => laws_toIntS.f k l) (l) := by
  unfold laws_toIntS.f
  have hl := h.1
  refine Ev.ifpos (by omega) (Ev.ifpos (by omega) ?_)
  rw [Int.toNat_natCast]
  have key := copy_loop l id (fun i s k => laws_toIntS.l0 k l s (i : Int)) ?_ ?_ (List.replicate l.length 0) (by simp)
  · rw [List.map_id] at key; exact key
  · intro s
    refine Ev.step (fun k => by rw [laws_toIntS.l0]) ?_
    exact Ev.ifneg (by omega) (Ev.now _)
  · intro i hi s r hs hr
    refine Ev.step (fun k => by rw [laws_toIntS.l0]) ?_
    refine Ev.ifpos (by omega) (Ev.ifpos (by omega) ?_)
    refine Ev.ifpos (by omega) ?_
    rw [rd_get l i hi, wrap_succ (by omega), Int.toNat_natCast]
    exact hr
def c101_102 (x : S101) : S102 := ⟨x.f0, x.f1, x.f2⟩
theorem to_Probe (x : S101) (h : smS101 x) : Ev (fun k => laws_toProbe.f k x.f0 x.f1 x.f2) ((c101_102 x).f0, (c101_102 x).f1, (c101_102 x).f2) := by
  unfold laws_toProbe.f
  exact Ev.bind (to_IntS x.f2 h.2.2) (Ev.now _)
theorem to_ProbeS (l : List S101) (h : (smL smS101) l) : Ev (fun k => laws_toProbeS.f k l) (l.map c101_102) := by
  unfold laws_toProbeS.f
  have hl := h.1
  refine Ev.ifpos (by omega) (Ev.ifpos (by omega) ?_)
  rw [Int.toNat_natCast]
  have key := copy_loop l c101_102 (fun i s k => laws_toProbeS.l0 k l s (i : Int)) ?_ ?_ (List.replicate l.length z102) (by simp)
  · exact key
  · intro s
    refine Ev.step (fun k => by rw [laws_toProbeS.l0]) ?_
    exact Ev.ifneg (by omega) (Ev.now _)
  · intro i hi s r hs hr
    refine Ev.step (fun k => by rw [laws_toProbeS.l0]) ?_
    refine Ev.ifpos (by omega) (Ev.ifpos (by omega) ?_)
    rw [rd_T101_get l i hi]
    refine Ev.bind (to_Probe l[i] (h.2 _ (List.getElem_mem hi))) ?_
    refine Ev.ifpos (by omega) ?_
    rw [wrap_succ (by omega), Int.toNat_natCast]
    exact hr
theorem eq_IntS (l : List Int) (h : l.length ≤ maxLen) : Ev (fun k => laws_eqIntS.f k l l) true := by
  unfold maxLen at h
  unfold laws_eqIntS.f
  refine Ev.ifpos rfl ?_
  exact Ev.up0 l.length (fun i k => laws_eqIntS.l0 k l l (i : Int)) (fun _ => true)
    (Ev.step (fun k => by rw [laws_eqIntS.l0]) (Ev.ifneg (by omega) (Ev.now _)))
    (fun i hi ih => by
      refine Ev.step (fun k => by rw [laws_eqIntS.l0]) ?_
      refine Ev.ifpos (by omega) (Ev.ifpos (by omega) (Ev.ifpos (by omega) ?_))
      refine Ev.ifpos rfl ?_
      rw [wrap_succ (by omega)]
      exact ih) 0 (Nat.zero_le _)
def smS102 (x : S102) : Prop := (fun _ => True) x.f0 ∧ (fun _ => True) x.f1 ∧ (smL (fun _ => True)) x.f2
theorem eq_Probe (x : S102) (h : smS102 x) : Ev (fun k => laws_eqProbe.f k x.f0 x.f1 x.f2 x.f0 x.f1 x.f2) true := by
  unfold laws_eqProbe.f
  refine Ev.ifpos rfl ?_
  refine Ev.ifpos rfl ?_
  refine Ev.bind (eq_IntS x.f2 (Nat.le_trans (h.2.2).1 (by decide))) (Ev.ifpos rfl ?_)
  exact Ev.now _
theorem rd_T102_get (xs : List S102) (i : Nat) (h : i < xs.length) : rd_T102 xs (i : Int) = xs[i] := getD_get xs i _ h
theorem eq_ProbeS (l : List S102) (h : (smL smS102) l) : Ev (fun k => laws_eqProbeS.f k l l) true := by
  have hl := h.1
  unfold laws_eqProbeS.f
  refine Ev.ifpos rfl ?_
  exact Ev.up0 l.length (fun i k => laws_eqProbeS.l0 k l l (i : Int)) (fun _ => true)
    (Ev.step (fun k => by rw [laws_eqProbeS.l0]) (Ev.ifneg (by omega) (Ev.now _)))
    (fun i hi ih => by
      refine Ev.step (fun k => by rw [laws_eqProbeS.l0]) ?_
      refine Ev.ifpos (by omega) (Ev.ifpos (by omega) (Ev.ifpos (by omega) ?_))
      rw [rd_T102_get l i hi]
      refine Ev.bind (eq_Probe l[i] (h.2 _ (List.getElem_mem hi))) (Ev.ifpos rfl ?_)
      rw [wrap_succ (by omega)]
      exact ih) 0 (Nat.zero_le _)
end Go.Proofs.Ytlghphhkbobhiaa.Pure
