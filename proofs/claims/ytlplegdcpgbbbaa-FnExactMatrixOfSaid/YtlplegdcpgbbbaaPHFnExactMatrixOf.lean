/- Plain lemmas on the laws' own helpers: copies, comparisons, sizes, marks. No condition. -/
import Derived.Test.YtlplegdcpgbbbaaPBase
import Derived.Test.YtlplegdcpgbbbaaZ1
import Derived.Test.YtlplegdcpgbbbaaZ3
import Derived.Test.YtlplegdcpgbbbaaZ5
import Derived.Test.YtlplegdcpgbbbaaZ6
import Derived.Test.YtlplegdcpgbbbaaZ7
import Derived.Test.YtlplegdcpgbbbaaZ8
import Derived.Test.YtlplegdcpgbbbaaZ9
import Derived.Test.YtlplegdcpgbbbaaZ10
namespace Go.Proofs.Ytlplegdcpgbbbaa.Pure
open Go.RowKit Go.Proofs.Ytlplegdcpgbbbaa.Z Go.Proofs.YtlplegdcpgbbbaaW.PrintWords
set_option linter.unusedSimpArgs false
set_option linter.unusedVariables false
def smL {α : Type} (sm : α → Prop) (l : List α) : Prop := l.length ≤ 1048576 ∧ ∀ x ∈ l, sm x
def okLen {α : Type} (l : List α) : Prop := l.length ≤ maxLen
theorem mark_IntS (l : List Int) (m : Int) (h0 : 0 ≤ m) (h1 : m + ((1 * l.length : Nat) : Int) ≤ 4611686018427387904) : Ev (fun k => laws_markIntS.f k l m) (m + ((1 * l.length : Nat) : Int), marked 1 (fun m => m) m l.length) := by
  unfold laws_markIntS.f
  refine mark_loop 1 (fun m => m) l.length (fun i s m k => laws_markIntS.l0 k s m (i : Int)) ?_ ?_ l m rfl h0 h1
  · intro s m hs
    refine Ev.step (fun k => by rw [laws_markIntS.l0]) ?_
    exact Ev.ifneg (by omega) (Ev.now _)
  · intro i s m r hi hs h0 h1 hr
    refine Ev.step (fun k => by rw [laws_markIntS.l0]) ?_
    refine Ev.ifpos (by omega) (Ev.ifpos (by omega) ?_)
    rw [wrap_succ (by omega), wrap_in (by omega) (by omega), Int.toNat_natCast]
    exact hr
theorem sz_IntS (l : List Int) (hl : l.length ≤ maxLen) (s : Int) (h0 : 0 ≤ s) (h1 : s ≤ 1048576) : ∃ r : Int, laws_szIntS.f l s = some r ∧ (0 ≤ r → r ≤ s ∧ (smL (fun _ => True)) l) := by
  unfold maxLen at hl
  unfold laws_szIntS.f
  rw [wrap_in (by omega) (by omega)]
  by_cases h : s - (l.length : Int) < 0
  · exact ⟨-1, by rw [if_pos h], fun h => by omega⟩
  · exact ⟨s - (l.length : Int), by rw [if_neg h], fun _ => ⟨by omega, by omega, fun _ _ => trivial⟩⟩
def smS108 (x : S108) : Prop := (fun _ => True) x.f0 ∧ (fun _ => True) x.f1 ∧ (smL (fun _ => True)) x.f2
theorem sz_Probe (x : S108) (hx : (fun x : S108 => okLen x.f2) x) (s : Int) (h0 : 0 ≤ s) (h1 : s ≤ 1048576) : ∃ r : Int, laws_szProbe.f x.f0 x.f1 x.f2 s = some r ∧ (0 ≤ r → r ≤ s ∧ smS108 x) := by
  obtain ⟨q, hq, hq2⟩ := sz_IntS x.f2 hx s h0 h1
  unfold laws_szProbe.f
  rw [hq]
  simp only [Option.bind_some]
  by_cases hneg : q < 0
  · exact ⟨-1, by rw [if_pos hneg], fun h => by omega⟩
  · exact ⟨q, by rw [if_neg hneg], fun h => ⟨(hq2 h).1, have hs := (hq2 h).2; ⟨trivial, trivial, hs⟩⟩⟩
theorem rd_T108_get (xs : List S108) (i : Nat) (h : i < xs.length) : rd_T108 xs (i : Int) = xs[i] := getD_get xs i _ h
theorem sz_ProbeS (l : List S108) (hl : l.length ≤ maxLen) (hx : ∀ x ∈ l, (fun x : S108 => okLen x.f2) x) (s : Int) (h0 : 0 ≤ s) (h1 : s ≤ 1048576) : ∃ r : Int, Ev (fun k => laws_szProbeS.f k l s) r ∧ (0 ≤ r → r ≤ s ∧ (smL smS108) l) := by
  unfold maxLen at hl
  unfold laws_szProbeS.f
  rw [wrap_in (by omega) (by omega)]
  by_cases h : s - (l.length : Int) < 0
  · exact ⟨-1, Ev.ifpos h (Ev.now _), fun h => by omega⟩
  · have key := sz_loop l smS108 (fun i s k => laws_szProbeS.l0 k l s (i : Int)) ?_ ?_ (s - (l.length : Int)) (by omega) (by omega)
    · obtain ⟨r, hr, hr2⟩ := key
      exact ⟨r, Ev.ifneg h hr, fun h => ⟨by have := (hr2 h).1; omega, by omega, (hr2 h).2⟩⟩
    · intro s
      refine Ev.step (fun k => by rw [laws_szProbeS.l0]) ?_
      exact Ev.ifneg (by omega) (Ev.now _)
    · intro i hi s h0 h1
      obtain ⟨q, hq, hq2⟩ := sz_Probe l[i] (hx _ (List.getElem_mem hi)) s h0 h1
      by_cases hneg : q < 0
      · refine .inl (Ev.step (fun k => by rw [laws_szProbeS.l0]) ?_)
        refine Ev.ifpos (by omega) (Ev.ifpos (by omega) ?_)
        rw [rd_T108_get l i hi]
        exact Ev.bind0 hq (Ev.ifpos hneg (Ev.now _))
      · refine .inr ⟨q, by omega, (hq2 (by omega)).1, (hq2 (by omega)).2, fun r hr => ?_⟩
        refine Ev.step (fun k => by rw [laws_szProbeS.l0]) ?_
        refine Ev.ifpos (by omega) (Ev.ifpos (by omega) ?_)
        rw [rd_T108_get l i hi]
        refine Ev.bind0 hq (Ev.ifneg hneg ?_)
        rw [wrap_succ (by omega)]
        exact hr
theorem to_IntS (l : List Int) (h : (smL (fun _ => True)) l) : Ev (fun k => laws_toIntS.f k l) (l) := by
  unfold laws_toIntS.f
  have hl := h.1
  refine Ev.ifpos (by omega) (Ev.ifpos (by omega) ?_)
  rw [Int.toNat_natCast]
  have key := copy_loop l id (fun i s k => laws_toIntS.l0 k l s (i : Int)) ?_ ?_ (List.replicate l.length 0) (by simp)
  · rw [List.map_id] at key; exact key
  · intro s
    refine Ev.step (fun k => by rw [laws_toIntS.l0]) ?_
    exact Ev.ifneg (by omega) (Ev.now _)
  · intro i hi s r hs hr
    refine Ev.step (fun k => by rw [laws_toIntS.l0]) ?_
    refine Ev.ifpos (by omega) (Ev.ifpos (by omega) ?_)
    refine Ev.ifpos (by omega) ?_
    rw [rd_get l i hi, wrap_succ (by omega), Int.toNat_natCast]
    exact hr
def c108_38 (x : S108) : S38 := ⟨x.f0, x.f1, x.f2⟩
theorem to_Probe (x : S108) (h : smS108 x) : Ev (fun k => laws_toProbe.f k x.f0 x.f1 x.f2) ((c108_38 x).f0, (c108_38 x).f1, (c108_38 x).f2) := by
  unfold laws_toProbe.f
  exact Ev.bind (to_IntS x.f2 h.2.2) (Ev.now _)
theorem to_ProbeS (l : List S108) (h : (smL smS108) l) : Ev (fun k => laws_toProbeS.f k l) (l.map c108_38) := by
  unfold laws_toProbeS.f
  have hl := h.1
  refine Ev.ifpos (by omega) (Ev.ifpos (by omega) ?_)
  rw [Int.toNat_natCast]
  have key := copy_loop l c108_38 (fun i s k => laws_toProbeS.l0 k l s (i : Int)) ?_ ?_ (List.replicate l.length z38) (by simp)
  · exact key
  · intro s
    refine Ev.step (fun k => by rw [laws_toProbeS.l0]) ?_
    exact Ev.ifneg (by omega) (Ev.now _)
  · intro i hi s r hs hr
    refine Ev.step (fun k => by rw [laws_toProbeS.l0]) ?_
    refine Ev.ifpos (by omega) (Ev.ifpos (by omega) ?_)
    rw [rd_T108_get l i hi]
    refine Ev.bind (to_Probe l[i] (h.2 _ (List.getElem_mem hi))) ?_
    refine Ev.ifpos (by omega) ?_
    rw [wrap_succ (by omega), Int.toNat_natCast]
    exact hr
theorem eq_IntS (l : List Int) (h : l.length ≤ maxLen) : Ev (fun k => laws_eqIntS.f k l l) true := by
  unfold maxLen at h
  unfold laws_eqIntS.f
  refine Ev.ifpos rfl ?_
  exact Ev.up0 l.length (fun i k => laws_eqIntS.l0 k l l (i : Int)) (fun _ => true)
    (Ev.step (fun k => by rw [laws_eqIntS.l0]) (Ev.ifneg (by omega) (Ev.now _)))
    (fun i hi ih => by
      refine Ev.step (fun k => by rw [laws_eqIntS.l0]) ?_
      refine Ev.ifpos (by omega) (Ev.ifpos (by omega) (Ev.ifpos (by omega) ?_))
      refine Ev.ifpos rfl ?_
      rw [wrap_succ (by omega)]
      exact ih) 0 (Nat.zero_le _)
theorem rd_L1_get (xs : List (List Int)) (i : Nat) (h : i < xs.length) : rd_L1 xs (i : Int) = xs[i] := getD_get xs i _ h
theorem eq_IntSS (l : List (List Int)) (h : (smL (smL (fun _ => True))) l) : Ev (fun k => laws_eqIntSS.f k l l) true := by
  have hl := h.1
  unfold laws_eqIntSS.f
  refine Ev.ifpos rfl ?_
  exact Ev.up0 l.length (fun i k => laws_eqIntSS.l0 k l l (i : Int)) (fun _ => true)
    (Ev.step (fun k => by rw [laws_eqIntSS.l0]) (Ev.ifneg (by omega) (Ev.now _)))
    (fun i hi ih => by
      refine Ev.step (fun k => by rw [laws_eqIntSS.l0]) ?_
      refine Ev.ifpos (by omega) (Ev.ifpos (by omega) (Ev.ifpos (by omega) ?_))
      rw [rd_L1_get l i hi]
      refine Ev.bind (eq_IntS l[i] (by have := (h.2 _ (List.getElem_mem hi)).1; unfold maxLen; omega)) (Ev.ifpos rfl ?_)
      rw [wrap_succ (by omega)]
      exact ih) 0 (Nat.zero_le _)
def smS38 (x : S38) : Prop := (fun _ => True) x.f0 ∧ (fun _ => True) x.f1 ∧ (smL (fun _ => True)) x.f2
theorem eq_Probe (x : S38) (h : smS38 x) : Ev (fun k => laws_eqProbe.f k x.f0 x.f1 x.f2 x.f0 x.f1 x.f2) true := by
  unfold laws_eqProbe.f
  refine Ev.ifpos rfl ?_
  refine Ev.ifpos rfl ?_
  refine Ev.bind (eq_IntS x.f2 (Nat.le_trans (h.2.2).1 (by decide))) (Ev.ifpos rfl ?_)
  exact Ev.now _
theorem rd_T38_get (xs : List S38) (i : Nat) (h : i < xs.length) : rd_T38 xs (i : Int) = xs[i] := getD_get xs i _ h
theorem eq_ProbeS (l : List S38) (h : (smL smS38) l) : Ev (fun k => laws_eqProbeS.f k l l) true := by
  have hl := h.1
  unfold laws_eqProbeS.f
  refine Ev.ifpos rfl ?_
  exact Ev.up0 l.length (fun i k => laws_eqProbeS.l0 k l l (i : Int)) (fun _ => true)
    (Ev.step (fun k => by rw [laws_eqProbeS.l0]) (Ev.ifneg (by omega) (Ev.now _)))
    (fun i hi ih => by
      refine Ev.step (fun k => by rw [laws_eqProbeS.l0]) ?_
      refine Ev.ifpos (by omega) (Ev.ifpos (by omega) (Ev.ifpos (by omega) ?_))
      rw [rd_T38_get l i hi]
      refine Ev.bind (eq_Probe l[i] (h.2 _ (List.getElem_mem hi))) (Ev.ifpos rfl ?_)
      rw [wrap_succ (by omega)]
      exact ih) 0 (Nat.zero_le _)
theorem held_IntS (n : Nat) (m : Int) (h0 : 0 ≤ m) (h1 : m + ((1 * n : Nat) : Int) ≤ 4611686018427387904) : Ev (fun k => laws_heldIntS.f k (marked 1 (fun m => m) m n) m) (m + ((1 * n : Nat) : Int)) := by
  unfold laws_heldIntS.f
  have hn := marked_length 1 (fun m => m) m n
  refine held_loop 1 n m (fun i q k => laws_heldIntS.l0 k (marked 1 (fun m => m) m n) q (i : Int)) ?_ ?_
  · intro q
    refine Ev.step (fun k => by rw [laws_heldIntS.l0]) ?_
    exact Ev.ifneg (by omega) (Ev.now _)
  · intro i r hi hr
    refine Ev.step (fun k => by rw [laws_heldIntS.l0]) ?_
    have hle : ((1 * i : Nat) : Int) + 1 ≤ ((1 * n : Nat) : Int) := by omega
    refine Ev.ifpos (by omega) (Ev.ifpos (by omega) ?_)
    rw [rd_get _ i (by omega), marked_get]
    have w0 : wrap64 (m + ((1 * i : Nat) : Int) + 1) = m + ((1 * i : Nat) : Int) + 1 := wrap_in (by omega) (by omega)
    simp only [w0]
    refine Ev.ifpos (by first | trivial | rfl) ?_
    rw [wrap_succ (by omega)]
    exact hr
end Go.Proofs.Ytlplegdcpgbbbaa.Pure
