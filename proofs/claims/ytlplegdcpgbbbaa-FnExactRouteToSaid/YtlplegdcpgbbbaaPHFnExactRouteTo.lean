/- Plain lemmas on the laws' own helpers: copies, comparisons, sizes, marks. No condition. -/
import Derived.Test.YtlplegdcpgbbbaaPBase
import Derived.Test.YtlplegdcpgbbbaaZ2
import Derived.Test.YtlplegdcpgbbbaaZ5
import Derived.Test.YtlplegdcpgbbbaaZ9
import Derived.Test.YtlplegdcpgbbbaaZ10
namespace Go.Proofs.Ytlplegdcpgbbbaa.Pure
open Go.RowKit Go.Proofs.Ytlplegdcpgbbbaa.Z Go.Proofs.YtlplegdcpgbbbaaW.PrintWords
set_option linter.unusedSimpArgs false
set_option linter.unusedVariables false
def smL {α : Type} (sm : α → Prop) (l : List α) : Prop := l.length ≤ 1048576 ∧ ∀ x ∈ l, sm x
def okLen {α : Type} (l : List α) : Prop := l.length ≤ maxLen
def smS111 (x : S111) : Prop := (fun _ => True) x.f0 ∧ (fun _ => True) x.f1
theorem sz_LinkS (l : List S111) (hl : l.length ≤ maxLen) (s : Int) (h0 : 0 ≤ s) (h1 : s ≤ 1048576) : ∃ r : Int, laws_szLinkS.f l s = some r ∧ (0 ≤ r → r ≤ s ∧ (smL smS111) l) := by
  unfold maxLen at hl
  unfold laws_szLinkS.f
  rw [wrap_in (by omega) (by omega)]
  by_cases h : s - (l.length : Int) < 0
  · exact ⟨-1, by rw [if_pos h], fun h => by omega⟩
  · exact ⟨s - (l.length : Int), by rw [if_neg h], fun _ => ⟨by omega, by omega, fun _ _ => ⟨trivial, trivial⟩⟩⟩
def smS24 (x : S24) : Prop := (fun _ => True) x.f0 ∧ (smL smS111) x.f1
theorem sz_Net (x : S24) (hx : (fun x : S24 => okLen x.f1) x) (s : Int) (h0 : 0 ≤ s) (h1 : s ≤ 1048576) : ∃ r : Int, laws_szNet.f x.f0 x.f1 s = some r ∧ (0 ≤ r → r ≤ s ∧ smS24 x) := by
  obtain ⟨q, hq, hq2⟩ := sz_LinkS x.f1 hx s h0 h1
  unfold laws_szNet.f
  rw [hq]
  simp only [Option.bind_some]
  by_cases hneg : q < 0
  · exact ⟨-1, by rw [if_pos hneg], fun h => by omega⟩
  · exact ⟨q, by rw [if_neg hneg], fun h => ⟨(hq2 h).1, have hs := (hq2 h).2; ⟨trivial, hs⟩⟩⟩
def c111_93 (x : S111) : S93 := ⟨x.f0, x.f1⟩
theorem to_Link (x : S111) : laws_toLink.f x.f0 x.f1 = some ((c111_93 x).f0, (c111_93 x).f1) := rfl
theorem rd_T111_get (xs : List S111) (i : Nat) (h : i < xs.length) : rd_T111 xs (i : Int) = xs[i] := getD_get xs i _ h
theorem to_LinkS (l : List S111) (h : (smL smS111) l) : Ev (fun k => laws_toLinkS.f k l) (l.map c111_93) := by
  unfold laws_toLinkS.f
  have hl := h.1
  refine Ev.ifpos (by omega) (Ev.ifpos (by omega) ?_)
  rw [Int.toNat_natCast]
  have key := copy_loop l c111_93 (fun i s k => laws_toLinkS.l0 k l s (i : Int)) ?_ ?_ (List.replicate l.length z93) (by simp)
  · exact key
  · intro s
    refine Ev.step (fun k => by rw [laws_toLinkS.l0]) ?_
    exact Ev.ifneg (by omega) (Ev.now _)
  · intro i hi s r hs hr
    refine Ev.step (fun k => by rw [laws_toLinkS.l0]) ?_
    refine Ev.ifpos (by omega) (Ev.ifpos (by omega) ?_)
    rw [rd_T111_get l i hi]
    refine Ev.bind0 (to_Link l[i]) ?_
    refine Ev.ifpos (by omega) ?_
    rw [wrap_succ (by omega), Int.toNat_natCast]
    exact hr
def c24_30 (x : S24) : S30 := ⟨x.f0, (List.map c111_93) x.f1⟩
theorem to_Net (x : S24) (h : smS24 x) : Ev (fun k => laws_toNet.f k x.f0 x.f1) ((c24_30 x).f0, (c24_30 x).f1) := by
  unfold laws_toNet.f
  exact Ev.bind (to_LinkS x.f1 h.2) (Ev.now _)
theorem eq_IntS (l : List Int) (h : l.length ≤ maxLen) : Ev (fun k => laws_eqIntS.f k l l) true := by
  unfold maxLen at h
  unfold laws_eqIntS.f
  refine Ev.ifpos rfl ?_
  exact Ev.up0 l.length (fun i k => laws_eqIntS.l0 k l l (i : Int)) (fun _ => true)
    (Ev.step (fun k => by rw [laws_eqIntS.l0]) (Ev.ifneg (by omega) (Ev.now _)))
    (fun i hi ih => by
      refine Ev.step (fun k => by rw [laws_eqIntS.l0]) ?_
      refine Ev.ifpos (by omega) (Ev.ifpos (by omega) (Ev.ifpos (by omega) ?_))
      refine Ev.ifpos rfl ?_
      rw [wrap_succ (by omega)]
      exact ih) 0 (Nat.zero_le _)
theorem eq_Link (x : S93) : laws_eqLink.f x.f0 x.f1 x.f0 x.f1 = some true := by
  unfold laws_eqLink.f
  simp
theorem rd_T93_get (xs : List S93) (i : Nat) (h : i < xs.length) : rd_T93 xs (i : Int) = xs[i] := getD_get xs i _ h
theorem eq_LinkS (l : List S93) (h : l.length ≤ maxLen) : Ev (fun k => laws_eqLinkS.f k l l) true := by
  unfold maxLen at h
  unfold laws_eqLinkS.f
  refine Ev.ifpos rfl ?_
  exact Ev.up0 l.length (fun i k => laws_eqLinkS.l0 k l l (i : Int)) (fun _ => true)
    (Ev.step (fun k => by rw [laws_eqLinkS.l0]) (Ev.ifneg (by omega) (Ev.now _)))
    (fun i hi ih => by
      refine Ev.step (fun k => by rw [laws_eqLinkS.l0]) ?_
      refine Ev.ifpos (by omega) (Ev.ifpos (by omega) (Ev.ifpos (by omega) ?_))
      rw [rd_T93_get l i hi]
      refine Ev.bind0 (eq_Link l[i]) (Ev.ifpos rfl ?_)
      rw [wrap_succ (by omega)]
      exact ih) 0 (Nat.zero_le _)
def smS93 (x : S93) : Prop := (fun _ => True) x.f0 ∧ (fun _ => True) x.f1
def smS30 (x : S30) : Prop := (fun _ => True) x.f0 ∧ (smL smS93) x.f1
theorem eq_Net (x : S30) (h : smS30 x) : Ev (fun k => laws_eqNet.f k x.f0 x.f1 x.f0 x.f1) true := by
  unfold laws_eqNet.f
  refine Ev.ifpos rfl ?_
  refine Ev.bind (eq_LinkS x.f1 (Nat.le_trans (h.2).1 (by decide))) (Ev.ifpos rfl ?_)
  exact Ev.now _
theorem rd_T93_set (s : List S93) (i : Nat) (v : S93) (h : i < s.length) : rd_T93 (s.set i v) (i : Int) = v := by
  rw [rd_T93_get _ i (by simpa using h)]
  simp
theorem mark_LinkS (l : List S93) (m : Int) (h0 : 0 ≤ m) (h1 : m + ((2 * l.length : Nat) : Int) ≤ 4611686018427387904) : Ev (fun k => laws_markLinkS.f k l m) (m + ((2 * l.length : Nat) : Int), marked 2 (fun m => (⟨m, m + 1⟩ : S93)) m l.length) := by
  unfold laws_markLinkS.f
  refine mark_loop 2 (fun m => (⟨m, m + 1⟩ : S93)) l.length (fun i s m k => laws_markLinkS.l0 k s m (i : Int)) ?_ ?_ l m rfl h0 h1
  · intro s m hs
    refine Ev.step (fun k => by rw [laws_markLinkS.l0]) ?_
    exact Ev.ifneg (by omega) (Ev.now _)
  · intro i s m r hi hs h0 h1 hr
    refine Ev.step (fun k => by rw [laws_markLinkS.l0]) ?_
    refine Ev.ifpos (by omega) (Ev.ifpos (by omega) ?_)
    have ht : (i : Int).toNat = i := Int.toNat_natCast i
    have w1 : wrap64 (m + 1 + 1) = m + 2 := by rw [wrap_in (by omega) (by omega)]; omega
    have w0 : wrap64 (m + 1) = m + 1 := wrap_in (by omega) (by omega)
    simp only [Option.bind_some, ht, w0, w1, rd_T93_set s i _ (by omega), List.set_set]
    rw [wrap_succ (by omega)]
    exact hr
theorem mark_IntS (l : List Int) (m : Int) (h0 : 0 ≤ m) (h1 : m + ((1 * l.length : Nat) : Int) ≤ 4611686018427387904) : Ev (fun k => laws_markIntS.f k l m) (m + ((1 * l.length : Nat) : Int), marked 1 (fun m => m) m l.length) := by
  unfold laws_markIntS.f
  refine mark_loop 1 (fun m => m) l.length (fun i s m k => laws_markIntS.l0 k s m (i : Int)) ?_ ?_ l m rfl h0 h1
  · intro s m hs
    refine Ev.step (fun k => by rw [laws_markIntS.l0]) ?_
    exact Ev.ifneg (by omega) (Ev.now _)
  · intro i s m r hi hs h0 h1 hr
    refine Ev.step (fun k => by rw [laws_markIntS.l0]) ?_
    refine Ev.ifpos (by omega) (Ev.ifpos (by omega) ?_)
    rw [wrap_succ (by omega), wrap_in (by omega) (by omega), Int.toNat_natCast]
    exact hr
theorem held_IntS (n : Nat) (m : Int) (h0 : 0 ≤ m) (h1 : m + ((1 * n : Nat) : Int) ≤ 4611686018427387904) : Ev (fun k => laws_heldIntS.f k (marked 1 (fun m => m) m n) m) (m + ((1 * n : Nat) : Int)) := by
  unfold laws_heldIntS.f
  have hn := marked_length 1 (fun m => m) m n
  refine held_loop 1 n m (fun i q k => laws_heldIntS.l0 k (marked 1 (fun m => m) m n) q (i : Int)) ?_ ?_
  · intro q
    refine Ev.step (fun k => by rw [laws_heldIntS.l0]) ?_
    exact Ev.ifneg (by omega) (Ev.now _)
  · intro i r hi hr
    refine Ev.step (fun k => by rw [laws_heldIntS.l0]) ?_
    have hle : ((1 * i : Nat) : Int) + 1 ≤ ((1 * n : Nat) : Int) := by omega
    refine Ev.ifpos (by omega) (Ev.ifpos (by omega) ?_)
    rw [rd_get _ i (by omega), marked_get]
    have w0 : wrap64 (m + ((1 * i : Nat) : Int) + 1) = m + ((1 * i : Nat) : Int) + 1 := wrap_in (by omega) (by omega)
    simp only [w0]
    refine Ev.ifpos (by first | trivial | rfl) ?_
    rw [wrap_succ (by omega)]
    exact hr
end Go.Proofs.Ytlplegdcpgbbbaa.Pure
