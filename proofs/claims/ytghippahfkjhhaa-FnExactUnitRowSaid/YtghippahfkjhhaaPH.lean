/- Plain lemmas on the laws' own helpers: copies, comparisons, sizes, marks. No condition. -/
import Derived.Test.YtghippahfkjhhaaPBase
import Derived.Test.YtghippahfkjhhaaZ6
import Derived.Test.YtghippahfkjhhaaZ9
import Derived.Test.YtghippahfkjhhaaZ10
import Derived.Test.YtghippahfkjhhaaZ11
import Derived.Test.YtghippahfkjhhaaZ12
import Derived.Test.YtghippahfkjhhaaZ13
import Derived.Test.YtghippahfkjhhaaZ15
import Derived.Test.YtghippahfkjhhaaZ16
import Derived.Test.YtghippahfkjhhaaZ19
import Derived.Test.YtghippahfkjhhaaZ20
import Derived.Test.YtghippahfkjhhaaZ21
import Derived.Test.YtghippahfkjhhaaZ22
import Derived.Test.YtghippahfkjhhaaZ23
import Derived.Test.YtghippahfkjhhaaZ24
import Derived.Test.YtghippahfkjhhaaZ25
import Derived.Test.YtghippahfkjhhaaZ26
import Derived.Test.YtghippahfkjhhaaZ27
namespace Go.Proofs.Ytghippahfkjhhaa.Pure
open Go.RowKit Go.Proofs.Ytghippahfkjhhaa.Z Go.Proofs.YtghippahfkjhhaaW.PrintWords
set_option linter.unusedSimpArgs false
set_option linter.unusedVariables false
def smL {α : Type} (sm : α → Prop) (l : List α) : Prop := l.length ≤ 1048576 ∧ ∀ x ∈ l, sm x
def okLen {α : Type} (l : List α) : Prop := l.length ≤ maxLen
theorem eq_IntS (l : List Int) (h : l.length ≤ maxLen) : Ev (fun k => laws_eqIntS.f k l l) true := by
  unfold maxLen at h
  unfold laws_eqIntS.f
  refine Ev.ifpos rfl ?_
  exact Ev.up0 l.length (fun i k => laws_eqIntS.l0 k l l (i : Int)) (fun _ => true)
    (Ev.step (fun k => by rw [laws_eqIntS.l0]) (Ev.ifneg (by omega) (Ev.now _)))
    (fun i hi ih => by
      refine Ev.step (fun k => by rw [laws_eqIntS.l0]) ?_
      refine Ev.ifpos (by omega) (Ev.ifpos (by omega) (Ev.ifpos (by omega) ?_))
      refine Ev.ifpos rfl ?_
      rw [wrap_succ (by omega)]
      exact ih) 0 (Nat.zero_le _)
theorem mark_IntS (l : List Int) (m : Int) (h0 : 0 ≤ m) (h1 : m + ((1 * l.length : Nat) : Int) ≤ 4611686018427387904) : Ev (fun k => laws_markIntS.f k l m) (m + ((1 * l.length : Nat) : Int), marked 1 (fun m => m) m l.length) := by
  unfold laws_markIntS.f
  refine mark_loop 1 (fun m => m) l.length (fun i s m k => laws_markIntS.l0 k s m (i : Int)) ?_ ?_ l m rfl h0 h1
  · intro s m hs
    refine Ev.step (fun k => by rw [laws_markIntS.l0]) ?_
    exact Ev.ifneg (by omega) (Ev.now _)
  · intro i s m r hi hs h0 h1 hr
    refine Ev.step (fun k => by rw [laws_markIntS.l0]) ?_
    refine Ev.ifpos (by omega) (Ev.ifpos (by omega) ?_)
    rw [wrap_succ (by omega), wrap_in (by omega) (by omega), Int.toNat_natCast]
    exact hr
theorem held_IntS (n : Nat) (m : Int) (h0 : 0 ≤ m) (h1 : m + ((1 * n : Nat) : Int) ≤ 4611686018427387904) : Ev (fun k => laws_heldIntS.f k (marked 1 (fun m => m) m n) m) (m + ((1 * n : Nat) : Int)) := by
  unfold laws_heldIntS.f
  have hn := marked_length 1 (fun m => m) m n
  refine held_loop 1 n m (fun i q k => laws_heldIntS.l0 k (marked 1 (fun m => m) m n) q (i : Int)) ?_ ?_
  · intro q
    refine Ev.step (fun k => by rw [laws_heldIntS.l0]) ?_
    exact Ev.ifneg (by omega) (Ev.now _)
  · intro i r hi hr
    refine Ev.step (fun k => by rw [laws_heldIntS.l0]) ?_
    have hle : ((1 * i : Nat) : Int) + 1 ≤ ((1 * n : Nat) : Int) := by omega
    refine Ev.ifpos (by omega) (Ev.ifpos (by omega) ?_)
    rw [rd_get _ i (by omega), marked_get]
    have w0 : wrap64 (m + ((1 * i : Nat) : Int) + 1) = m + ((1 * i : Nat) : Int) + 1 := wrap_in (by omega) (by omega)
    simp only [w0]
    refine Ev.ifpos (by first | trivial | rfl) ?_
    rw [wrap_succ (by omega)]
    exact hr
def c29_30 (x : S29) : S30 := ⟨x.f0, x.f1⟩
theorem to_Interval (x : S29) : laws_toInterval.f x.f0 x.f1 = some ((c29_30 x).f0, (c29_30 x).f1) := rfl
theorem eq_Interval (x : S30) : laws_eqInterval.f x.f0 x.f1 x.f0 x.f1 = some true := by
  unfold laws_eqInterval.f
  simp
def smS92 (x : S92) : Prop := (fun _ => True) x.f0 ∧ (fun _ => True) x.f1
theorem sz_LinkS (l : List S92) (hl : l.length ≤ maxLen) (s : Int) (h0 : 0 ≤ s) (h1 : s ≤ 1048576) : ∃ r : Int, laws_szLinkS.f l s = some r ∧ (0 ≤ r → r ≤ s ∧ (smL smS92) l) := by
  unfold maxLen at hl
  unfold laws_szLinkS.f
  rw [wrap_in (by omega) (by omega)]
  by_cases h : s - (l.length : Int) < 0
  · exact ⟨-1, by rw [if_pos h], fun h => by omega⟩
  · exact ⟨s - (l.length : Int), by rw [if_neg h], fun _ => ⟨by omega, by omega, fun _ _ => ⟨trivial, trivial⟩⟩⟩
def smS38 (x : S38) : Prop := (fun _ => True) x.f0 ∧ (smL smS92) x.f1
theorem sz_Net (x : S38) (hx : (fun x : S38 => okLen x.f1) x) (s : Int) (h0 : 0 ≤ s) (h1 : s ≤ 1048576) : ∃ r : Int, laws_szNet.f x.f0 x.f1 s = some r ∧ (0 ≤ r → r ≤ s ∧ smS38 x) := by
  obtain ⟨q, hq, hq2⟩ := sz_LinkS x.f1 hx s h0 h1
  unfold laws_szNet.f
  rw [hq]
  simp only [Option.bind_some]
  by_cases hneg : q < 0
  · exact ⟨-1, by rw [if_pos hneg], fun h => by omega⟩
  · exact ⟨q, by rw [if_neg hneg], fun h => ⟨(hq2 h).1, have hs := (hq2 h).2; ⟨trivial, hs⟩⟩⟩
def c92_80 (x : S92) : S80 := ⟨x.f0, x.f1⟩
theorem to_Link (x : S92) : laws_toLink.f x.f0 x.f1 = some ((c92_80 x).f0, (c92_80 x).f1) := rfl
theorem rd_T92_get (xs : List S92) (i : Nat) (h : i < xs.length) : rd_T92 xs (i : Int) = xs[i] := getD_get xs i _ h
theorem to_LinkS (l : List S92) (h : (smL smS92) l) : Ev (fun k => laws_toLinkS.f k l) (l.map c92_80) := by
  unfold laws_toLinkS.f
  have hl := h.1
  refine Ev.ifpos (by omega) (Ev.ifpos (by omega) ?_)
  rw [Int.toNat_natCast]
  have key := copy_loop l c92_80 (fun i s k => laws_toLinkS.l0 k l s (i : Int)) ?_ ?_ (List.replicate l.length z80) (by simp)
  · exact key
  · intro s
    refine Ev.step (fun k => by rw [laws_toLinkS.l0]) ?_
    exact Ev.ifneg (by omega) (Ev.now _)
  · intro i hi s r hs hr
    refine Ev.step (fun k => by rw [laws_toLinkS.l0]) ?_
    refine Ev.ifpos (by omega) (Ev.ifpos (by omega) ?_)
    rw [rd_T92_get l i hi]
    refine Ev.bind0 (to_Link l[i]) ?_
    refine Ev.ifpos (by omega) ?_
    rw [wrap_succ (by omega), Int.toNat_natCast]
    exact hr
def c38_43 (x : S38) : S43 := ⟨x.f0, (List.map c92_80) x.f1⟩
theorem to_Net (x : S38) (h : smS38 x) : Ev (fun k => laws_toNet.f k x.f0 x.f1) ((c38_43 x).f0, (c38_43 x).f1) := by
  unfold laws_toNet.f
  exact Ev.bind (to_LinkS x.f1 h.2) (Ev.now _)
theorem eq_Link (x : S80) : laws_eqLink.f x.f0 x.f1 x.f0 x.f1 = some true := by
  unfold laws_eqLink.f
  simp
theorem rd_T80_get (xs : List S80) (i : Nat) (h : i < xs.length) : rd_T80 xs (i : Int) = xs[i] := getD_get xs i _ h
theorem eq_LinkS (l : List S80) (h : l.length ≤ maxLen) : Ev (fun k => laws_eqLinkS.f k l l) true := by
  unfold maxLen at h
  unfold laws_eqLinkS.f
  refine Ev.ifpos rfl ?_
  exact Ev.up0 l.length (fun i k => laws_eqLinkS.l0 k l l (i : Int)) (fun _ => true)
    (Ev.step (fun k => by rw [laws_eqLinkS.l0]) (Ev.ifneg (by omega) (Ev.now _)))
    (fun i hi ih => by
      refine Ev.step (fun k => by rw [laws_eqLinkS.l0]) ?_
      refine Ev.ifpos (by omega) (Ev.ifpos (by omega) (Ev.ifpos (by omega) ?_))
      rw [rd_T80_get l i hi]
      refine Ev.bind0 (eq_Link l[i]) (Ev.ifpos rfl ?_)
      rw [wrap_succ (by omega)]
      exact ih) 0 (Nat.zero_le _)
def smS80 (x : S80) : Prop := (fun _ => True) x.f0 ∧ (fun _ => True) x.f1
def smS43 (x : S43) : Prop := (fun _ => True) x.f0 ∧ (smL smS80) x.f1
theorem eq_Net (x : S43) (h : smS43 x) : Ev (fun k => laws_eqNet.f k x.f0 x.f1 x.f0 x.f1) true := by
  unfold laws_eqNet.f
  refine Ev.ifpos rfl ?_
  refine Ev.bind (eq_LinkS x.f1 (Nat.le_trans (h.2).1 (by decide))) (Ev.ifpos rfl ?_)
  exact Ev.now _
def smS86 (x : S86) : Prop := (fun _ => True) x.f0 ∧ (fun _ => True) x.f1 ∧ (fun _ => True) x.f2
theorem sz_ReplyS (l : List S86) (hl : l.length ≤ maxLen) (s : Int) (h0 : 0 ≤ s) (h1 : s ≤ 1048576) : ∃ r : Int, laws_szReplyS.f l s = some r ∧ (0 ≤ r → r ≤ s ∧ (smL smS86) l) := by
  unfold maxLen at hl
  unfold laws_szReplyS.f
  rw [wrap_in (by omega) (by omega)]
  by_cases h : s - (l.length : Int) < 0
  · exact ⟨-1, by rw [if_pos h], fun h => by omega⟩
  · exact ⟨s - (l.length : Int), by rw [if_neg h], fun _ => ⟨by omega, by omega, fun _ _ => ⟨trivial, trivial, trivial⟩⟩⟩
def c86_84 (x : S86) : S84 := ⟨x.f0, x.f1, x.f2⟩
theorem to_Reply (x : S86) : laws_toReply.f x.f0 x.f1 x.f2 = some ((c86_84 x).f0, (c86_84 x).f1, (c86_84 x).f2) := rfl
theorem rd_T86_get (xs : List S86) (i : Nat) (h : i < xs.length) : rd_T86 xs (i : Int) = xs[i] := getD_get xs i _ h
theorem to_ReplyS (l : List S86) (h : (smL smS86) l) : Ev (fun k => laws_toReplyS.f k l) (l.map c86_84) := by
  unfold laws_toReplyS.f
  have hl := h.1
  refine Ev.ifpos (by omega) (Ev.ifpos (by omega) ?_)
  rw [Int.toNat_natCast]
  have key := copy_loop l c86_84 (fun i s k => laws_toReplyS.l0 k l s (i : Int)) ?_ ?_ (List.replicate l.length z84) (by simp)
  · exact key
  · intro s
    refine Ev.step (fun k => by rw [laws_toReplyS.l0]) ?_
    exact Ev.ifneg (by omega) (Ev.now _)
  · intro i hi s r hs hr
    refine Ev.step (fun k => by rw [laws_toReplyS.l0]) ?_
    refine Ev.ifpos (by omega) (Ev.ifpos (by omega) ?_)
    rw [rd_T86_get l i hi]
    refine Ev.bind0 (to_Reply l[i]) ?_
    refine Ev.ifpos (by omega) ?_
    rw [wrap_succ (by omega), Int.toNat_natCast]
    exact hr
theorem eq_Reply (x : S84) : laws_eqReply.f x.f0 x.f1 x.f2 x.f0 x.f1 x.f2 = some true := by
  unfold laws_eqReply.f
  simp
theorem rd_T84_get (xs : List S84) (i : Nat) (h : i < xs.length) : rd_T84 xs (i : Int) = xs[i] := getD_get xs i _ h
theorem eq_ReplyS (l : List S84) (h : l.length ≤ maxLen) : Ev (fun k => laws_eqReplyS.f k l l) true := by
  unfold maxLen at h
  unfold laws_eqReplyS.f
  refine Ev.ifpos rfl ?_
  exact Ev.up0 l.length (fun i k => laws_eqReplyS.l0 k l l (i : Int)) (fun _ => true)
    (Ev.step (fun k => by rw [laws_eqReplyS.l0]) (Ev.ifneg (by omega) (Ev.now _)))
    (fun i hi ih => by
      refine Ev.step (fun k => by rw [laws_eqReplyS.l0]) ?_
      refine Ev.ifpos (by omega) (Ev.ifpos (by omega) (Ev.ifpos (by omega) ?_))
      rw [rd_T84_get l i hi]
      refine Ev.bind0 (eq_Reply l[i]) (Ev.ifpos rfl ?_)
      rw [wrap_succ (by omega)]
      exact ih) 0 (Nat.zero_le _)
theorem sz_IntS (l : List Int) (hl : l.length ≤ maxLen) (s : Int) (h0 : 0 ≤ s) (h1 : s ≤ 1048576) : ∃ r : Int, laws_szIntS.f l s = some r ∧ (0 ≤ r → r ≤ s ∧ (smL (fun _ => True)) l) := by
  unfold maxLen at hl
  unfold laws_szIntS.f
  rw [wrap_in (by omega) (by omega)]
  by_cases h : s - (l.length : Int) < 0
  · exact ⟨-1, by rw [if_pos h], fun h => by omega⟩
  · exact ⟨s - (l.length : Int), by rw [if_neg h], fun _ => ⟨by omega, by omega, fun _ _ => trivial⟩⟩
def smS99 (x : S99) : Prop := (smL (fun _ => True)) x.f0
theorem sz_Trace (x : S99) (hx : (fun x : S99 => okLen x.f0) x) (s : Int) (h0 : 0 ≤ s) (h1 : s ≤ 1048576) : ∃ r : Int, laws_szTrace.f x.f0 s = some r ∧ (0 ≤ r → r ≤ s ∧ smS99 x) := by
  obtain ⟨q, hq, hq2⟩ := sz_IntS x.f0 hx s h0 h1
  unfold laws_szTrace.f
  rw [hq]
  simp only [Option.bind_some]
  by_cases hneg : q < 0
  · exact ⟨-1, by rw [if_pos hneg], fun h => by omega⟩
  · exact ⟨q, by rw [if_neg hneg], fun h => ⟨(hq2 h).1, have hs := (hq2 h).2; hs⟩⟩
theorem rd_T99_get (xs : List S99) (i : Nat) (h : i < xs.length) : rd_T99 xs (i : Int) = xs[i] := getD_get xs i _ h
theorem sz_TraceS (l : List S99) (hl : l.length ≤ maxLen) (hx : ∀ x ∈ l, (fun x : S99 => okLen x.f0) x) (s : Int) (h0 : 0 ≤ s) (h1 : s ≤ 1048576) : ∃ r : Int, Ev (fun k => laws_szTraceS.f k l s) r ∧ (0 ≤ r → r ≤ s ∧ (smL smS99) l) := by
  unfold maxLen at hl
  unfold laws_szTraceS.f
  rw [wrap_in (by omega) (by omega)]
  by_cases h : s - (l.length : Int) < 0
  · exact ⟨-1, Ev.ifpos h (Ev.now _), fun h => by omega⟩
  · have key := sz_loop l smS99 (fun i s k => laws_szTraceS.l0 k l s (i : Int)) ?_ ?_ (s - (l.length : Int)) (by omega) (by omega)
    · obtain ⟨r, hr, hr2⟩ := key
      exact ⟨r, Ev.ifneg h hr, fun h => ⟨by have := (hr2 h).1; omega, by omega, (hr2 h).2⟩⟩
    · intro s
      refine Ev.step (fun k => by rw [laws_szTraceS.l0]) ?_
      exact Ev.ifneg (by omega) (Ev.now _)
    · intro i hi s h0 h1
      obtain ⟨q, hq, hq2⟩ := sz_Trace l[i] (hx _ (List.getElem_mem hi)) s h0 h1
      by_cases hneg : q < 0
      · refine .inl (Ev.step (fun k => by rw [laws_szTraceS.l0]) ?_)
        refine Ev.ifpos (by omega) (Ev.ifpos (by omega) ?_)
        rw [rd_T99_get l i hi]
        exact Ev.bind0 hq (Ev.ifpos hneg (Ev.now _))
      · refine .inr ⟨q, by omega, (hq2 (by omega)).1, (hq2 (by omega)).2, fun r hr => ?_⟩
        refine Ev.step (fun k => by rw [laws_szTraceS.l0]) ?_
        refine Ev.ifpos (by omega) (Ev.ifpos (by omega) ?_)
        rw [rd_T99_get l i hi]
        refine Ev.bind0 hq (Ev.ifneg hneg ?_)
        rw [wrap_succ (by omega)]
        exact hr
theorem to_IntS (l : List Int) (h : (smL (fun _ => True)) l) : Ev (fun k => laws_toIntS.f k l) (l) := by
  unfold laws_toIntS.f
  have hl := h.1
  refine Ev.ifpos (by omega) (Ev.ifpos (by omega) ?_)
  rw [Int.toNat_natCast]
  have key := copy_loop l id (fun i s k => laws_toIntS.l0 k l s (i : Int)) ?_ ?_ (List.replicate l.length 0) (by simp)
  · rw [List.map_id] at key; exact key
  · intro s
    refine Ev.step (fun k => by rw [laws_toIntS.l0]) ?_
    exact Ev.ifneg (by omega) (Ev.now _)
  · intro i hi s r hs hr
    refine Ev.step (fun k => by rw [laws_toIntS.l0]) ?_
    refine Ev.ifpos (by omega) (Ev.ifpos (by omega) ?_)
    refine Ev.ifpos (by omega) ?_
    rw [rd_get l i hi, wrap_succ (by omega), Int.toNat_natCast]
    exact hr
def c99_100 (x : S99) : S100 := ⟨x.f0⟩
theorem to_Trace (x : S99) (h : smS99 x) : Ev (fun k => laws_toTrace.f k x.f0) (c99_100 x).f0 := by
  unfold laws_toTrace.f
  exact Ev.bind (to_IntS x.f0 h) (Ev.now _)
theorem to_TraceS (l : List S99) (h : (smL smS99) l) : Ev (fun k => laws_toTraceS.f k l) (l.map c99_100) := by
  unfold laws_toTraceS.f
  have hl := h.1
  refine Ev.ifpos (by omega) (Ev.ifpos (by omega) ?_)
  rw [Int.toNat_natCast]
  have key := copy_loop l c99_100 (fun i s k => laws_toTraceS.l0 k l s (i : Int)) ?_ ?_ (List.replicate l.length z100) (by simp)
  · exact key
  · intro s
    refine Ev.step (fun k => by rw [laws_toTraceS.l0]) ?_
    exact Ev.ifneg (by omega) (Ev.now _)
  · intro i hi s r hs hr
    refine Ev.step (fun k => by rw [laws_toTraceS.l0]) ?_
    refine Ev.ifpos (by omega) (Ev.ifpos (by omega) ?_)
    rw [rd_T99_get l i hi]
    refine Ev.bind (to_Trace l[i] (h.2 _ (List.getElem_mem hi))) ?_
    refine Ev.ifpos (by omega) ?_
    rw [wrap_succ (by omega), Int.toNat_natCast]
    exact hr
def smS100 (x : S100) : Prop := (smL (fun _ => True)) x.f0
theorem eq_Trace (x : S100) (h : smS100 x) : Ev (fun k => laws_eqTrace.f k x.f0 x.f0) true := by
  unfold laws_eqTrace.f
  refine Ev.bind (eq_IntS x.f0 (Nat.le_trans (h).1 (by decide))) (Ev.ifpos rfl ?_)
  exact Ev.now _
theorem rd_T100_get (xs : List S100) (i : Nat) (h : i < xs.length) : rd_T100 xs (i : Int) = xs[i] := getD_get xs i _ h
theorem eq_TraceS (l : List S100) (h : (smL smS100) l) : Ev (fun k => laws_eqTraceS.f k l l) true := by
  have hl := h.1
  unfold laws_eqTraceS.f
  refine Ev.ifpos rfl ?_
  exact Ev.up0 l.length (fun i k => laws_eqTraceS.l0 k l l (i : Int)) (fun _ => true)
    (Ev.step (fun k => by rw [laws_eqTraceS.l0]) (Ev.ifneg (by omega) (Ev.now _)))
    (fun i hi ih => by
      refine Ev.step (fun k => by rw [laws_eqTraceS.l0]) ?_
      refine Ev.ifpos (by omega) (Ev.ifpos (by omega) (Ev.ifpos (by omega) ?_))
      rw [rd_T100_get l i hi]
      refine Ev.bind (eq_Trace l[i] (h.2 _ (List.getElem_mem hi))) (Ev.ifpos rfl ?_)
      rw [wrap_succ (by omega)]
      exact ih) 0 (Nat.zero_le _)
def smS105 (x : S105) : Prop := (fun _ => True) x.f0 ∧ (fun _ => True) x.f1 ∧ (smL (fun _ => True)) x.f2
theorem sz_Probe (x : S105) (hx : (fun x : S105 => okLen x.f2) x) (s : Int) (h0 : 0 ≤ s) (h1 : s ≤ 1048576) : ∃ r : Int, laws_szProbe.f x.f0 x.f1 x.f2 s = some r ∧ (0 ≤ r → r ≤ s ∧ smS105 x) := by
  obtain ⟨q, hq, hq2⟩ := sz_IntS x.f2 hx s h0 h1
  unfold laws_szProbe.f
  rw [hq]
  simp only [Option.bind_some]
  by_cases hneg : q < 0
  · exact ⟨-1, by rw [if_pos hneg], fun h => by omega⟩
  · exact ⟨q, by rw [if_neg hneg], fun h => ⟨(hq2 h).1, have hs := (hq2 h).2; ⟨trivial, trivial, hs⟩⟩⟩
theorem rd_T105_get (xs : List S105) (i : Nat) (h : i < xs.length) : rd_T105 xs (i : Int) = xs[i] := getD_get xs i _ h
theorem sz_ProbeS (l : List S105) (hl : l.length ≤ maxLen) (hx : ∀ x ∈ l, (fun x : S105 => okLen x.f2) x) (s : Int) (h0 : 0 ≤ s) (h1 : s ≤ 1048576) : ∃ r : Int, Ev (fun k => laws_szProbeS.f k l s) r ∧ (0 ≤ r → r ≤ s ∧ (smL smS105) l) := by
  unfold maxLen at hl
  unfold laws_szProbeS.f
  rw [wrap_in (by omega) (by omega)]
  by_cases h : s - (l.length : Int) < 0
  · exact ⟨-1, Ev.ifpos h (Ev.now _), fun h => by omega⟩
  · have key := sz_loop l smS105 (fun i s k => laws_szProbeS.l0 k l s (i : Int)) ?_ ?_ (s - (l.length : Int)) (by omega) (by omega)
    · obtain ⟨r, hr, hr2⟩ := key
      exact ⟨r, Ev.ifneg h hr, fun h => ⟨by have := (hr2 h).1; omega, by omega, (hr2 h).2⟩⟩
    · intro s
      refine Ev.step (fun k => by rw [laws_szProbeS.l0]) ?_
      exact Ev.ifneg (by omega) (Ev.now _)
    · intro i hi s h0 h1
      obtain ⟨q, hq, hq2⟩ := sz_Probe l[i] (hx _ (List.getElem_mem hi)) s h0 h1
      by_cases hneg : q < 0
      · refine .inl (Ev.step (fun k => by rw [laws_szProbeS.l0]) ?_)
        refine Ev.ifpos (by omega) (Ev.ifpos (by omega) ?_)
        rw [rd_T105_get l i hi]
        exact Ev.bind0 hq (Ev.ifpos hneg (Ev.now _))
      · refine .inr ⟨q, by omega, (hq2 (by omega)).1, (hq2 (by omega)).2, fun r hr => ?_⟩
        refine Ev.step (fun k => by rw [laws_szProbeS.l0]) ?_
        refine Ev.ifpos (by omega) (Ev.ifpos (by omega) ?_)
        rw [rd_T105_get l i hi]
        refine Ev.bind0 hq (Ev.ifneg hneg ?_)
        rw [wrap_succ (by omega)]
        exact hr
def c105_106 (x : S105) : S106 := ⟨x.f0, x.f1, x.f2⟩
theorem to_Probe (x : S105) (h : smS105 x) : Ev (fun k => laws_toProbe.f k x.f0 x.f1 x.f2) ((c105_106 x).f0, (c105_106 x).f1, (c105_106 x).f2) := by
  unfold laws_toProbe.f
  exact Ev.bind (to_IntS x.f2 h.2.2) (Ev.now _)
theorem to_ProbeS (l : List S105) (h : (smL smS105) l) : Ev (fun k => laws_toProbeS.f k l) (l.map c105_106) := by
  unfold laws_toProbeS.f
  have hl := h.1
  refine Ev.ifpos (by omega) (Ev.ifpos (by omega) ?_)
  rw [Int.toNat_natCast]
  have key := copy_loop l c105_106 (fun i s k => laws_toProbeS.l0 k l s (i : Int)) ?_ ?_ (List.replicate l.length z106) (by simp)
  · exact key
  · intro s
    refine Ev.step (fun k => by rw [laws_toProbeS.l0]) ?_
    exact Ev.ifneg (by omega) (Ev.now _)
  · intro i hi s r hs hr
    refine Ev.step (fun k => by rw [laws_toProbeS.l0]) ?_
    refine Ev.ifpos (by omega) (Ev.ifpos (by omega) ?_)
    rw [rd_T105_get l i hi]
    refine Ev.bind (to_Probe l[i] (h.2 _ (List.getElem_mem hi))) ?_
    refine Ev.ifpos (by omega) ?_
    rw [wrap_succ (by omega), Int.toNat_natCast]
    exact hr
def smS106 (x : S106) : Prop := (fun _ => True) x.f0 ∧ (fun _ => True) x.f1 ∧ (smL (fun _ => True)) x.f2
theorem eq_Probe (x : S106) (h : smS106 x) : Ev (fun k => laws_eqProbe.f k x.f0 x.f1 x.f2 x.f0 x.f1 x.f2) true := by
  unfold laws_eqProbe.f
  refine Ev.ifpos rfl ?_
  refine Ev.ifpos rfl ?_
  refine Ev.bind (eq_IntS x.f2 (Nat.le_trans (h.2.2).1 (by decide))) (Ev.ifpos rfl ?_)
  exact Ev.now _
theorem rd_T106_get (xs : List S106) (i : Nat) (h : i < xs.length) : rd_T106 xs (i : Int) = xs[i] := getD_get xs i _ h
theorem eq_ProbeS (l : List S106) (h : (smL smS106) l) : Ev (fun k => laws_eqProbeS.f k l l) true := by
  have hl := h.1
  unfold laws_eqProbeS.f
  refine Ev.ifpos rfl ?_
  exact Ev.up0 l.length (fun i k => laws_eqProbeS.l0 k l l (i : Int)) (fun _ => true)
    (Ev.step (fun k => by rw [laws_eqProbeS.l0]) (Ev.ifneg (by omega) (Ev.now _)))
    (fun i hi ih => by
      refine Ev.step (fun k => by rw [laws_eqProbeS.l0]) ?_
      refine Ev.ifpos (by omega) (Ev.ifpos (by omega) (Ev.ifpos (by omega) ?_))
      rw [rd_T106_get l i hi]
      refine Ev.bind (eq_Probe l[i] (h.2 _ (List.getElem_mem hi))) (Ev.ifpos rfl ?_)
      rw [wrap_succ (by omega)]
      exact ih) 0 (Nat.zero_le _)
end Go.Proofs.Ytghippahfkjhhaa.Pure
