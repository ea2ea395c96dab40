/- Plain lemmas on the laws' own helpers: copies, comparisons, sizes, marks. No condition. -/
import Derived.Test.YtghippahfkjhhaaPBase
import Derived.Test.YtghippahfkjhhaaZ15
import Derived.Test.YtghippahfkjhhaaZ17
import Derived.Test.YtghippahfkjhhaaZ19
import Derived.Test.YtghippahfkjhhaaZ20
namespace Go.Proofs.Ytghippahfkjhhaa.Pure
open Go.RowKit Go.Proofs.Ytghippahfkjhhaa.Z Go.Proofs.YtghippahfkjhhaaW.PrintWords
set_option linter.unusedSimpArgs false
set_option linter.unusedVariables false
def smL {α : Type} (sm : α → Prop) (l : List α) : Prop := l.length ≤ 1048576 ∧ ∀ x ∈ l, sm x
def okLen {α : Type} (l : List α) : Prop := l.length ≤ maxLen
def smS86 (x : S86) : Prop := (fun _ => True) x.f0 ∧ (fun _ => True) x.f1 ∧ (fun _ => True) x.f2
theorem sz_ReplyS (l : List S86) (hl : l.length ≤ maxLen) (s : Int) (h0 : 0 ≤ s) (h1 : s ≤ 1048576) : ∃ r : Int, laws_szReplyS.f l s = some r ∧ (0 ≤ r → r ≤ s ∧ (smL smS86) l) := by
  unfold maxLen at hl
  unfold laws_szReplyS.f
  rw [wrap_in (by omega) (by omega)]
  by_cases h : s - (l.length : Int) < 0
  · exact ⟨-1, by rw [if_pos h], fun h => by omega⟩
  · exact ⟨s - (l.length : Int), by rw [if_neg h], fun _ => ⟨by omega, by omega, fun _ _ => ⟨trivial, trivial, trivial⟩⟩⟩
def c86_84 (x : S86) : S84 := ⟨x.f0, x.f1, x.f2⟩
theorem to_Reply (x : S86) : laws_toReply.f x.f0 x.f1 x.f2 = some ((c86_84 x).f0, (c86_84 x).f1, (c86_84 x).f2) := rfl
theorem rd_T86_get (xs : List S86) (i : Nat) (h : i < xs.length) : rd_T86 xs (i : Int) = xs[i] := getD_get xs i _ h
theorem to_ReplyS (l : List S86) (h : (smL smS86) l) : Ev (fun k => laws_toReplyS.f k l) (l.map c86_84) := by
  unfold laws_toReplyS.f
  have hl := h.1
  refine Ev.ifpos (by omega) (Ev.ifpos (by omega) ?_)
  rw [Int.toNat_natCast]
  have key := copy_loop l c86_84 (fun i s k => laws_toReplyS.l0 k l s (i : Int)) ?_ ?_ (List.replicate l.length z84) (by simp)
  · exact key
  · intro s
    refine Ev.step (fun k => by rw [laws_toReplyS.l0]) ?_
    exact Ev.ifneg (by omega) (Ev.now _)
  · intro i hi s r hs hr
    refine Ev.step (fun k => by rw [laws_toReplyS.l0]) ?_
    refine Ev.ifpos (by omega) (Ev.ifpos (by omega) ?_)
    rw [rd_T86_get l i hi]
    refine Ev.bind0 (to_Reply l[i]) ?_
    refine Ev.ifpos (by omega) ?_
    rw [wrap_succ (by omega), Int.toNat_natCast]
    exact hr
theorem eq_Reply (x : S84) : laws_eqReply.f x.f0 x.f1 x.f2 x.f0 x.f1 x.f2 = some true := by
  unfold laws_eqReply.f
  simp
theorem rd_T84_get (xs : List S84) (i : Nat) (h : i < xs.length) : rd_T84 xs (i : Int) = xs[i] := getD_get xs i _ h
theorem eq_ReplyS (l : List S84) (h : l.length ≤ maxLen) : Ev (fun k => laws_eqReplyS.f k l l) true := by
  unfold maxLen at h
  unfold laws_eqReplyS.f
  refine Ev.ifpos rfl ?_
  exact Ev.up0 l.length (fun i k => laws_eqReplyS.l0 k l l (i : Int)) (fun _ => true)
    (Ev.step (fun k => by rw [laws_eqReplyS.l0]) (Ev.ifneg (by omega) (Ev.now _)))
    (fun i hi ih => by
      refine Ev.step (fun k => by rw [laws_eqReplyS.l0]) ?_
      refine Ev.ifpos (by omega) (Ev.ifpos (by omega) (Ev.ifpos (by omega) ?_))
      rw [rd_T84_get l i hi]
      refine Ev.bind0 (eq_Reply l[i]) (Ev.ifpos rfl ?_)
      rw [wrap_succ (by omega)]
      exact ih) 0 (Nat.zero_le _)
end Go.Proofs.Ytghippahfkjhhaa.Pure
