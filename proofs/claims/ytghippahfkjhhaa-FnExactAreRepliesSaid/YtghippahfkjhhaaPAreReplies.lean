/- Plain lemma: what the reference's AreReplies answers. Condition: the list is not longer than a list can be. -/
import Derived.Test.YtghippahfkjhhaaPFirst
import Derived.Test.YtghippahfkjhhaaPIn
import Derived.Test.YtghippahfkjhhaaZ16
import Derived.Test.YtghippahfkjhhaaZ18
namespace Go.Proofs.Ytghippahfkjhhaa.Pure
open Go.RowKit Go.Proofs.Ytghippahfkjhhaa.Z Go.Proofs.YtghippahfkjhhaaW.PrintWords

abbrev Rp := S84
theorem rdRp (xs : List Rp) (i : Nat) (h : i < xs.length) : rd_T84 xs (i : Int) = xs[i] := getD_get xs i _ h

theorem spec_stamp (n : Int) : spec_l9Stamp.f n = some (decide (0 ≤ n ∧ n ≤ 100000)) := by
  unfold spec_l9Stamp.f
  rw [spec_in]
  rfl

theorem spec_replies_in (l : List Rp) (i : Nat) (hi : i < l.length) (hl : l.length ≤ 9223372036854775806) (r : Bool) (hr : Ev (fun k => spec_AreReplies.l0 k l ((i + 1 : Nat) : Int)) r) :
    Ev (fun k => spec_AreReplies.l1 k l (i : Int) 0) (!((l.take i).any (sameTime l[i].f1)) && r) := by
  have htl : (l.take i).length = i := by rw [List.length_take]; omega
  have key := all_loop (fun y => !(sameTime l[i].f1 y)) (l.take i) (fun j k => spec_AreReplies.l1 k l (i : Int) (j : Int)) r ?_ ?_ ?_
  · rw [List.all_eq_not_any_not] at key
    simpa using key
  · rw [htl]
    refine Ev.step (fun k => by rw [spec_AreReplies.l1]) ?_
    refine Ev.ifneg (by omega) ?_
    rw [wrap_succ (by omega)]
    exact hr
  · intro j hj h
    rw [htl] at hj
    refine Ev.step (fun k => by rw [spec_AreReplies.l1]) ?_
    refine Ev.ifpos (by omega) (Ev.ifpos (by omega) (Ev.ifpos (by omega) (Ev.ifpos (by omega) (Ev.ifpos (by omega) ?_))))
    rw [rdRp l j (by omega), rdRp l i hi]
    refine Ev.ifpos ?_ (Ev.now _)
    simpa [sameTime] using h
  · intro j hj r h hr
    rw [htl] at hj
    refine Ev.step (fun k => by rw [spec_AreReplies.l1]) ?_
    refine Ev.ifpos (by omega) (Ev.ifpos (by omega) (Ev.ifpos (by omega) (Ev.ifpos (by omega) (Ev.ifpos (by omega) ?_))))
    rw [rdRp l j (by omega), rdRp l i hi, wrap_succ (by omega)]
    refine Ev.ifneg ?_ hr
    simpa [sameTime] using h

theorem spec_replies_from (l : List Rp) (hl : l.length ≤ 9223372036854775806) : ∀ i, i ≤ l.length → Ev (fun k => spec_AreReplies.l0 k l (i : Int)) (((List.range l.length).drop i).all (replyOk l) && decide (l.length ≤ 12)) := by
  refine Ev.up0 l.length (fun i k => spec_AreReplies.l0 k l (i : Int)) (fun i => ((List.range l.length).drop i).all (replyOk l) && decide (l.length ≤ 12)) ?_ ?_
  · rw [List.drop_of_length_le (by simp)]
    refine Ev.step (fun k => by rw [spec_AreReplies.l0]) ?_
    refine Ev.ifneg (by omega) (Ev.pure ?_)
    simp only [List.all_nil, Bool.true_and]
    exact decide_eq_decide.2 (by omega)
  · intro i hi ih
    rw [drop_get _ i (by simpa using hi), List.all_cons, List.getElem_range, Bool.and_assoc]
    generalize (((List.range l.length).drop (i + 1)).all (replyOk l) && decide (l.length ≤ 12)) = r at ih ⊢
    have hin := spec_replies_in l i hi hl r ih
    refine Ev.step (fun k => by rw [spec_AreReplies.l0]) ?_
    refine Ev.ifpos (by omega) (Ev.ifpos (by omega) ?_)
    unfold replyOk okReply
    rw [rdRp l i hi]
    refine Ev.bind0 (spec_in _ _ _) ?_
    cases h1 : decide (0 ≤ l[i].f0 ∧ l[i].f0 ≤ 20)
    · refine Ev.ifneg (by decide) (Ev.step (fun k => by rw [spec_AreReplies.j1]) (Ev.ifpos rfl (Ev.pure (by simp))))
    · refine Ev.ifpos rfl (Ev.bind0 (spec_stamp _) ?_)
      cases h2 : decide (0 ≤ l[i].f1 ∧ l[i].f1 ≤ 100000)
      · refine Ev.ifneg (by decide) (Ev.step (fun k => by rw [spec_AreReplies.j1]) (Ev.ifpos rfl (Ev.pure (by simp))))
      · refine Ev.ifpos rfl (Ev.bind0 (spec_stamp _) ?_)
        cases h3 : decide (0 ≤ l[i].f2 ∧ l[i].f2 ≤ 100000)
        · refine Ev.step (f := fun k => if (!false) = true then some false else spec_AreReplies.l1 k l (i : Int) 0) (fun k => by rw [spec_AreReplies.j1]) ?_
          exact Ev.ifpos rfl (Ev.pure (by simp))
        · refine Ev.step (fun k => by rw [spec_AreReplies.j1]) (Ev.ifneg (by decide) ?_)
          simpa using hin

theorem spec_replies (l : List Rp) (hl : l.length ≤ 9223372036854775806) : Ev (fun k => spec_AreReplies.f k l) (areReplies l) := by
  have key := spec_replies_from l hl 0 (Nat.zero_le _)
  unfold spec_AreReplies.f areReplies
  rw [List.drop_zero] at key
  by_cases h : l.length > 12
  · rw [if_pos h]
    have : decide (l.length ≤ 12) = false := decide_eq_false (by omega)
    rw [this, Bool.and_false] at key
    exact key
  · rw [if_neg h]
    have : decide (l.length ≤ 12) = true := decide_eq_true (by omega)
    rw [this, Bool.and_true] at key
    exact key

end Go.Proofs.Ytghippahfkjhhaa.Pure
