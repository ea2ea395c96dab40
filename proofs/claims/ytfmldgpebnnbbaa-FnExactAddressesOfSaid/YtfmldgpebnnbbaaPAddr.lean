/- Plain lemma: the addresses of replies, as the reference and the program list them. Condition: there are no more than a list of the law can have. -/
import Derived.Test.YtfmldgpebnnbbaaPIns
import Derived.Test.YtfmldgpebnnbbaaZ2
import Derived.Test.YtfmldgpebnnbbaaZ5
namespace Go.Proofs.Ytfmldgpebnnbbaa.Pure
open Go.RowKit Go.Proofs.Ytfmldgpebnnbbaa.Z Go.Proofs.YtfmldgpebnnbbaaW.PrintWords

abbrev Rp := S96
def addrs (l : List Rp) : List Int := l.map fun x => x.f0

theorem rdRp (l : List Rp) (i : Nat) (h : i < l.length) : rd_T96 l (i : Int) = l[i] := getD_get l i _ h

theorem spec_addr_from (xs : List Rp) (hx : xs.length ≤ 1048576) : ∀ (i : Nat) (out : List Int), i ≤ xs.length → out.length ≤ i → Ev (fun k => spec_AddressesOf.l0 k xs out (i : Int)) (insAll out (addrs (xs.drop i))) := by
  refine Ev.up xs.length (fun i (out : List Int) k => spec_AddressesOf.l0 k xs out (i : Int)) (fun i out => insAll out (addrs (xs.drop i))) (fun i out => out.length ≤ i) ?_ ?_
  · intro out _
    rw [List.drop_of_length_le (Nat.le_refl _)]
    refine Ev.step (fun k => by rw [spec_AddressesOf.l0]) ?_
    exact Ev.ifneg (by omega) (Ev.now _)
  · intro i out hi ho ih
    rw [drop_get xs i hi]
    show Ev _ (insAll (ins xs[i].f0 out) (addrs (xs.drop (i + 1))))
    have hnext := ih (ins xs[i].f0 out) (by have := ins_length xs[i].f0 out; omega)
    refine Ev.step (fun k => by rw [spec_AddressesOf.l0]) ?_
    refine Ev.ifpos (by omega) (Ev.ifpos (by omega) ?_)
    rw [rdRp xs i hi]
    generalize xs[i].f0 = x at hnext ⊢
    generalize insAll (ins x out) (addrs (xs.drop (i + 1))) = r at hnext ⊢
    refine pos_loop x out (fun p k => spec_AddressesOf.l1 k xs out (i : Int) x (p : Int)) r ?_ ?_
    · have hle := posOf_le x out
      refine Ev.step (fun k => by rw [spec_AddressesOf.l1]) ?_
      rw [wrap_succ (i := i) (by omega)]
      by_cases hl : posOf x out < out.length
      · have hat := posOf_at x out hl
        refine Ev.ifpos (by omega) (Ev.ifpos (by omega) ?_)
        rw [rd_get out _ hl]
        refine Ev.ifneg hat (Ev.ifneg (by omega) ?_)
        by_cases he : out[posOf x out] = x
        · refine Ev.ifpos he ?_
          have e : ins x out = out := by unfold ins; rw [if_pos ⟨hl, by rw [List.getD_eq_getElem?_getD, List.getElem?_eq_getElem hl]; exact he⟩]
          rw [e] at hnext
          exact hnext
        · refine Ev.ifneg he ?_
          have e : ins x out = ([] ++ out.take (posOf x out) ++ [x]) ++ out.drop (posOf x out) := by
            unfold ins
            rw [if_neg (fun h => he (by have := h.2; rw [List.getD_eq_getElem?_getD, List.getElem?_eq_getElem hl] at this; exact this))]
            simp
          rw [e] at hnext
          refine Ev.bind0 rfl (Ev.ifpos (by omega) (Ev.bind0 rfl (Ev.ifpos (by simp; omega) (Ev.bind0 rfl (Ev.bind0 rfl (Ev.ifpos (by simp; omega) (Ev.bind0 rfl (Ev.bind0 rfl (Ev.ifpos (by simp; omega) ?_)))))))))
          rw [Int.toNat_natCast]
          exact hnext
      · have hp : posOf x out = out.length := by omega
        have e : ins x out = ([] ++ out.take (posOf x out) ++ [x]) ++ out.drop (posOf x out) := by
          unfold ins
          rw [if_neg (fun h => hl h.1)]
          simp
        rw [e] at hnext
        refine Ev.ifneg (by omega) (Ev.ifpos (by omega) ?_)
        refine Ev.bind0 rfl (Ev.ifpos (by omega) (Ev.ifpos (by omega) (Ev.bind0 rfl (Ev.ifpos (by simp; omega) (Ev.bind0 rfl (Ev.bind0 rfl (Ev.ifpos (by simp; omega) (Ev.bind0 rfl (Ev.bind0 rfl (Ev.ifpos (by simp; omega) ?_))))))))))
        rw [Int.toNat_natCast]
        exact hnext
    · intro p hp hlt hr
      refine Ev.step (fun k => by rw [spec_AddressesOf.l1]) ?_
      refine Ev.ifpos (by omega) (Ev.ifpos (by omega) ?_)
      rw [rd_get out p hp, wrap_succ (i := p) (by omega)]
      exact Ev.ifpos hlt hr

theorem spec_addr (xs : List Rp) (hx : xs.length ≤ 1048576) : Ev (fun k => spec_AddressesOf.f k xs) (sortedF (addrs xs)) := by
  have h := spec_addr_from xs hx 0 [] (Nat.zero_le _) (Nat.le_refl _)
  rw [List.drop_zero, insAll_sorted] at h
  unfold spec_AddressesOf.f
  exact h

theorem impl_addr (xs : List Rp) (hx : xs.length ≤ 1048576) : Ev (fun k => impl_AddressesOf.f k xs) (sortedF (addrs xs)) := by
  unfold impl_AddressesOf.f
  have key := Ev.up xs.length (fun i (out : List Int) k => impl_AddressesOf.l0 k out xs (xs.length : Int) (i : Int)) (fun i out => sortedF (out ++ addrs (xs.drop i))) (fun i out => out.length = i) ?_ ?_ 0 [] (Nat.zero_le _) rfl
  · rw [List.drop_zero, List.nil_append] at key
    exact key
  · intro out ho
    rw [List.drop_of_length_le (Nat.le_refl _)]
    refine Ev.step (fun k => by rw [impl_AddressesOf.l0]) ?_
    refine Ev.ifneg (by omega) (Ev.bind0 (a := sortedF out) ?_ ?_)
    · unfold impl_sorted.f
      rw [if_pos (by omega)]
    · exact Ev.pure (by show sortedF out = sortedF (out ++ addrs []); unfold addrs; simp)
  · intro i out hi ho ih
    refine Ev.step (fun k => by rw [impl_AddressesOf.l0]) ?_
    refine Ev.ifpos (by omega) (Ev.ifpos (by omega) (Ev.ifpos (by omega) (Ev.ifpos (by omega) ?_)))
    rw [rdRp xs i hi, wrap_succ (by omega)]
    have h := ih (out ++ [xs[i].f0]) (by simp; omega)
    have e : out ++ addrs (xs.drop i) = (out ++ [xs[i].f0]) ++ addrs (xs.drop (i + 1)) := by
      rw [drop_get xs i hi, List.append_assoc]
      rfl
    rw [e]
    exact h

end Go.Proofs.Ytfmldgpebnnbbaa.Pure
