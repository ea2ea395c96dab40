/- The statement: for all traces, the program's GapsIn returns the same number as the reference's and leaves the traces as they were. No condition. -/
import Derived.Test.YtghippahfkjhhaaZDefFnExactGapsIn
import Derived.Test.YtghippahfkjhhaaPHFnExactGapsIn
namespace Go.Proofs.Ytghippahfkjhhaa.Pure.GapsIn
open Go.RowKit Go.Proofs.Ytghippahfkjhhaa.Z Go.Proofs.YtghippahfkjhhaaW.PrintWords Go.Proofs.Ytghippahfkjhhaa.Pure

abbrev T := S100

def gaps (c : Int) (l : List Int) : Int := l.foldl (fun c x => if x = -1 then wrap64 (c + 1) else c) c
theorem gaps_cons (c x : Int) (l : List Int) : gaps c (x :: l) = gaps (if x = -1 then wrap64 (c + 1) else c) l := rfl
def total (c : Int) (l : List T) : Int := l.foldl (fun c t => gaps c t.f0) c

theorem spec_in (l : List T) (i : Nat) (hi : i < l.length) (hb : l.length ≤ 1048576) (hx : (l[i].f0).length ≤ 1048576) (r : Int) :
    ∀ d j (c : Int), j + d = (l[i].f0).length → Ev (fun k => spec_GapsIn.l0 k l (gaps c ((l[i].f0).drop j)) ((i + 1 : Nat) : Int)) r → Ev (fun k => spec_GapsIn.l1 k l c (i : Int) (j : Int)) r := by
  intro d
  induction d with
  | zero =>
    intro j c hj hr
    refine Ev.step (fun k => by rw [spec_GapsIn.l1]) ?_
    refine Ev.ifpos (by omega) (Ev.ifpos (by omega) ?_)
    rw [rd_T100_get l i hi]
    refine Ev.ifneg (by omega) ?_
    rw [wrap_succ (by omega)]
    rw [List.drop_of_length_le (by omega)] at hr
    simpa [gaps] using hr
  | succ d ih =>
    intro j c hj hr
    have hlt : j < (l[i].f0).length := by omega
    refine Ev.step (fun k => by rw [spec_GapsIn.l1]) ?_
    refine Ev.ifpos (by omega) (Ev.ifpos (by omega) ?_)
    rw [rd_T100_get l i hi]
    refine Ev.ifpos (by omega) (Ev.ifpos (by omega) ?_)
    rw [rd_get _ j hlt, wrap_succ (by omega)]
    rw [drop_get _ j hlt, gaps_cons] at hr
    by_cases hc : (l[i].f0)[j] = -1
    · refine Ev.ifpos hc (ih (j + 1) _ (by omega) ?_)
      rwa [if_pos hc] at hr
    · refine Ev.ifneg hc (ih (j + 1) c (by omega) ?_)
      rwa [if_neg hc] at hr

theorem spec_gaps (l : List T) (hb : l.length ≤ 1048576) (hx : ∀ x ∈ l, x.f0.length ≤ 1048576) : Ev (fun k => spec_GapsIn.f k l) (total 0 l) := by
  unfold spec_GapsIn.f
  have key := Ev.up l.length (fun i (c : Int) k => spec_GapsIn.l0 k l c (i : Int)) (fun i c => total c (l.drop i)) (fun _ _ => True)
    (fun c _ => by
      refine Ev.step (fun k => by rw [spec_GapsIn.l0]) ?_
      rw [List.drop_of_length_le (by omega)]
      exact Ev.ifneg (by omega) (Ev.now _))
    (fun i c hi _ ih => by
      refine Ev.step (fun k => by rw [spec_GapsIn.l0]) ?_
      refine Ev.ifpos (by omega) ?_
      refine spec_in l i hi hb (hx _ (List.getElem_mem hi)) _ _ 0 c (Nat.zero_add _) ?_
      rw [drop_get l i hi]
      exact ih _ trivial) 0 0 (Nat.zero_le _) trivial
  simpa using key

theorem impl_in (l : List T) (i : Nat) (hi : i < l.length) (hb : l.length ≤ 1048576) (h : List Int) (hx : h.length ≤ 1048576) (r : Int) :
    ∀ d j (c : Int), j + d = h.length → Ev (fun k => impl_GapsIn.l0 k (gaps c (h.drop j)) l (l.length : Int) ((i + 1 : Nat) : Int)) r → Ev (fun k => impl_GapsIn.l1 k c l (l.length : Int) (i : Int) h (h.length : Int) (j : Int)) r := by
  intro d
  induction d with
  | zero =>
    intro j c hj hr
    refine Ev.step (fun k => by rw [impl_GapsIn.l1]) ?_
    refine Ev.ifneg (by omega) ?_
    rw [wrap_succ (by omega)]
    rw [List.drop_of_length_le (by omega)] at hr
    simpa [gaps] using hr
  | succ d ih =>
    intro j c hj hr
    have hlt : j < h.length := by omega
    refine Ev.step (fun k => by rw [impl_GapsIn.l1]) ?_
    refine Ev.ifpos (by omega) (Ev.ifpos (by omega) (Ev.ifpos (by omega) ?_))
    rw [rd_get _ j hlt, wrap_succ (by omega)]
    rw [drop_get _ j hlt, gaps_cons] at hr
    by_cases hc : h[j] = -1
    · refine Ev.ifpos hc (ih (j + 1) _ (by omega) ?_)
      rwa [if_pos hc] at hr
    · refine Ev.ifneg hc (ih (j + 1) c (by omega) ?_)
      rwa [if_neg hc] at hr

theorem impl_gaps (l : List T) (hb : l.length ≤ 1048576) (hx : ∀ x ∈ l, x.f0.length ≤ 1048576) : Ev (fun k => impl_GapsIn.f k l) (total 0 l) := by
  unfold impl_GapsIn.f
  have key := Ev.up l.length (fun i (c : Int) k => impl_GapsIn.l0 k c l (l.length : Int) (i : Int)) (fun i c => total c (l.drop i)) (fun _ _ => True)
    (fun c _ => by
      refine Ev.step (fun k => by rw [impl_GapsIn.l0]) ?_
      rw [List.drop_of_length_le (by omega)]
      exact Ev.ifneg (by omega) (Ev.now _))
    (fun i c hi _ ih => by
      refine Ev.step (fun k => by rw [impl_GapsIn.l0]) ?_
      refine Ev.ifpos (by omega) (Ev.ifpos (by omega) (Ev.ifpos (by omega) ?_))
      rw [rd_T100_get l i hi]
      refine impl_in l i hi hb _ (hx _ (List.getElem_mem hi)) _ _ 0 c (Nat.zero_add _) ?_
      rw [drop_get l i hi]
      exact ih _ trivial) 0 0 (Nat.zero_le _) trivial
  simpa using key

end Go.Proofs.Ytghippahfkjhhaa.Pure.GapsIn
namespace Go.Proofs.Ytghippahfkjhhaa.Pure
open Go.RowKit Go.Proofs.Ytghippahfkjhhaa.Z Go.Proofs.YtghippahfkjhhaaW.PrintWords GapsIn

theorem FnExactGapsIn : laws_FnExactGapsIn.Pure := by
  intro l hl
  refine Ev.rounds ?_
  unfold laws_FnExactGapsIn.f
  obtain ⟨s, hs, hs2⟩ := sz_TraceS l hl.1 (fun x hx => (hl.2 x hx).1) 1048576 (by omega) (by omega)
  by_cases hn : s < 0
  · exact Ev.bind hs (Ev.ifpos hn (Ev.now _))
  · have hsm := (hs2 (by omega)).2
    have ht := to_TraceS l hsm
    have hm : ∀ x ∈ l.map c99_100, x.f0.length ≤ 1048576 := by
      intro x hx
      obtain ⟨y, hy, rfl⟩ := List.mem_map.1 hx
      exact (hsm.2 y hy).1
    have hlen : (l.map c99_100).length ≤ 1048576 := by simpa using hsm.1
    have h1 := spec_gaps _ hlen hm
    have h2 := impl_gaps _ hlen hm
    have he := eq_TraceS (l.map c99_100) ⟨hlen, fun x hx => ⟨hm x hx, fun _ _ => trivial⟩⟩
    exact Ev.bind hs (Ev.ifneg hn (Ev.bind ht (Ev.bind h1 (Ev.bind ht (Ev.bind h2 (Ev.ifpos rfl (Ev.bind ht (Ev.bind he (Ev.ifpos rfl (Ev.now _))))))))))

end Go.Proofs.Ytghippahfkjhhaa.Pure
