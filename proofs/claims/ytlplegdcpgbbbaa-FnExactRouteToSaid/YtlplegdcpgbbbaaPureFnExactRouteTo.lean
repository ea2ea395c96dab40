/- The statement: for every network and two nodes, the program's RouteTo answers as the reference's does, leaves the network as it was, and its answer shares no memory with the network or with another answer. No condition. -/
import Derived.Test.YtlplegdcpgbbbaaZDefFnExactRouteTo
import Derived.Test.YtlplegdcpgbbbaaPHFnExactRouteTo
import Derived.Test.YtlplegdcpgbbbaaPRouteTo
namespace Go.Proofs.Ytlplegdcpgbbbaa.Pure
open Go.RowKit Go.Proofs.Ytlplegdcpgbbbaa.Z Go.Proofs.YtlplegdcpgbbbaaW.PrintWords

theorem routeF_len (d : List Int) (ls : List Lk) : ∀ m x, (routeF d ls m x).length = m
  | 0, _ => rfl
  | m + 1, x => by rw [routeF, List.length_cons, routeF_len d ls m]

theorem fold_good {N : Nat} {ls : List Lk} {tg : Int} (hv : Links N ls) (n : Nat) (hn : n < N) : ∀ (l : List Lk) (d : List Int), (∀ x ∈ l, x ∈ ls) → Good N ls tg d → Good N ls tg (l.foldl (relaxL (n : Int)) d)
  | [], _, _, h => h
  | x :: l, d, hl, h => by
    rw [List.foldl_cons]
    exact fold_good hv n hn l _ (fun y hy => hl y (List.mem_cons_of_mem _ hy)) (relaxL_good hv h (hl x (List.mem_cons_self ..)) (by omega) (by omega))

theorem sweeps_good {N : Nat} {ls : List Lk} {tg : Int} (hv : Links N ls) : ∀ (q : List Nat) (d : List Int), (∀ x ∈ q, x < N) → Good N ls tg d → Good N ls tg (q.foldl (sweep ls) d)
  | [], _, _, h => h
  | x :: q, d, hl, h => by
    rw [List.foldl_cons]
    exact sweeps_good hv q _ (fun y hy => hl y (List.mem_cons_of_mem _ hy)) (fold_good hv x (hl x (List.mem_cons_self ..)) ls d (fun _ h => h) h)

theorem routeTo_len (n : Int) (ls : List Lk) (a b : Int) : (routeTo n ls a b).length ≤ 8 := by
  unfold routeTo
  split
  · rename_i h
    obtain ⟨h1, h2, h3⟩ := links_of h.1
    have hg := sweeps_good h3 (List.range n.toNat) _ (fun x hx => List.mem_range.1 hx) (start_good (ls := ls) (tg := b) h.2.2.1 (by omega))
    have hlo := hg.lo a h.2.1.1 (by omega)
    unfold routeOf
    split
    · simp
    · rw [routeF_len]
      unfold dist
      omega
  · simp

theorem FnExactRouteTo : laws_FnExactRouteTo.Pure := by
  intro n l a b hx _ _
  refine Ev.rounds ?_
  unfold laws_FnExactRouteTo.f
  obtain ⟨s, hs, hs2⟩ := sz_Net ⟨n, l⟩ hx.2.1 1048576 (by omega) (by omega)
  by_cases hn : s < 0
  · exact Ev.bind0 hs (Ev.ifpos hn (Ev.now _))
  · have hsm := (hs2 (by omega)).2
    have ht := to_Net ⟨n, l⟩ hsm
    have hlen : (l.map c111_93).length ≤ 1048576 := by simpa using hsm.2.1
    have h1 := spec_routeTo n (l.map c111_93) a b (by omega)
    have h2 := impl_routeTo n (l.map c111_93) a b (by omega)
    have he := eq_Net ⟨n, l.map c111_93⟩ ⟨trivial, hlen, fun _ _ => ⟨trivial, trivial⟩⟩
    have hrl := routeTo_len n (l.map c111_93) a b
    have hi := eq_IntS (routeTo n (l.map c111_93) a b) (by unfold maxLen; omega)
    have hm := mark_LinkS (l.map c111_93) 1 (by omega) (by omega)
    have hmi := mark_IntS (routeTo n (l.map c111_93) a b) 1 (by omega) (by omega)
    have hh := held_IntS (routeTo n (l.map c111_93) a b).length 1 (by omega) (by omega)
    have hmn : Ev (fun k => laws_markNet.f k n (l.map c111_93) 1) (1 + ((2 * (l.map c111_93).length : Nat) : Int), marked 2 (fun m => (⟨m, m + 1⟩ : S93)) 1 (l.map c111_93).length) := by
      unfold laws_markNet.f
      exact Ev.bind hm (Ev.now _)
    refine Ev.bind0 hs (Ev.ifneg hn (Ev.bind ht (Ev.bind h1 (Ev.bind ht (Ev.bind h2 (Ev.bind hi (Ev.ifpos rfl (Ev.bind ht (Ev.bind he (Ev.ifpos rfl (Ev.bind hmn (Ev.ifneg (by omega) (Ev.bind hi ?_)))))))))))))
    refine Ev.step (fun k => by rw [laws_FnExactRouteTo.j0]) ?_
    refine Ev.ifneg (by decide) (Ev.bind hmi (Ev.bind hh (Ev.ifneg (by omega) (Ev.ifpos rfl (Ev.bind ht (Ev.bind h2 (Ev.bind hi (Ev.ifpos rfl (Ev.bind hh (Ev.ifneg (by omega) (Ev.ifpos rfl (Ev.now _))))))))))))

end Go.Proofs.Ytlplegdcpgbbbaa.Pure
