/- Plain lemmas: marks of rows of rows, and what holds them. Condition: the numbers fit. -/
import Derived.Test.YtlplegdcpgbbbaaPMarkI
import Derived.Test.YtlplegdcpgbbbaaZ9
import Derived.Test.YtlplegdcpgbbbaaZ10
namespace Go.Proofs.Ytlplegdcpgbbbaa.Pure
open Go.RowKit Go.Proofs.Ytlplegdcpgbbbaa.Z Go.Proofs.YtlplegdcpgbbbaaW.PrintWords

/-- How many numbers there are in all rows. -/
def tot : List (List Int) → Nat
  | [] => 0
  | r :: rs => r.length + tot rs
/-- What the marks leave. -/
def markSS : Int → List (List Int) → List (List Int)
  | _, [] => []
  | m, r :: rs => marked 1 (fun m => m) m r.length :: markSS (m + (r.length : Int)) rs
theorem markSS_length : ∀ (m : Int) (l : List (List Int)), (markSS m l).length = l.length
  | _, [] => rfl
  | m, r :: rs => by rw [markSS, List.length_cons, markSS_length, List.length_cons]

theorem mark_SS_from : ∀ (l done : List (List Int)) (m : Int), 0 ≤ m → m + (tot l : Int) ≤ 4611686018427387904 → done.length + l.length ≤ 4611686018427387904 → Ev (fun k => laws_markIntSS.l0 k (done ++ l) m (done.length : Int)) (m + (tot l : Int), done ++ markSS m l)
  | [], done, m, h0, h1, h2 => by
    rw [List.append_nil, markSS, List.append_nil, tot]
    refine Ev.step (fun k => by rw [laws_markIntSS.l0]) ?_
    exact Ev.ifneg (by omega) (Ev.pure (by simp))
  | r :: rs, done, m, h0, h1, h2 => by
    rw [tot] at h1
    rw [List.length_cons] at h2
    have hl : (done ++ r :: rs).length = done.length + rs.length + 1 := by simp; omega
    refine Ev.step (fun k => by rw [laws_markIntSS.l0]) ?_
    refine Ev.ifpos (by omega) (Ev.ifpos (by omega) ?_)
    rw [getD_mid]
    refine Ev.bind (pm_IntS r m h0 (by omega)) ?_
    rw [set_mid, wrap_succ (by omega)]
    have ih := mark_SS_from rs (done ++ [marked 1 (fun m => m) m r.length]) (m + (r.length : Int)) (by omega) (by omega) (by rw [List.length_append, List.length_singleton]; omega)
    rw [List.length_append, List.length_singleton] at ih
    rw [markSS, tot]
    have e1 : m + ((1 * r.length : Nat) : Int) = m + (r.length : Int) := by omega
    have e2 : m + (r.length : Int) + (tot rs : Int) = m + ((r.length + tot rs : Nat) : Int) := by omega
    rw [e2] at ih
    simp only [List.append_assoc, List.singleton_append] at ih
    simp only [e1]
    rw [List.append_assoc, List.singleton_append]
    exact ih

theorem mark_IntSS (l : List (List Int)) (m : Int) (h0 : 0 ≤ m) (h1 : m + (tot l : Int) ≤ 4611686018427387904) (h2 : l.length ≤ 4611686018427387904) : Ev (fun k => laws_markIntSS.f k l m) (m + (tot l : Int), markSS m l) := by
  unfold laws_markIntSS.f
  have := mark_SS_from l [] m h0 h1 (by simpa using h2)
  simpa using this

theorem held_SS_from : ∀ (l done : List (List Int)) (m : Int), 0 ≤ m → m + (tot l : Int) ≤ 4611686018427387904 → done.length + l.length ≤ 4611686018427387904 → Ev (fun k => laws_heldIntSS.l0 k (done ++ markSS m l) m (done.length : Int)) (m + (tot l : Int))
  | [], done, m, h0, h1, h2 => by
    rw [markSS, List.append_nil, tot]
    refine Ev.step (fun k => by rw [laws_heldIntSS.l0]) ?_
    exact Ev.ifneg (by omega) (Ev.pure (by simp))
  | r :: rs, done, m, h0, h1, h2 => by
    rw [tot] at h1
    rw [List.length_cons] at h2
    rw [markSS, tot]
    have hl : (done ++ marked 1 (fun m => m) m r.length :: markSS (m + (r.length : Int)) rs).length = done.length + rs.length + 1 := by simp [markSS_length]; omega
    refine Ev.step (fun k => by rw [laws_heldIntSS.l0]) ?_
    refine Ev.ifpos (by omega) (Ev.ifpos (by omega) ?_)
    rw [show rd_L1 (done ++ marked 1 (fun m => m) m r.length :: markSS (m + (r.length : Int)) rs) (done.length : Int) = marked 1 (fun m => m) m r.length from getD_mid _ _ _ _]
    refine Ev.bind (ph_IntS r.length m h0 (by omega)) (Ev.ifneg (by omega) ?_)
    rw [wrap_succ (by omega)]
    have ih := held_SS_from rs (done ++ [marked 1 (fun m => m) m r.length]) (m + (r.length : Int)) (by omega) (by omega) (by rw [List.length_append, List.length_singleton]; omega)
    rw [List.length_append, List.length_singleton, List.append_assoc, List.singleton_append] at ih
    have e1 : m + ((1 * r.length : Nat) : Int) = m + (r.length : Int) := by omega
    have e2 : m + (r.length : Int) + (tot rs : Int) = m + ((r.length + tot rs : Nat) : Int) := by omega
    rw [e2] at ih
    rw [e1]
    exact ih

theorem held_IntSS (l : List (List Int)) (m : Int) (h0 : 0 ≤ m) (h1 : m + (tot l : Int) ≤ 4611686018427387904) (h2 : l.length ≤ 4611686018427387904) : Ev (fun k => laws_heldIntSS.f k (markSS m l) m) (m + (tot l : Int)) := by
  unfold laws_heldIntSS.f
  have := held_SS_from l [] m h0 h1 (by simpa using h2)
  simpa using this

theorem tot_le (n : Nat) : ∀ l : List (List Int), (∀ r ∈ l, r.length ≤ n) → tot l ≤ n * l.length
  | [], _ => Nat.zero_le _
  | r :: rs, h => by
    have := tot_le n rs (fun x hx => h x (List.mem_cons_of_mem _ hx))
    have := h r (List.mem_cons_self ..)
    rw [tot, List.length_cons, Nat.mul_succ]
    omega

end Go.Proofs.Ytlplegdcpgbbbaa.Pure
