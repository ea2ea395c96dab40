/- Plain lemmas: marks of probes. Condition: the numbers fit. -/
import Derived.Test.YtlplegdcpgbbbaaPMarkI
import Derived.Test.YtlplegdcpgbbbaaZ8
namespace Go.Proofs.Ytlplegdcpgbbbaa.Pure
open Go.RowKit Go.Proofs.Ytlplegdcpgbbbaa.Z Go.Proofs.YtlplegdcpgbbbaaW.PrintWords

def totP : List S38 → Nat
  | [] => 0
  | p :: ps => 2 + p.f2.length + totP ps
def markPs : Int → List S38 → List S38
  | _, [] => []
  | m, p :: ps => ⟨m, m + 1, marked 1 (fun m => m) (m + 2) p.f2.length⟩ :: markPs (m + 2 + (p.f2.length : Int)) ps
theorem markPs_length : ∀ (m : Int) (l : List S38), (markPs m l).length = l.length
  | _, [] => rfl
  | m, r :: rs => by rw [markPs, List.length_cons, markPs_length, List.length_cons]

theorem mark_Ps_from : ∀ (l done : List S38) (m : Int), 0 ≤ m → m + (totP l : Int) ≤ 4611686018427387904 → done.length + l.length ≤ 4611686018427387904 → Ev (fun k => laws_markProbeS.l0 k (done ++ l) m (done.length : Int)) (m + (totP l : Int), done ++ markPs m l)
  | [], done, m, h0, h1, h2 => by
    rw [List.append_nil, markPs, List.append_nil, totP]
    refine Ev.step (fun k => by rw [laws_markProbeS.l0]) ?_
    exact Ev.ifneg (by omega) (Ev.pure (by simp))
  | r :: rs, done, m, h0, h1, h2 => by
    rw [totP] at h1
    rw [List.length_cons] at h2
    have hl : (done ++ r :: rs).length = done.length + rs.length + 1 := by simp; omega
    refine Ev.step (fun k => by rw [laws_markProbeS.l0]) ?_
    refine Ev.ifpos (by omega) (Ev.ifpos (by omega) ?_)
    have w1 : wrap64 (m + 1) = m + 1 := wrap_in (by omega) (by omega)
    have w2 : wrap64 (m + 1 + 1) = m + 2 := by rw [wrap_in (by omega) (by omega)]; omega
    rw [w1, w2, show rd_T38 (done ++ r :: rs) (done.length : Int) = r from getD_mid _ _ _ _]
    refine Ev.bind (pm_IntS r.f2 (m + 2) (by omega) (by omega)) ?_
    rw [set_mid, wrap_succ (by omega)]
    have ih := mark_Ps_from rs (done ++ [⟨m, m + 1, marked 1 (fun m => m) (m + 2) r.f2.length⟩]) (m + 2 + (r.f2.length : Int)) (by omega) (by omega) (by rw [List.length_append, List.length_singleton]; omega)
    rw [List.length_append, List.length_singleton] at ih
    rw [markPs, totP]
    have e1 : m + 2 + ((1 * r.f2.length : Nat) : Int) = m + 2 + (r.f2.length : Int) := by omega
    have e2 : m + 2 + (r.f2.length : Int) + (totP rs : Int) = m + ((2 + r.f2.length + totP rs : Nat) : Int) := by omega
    rw [e2] at ih
    simp only [List.append_assoc, List.singleton_append] at ih
    simp only [e1]
    rw [List.append_assoc, List.singleton_append]
    exact ih

theorem mark_ProbeS (l : List S38) (m : Int) (h0 : 0 ≤ m) (h1 : m + (totP l : Int) ≤ 4611686018427387904) (h2 : l.length ≤ 4611686018427387904) : Ev (fun k => laws_markProbeS.f k l m) (m + (totP l : Int), markPs m l) := by
  unfold laws_markProbeS.f
  have := mark_Ps_from l [] m h0 h1 (by simpa using h2)
  simpa using this

theorem totP_le (n : Nat) : ∀ l : List S38, (∀ r ∈ l, r.f2.length ≤ n) → totP l ≤ (n + 2) * l.length
  | [], _ => Nat.zero_le _
  | r :: rs, h => by
    have := totP_le n rs (fun x hx => h x (List.mem_cons_of_mem _ hx))
    have := h r (List.mem_cons_self ..)
    rw [totP, List.length_cons, Nat.mul_succ]
    omega

end Go.Proofs.Ytlplegdcpgbbbaa.Pure
