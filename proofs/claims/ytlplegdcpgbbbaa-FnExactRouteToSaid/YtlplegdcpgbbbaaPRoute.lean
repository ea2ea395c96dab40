/- Plain law: how far each node is from a node, and the route that follows the distances down. No program in sight. -/
import Derived.Test.YtlplegdcpgbbbaaPNet
import Derived.Test.YtlplegdcpgbbbaaPEndOfS
namespace Go.Proofs.Ytlplegdcpgbbbaa.Pure
open Go.RowKit Go.Proofs.Ytlplegdcpgbbbaa.Z Go.Proofs.YtlplegdcpgbbbaaW.PrintWords

def across (l : Lk) (x : Int) : Int := if x = l.f0 then l.f1 else if x = l.f1 then l.f0 else -1
def relax1 (n : Int) (d : List Int) (a b : Int) : List Int := if rd d a = n ∧ rd d b < 0 then d.set b.toNat (n + 1) else d
def relaxL (n : Int) (d : List Int) (l : Lk) : List Int := relax1 n (relax1 n d l.f0 l.f1) l.f1 l.f0
def sweep (ls : List Lk) (d : List Int) (n : Nat) : List Int := ls.foldl (relaxL (n : Int)) d
def dist (N : Nat) (ls : List Lk) (b : Int) : List Int := (List.range N).foldl (sweep ls) ((List.replicate N (-1)).set b.toNat 0)
def stepOk (d : List Int) (x : Int) (l : Lk) : Bool := decide (0 ≤ across l x ∧ rd d (across l x) = rd d x - 1)
def routeF (d : List Int) (ls : List Lk) : Nat → Int → List Int
  | 0, _ => []
  | m + 1, x => firstAt (stepOk d x) ls :: routeF d ls m (across (rd_T93 ls (firstAt (stepOk d x) ls)) x)

theorem rd_set (d : List Int) (b v x : Int) (hb : 0 ≤ b) (hb2 : b < d.length) (hv : 0 ≤ v) : rd (d.set b.toNat x) v = if v = b then x else rd d v := by
  unfold rd
  rw [List.getD_eq_getElem?_getD, List.getD_eq_getElem?_getD]
  by_cases h : v = b
  · subst h
    rw [if_pos rfl, List.getElem?_set_self (by omega)]
    rfl
  · rw [if_neg h, List.getElem?_set_ne (by omega)]

/-- Links between two nodes of N. -/
def Links (N : Nat) (ls : List Lk) : Prop := ∀ l ∈ ls, 0 ≤ l.f0 ∧ l.f0 < N ∧ 0 ≤ l.f1 ∧ l.f1 < N ∧ l.f0 ≠ l.f1

/-- What the distances are at each stage: each node that has one greater than 0 has a neighbour one nearer. -/
structure Good (N : Nat) (ls : List Lk) (tg : Int) (d : List Int) : Prop where
  len : d.length = N
  lo : ∀ v : Int, 0 ≤ v → v < N → -1 ≤ rd d v ∧ rd d v ≤ N
  zero : ∀ v : Int, 0 ≤ v → v < N → rd d v = 0 → v = tg
  t0 : 0 ≤ tg ∧ tg < N
  own : rd d tg = 0
  near : ∀ v : Int, 0 ≤ v → v < N → 0 < rd d v → ∃ l ∈ ls, 0 ≤ across l v ∧ across l v < N ∧ rd d (across l v) = rd d v - 1

theorem relax1_good {N : Nat} {ls : List Lk} {tg : Int} {d : List Int} (h : Good N ls tg d) {n a b : Int} {l : Lk} (hl : l ∈ ls) (hn : 0 ≤ n) (hN : n < N) (ha : 0 ≤ a ∧ a < N) (hb : 0 ≤ b ∧ b < N) (hc : across l b = a) : Good N ls tg (relax1 n d a b) := by
  unfold relax1
  by_cases hif : rd d a = n ∧ rd d b < 0
  · rw [if_pos hif]
    have hlen := h.len
    have hrd : ∀ v : Int, 0 ≤ v → rd (d.set b.toNat (n + 1)) v = if v = b then n + 1 else rd d v := fun v hv => rd_set d b v (n + 1) hb.1 (by omega) hv
    refine ⟨by simpa using hlen, fun v hv hv2 => ?_, fun v hv hv2 => ?_, h.t0, by rw [hrd tg h.t0.1, if_neg (fun e => by have := h.own; rw [e] at this; omega)]; exact h.own, fun v hv hv2 => ?_⟩
    · rw [hrd v hv]
      split
      · omega
      · exact h.lo v hv hv2
    · rw [hrd v hv]
      split
      · intro h0; omega
      · exact h.zero v hv hv2
    · rw [hrd v hv]
      split
      · rename_i hvb
        intro _
        refine ⟨l, hl, ?_⟩
        rw [hvb, hc, hrd a ha.1, if_neg (fun e => by rw [e] at hif; omega)]
        exact ⟨ha.1, ha.2, by omega⟩
      · intro hpos
        obtain ⟨l', hl', h1, h2, h3⟩ := h.near v hv hv2 hpos
        refine ⟨l', hl', h1, h2, ?_⟩
        rw [hrd _ h1, if_neg (fun e => by rw [e] at h3; omega)]
        exact h3
  · rw [if_neg hif]
    exact h

theorem relaxL_good {N : Nat} {ls : List Lk} {tg : Int} {d : List Int} (hv : Links N ls) (h : Good N ls tg d) {n : Int} {l : Lk} (hl : l ∈ ls) (hn : 0 ≤ n) (hN : n < N) : Good N ls tg (relaxL n d l) := by
  have h1 := hv l hl
  unfold relaxL
  refine relax1_good (relax1_good h hl hn hN ⟨h1.1, h1.2.1⟩ ⟨h1.2.2.1, h1.2.2.2.1⟩ ?_) hl hn hN ⟨h1.2.2.1, h1.2.2.2.1⟩ ⟨h1.1, h1.2.1⟩ ?_
  · unfold across
    rw [if_neg (fun e => h1.2.2.2.2 e.symm), if_pos rfl]
  · unfold across
    rw [if_pos rfl]

theorem start_good {N : Nat} {ls : List Lk} {tg : Int} (h0 : 0 ≤ tg) (h1 : tg < N) : Good N ls tg ((List.replicate N (-1)).set tg.toNat 0) := by
  have hlen : ((List.replicate N (-1 : Int)).set tg.toNat 0).length = N := by simp
  have hrd : ∀ v : Int, 0 ≤ v → v < N → rd ((List.replicate N (-1)).set tg.toNat 0) v = if v = tg then 0 else -1 := by
    intro v hv hv2
    rw [rd_set _ tg v 0 h0 (by simp; omega) hv]
    congr 1
    unfold rd
    rw [List.getD_eq_getElem?_getD, List.getElem?_replicate, if_pos (by omega)]
    rfl
  refine ⟨hlen, fun v hv hv2 => ?_, fun v hv hv2 => ?_, ⟨h0, h1⟩, by rw [hrd tg h0 h1, if_pos rfl], fun v hv hv2 => ?_⟩
  · rw [hrd v hv hv2]
    split <;> omega
  · rw [hrd v hv hv2]
    split
    · intro _; assumption
    · intro h; omega
  · rw [hrd v hv hv2]
    split <;> (intro h; omega)

theorem links_of {n : Int} {ls : List Lk} (h : isNet n ls = true) : (1 ≤ n ∧ n ≤ 8) ∧ (1 ≤ ls.length ∧ ls.length ≤ 6) ∧ Links n.toNat ls := by
  unfold isNet at h
  simp only [Bool.and_eq_true, decide_eq_true_eq, List.all_eq_true, List.mem_range] at h
  refine ⟨h.1, h.2.1, fun l hl => ?_⟩
  obtain ⟨i, hi, rfl⟩ := List.getElem_of_mem hl
  have h2 := h.2.2 i hi
  unfold linkOk at h2
  simp only [Bool.and_eq_true, decide_eq_true_eq] at h2
  have e : rd_T93 ls (i : Int) = ls[i] := getD_get ls i _ hi
  rw [e] at h2
  have := h2.1
  have := h2.2.1
  exact ⟨by omega, by omega, by omega, by omega, h2.2.2.1⟩

/-- At a node that is m + 1 away the first link that leads nearer is there. -/
theorem near_first {N : Nat} {ls : List Lk} {tg : Int} {d : List Int} (hv : Links N ls) (h : Good N ls tg d) {x : Int} (h0 : 0 ≤ x) (h1 : x < N) {m : Nat} (hm : rd d x = (m : Int) + 1) :
    ∃ f, ∃ hf : f < ls.length, firstAt (stepOk d x) ls = (f : Int) ∧ rd_T93 ls (f : Int) = ls[f] ∧ 0 ≤ across ls[f] x ∧ across ls[f] x < N ∧ rd d (across ls[f] x) = (m : Int) ∧ ∀ j (hj : j < ls.length), j < f → stepOk d x ls[j] = false := by
  obtain ⟨l, hl, a1, a2, a3⟩ := h.near x h0 h1 (by omega)
  obtain ⟨i, hi, rfl⟩ := List.getElem_of_mem hl
  have hs : stepOk d x ls[i] = true := decide_eq_true ⟨a1, a3⟩
  have hle : ls.findIdx (stepOk d x) ≤ i := by
    rcases Nat.lt_or_ge i (ls.findIdx (stepOk d x)) with hlt | hge
    · have := List.not_of_lt_findIdx hlt
      rw [hs] at this
      exact Bool.noConfusion this
    · exact hge
  have hf : ls.findIdx (stepOk d x) < ls.length := by omega
  have hok : stepOk d x ls[ls.findIdx (stepOk d x)] = true := List.findIdx_getElem
  have hok2 := of_decide_eq_true hok
  refine ⟨ls.findIdx (stepOk d x), hf, ?_, getD_get ls _ _ hf, hok2.1, ?_, by omega, fun j hj hjf => ?_⟩
  · unfold firstAt
    rw [if_pos hf]
  · have hlk := hv _ (List.getElem_mem hf)
    have := hok2.1
    unfold across at this ⊢
    split
    · omega
    · split <;> omega
  · have := List.not_of_lt_findIdx hjf
    simpa using this

theorem across_lt {N : Nat} {ls : List Lk} (hv : Links N ls) {l : Lk} (hl : l ∈ ls) (x : Int) : across l x < N ∧ (0 ≤ across l x ∨ across l x = -1) := by
  have h := hv l hl
  unfold across
  split
  · omega
  · split <;> omega

end Go.Proofs.Ytlplegdcpgbbbaa.Pure
