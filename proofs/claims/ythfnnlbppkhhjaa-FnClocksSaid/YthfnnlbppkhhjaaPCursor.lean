/- Plain lemmas: what is drawn from the bytes: each draw answers; Below n lies in 0..n-1; Int gives an element. Condition: the bytes are no more than a slice can hold. -/
import Derived.Test.YthfnnlbppkhhjaaPBase
import Derived.Test.YthfnnlbppkhhjaaZ3
import Derived.Test.YthfnnlbppkhhjaaZ4
namespace Go.Proofs.Ythfnnlbppkhhjaa.Pure
open Go.RowKit Go.Proofs.Ythfnnlbppkhhjaa.Z Go.Proofs.YthfnnlbppkhhjaaW.PrintWords

theorem and255 (x : Int) : 0 ≤ Go.bits .and .i64 x 255 ∧ Go.bits .and .i64 x 255 ≤ 255 := by
  have h : (BitVec.ofInt 64 x &&& BitVec.ofInt 64 255).toNat ≤ 255 := by
    rw [BitVec.toNat_and]
    exact Nat.and_le_right
  have e : Go.bits .and .i64 x 255 = wrap64 ((BitVec.ofInt 64 x &&& BitVec.ofInt 64 255).toNat : Int) := by
    unfold Go.bits
    exact Go.Proofs.YthfnnlbppkhhjaaW.PrintLast.i64_w _
  rw [e, wrap_in (by omega) (by omega)]
  omega

/-- A place in the bytes. -/
def Cur (x : List Int) (i : Int) : Prop := 0 ≤ i ∧ i ≤ x.length

theorem cur_byte (x : List Int) (i s : Int) (hx : x.length ≤ 4611686018427387904) (hi : Cur x i) : ∃ v i' s', spec_l1Byte.f x i s = some (v, i', s') ∧ (0 ≤ v ∧ v ≤ 255) ∧ Cur x i' := by
  unfold spec_l1Byte.f
  by_cases h : i < x.length
  · rw [if_pos h, if_pos hi.1]
    refine ⟨_, _, _, rfl, and255 _, ?_⟩
    have h0 := hi.1
    rw [wrap_in (by omega) (by omega)]
    exact ⟨by omega, by omega⟩
  · rw [if_neg h]
    exact ⟨_, _, _, rfl, and255 _, hi⟩

theorem cur_below (x : List Int) (i s n : Int) (hx : x.length ≤ 4611686018427387904) (hi : Cur x i) (hn : 0 < n) : ∃ v i' s', spec_l1Below.f x i s n = some (v, i', s') ∧ (0 ≤ v ∧ v < n) ∧ Cur x i' := by
  unfold spec_l1Below.f
  rw [if_neg (by omega)]
  obtain ⟨v1, i1, s1, e1, h1, c1⟩ := cur_byte x i s hx hi
  rw [e1]
  by_cases h : n ≤ 256
  · rw [if_pos h, Option.bind_some, if_neg (by omega)]
    refine ⟨_, _, _, rfl, ?_, c1⟩
    show 0 ≤ Int.tmod v1 n ∧ Int.tmod v1 n < n
    rw [Int.tmod_eq_emod_of_nonneg h1.1]
    exact ⟨Int.emod_nonneg _ (by omega), Int.emod_lt_of_pos _ hn⟩
  · obtain ⟨v2, i2, s2, e2, h2, c2⟩ := cur_byte x i1 s1 hx c1
    obtain ⟨v3, i3, s3, e3, h3, c3⟩ := cur_byte x i2 s2 hx c2
    rw [if_neg h, Option.bind_some]
    show ∃ v i' s', ((spec_l1Byte.f x i1 s1).bind _) = _ ∧ _
    rw [e2, Option.bind_some]
    show ∃ v i' s', ((spec_l1Byte.f x i2 s2).bind _) = _ ∧ _
    rw [e3, Option.bind_some, if_neg (by omega)]
    refine ⟨_, _, _, rfl, ?_, c3⟩
    show 0 ≤ Int.tmod (wrap64 (wrap64 (wrap64 (v1 * 65536) + wrap64 (v2 * 256)) + v3)) n ∧ _
    rw [wrap_in (n := v1 * 65536) (by omega) (by omega), wrap_in (n := v2 * 256) (by omega) (by omega), wrap_in (n := v1 * 65536 + v2 * 256) (by omega) (by omega), wrap_in (by omega) (by omega), Int.tmod_eq_emod_of_nonneg (by omega)]
    exact ⟨Int.emod_nonneg _ (by omega), Int.emod_lt_of_pos _ hn⟩

theorem cur_int (x : List Int) (i s : Int) (l : List Int) (hx : x.length ≤ 4611686018427387904) (hi : Cur x i) (hl : 0 < l.length) : ∃ v i' s', spec_l1Int.f x i s l = some (v, i', s') ∧ v ∈ l ∧ Cur x i' := by
  obtain ⟨v, i', s', e, h, c⟩ := cur_below x i s l.length hx hi (by omega)
  unfold spec_l1Int.f
  rw [e, Option.bind_some]
  refine ⟨rd l v, i', s', ?_, ?_, c⟩
  · show (if 0 ≤ v then (if v < (l.length : Int) then some (rd l v, i', s') else none) else none) = _
    rw [if_pos h.1, if_pos h.2]
  · obtain ⟨j, rfl⟩ : ∃ j : Nat, v = (j : Int) := ⟨v.toNat, by omega⟩
    rw [rd_get l j (by omega)]
    exact List.getElem_mem _

theorem cur_new_from (x : List Int) (_hx : x.length ≤ 4611686018427387904) : ∀ d i h, i + d = x.length → ∃ s, Ev (fun k => spec_l1New.l0 k x h (i : Int)) (x, 0, s) := by
  intro d
  induction d with
  | zero =>
    intro i h hi
    refine ⟨h, Ev.step (fun k => by rw [spec_l1New.l0]) ?_⟩
    exact Ev.ifneg (by omega) (Ev.now _)
  | succ d ih =>
    intro i h hi
    by_cases h4 : (i : Int) < 4000
    · obtain ⟨s, hs⟩ := ih (i + 1) (Go.bits .and .i64 (wrap64 ((wrap64 ((wrap64 (h * 137)) + (wrap64 (rd x i)))) + 11)) 1073741823) (by omega)
      refine ⟨s, Ev.step (fun k => by rw [spec_l1New.l0]) ?_⟩
      refine Ev.ifpos (by omega) (Ev.ifpos h4 (Ev.ifpos (by omega) ?_))
      have e : wrap64 ((i : Int) + 1) = ((i + 1 : Nat) : Int) := wrap_succ (by omega)
      rw [e]
      exact hs
    · refine ⟨h, Ev.step (fun k => by rw [spec_l1New.l0]) ?_⟩
      exact Ev.ifpos (by omega) (Ev.ifneg h4 (Ev.now _))

theorem cur_new (x : List Int) (hx : x.length ≤ 4611686018427387904) : ∃ s, Ev (fun k => spec_l1New.f k x) (x, 0, s) := by
  unfold spec_l1New.f
  exact cur_new_from x hx x.length 0 _ (by omega)

theorem cur_zero (x : List Int) : Cur x 0 := ⟨by omega, by omega⟩

end Go.Proofs.Ythfnnlbppkhhjaa.Pure
