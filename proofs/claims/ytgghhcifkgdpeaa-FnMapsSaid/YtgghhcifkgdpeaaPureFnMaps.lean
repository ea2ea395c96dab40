/- The statement: at every bytes: of the drawn traces the map's links are steps of a trace, the lesser node first; the network fits exactly if it has them all; the gaps are no more than the hops; an empty map has no circle; what is no list of traces has no map and fits nothing. No condition. -/
import Derived.Test.YtgghhcifkgdpeaaWWords
import Derived.Test.YtgghhcifkgdpeaaWLast
import Derived.Test.YtgghhcifkgdpeaaWMore
import Derived.Test.YtgghhcifkgdpeaaZ12
import Derived.Test.YtgghhcifkgdpeaaZ5
import Derived.Test.YtgghhcifkgdpeaaZ10
import Derived.Test.YtgghhcifkgdpeaaZFirst
import Derived.Test.YtgghhcifkgdpeaaZ6
import Derived.Test.YtgghhcifkgdpeaaZ3
import Derived.Test.YtgghhcifkgdpeaaZ8
import Derived.Test.YtgghhcifkgdpeaaZ4
import Derived.Test.YtgghhcifkgdpeaaZ7
import Derived.Test.YtgghhcifkgdpeaaZ9
import Derived.Test.YtgghhcifkgdpeaaZ14
import Derived.Test.YtgghhcifkgdpeaaZ13
import Derived.Test.YtgghhcifkgdpeaaZ11
import Derived.Test.YtgghhcifkgdpeaaZ15
import Derived.Test.YtgghhcifkgdpeaaZ16
import Derived.Test.YtgghhcifkgdpeaaZDefFnMaps
/- Plain lemmas for what the printed functions come to: loops that go up, indices that do not wrap, reads. No condition. -/
namespace Go.Proofs.Ytgghhcifkgdpeaa.Pure
open Go.RowKit Go.Proofs.YtgghhcifkgdpeaaW.PrintWords Go.Proofs.YtgghhcifkgdpeaaW.PrintLast Go.Proofs.YtgghhcifkgdpeaaW.PrintMore

/-- A loop that goes up to n: at each index it comes to R, if it does so one index further. -/
theorem Ev.up {σ ρ : Type} (n : Nat) (G : Nat → σ → Nat → Option ρ) (R : Nat → σ → ρ) (Inv : Nat → σ → Prop) (hend : ∀ s, Inv n s → Ev (G n s) (R n s))
    (hstep : ∀ i s, i < n → Inv i s → (∀ s', Inv (i + 1) s' → Ev (G (i + 1) s') (R (i + 1) s')) → Ev (G i s) (R i s)) : ∀ i s, i ≤ n → Inv i s → Ev (G i s) (R i s) := by
  have key : ∀ d i s, i + d = n → Inv i s → Ev (G i s) (R i s) := by
    intro d
    induction d with
    | zero => intro i s h hi; obtain rfl : i = n := by omega
              exact hend s hi
    | succ d ih => intro i s h hi; exact hstep i s (by omega) hi (fun s' hs' => ih (i + 1) s' (by omega) hs')
  intro i s h hi
  exact key (n - i) i s (by omega) hi

/-- The same without a state. -/
theorem Ev.up0 {ρ : Type} (n : Nat) (G : Nat → Nat → Option ρ) (R : Nat → ρ) (hend : Ev (G n) (R n)) (hstep : ∀ i, i < n → Ev (G (i + 1)) (R (i + 1)) → Ev (G i) (R i)) : ∀ i, i ≤ n → Ev (G i) (R i) := by
  intro i h
  exact Ev.up n (fun i (_ : Unit) => G i) (fun i _ => R i) (fun _ _ => True) (fun _ _ => hend) (fun i s hi _ hn => hstep i hi (hn () trivial)) i () h trivial

theorem Ev.ifpos {α : Type} {c : Prop} [Decidable c] {g f : Nat → Option α} {r : α} (hc : c) (h : Ev g r) : Ev (fun k => if c then g k else f k) r := Ev.congr (fun k => by rw [if_pos hc]) h
theorem Ev.ifneg {α : Type} {c : Prop} [Decidable c] {g f : Nat → Option α} {r : α} (hc : ¬ c) (h : Ev f r) : Ev (fun k => if c then g k else f k) r := Ev.congr (fun k => by rw [if_neg hc]) h
theorem Ev.pure {α : Type} {a r : α} (h : a = r) : Ev (fun _ => some a) r := by subst h; exact Ev.now _

/-- A call that needs no rounds. -/
theorem Ev.bind0 {α β : Type} {g : Option α} {f : Nat → α → Option β} {a : α} {r : β} (h : g = some a) (k : Ev (fun n => f n a) r) : Ev (fun n => g.bind (f n)) r :=
  Ev.congr (fun n => by rw [h]; rfl) k

theorem wrap_in {n : Int} (h0 : -9223372036854775808 ≤ n) (h1 : n ≤ 9223372036854775807) : wrap64 n = n := by unfold wrap64; omega
theorem wrap_succ {i : Nat} (h : i < 9223372036854775807) : wrap64 ((i : Int) + 1) = ((i + 1 : Nat) : Int) := by unfold wrap64; omega

theorem rd_nat (xs : List Int) (i : Nat) : rd xs (i : Int) = xs.getD i 0 := by unfold rd; rw [Int.toNat_natCast]
theorem rd_get (xs : List Int) (i : Nat) (h : i < xs.length) : rd xs (i : Int) = xs[i] := by rw [rd_nat, List.getD_eq_getElem?_getD, List.getElem?_eq_getElem h]; rfl
theorem getD_get {α : Type} (xs : List α) (i : Nat) (z : α) (h : i < xs.length) : xs.getD (i : Int).toNat z = xs[i] := by rw [Int.toNat_natCast, List.getD_eq_getElem?_getD, List.getElem?_eq_getElem h]; rfl

theorem drop_get {α : Type} (xs : List α) (i : Nat) (h : i < xs.length) : xs.drop i = xs[i] :: xs.drop (i + 1) := List.drop_eq_getElem_cons h

end Go.Proofs.Ytgghhcifkgdpeaa.Pure
/- Plain lemmas: what is drawn from the bytes: each draw answers; Below n lies in 0..n-1; Int gives an element. Condition: the bytes are no more than a slice can hold. -/
namespace Go.Proofs.Ytgghhcifkgdpeaa.Pure
open Go.RowKit Go.Proofs.Ytgghhcifkgdpeaa.Z Go.Proofs.YtgghhcifkgdpeaaW.PrintWords

theorem and255 (x : Int) : 0 ≤ Go.bits .and .i64 x 255 ∧ Go.bits .and .i64 x 255 ≤ 255 := by
  have h : (BitVec.ofInt 64 x &&& BitVec.ofInt 64 255).toNat ≤ 255 := by
    rw [BitVec.toNat_and]
    exact Nat.and_le_right
  have e : Go.bits .and .i64 x 255 = wrap64 ((BitVec.ofInt 64 x &&& BitVec.ofInt 64 255).toNat : Int) := by
    unfold Go.bits
    exact Go.Proofs.YtgghhcifkgdpeaaW.PrintLast.i64_w _
  rw [e, wrap_in (by omega) (by omega)]
  omega

/-- A place in the bytes. -/
def Cur (x : List Int) (i : Int) : Prop := 0 ≤ i ∧ i ≤ x.length

theorem cur_byte (x : List Int) (i s : Int) (hx : x.length ≤ 4611686018427387904) (hi : Cur x i) : ∃ v i' s', spec_l1Byte.f x i s = some (v, i', s') ∧ (0 ≤ v ∧ v ≤ 255) ∧ Cur x i' := by
  unfold spec_l1Byte.f
  by_cases h : i < x.length
  · rw [if_pos h, if_pos hi.1]
    refine ⟨_, _, _, rfl, and255 _, ?_⟩
    have h0 := hi.1
    rw [wrap_in (by omega) (by omega)]
    exact ⟨by omega, by omega⟩
  · rw [if_neg h]
    exact ⟨_, _, _, rfl, and255 _, hi⟩

theorem cur_below (x : List Int) (i s n : Int) (hx : x.length ≤ 4611686018427387904) (hi : Cur x i) (hn : 0 < n) : ∃ v i' s', spec_l1Below.f x i s n = some (v, i', s') ∧ (0 ≤ v ∧ v < n) ∧ Cur x i' := by
  unfold spec_l1Below.f
  rw [if_neg (by omega)]
  obtain ⟨v1, i1, s1, e1, h1, c1⟩ := cur_byte x i s hx hi
  rw [e1]
  by_cases h : n ≤ 256
  · rw [if_pos h, Option.bind_some, if_neg (by omega)]
    refine ⟨_, _, _, rfl, ?_, c1⟩
    show 0 ≤ Int.tmod v1 n ∧ Int.tmod v1 n < n
    rw [Int.tmod_eq_emod_of_nonneg h1.1]
    exact ⟨Int.emod_nonneg _ (by omega), Int.emod_lt_of_pos _ hn⟩
  · obtain ⟨v2, i2, s2, e2, h2, c2⟩ := cur_byte x i1 s1 hx c1
    obtain ⟨v3, i3, s3, e3, h3, c3⟩ := cur_byte x i2 s2 hx c2
    rw [if_neg h, Option.bind_some]
    show ∃ v i' s', ((spec_l1Byte.f x i1 s1).bind _) = _ ∧ _
    rw [e2, Option.bind_some]
    show ∃ v i' s', ((spec_l1Byte.f x i2 s2).bind _) = _ ∧ _
    rw [e3, Option.bind_some, if_neg (by omega)]
    refine ⟨_, _, _, rfl, ?_, c3⟩
    show 0 ≤ Int.tmod (wrap64 (wrap64 (wrap64 (v1 * 65536) + wrap64 (v2 * 256)) + v3)) n ∧ _
    rw [wrap_in (n := v1 * 65536) (by omega) (by omega), wrap_in (n := v2 * 256) (by omega) (by omega), wrap_in (n := v1 * 65536 + v2 * 256) (by omega) (by omega), wrap_in (by omega) (by omega), Int.tmod_eq_emod_of_nonneg (by omega)]
    exact ⟨Int.emod_nonneg _ (by omega), Int.emod_lt_of_pos _ hn⟩

theorem cur_int (x : List Int) (i s : Int) (l : List Int) (hx : x.length ≤ 4611686018427387904) (hi : Cur x i) (hl : 0 < l.length) : ∃ v i' s', spec_l1Int.f x i s l = some (v, i', s') ∧ v ∈ l ∧ Cur x i' := by
  obtain ⟨v, i', s', e, h, c⟩ := cur_below x i s l.length hx hi (by omega)
  unfold spec_l1Int.f
  rw [e, Option.bind_some]
  refine ⟨rd l v, i', s', ?_, ?_, c⟩
  · show (if 0 ≤ v then (if v < (l.length : Int) then some (rd l v, i', s') else none) else none) = _
    rw [if_pos h.1, if_pos h.2]
  · obtain ⟨j, rfl⟩ : ∃ j : Nat, v = (j : Int) := ⟨v.toNat, by omega⟩
    rw [rd_get l j (by omega)]
    exact List.getElem_mem _

theorem cur_new_from (x : List Int) (_hx : x.length ≤ 4611686018427387904) : ∀ d i h, i + d = x.length → ∃ s, Ev (fun k => spec_l1New.l0 k x h (i : Int)) (x, 0, s) := by
  intro d
  induction d with
  | zero =>
    intro i h hi
    refine ⟨h, Ev.step (fun k => by rw [spec_l1New.l0]) ?_⟩
    exact Ev.ifneg (by omega) (Ev.now _)
  | succ d ih =>
    intro i h hi
    by_cases h4 : (i : Int) < 4000
    · obtain ⟨s, hs⟩ := ih (i + 1) (Go.bits .and .i64 (wrap64 ((wrap64 ((wrap64 (h * 137)) + (wrap64 (rd x i)))) + 11)) 1073741823) (by omega)
      refine ⟨s, Ev.step (fun k => by rw [spec_l1New.l0]) ?_⟩
      refine Ev.ifpos (by omega) (Ev.ifpos h4 (Ev.ifpos (by omega) ?_))
      have e : wrap64 ((i : Int) + 1) = ((i + 1 : Nat) : Int) := wrap_succ (by omega)
      rw [e]
      exact hs
    · refine ⟨h, Ev.step (fun k => by rw [spec_l1New.l0]) ?_⟩
      exact Ev.ifpos (by omega) (Ev.ifneg h4 (Ev.now _))

theorem cur_new (x : List Int) (hx : x.length ≤ 4611686018427387904) : ∃ s, Ev (fun k => spec_l1New.f k x) (x, 0, s) := by
  unfold spec_l1New.f
  exact cur_new_from x hx x.length 0 _ (by omega)

theorem cur_zero (x : List Int) : Cur x 0 := ⟨by omega, by omega⟩

end Go.Proofs.Ytgghhcifkgdpeaa.Pure
/- Plain lemmas: loops that search. No condition. -/
namespace Go.Proofs.Ytgghhcifkgdpeaa.Pure
open Go.RowKit Go.Proofs.Ytgghhcifkgdpeaa.Z Go.Proofs.YtgghhcifkgdpeaaW.PrintWords

theorem firstAt_cons {α : Type} (p : α → Bool) (x : α) (xs : List α) : firstAt p (x :: xs) = if p x = true then 0 else if firstAt p xs < 0 then -1 else firstAt p xs + 1 := by
  unfold firstAt
  rw [List.findIdx_cons]
  cases h : p x
  · simp only [cond_false, List.length_cons, Bool.false_eq_true, if_false]
    by_cases h2 : xs.findIdx p < xs.length
    · rw [if_pos (by omega), if_pos h2, if_neg (by omega)]
      omega
    · rw [if_neg (by omega), if_neg h2]
      simp
  · simp

/-- A loop that searches from the front comes to the first place. -/
theorem first_loop {α : Type} (p : α → Bool) (xs : List α) (G : Nat → Nat → Option Int) (hend : Ev (G xs.length) (-1)) (hhit : ∀ i (hi : i < xs.length), p xs[i] = true → Ev (G i) (i : Int))
    (hmiss : ∀ i (hi : i < xs.length) r, p xs[i] = false → Ev (G (i + 1)) r → Ev (G i) r) : Ev (G 0) (firstAt p xs) := by
  have key := Ev.up0 xs.length G (fun i => if firstAt p (xs.drop i) < 0 then -1 else firstAt p (xs.drop i) + (i : Int))
    (by rw [List.drop_of_length_le (Nat.le_refl _)]; simpa [firstAt] using hend)
    (fun i hi ih => by
      rw [drop_get xs i hi, firstAt_cons]
      cases h : p xs[i]
      · simp only [Bool.false_eq_true, if_false]
        refine hmiss i hi _ h ?_
        by_cases h2 : firstAt p (xs.drop (i + 1)) < 0
        · rw [if_pos h2, if_pos (by omega)]
          rwa [if_pos h2] at ih
        · rw [if_neg h2, if_neg (by omega)]
          rw [if_neg h2] at ih
          have e : firstAt p (xs.drop (i + 1)) + ((i + 1 : Nat) : Int) = firstAt p (xs.drop (i + 1)) + 1 + (i : Int) := by omega
          rwa [e] at ih
      · simp only [if_true]
        rw [if_neg (by omega)]
        have := hhit i hi h
        simpa using this) 0 (Nat.zero_le _)
  rw [List.drop_zero] at key
  by_cases h : firstAt p xs < 0
  · have e : firstAt p xs = -1 := by
      unfold firstAt at h ⊢
      split at h
      · omega
      · rename_i h2; rw [if_neg h2]
    rw [if_pos h] at key
    rw [e]
    exact key
  · rw [if_neg h] at key
    simpa using key

/-- A loop that asks whether one holds. -/
theorem any_loop {α : Type} (p : α → Bool) (xs : List α) (G : Nat → Nat → Option Bool) (hend : Ev (G xs.length) false) (hhit : ∀ i (hi : i < xs.length), p xs[i] = true → Ev (G i) true)
    (hmiss : ∀ i (hi : i < xs.length) r, p xs[i] = false → Ev (G (i + 1)) r → Ev (G i) r) : Ev (G 0) (xs.any p) := by
  have key := Ev.up0 xs.length G (fun i => (xs.drop i).any p)
    (by rw [List.drop_of_length_le (Nat.le_refl _)]; simpa using hend)
    (fun i hi ih => by
      rw [drop_get xs i hi, List.any_cons]
      cases h : p xs[i]
      · simpa using hmiss i hi _ h ih
      · simpa using hhit i hi h) 0 (Nat.zero_le _)
  simpa using key

/-- A loop that asks whether all hold. -/
theorem all_loop {α : Type} (p : α → Bool) (xs : List α) (G : Nat → Nat → Option Bool) (r0 : Bool) (hend : Ev (G xs.length) r0) (hbad : ∀ i (hi : i < xs.length), p xs[i] = false → Ev (G i) false)
    (hgood : ∀ i (hi : i < xs.length) r, p xs[i] = true → Ev (G (i + 1)) r → Ev (G i) r) : Ev (G 0) (xs.all p && r0) := by
  have key := Ev.up0 xs.length G (fun i => (xs.drop i).all p && r0)
    (by rw [List.drop_of_length_le (Nat.le_refl _)]; simpa using hend)
    (fun i hi ih => by
      rw [drop_get xs i hi, List.all_cons]
      cases h : p xs[i]
      · simpa using hbad i hi h
      · simpa using hgood i hi _ h ih) 0 (Nat.zero_le _)
  simpa using key

end Go.Proofs.Ytgghhcifkgdpeaa.Pure
/- Plain lemma: what the reference's LinkOf returns: the first link that connects the two. Condition: the list is not longer than a list can be. -/
namespace Go.Proofs.Ytgghhcifkgdpeaa.Pure
open Go.RowKit Go.Proofs.Ytgghhcifkgdpeaa.Z Go.Proofs.YtgghhcifkgdpeaaW.PrintWords

theorem rdLink (xs : List S63) (i : Nat) (h : i < xs.length) : rd_T63 xs (i : Int) = xs[i] := getD_get xs i _ h

theorem spec_linkOf (n : Int) (l : List S63) (a b : Int) (hl : l.length ≤ 9223372036854775806) : Ev (fun k => spec_LinkOf.f k n l a b) (firstAt (isLink a b) l) := by
  unfold spec_LinkOf.f
  refine first_loop (isLink a b) l (fun i k => spec_LinkOf.l0 k a b (i : Int) n l) ?_ ?_ ?_
  · refine Ev.step (fun k => by rw [spec_LinkOf.l0]) ?_
    exact Ev.ifneg (by omega) (Ev.now _)
  · intro i hi h
    refine Ev.step (fun k => by rw [spec_LinkOf.l0]) ?_
    refine Ev.ifpos (by omega) (Ev.ifpos (by omega) ?_)
    rw [rdLink l i hi]
    unfold isLink at h
    by_cases h1 : (l[i].f0 == a && l[i].f1 == b) = true
    · exact Ev.ifpos h1 (Ev.now _)
    · refine Ev.ifneg h1 (Ev.ifpos ?_ (Ev.now _))
      simpa [h1] using h
  · intro i hi r h hr
    refine Ev.step (fun k => by rw [spec_LinkOf.l0]) ?_
    refine Ev.ifpos (by omega) (Ev.ifpos (by omega) ?_)
    rw [rdLink l i hi]
    unfold isLink at h
    rw [Bool.or_eq_false_iff] at h
    refine Ev.ifneg (by rw [h.1]; exact Bool.noConfusion) (Ev.ifneg (by rw [h.2]; exact Bool.noConfusion) ?_)
    rw [wrap_succ (by omega)]
    exact hr

end Go.Proofs.Ytgghhcifkgdpeaa.Pure
/- Plain lemma: what the reference's range test answers. No condition. -/
namespace Go.Proofs.Ytgghhcifkgdpeaa.Pure
open Go.RowKit Go.Proofs.Ytgghhcifkgdpeaa.Z Go.Proofs.YtgghhcifkgdpeaaW.PrintWords

theorem spec_in (n a b : Int) : spec_l1In.f n a b = some (decide (a ≤ n ∧ n ≤ b)) := by
  unfold spec_l1In.f
  by_cases h : a ≤ n <;> simp [h]

end Go.Proofs.Ytgghhcifkgdpeaa.Pure
/- Plain lemmas: what the program's and the reference's IsNet answer. Condition: the list is not longer than a list can be. -/
namespace Go.Proofs.Ytgghhcifkgdpeaa.Pure
open Go.RowKit Go.Proofs.Ytgghhcifkgdpeaa.Z Go.Proofs.YtgghhcifkgdpeaaW.PrintWords

abbrev Lk := S63

theorem firstAt_le {α : Type} (p : α → Bool) (xs : List α) (i : Nat) (h : i < xs.length) (hp : p xs[i] = true) : 0 ≤ firstAt p xs ∧ firstAt p xs ≤ (i : Int) := by
  have h1 : xs.findIdx p ≤ i := by
    rcases Nat.lt_or_ge i (xs.findIdx p) with hlt | hge
    · have := List.not_of_lt_findIdx hlt
      rw [hp] at this
      exact Bool.noConfusion this
    · exact hge
  unfold firstAt
  rw [if_pos (by omega)]
  omega

/-- Does link i of the network lead between two nodes, and is it the first that connects them? -/
def linkOk (n : Int) (l : List Lk) (i : Nat) : Bool :=
  decide (0 ≤ (rd_T63 l (i : Int)).f0 ∧ (rd_T63 l (i : Int)).f0 < n) && (decide (0 ≤ (rd_T63 l (i : Int)).f1 ∧ (rd_T63 l (i : Int)).f1 < n) &&
    (decide ((rd_T63 l (i : Int)).f0 ≠ (rd_T63 l (i : Int)).f1) && decide (firstAt (isLink (rd_T63 l (i : Int)).f0 (rd_T63 l (i : Int)).f1) l = (i : Int))))

def isNet (n : Int) (l : List Lk) : Bool := decide (1 ≤ n ∧ n ≤ 8) && (decide (1 ≤ l.length ∧ l.length ≤ 6) && (List.range l.length).all (linkOk n l))

theorem isLink_self (k : Lk) : isLink k.f0 k.f1 k = true := by unfold isLink; simp

theorem spec_net_from (n : Int) (l : List Lk) (h1 : 1 ≤ n) (h2 : n ≤ 8) (hl : l.length ≤ 9223372036854775806) : ∀ i, i ≤ l.length → Ev (fun k => spec_IsNet.l0 k (i : Int) n l) (((List.range l.length).drop i).all (linkOk n l)) := by
  have hw : wrap64 (n - 1) = n - 1 := wrap_in (by omega) (by omega)
  refine Ev.up0 l.length (fun i k => spec_IsNet.l0 k (i : Int) n l) (fun i => ((List.range l.length).drop i).all (linkOk n l)) ?_ ?_
  · rw [List.drop_of_length_le (by simp)]
    refine Ev.step (fun k => by rw [spec_IsNet.l0]) ?_
    exact Ev.ifneg (by omega) (Ev.now _)
  · intro i hi ih
    rw [drop_get _ i (by simpa using hi), List.all_cons, List.getElem_range]
    generalize ((List.range l.length).drop (i + 1)).all (linkOk n l) = r at ih ⊢
    refine Ev.step (fun k => by rw [spec_IsNet.l0]) ?_
    refine Ev.ifpos (by omega) (Ev.ifpos (by omega) ?_)
    unfold linkOk
    rw [rdLink l i hi, hw]
    refine Ev.bind0 (spec_in _ _ _) ?_
    by_cases a1 : 0 ≤ l[i].f0 ∧ l[i].f0 < n
    · refine Ev.ifpos (decide_eq_true (by omega)) (Ev.bind0 (spec_in _ _ _) ?_)
      by_cases a2 : 0 ≤ l[i].f1 ∧ l[i].f1 < n
      · refine Ev.ifpos (decide_eq_true (by omega)) ?_
        by_cases a3 : l[i].f0 = l[i].f1
        · exact Ev.ifpos a3 (Ev.pure (by simp [a3]))
        · refine Ev.ifneg a3 (Ev.bind (spec_linkOf n l _ _ hl) ?_)
          have hf := firstAt_le (isLink l[i].f0 l[i].f1) l i hi (isLink_self _)
          by_cases a4 : firstAt (isLink l[i].f0 l[i].f1) l < (i : Int)
          · refine Ev.ifpos a4 (Ev.pure ?_)
            have : ¬ firstAt (isLink l[i].f0 l[i].f1) l = (i : Int) := by omega
            simp [this]
          · refine Ev.ifneg a4 ?_
            have : firstAt (isLink l[i].f0 l[i].f1) l = (i : Int) := by omega
            rw [wrap_succ (by omega)]
            simpa [a1, a2, a3, this] using ih
      · refine Ev.ifneg (by rw [decide_eq_true_eq]; omega) (Ev.pure ?_)
        rw [decide_eq_false a2]
        simp
    · refine Ev.ifneg (by rw [decide_eq_true_eq]; omega) (Ev.pure ?_)
      rw [decide_eq_false a1]
      simp

theorem spec_net (n : Int) (l : List Lk) (hl : l.length ≤ 9223372036854775806) : Ev (fun k => spec_IsNet.f k n l) (isNet n l) := by
  unfold spec_IsNet.f isNet
  refine Ev.bind0 (spec_in _ _ _) ?_
  by_cases h1 : 1 ≤ n ∧ n ≤ 8
  · refine Ev.ifpos (decide_eq_true h1) (Ev.bind0 (spec_in _ _ _) ?_)
    by_cases h2 : 1 ≤ l.length ∧ l.length ≤ 6
    · have e : decide (1 ≤ (l.length : Int) ∧ (l.length : Int) ≤ 6) = true := decide_eq_true (by omega)
      rw [e, decide_eq_true h1, decide_eq_true h2]
      refine Ev.step (fun k => by rw [spec_IsNet.j0]) (Ev.ifneg (by decide) ?_)
      simpa using spec_net_from n l h1.1 h1.2 hl 0 (Nat.zero_le _)
    · have e : decide (1 ≤ (l.length : Int) ∧ (l.length : Int) ≤ 6) = false := decide_eq_false (by omega)
      rw [e, decide_eq_false h2]
      refine Ev.step (fun k => by rw [spec_IsNet.j0]) ?_
      exact Ev.ifpos rfl (Ev.pure (by simp))
  · rw [decide_eq_false h1]
    exact Ev.ifneg (by decide) (Ev.step (fun k => by rw [spec_IsNet.j0]) (Ev.ifpos rfl (Ev.pure (by simp))))

theorem impl_at_eq (i n : Int) : impl_at.f i n = some (decide (0 ≤ i ∧ i < n)) := by
  unfold impl_at.f
  by_cases h : 0 ≤ i <;> simp [h]

theorem impl_in (n a b : Int) : impl_InRange.f n a b = some (decide (a ≤ n ∧ n ≤ b)) := by
  unfold impl_InRange.f
  by_cases h : a ≤ n <;> simp [h]

theorem impl_net_from (n : Int) (l : List Lk) (hl : l.length ≤ 9223372036854775806) : ∀ i, i ≤ l.length → Ev (fun k => impl_IsNet.l0 k l (l.length : Int) (i : Int) n l) (((List.range l.length).drop i).all (linkOk n l)) := by
  refine Ev.up0 l.length (fun i k => impl_IsNet.l0 k l (l.length : Int) (i : Int) n l) (fun i => ((List.range l.length).drop i).all (linkOk n l)) ?_ ?_
  · rw [List.drop_of_length_le (by simp)]
    refine Ev.step (fun k => by rw [impl_IsNet.l0]) ?_
    exact Ev.ifneg (by omega) (Ev.now _)
  · intro i hi ih
    rw [drop_get _ i (by simpa using hi), List.all_cons, List.getElem_range]
    generalize ((List.range l.length).drop (i + 1)).all (linkOk n l) = r at ih ⊢
    refine Ev.step (fun k => by rw [impl_IsNet.l0]) ?_
    refine Ev.ifpos (by omega) (Ev.ifpos (by omega) (Ev.ifpos (by omega) ?_))
    unfold linkOk
    rw [rdLink l i hi]
    by_cases a3 : l[i].f0 = l[i].f1
    · exact Ev.ifpos a3 (Ev.pure (by simp [a3]))
    · refine Ev.ifneg a3 (Ev.bind0 (impl_at_eq _ _) ?_)
      by_cases a1 : 0 ≤ l[i].f0 ∧ l[i].f0 < n
      · refine Ev.ifpos (decide_eq_true a1) (Ev.bind0 (impl_at_eq _ _) ?_)
        by_cases a2 : 0 ≤ l[i].f1 ∧ l[i].f1 < n
        · refine Ev.ifpos (decide_eq_true a2) (Ev.bind0 rfl ?_)
          by_cases a4 : firstAt (isLink l[i].f0 l[i].f1) l = (i : Int)
          · refine Ev.ifpos a4 ?_
            rw [wrap_succ (by omega)]
            simpa [a1, a2, a3, a4] using ih
          · exact Ev.ifneg a4 (Ev.pure (by simp [a4]))
        · refine Ev.ifneg (by rw [decide_eq_true_eq]; omega) (Ev.pure ?_)
          rw [decide_eq_false a2]
          simp
      · refine Ev.ifneg (by rw [decide_eq_true_eq]; omega) (Ev.pure ?_)
        rw [decide_eq_false a1]
        simp

theorem impl_net (n : Int) (l : List Lk) (hl : l.length ≤ 9223372036854775806) : Ev (fun k => impl_IsNet.f k n l) (isNet n l) := by
  unfold impl_IsNet.f isNet
  refine Ev.bind0 (impl_in _ _ _) ?_
  by_cases h1 : 1 ≤ n ∧ n ≤ 8
  · refine Ev.ifpos (decide_eq_true h1) (Ev.bind0 (impl_in _ _ _) ?_)
    by_cases h2 : 1 ≤ l.length ∧ l.length ≤ 6
    · have e : decide (1 ≤ (l.length : Int) ∧ (l.length : Int) ≤ 6) = true := decide_eq_true (by omega)
      rw [e, decide_eq_true h1, decide_eq_true h2]
      refine Ev.step (fun k => by rw [impl_IsNet.j0]) (Ev.ifneg (by decide) ?_)
      simpa using impl_net_from n l hl 0 (Nat.zero_le _)
    · have e : decide (1 ≤ (l.length : Int) ∧ (l.length : Int) ≤ 6) = false := decide_eq_false (by omega)
      rw [e, decide_eq_false h2]
      refine Ev.step (fun k => by rw [impl_IsNet.j0]) ?_
      exact Ev.ifpos rfl (Ev.pure (by simp))
  · rw [decide_eq_false h1]
    exact Ev.ifneg (by decide) (Ev.step (fun k => by rw [impl_IsNet.j0]) (Ev.ifpos rfl (Ev.pure (by simp))))

end Go.Proofs.Ytgghhcifkgdpeaa.Pure
/- Plain words: where a path leads. No condition. -/
namespace Go.Proofs.Ytgghhcifkgdpeaa.Pure
open Go.RowKit Go.Proofs.Ytgghhcifkgdpeaa.Z Go.Proofs.YtgghhcifkgdpeaaW.PrintWords

/-- Where the path leads from x on; -1 where it leaves the network. -/
def endOf (ls : List S63) : Int → List Int → Int
  | x, [] => x
  | x, i :: is => if 0 ≤ i ∧ i < ls.length then (if x = (rd_T63 ls i).f0 then endOf ls (rd_T63 ls i).f1 is else if x = (rd_T63 ls i).f1 then endOf ls (rd_T63 ls i).f0 is else -1) else -1

end Go.Proofs.Ytgghhcifkgdpeaa.Pure
/- Plain law: how far each node is from a node, and the route that follows the distances down. No program in sight. -/
namespace Go.Proofs.Ytgghhcifkgdpeaa.Pure
open Go.RowKit Go.Proofs.Ytgghhcifkgdpeaa.Z Go.Proofs.YtgghhcifkgdpeaaW.PrintWords

def across (l : Lk) (x : Int) : Int := if x = l.f0 then l.f1 else if x = l.f1 then l.f0 else -1
def relax1 (n : Int) (d : List Int) (a b : Int) : List Int := if rd d a = n ∧ rd d b < 0 then d.set b.toNat (n + 1) else d
def relaxL (n : Int) (d : List Int) (l : Lk) : List Int := relax1 n (relax1 n d l.f0 l.f1) l.f1 l.f0
def sweep (ls : List Lk) (d : List Int) (n : Nat) : List Int := ls.foldl (relaxL (n : Int)) d
def dist (N : Nat) (ls : List Lk) (b : Int) : List Int := (List.range N).foldl (sweep ls) ((List.replicate N (-1)).set b.toNat 0)
def stepOk (d : List Int) (x : Int) (l : Lk) : Bool := decide (0 ≤ across l x ∧ rd d (across l x) = rd d x - 1)
def routeF (d : List Int) (ls : List Lk) : Nat → Int → List Int
  | 0, _ => []
  | m + 1, x => firstAt (stepOk d x) ls :: routeF d ls m (across (rd_T63 ls (firstAt (stepOk d x) ls)) x)

theorem rd_set (d : List Int) (b v x : Int) (hb : 0 ≤ b) (hb2 : b < d.length) (hv : 0 ≤ v) : rd (d.set b.toNat x) v = if v = b then x else rd d v := by
  unfold rd
  rw [List.getD_eq_getElem?_getD, List.getD_eq_getElem?_getD]
  by_cases h : v = b
  · subst h
    rw [if_pos rfl, List.getElem?_set_self (by omega)]
    rfl
  · rw [if_neg h, List.getElem?_set_ne (by omega)]

/-- Links between two nodes of N. -/
def Links (N : Nat) (ls : List Lk) : Prop := ∀ l ∈ ls, 0 ≤ l.f0 ∧ l.f0 < N ∧ 0 ≤ l.f1 ∧ l.f1 < N ∧ l.f0 ≠ l.f1

/-- What the distances are at each stage: each node that has one greater than 0 has a neighbour one nearer. -/
structure Good (N : Nat) (ls : List Lk) (tg : Int) (d : List Int) : Prop where
  len : d.length = N
  lo : ∀ v : Int, 0 ≤ v → v < N → -1 ≤ rd d v ∧ rd d v ≤ N
  zero : ∀ v : Int, 0 ≤ v → v < N → rd d v = 0 → v = tg
  t0 : 0 ≤ tg ∧ tg < N
  own : rd d tg = 0
  near : ∀ v : Int, 0 ≤ v → v < N → 0 < rd d v → ∃ l ∈ ls, 0 ≤ across l v ∧ across l v < N ∧ rd d (across l v) = rd d v - 1

theorem relax1_good {N : Nat} {ls : List Lk} {tg : Int} {d : List Int} (h : Good N ls tg d) {n a b : Int} {l : Lk} (hl : l ∈ ls) (hn : 0 ≤ n) (hN : n < N) (ha : 0 ≤ a ∧ a < N) (hb : 0 ≤ b ∧ b < N) (hc : across l b = a) : Good N ls tg (relax1 n d a b) := by
  unfold relax1
  by_cases hif : rd d a = n ∧ rd d b < 0
  · rw [if_pos hif]
    have hlen := h.len
    have hrd : ∀ v : Int, 0 ≤ v → rd (d.set b.toNat (n + 1)) v = if v = b then n + 1 else rd d v := fun v hv => rd_set d b v (n + 1) hb.1 (by omega) hv
    refine ⟨by simpa using hlen, fun v hv hv2 => ?_, fun v hv hv2 => ?_, h.t0, by rw [hrd tg h.t0.1, if_neg (fun e => by have := h.own; rw [e] at this; omega)]; exact h.own, fun v hv hv2 => ?_⟩
    · rw [hrd v hv]
      split
      · omega
      · exact h.lo v hv hv2
    · rw [hrd v hv]
      split
      · intro h0; omega
      · exact h.zero v hv hv2
    · rw [hrd v hv]
      split
      · rename_i hvb
        intro _
        refine ⟨l, hl, ?_⟩
        rw [hvb, hc, hrd a ha.1, if_neg (fun e => by rw [e] at hif; omega)]
        exact ⟨ha.1, ha.2, by omega⟩
      · intro hpos
        obtain ⟨l', hl', h1, h2, h3⟩ := h.near v hv hv2 hpos
        refine ⟨l', hl', h1, h2, ?_⟩
        rw [hrd _ h1, if_neg (fun e => by rw [e] at h3; omega)]
        exact h3
  · rw [if_neg hif]
    exact h

theorem relaxL_good {N : Nat} {ls : List Lk} {tg : Int} {d : List Int} (hv : Links N ls) (h : Good N ls tg d) {n : Int} {l : Lk} (hl : l ∈ ls) (hn : 0 ≤ n) (hN : n < N) : Good N ls tg (relaxL n d l) := by
  have h1 := hv l hl
  unfold relaxL
  refine relax1_good (relax1_good h hl hn hN ⟨h1.1, h1.2.1⟩ ⟨h1.2.2.1, h1.2.2.2.1⟩ ?_) hl hn hN ⟨h1.2.2.1, h1.2.2.2.1⟩ ⟨h1.1, h1.2.1⟩ ?_
  · unfold across
    rw [if_neg (fun e => h1.2.2.2.2 e.symm), if_pos rfl]
  · unfold across
    rw [if_pos rfl]

theorem start_good {N : Nat} {ls : List Lk} {tg : Int} (h0 : 0 ≤ tg) (h1 : tg < N) : Good N ls tg ((List.replicate N (-1)).set tg.toNat 0) := by
  have hlen : ((List.replicate N (-1 : Int)).set tg.toNat 0).length = N := by simp
  have hrd : ∀ v : Int, 0 ≤ v → v < N → rd ((List.replicate N (-1)).set tg.toNat 0) v = if v = tg then 0 else -1 := by
    intro v hv hv2
    rw [rd_set _ tg v 0 h0 (by simp; omega) hv]
    congr 1
    unfold rd
    rw [List.getD_eq_getElem?_getD, List.getElem?_replicate, if_pos (by omega)]
    rfl
  refine ⟨hlen, fun v hv hv2 => ?_, fun v hv hv2 => ?_, ⟨h0, h1⟩, by rw [hrd tg h0 h1, if_pos rfl], fun v hv hv2 => ?_⟩
  · rw [hrd v hv hv2]
    split <;> omega
  · rw [hrd v hv hv2]
    split
    · intro _; assumption
    · intro h; omega
  · rw [hrd v hv hv2]
    split <;> (intro h; omega)

theorem links_of {n : Int} {ls : List Lk} (h : isNet n ls = true) : (1 ≤ n ∧ n ≤ 8) ∧ (1 ≤ ls.length ∧ ls.length ≤ 6) ∧ Links n.toNat ls := by
  unfold isNet at h
  simp only [Bool.and_eq_true, decide_eq_true_eq, List.all_eq_true, List.mem_range] at h
  refine ⟨h.1, h.2.1, fun l hl => ?_⟩
  obtain ⟨i, hi, rfl⟩ := List.getElem_of_mem hl
  have h2 := h.2.2 i hi
  unfold linkOk at h2
  simp only [Bool.and_eq_true, decide_eq_true_eq] at h2
  have e : rd_T63 ls (i : Int) = ls[i] := getD_get ls i _ hi
  rw [e] at h2
  have := h2.1
  have := h2.2.1
  exact ⟨by omega, by omega, by omega, by omega, h2.2.2.1⟩

/-- At a node that is m + 1 away the first link that leads nearer is there. -/
theorem near_first {N : Nat} {ls : List Lk} {tg : Int} {d : List Int} (hv : Links N ls) (h : Good N ls tg d) {x : Int} (h0 : 0 ≤ x) (h1 : x < N) {m : Nat} (hm : rd d x = (m : Int) + 1) :
    ∃ f, ∃ hf : f < ls.length, firstAt (stepOk d x) ls = (f : Int) ∧ rd_T63 ls (f : Int) = ls[f] ∧ 0 ≤ across ls[f] x ∧ across ls[f] x < N ∧ rd d (across ls[f] x) = (m : Int) ∧ ∀ j (hj : j < ls.length), j < f → stepOk d x ls[j] = false := by
  obtain ⟨l, hl, a1, a2, a3⟩ := h.near x h0 h1 (by omega)
  obtain ⟨i, hi, rfl⟩ := List.getElem_of_mem hl
  have hs : stepOk d x ls[i] = true := decide_eq_true ⟨a1, a3⟩
  have hle : ls.findIdx (stepOk d x) ≤ i := by
    rcases Nat.lt_or_ge i (ls.findIdx (stepOk d x)) with hlt | hge
    · have := List.not_of_lt_findIdx hlt
      rw [hs] at this
      exact Bool.noConfusion this
    · exact hge
  have hf : ls.findIdx (stepOk d x) < ls.length := by omega
  have hok : stepOk d x ls[ls.findIdx (stepOk d x)] = true := List.findIdx_getElem
  have hok2 := of_decide_eq_true hok
  refine ⟨ls.findIdx (stepOk d x), hf, ?_, getD_get ls _ _ hf, hok2.1, ?_, by omega, fun j hj hjf => ?_⟩
  · unfold firstAt
    rw [if_pos hf]
  · have hlk := hv _ (List.getElem_mem hf)
    have := hok2.1
    unfold across at this ⊢
    split
    · omega
    · split <;> omega
  · have := List.not_of_lt_findIdx hjf
    simpa using this

theorem across_lt {N : Nat} {ls : List Lk} (hv : Links N ls) {l : Lk} (hl : l ∈ ls) (x : Int) : across l x < N ∧ (0 ≤ across l x ∨ across l x = -1) := by
  have h := hv l hl
  unfold across
  split
  · omega
  · split <;> omega

end Go.Proofs.Ytgghhcifkgdpeaa.Pure
/- Plain words: the route. No condition. -/
namespace Go.Proofs.Ytgghhcifkgdpeaa.Pure
open Go.RowKit Go.Proofs.Ytgghhcifkgdpeaa.Z Go.Proofs.YtgghhcifkgdpeaaW.PrintWords

/-- The route, where the distances are d. -/
def routeOf (d : List Int) (ls : List Lk) (a : Int) : List Int := if rd d a < 0 then [] else routeF d ls (rd d a).toNat a
/-- What is left of the sweeps, then the route. -/
def afterR (N : Nat) (ls : List Lk) (a : Int) (n : Nat) (d : List Int) : List Int := routeOf (((List.range N).drop n).foldl (sweep ls) d) ls a
def routeTo (n : Int) (ls : List Lk) (a b : Int) : List Int := if isNet n ls = true ∧ (0 ≤ a ∧ a < n) ∧ (0 ≤ b ∧ b < n) then routeOf (dist n.toNat ls b) ls a else []

theorem afterR_end (N : Nat) (ls : List Lk) (a : Int) (d : List Int) : afterR N ls a N d = routeOf d ls a := by
  unfold afterR
  rw [List.drop_of_length_le (by simp)]
  rfl
theorem afterR_step (N : Nat) (ls : List Lk) (a : Int) (n : Nat) (d : List Int) (h : n < N) : afterR N ls a n d = afterR N ls a (n + 1) (sweep ls d n) := by
  unfold afterR
  rw [drop_get _ n (by simpa using h), List.foldl_cons, List.getElem_range]

end Go.Proofs.Ytgghhcifkgdpeaa.Pure
/- Plain lemma: the node at the end of a path, as the reference finds it. Condition: the lists are not longer than lists can be. -/
namespace Go.Proofs.Ytgghhcifkgdpeaa.Pure
open Go.RowKit Go.Proofs.Ytgghhcifkgdpeaa.Z Go.Proofs.YtgghhcifkgdpeaaW.PrintWords

theorem spec_endOf (n : Int) (ls : List S63) (p : List Int) (x : Int) (hl : ls.length ≤ 9223372036854775806) (hp : p.length ≤ 9223372036854775806) : Ev (fun k => spec_EndOf.f k n ls p x) (endOf ls x p) := by
  unfold spec_EndOf.f
  have hw : wrap64 ((ls.length : Int) - 1) = (ls.length : Int) - 1 := wrap_in (by omega) (by omega)
  refine Ev.up p.length (fun i (s : Int) k => spec_EndOf.l0 k p s (i : Int) n ls) (fun i s => endOf ls s (p.drop i)) (fun _ _ => True) ?_ ?_ 0 x (Nat.zero_le _) trivial
  · intro s _
    rw [List.drop_of_length_le (Nat.le_refl _)]
    refine Ev.step (fun k => by rw [spec_EndOf.l0]) ?_
    exact Ev.ifneg (by omega) (Ev.now _)
  · intro i s hi _ ih
    rw [drop_get _ i hi, endOf]
    refine Ev.step (fun k => by rw [spec_EndOf.l0]) ?_
    refine Ev.ifpos (by omega) (Ev.ifpos (by omega) ?_)
    rw [rd_get p i hi, hw]
    refine Ev.bind0 (spec_in _ _ _) ?_
    by_cases h : 0 ≤ p[i] ∧ p[i] < ls.length
    · rw [if_pos h]
      refine Ev.ifpos (decide_eq_true (by omega)) (Ev.ifpos (by omega) (Ev.ifpos (by omega) ?_))
      rw [wrap_succ (by omega)]
      by_cases h1 : s = (rd_T63 ls p[i]).f0
      · rw [if_pos h1]
        exact Ev.ifpos h1 (ih _ trivial)
      · rw [if_neg h1]
        refine Ev.ifneg h1 ?_
        by_cases h2 : s = (rd_T63 ls p[i]).f1
        · rw [if_pos h2]
          exact Ev.ifpos h2 (ih _ trivial)
        · rw [if_neg h2]
          exact Ev.ifneg h2 (Ev.now _)
    · rw [if_neg h]
      exact Ev.ifneg (by rw [decide_eq_true_iff]; omega) (Ev.now _)

end Go.Proofs.Ytgghhcifkgdpeaa.Pure
/- Plain lemma: what the reference's RouteTo answers. Condition: the list is not longer than a list can be. -/
namespace Go.Proofs.Ytgghhcifkgdpeaa.Pure
open Go.RowKit Go.Proofs.Ytgghhcifkgdpeaa.Z Go.Proofs.YtgghhcifkgdpeaaW.PrintWords

section spec
variable {N : Nat} {ls : List Lk} {a b : Int}

theorem spec_end (x : Int) (i : Nat) (hi : i < ls.length) (hl : ls.length ≤ 9223372036854775806) : Ev (fun k => spec_EndOf.f k (N : Int) ls [(i : Int)] x) (across ls[i] x) := by
  have h := spec_endOf (N : Int) ls [(i : Int)] x hl (by simp)
  have e : endOf ls x [(i : Int)] = across ls[i] x := by
    simp only [endOf]
    rw [if_pos (by omega), show rd_T63 ls (i : Int) = ls[i] from getD_get ls i _ hi]
    unfold across
    split
    · rfl
    · split <;> rfl
  rw [e] at h
  exact h

/-- Following the distances down. -/
theorem spec_walk {d : List Int} (hv : Links N ls) (hg : Good N ls b d) (hl : ls.length ≤ 6) (_hN : N ≤ 8) : ∀ (m : Nat) (x : Int) (out : List Int), 0 ≤ x → x < N → rd d x = (m : Int) → out.length + m ≤ 8 →
    Ev (fun k => spec_RouteTo.l3 k b out d x (N : Int) ls) (out ++ routeF d ls m x) := by
  intro m
  induction m with
  | zero =>
    intro x out h0 h1 hm ho
    rw [routeF, List.append_nil]
    refine Ev.step (fun k => by rw [spec_RouteTo.l3]) ?_
    exact Ev.ifpos (hg.zero x h0 h1 hm) (Ev.now _)
  | succ m ih =>
    intro x out h0 h1 hm ho
    have hlen := hg.len
    obtain ⟨f, hf, e1, e2, a0, a1, a2, hmiss⟩ := near_first hv hg h0 h1 (m := m) (by rw [hm]; omega)
    rw [routeF, e1, e2]
    have hnext := ih (across ls[f] x) (out ++ [(f : Int)]) a0 a1 a2 (by rw [List.length_append, List.length_singleton]; omega)
    rw [List.append_assoc, List.singleton_append] at hnext
    have hne : ¬ x = b := fun e => by have := hg.own; rw [← e] at this; omega
    refine Ev.step (fun k => by rw [spec_RouteTo.l3]) ?_
    refine Ev.ifneg hne ?_
    have hfound : Ev (fun k => spec_RouteTo.l4 k b out d x (f : Int) ((f + 1 : Nat) : Int) (N : Int) ls) (out ++ (f : Int) :: routeF d ls m (across ls[f] x)) := by
      have hj : Ev (fun k => spec_RouteTo.j7 k b out d x (f : Int) ((f + 1 : Nat) : Int) false (N : Int) ls) (out ++ (f : Int) :: routeF d ls m (across ls[f] x)) := by
        refine Ev.step (fun k => by rw [spec_RouteTo.j7]) ?_
        refine Ev.ifneg (by decide) (Ev.ifpos (by omega) ?_)
        exact Ev.bind (spec_end x f hf (by omega)) hnext
      refine Ev.step (fun k => by rw [spec_RouteTo.l4]) ?_
      have hdec : decide ((f : Int) < 0) = false := decide_eq_false (by omega)
      by_cases h : ((f + 1 : Nat) : Int) < (ls.length : Int)
      · refine Ev.ifpos h ?_
        rw [hdec]
        exact hj
      · exact Ev.ifneg h hj
    refine Ev.up0 f (fun i k => spec_RouteTo.l4 k b out d x (-1) (i : Int) (N : Int) ls) (fun _ => out ++ (f : Int) :: routeF d ls m (across ls[f] x)) ?_ ?_ 0 (Nat.zero_le _)
    · refine Ev.step (fun k => by rw [spec_RouteTo.l4]) ?_
      refine Ev.ifpos (by omega) ?_
      refine Ev.step (fun k => by rw [spec_RouteTo.j7]) ?_
      refine Ev.ifpos (by decide) (Ev.bind (spec_end x f hf (by omega)) ?_)
      refine Ev.ifpos a0 (Ev.ifpos a0 (Ev.ifpos (by omega) (Ev.ifpos h0 (Ev.ifpos (by omega) (Ev.ifpos ?_ ?_)))))
      · rw [a2, hm, wrap_in (by omega) (by omega)]
        omega
      · rw [wrap_succ (by omega)]
        exact hfound
    · intro i hi hnx
      have hil : i < ls.length := by omega
      have hno := of_decide_eq_false (hmiss i hil hi)
      have hal := across_lt hv (List.getElem_mem hil) x
      have hlo := hg.lo x h0 h1
      refine Ev.step (fun k => by rw [spec_RouteTo.l4]) ?_
      refine Ev.ifpos (by omega) ?_
      refine Ev.step (fun k => by rw [spec_RouteTo.j7]) ?_
      refine Ev.ifpos (by decide) (Ev.bind (spec_end x i hil (by omega)) ?_)
      rw [wrap_succ (by omega)]
      by_cases ha : across ls[i] x ≥ 0
      · refine Ev.ifpos ha (Ev.ifpos ha (Ev.ifpos (by omega) (Ev.ifpos h0 (Ev.ifpos (by omega) (Ev.ifneg ?_ hnx)))))
        rw [wrap_in (by omega) (by omega)]
        exact fun e => hno ⟨ha, e⟩
      · exact Ev.ifneg ha hnx

/-- One link's turn. -/
theorem spec_relax {d : List Int} (hv : Links N ls) (hg : Good N ls b d) (hl : ls.length ≤ 6) (hN : N ≤ 8) (n i : Nat) (hn : n < N) (hi : i < ls.length) (r : List Int) (hr : Ev (fun k => spec_RouteTo.l2 k a b [] (relaxL (n : Int) d ls[i]) (n : Int) ((i + 1 : Nat) : Int) (N : Int) ls) r) :
    Ev (fun k => spec_RouteTo.l2 k a b [] d (n : Int) (i : Int) (N : Int) ls) r := by
  have hlen := hg.len
  have hlk := hv _ (List.getElem_mem hi)
  have hd1 := relax1_good (n := (n : Int)) (a := ls[i].f0) (b := ls[i].f1) hg (List.getElem_mem hi) (by omega) (by omega) ⟨hlk.1, hlk.2.1⟩ ⟨hlk.2.2.1, hlk.2.2.2.1⟩ (by unfold across; rw [if_neg (fun e => hlk.2.2.2.2 e.symm), if_pos rfl])
  have hlen1 := hd1.len
  unfold relaxL at hr
  have hj : ∀ q : Bool, relax1 (n : Int) d ls[i].f0 ls[i].f1 = (if q = true then d.set ls[i].f1.toNat ((n : Int) + 1) else d) → Ev (fun k => spec_RouteTo.j4 k a b [] d (n : Int) (i : Int) ls[i].f0 ls[i].f1 q (N : Int) ls) r := by
    intro q hq
    rw [hq] at hr hlen1
    refine Ev.step (fun k => by rw [spec_RouteTo.j4]) ?_
    cases q
    · rw [if_neg (by decide)] at hr
      refine Ev.ifneg (by decide) (Ev.ifpos hlk.2.2.1 (Ev.ifpos (by omega) ?_))
      have e1 : wrap64 ((n : Int) + 1) = (n : Int) + 1 := wrap_in (by omega) (by omega)
      have e2 : wrap64 ((i : Int) + 1) = ((i + 1 : Nat) : Int) := wrap_succ (by omega)
      rw [e1, e2]
      unfold relax1 at hr
      by_cases h1 : rd d ls[i].f1 = (n : Int)
      · refine Ev.ifpos h1 (Ev.ifpos hlk.1 (Ev.ifpos (by omega) ?_))
        by_cases h2 : rd d ls[i].f0 < 0
        · rw [if_pos ⟨h1, h2⟩] at hr
          exact Ev.ifpos h2 hr
        · rw [if_neg (fun h => h2 h.2)] at hr
          exact Ev.ifneg h2 hr
      · rw [if_neg (fun h => h1 h.1)] at hr
        exact Ev.ifneg h1 hr
    · rw [if_pos rfl] at hr hlen1
      refine Ev.ifpos rfl (Ev.ifpos hlk.2.2.1 (Ev.ifpos (by omega) ?_))
      have e1 : wrap64 ((n : Int) + 1) = (n : Int) + 1 := wrap_in (by omega) (by omega)
      refine Ev.bind0 (a := d.set ls[i].f1.toNat ((n : Int) + 1)) (by rw [e1]) ?_
      generalize hd' : d.set ls[i].f1.toNat ((n : Int) + 1) = d' at hr hlen1 ⊢
      have e2 : wrap64 ((i : Int) + 1) = ((i + 1 : Nat) : Int) := wrap_succ (by omega)
      rw [e1, e2]
      unfold relax1 at hr
      have hlen2 : d.length = d'.length := by rw [← hd']; simp
      by_cases h1 : rd d' ls[i].f1 = (n : Int)
      · refine Ev.ifpos h1 (Ev.ifpos hlk.1 (Ev.ifpos (by omega) ?_))
        by_cases h2 : rd d' ls[i].f0 < 0
        · rw [if_pos ⟨h1, h2⟩] at hr
          exact Ev.ifpos h2 hr
        · rw [if_neg (fun h => h2 h.2)] at hr
          exact Ev.ifneg h2 hr
      · rw [if_neg (fun h => h1 h.1)] at hr
        exact Ev.ifneg h1 hr
  refine Ev.step (fun k => by rw [spec_RouteTo.l2]) ?_
  refine Ev.ifpos (by omega) (Ev.ifpos (by omega) ?_)
  rw [show rd_T63 ls (i : Int) = ls[i] from getD_get ls i _ hi]
  refine Ev.ifpos hlk.1 (Ev.ifpos (by omega) ?_)
  by_cases h1 : rd d ls[i].f0 = (n : Int)
  · refine Ev.ifpos h1 (Ev.ifpos hlk.2.2.1 (Ev.ifpos (by omega) (hj _ ?_)))
    unfold relax1
    by_cases h2 : rd d ls[i].f1 < 0
    · rw [if_pos ⟨h1, h2⟩, if_pos (decide_eq_true h2)]
    · rw [if_neg (fun h => h2 h.2), if_neg (by rw [decide_eq_true_iff]; exact h2)]
  · refine Ev.ifneg h1 (hj _ ?_)
    unfold relax1
    rw [if_neg (fun h => h1 h.1), if_neg (by decide)]

theorem spec_after (hv : Links N ls) (hl : ls.length ≤ 6) (hN : N ≤ 8) (ha : 0 ≤ a ∧ a < N):
    ∀ (n : Nat) (d : List Int), n ≤ N → Good N ls b d → Ev (fun k => spec_RouteTo.l1 k a b [] d (n : Int) (N : Int) ls) (afterR N ls a n d) := by
  refine Ev.up N (fun n d k => spec_RouteTo.l1 k a b [] d (n : Int) (N : Int) ls) (fun n d => afterR N ls a n d) (fun _ d => Good N ls b d) ?_ ?_
  · intro d hg
    rw [afterR_end]
    have hlen := hg.len
    refine Ev.step (fun k => by rw [spec_RouteTo.l1]) ?_
    refine Ev.ifneg (by omega) (Ev.ifpos ha.1 (Ev.ifpos (by omega) ?_))
    unfold routeOf
    by_cases h : rd d a < 0
    · rw [if_pos h]
      exact Ev.ifpos h (Ev.now _)
    · rw [if_neg h]
      have hlo := hg.lo a ha.1 ha.2
      have := spec_walk (b := b) hv hg hl hN (rd d a).toNat a [] ha.1 ha.2 (by omega) (by simp; omega)
      exact Ev.ifneg h this
  · intro n d hn hg ih
    rw [afterR_step _ _ _ _ _ hn]
    refine Ev.step (fun k => by rw [spec_RouteTo.l1]) ?_
    refine Ev.ifpos (by omega) ?_
    refine Ev.up ls.length (fun i d k => spec_RouteTo.l2 k a b [] d (n : Int) (i : Int) (N : Int) ls) (fun i d => afterR N ls a (n + 1) ((ls.drop i).foldl (relaxL (n : Int)) d)) (fun _ d => Good N ls b d) ?_ ?_ 0 d (Nat.zero_le _) hg
    · intro d hg
      rw [List.drop_of_length_le (Nat.le_refl _)]
      refine Ev.step (fun k => by rw [spec_RouteTo.l2]) ?_
      refine Ev.ifneg (by omega) ?_
      rw [wrap_succ (by omega)]
      exact ih d hg
    · intro i d hi hg ih2
      rw [drop_get _ i hi, List.foldl_cons]
      exact spec_relax hv hg hl hN n i hn hi _ (ih2 _ (relaxL_good hv hg (List.getElem_mem hi) (by omega) (by omega)))

theorem spec_fill : ∀ (i : Nat) (s : List Int), i ≤ N → s = List.replicate i (-1) → N ≤ 8 → 0 ≤ b ∧ b < N → ∀ r, Ev (fun k => spec_RouteTo.l1 k a b [] ((List.replicate N (-1)).set b.toNat 0) 0 (N : Int) ls) r → Ev (fun k => spec_RouteTo.l0 k a b [] s (i : Int) (N : Int) ls) r := by
  intro i s hi hs hN hb r hr
  refine Ev.up N (fun i s k => spec_RouteTo.l0 k a b [] s (i : Int) (N : Int) ls) (fun _ _ => r) (fun i s => s = List.replicate i (-1)) ?_ ?_ i s hi hs
  · rintro s rfl
    refine Ev.step (fun k => by rw [spec_RouteTo.l0]) ?_
    exact Ev.ifneg (by omega) (Ev.ifpos hb.1 (Ev.ifpos (by simp; omega) hr))
  · rintro i s hi rfl ih
    refine Ev.step (fun k => by rw [spec_RouteTo.l0]) ?_
    refine Ev.ifpos (by omega) (Ev.ifpos (by simp; omega) ?_)
    rw [wrap_succ (by omega)]
    exact ih _ (by rw [List.replicate_succ'])

end spec

theorem spec_routeTo (n : Int) (ls : List Lk) (a b : Int) (hl : ls.length ≤ 9223372036854775806) : Ev (fun k => spec_RouteTo.f k n ls a b) (routeTo n ls a b) := by
  unfold spec_RouteTo.f
  refine Ev.bind0 (a := []) rfl (Ev.bind (spec_net n ls hl) ?_)
  by_cases hn : isNet n ls = true
  · obtain ⟨h1, h2, h3⟩ := links_of hn
    have hw : wrap64 (n - 1) = n - 1 := wrap_in (by omega) (by omega)
    rw [hw]
    refine Ev.ifpos hn (Ev.bind0 (spec_in _ _ _) ?_)
    have hbad : ∀ r : List Int, r = [] → Ev (fun k => spec_RouteTo.j0 k a b [] true n ls) r := fun r hr => by
      refine Ev.step (fun k => by rw [spec_RouteTo.j0]) ?_
      exact Ev.ifpos rfl (Ev.pure hr.symm)
    by_cases ha : 0 ≤ a ∧ a ≤ n - 1
    · refine Ev.ifpos (decide_eq_true ha) (Ev.bind0 (spec_in _ _ _) ?_)
      by_cases hb : 0 ≤ b ∧ b ≤ n - 1
      · rw [decide_eq_true hb]
        unfold routeTo
        rw [if_pos ⟨hn, ⟨ha.1, by omega⟩, hb.1, by omega⟩]
        obtain ⟨N, rfl⟩ : ∃ N : Nat, n = (N : Int) := ⟨n.toNat, by omega⟩
        rw [Int.toNat_natCast] at h3 ⊢
        refine Ev.step (fun k => by rw [spec_RouteTo.j0]) ?_
        refine Ev.ifneg (by decide) ?_
        refine spec_fill (ls := ls) (a := a) (b := b) 0 [] (Nat.zero_le _) rfl (by omega) ⟨hb.1, by omega⟩ _ ?_
        exact spec_after h3 h2.2 (by omega) ⟨ha.1, by omega⟩ 0 _ (Nat.zero_le _) (start_good hb.1 (by omega))
      · rw [decide_eq_false hb]
        exact hbad _ (if_neg (fun h => hb ⟨h.2.2.1, by omega⟩))
    · exact Ev.ifneg (by rw [decide_eq_true_iff]; exact ha) (hbad _ (if_neg (fun h => ha ⟨h.2.1.1, by omega⟩)))
  · refine Ev.ifneg hn ?_
    refine Ev.step (fun k => by rw [spec_RouteTo.j0]) ?_
    exact Ev.ifpos rfl (Ev.pure (if_neg (fun h => hn h.1)).symm)

end Go.Proofs.Ytgghhcifkgdpeaa.Pure
/- Plain lemma: a route has at most eight links. No condition. -/
namespace Go.Proofs.Ytgghhcifkgdpeaa.Pure
open Go.RowKit Go.Proofs.Ytgghhcifkgdpeaa.Z Go.Proofs.YtgghhcifkgdpeaaW.PrintWords

theorem routeF_len (d : List Int) (ls : List Lk) : ∀ m x, (routeF d ls m x).length = m
  | 0, _ => rfl
  | m + 1, x => by rw [routeF, List.length_cons, routeF_len d ls m]

theorem fold_good {N : Nat} {ls : List Lk} {tg : Int} (hv : Links N ls) (n : Nat) (hn : n < N) : ∀ (l : List Lk) (d : List Int), (∀ x ∈ l, x ∈ ls) → Good N ls tg d → Good N ls tg (l.foldl (relaxL (n : Int)) d)
  | [], _, _, h => h
  | x :: l, d, hl, h => by
    rw [List.foldl_cons]
    exact fold_good hv n hn l _ (fun y hy => hl y (List.mem_cons_of_mem _ hy)) (relaxL_good hv h (hl x (List.mem_cons_self ..)) (by omega) (by omega))

theorem sweeps_good {N : Nat} {ls : List Lk} {tg : Int} (hv : Links N ls) : ∀ (q : List Nat) (d : List Int), (∀ x ∈ q, x < N) → Good N ls tg d → Good N ls tg (q.foldl (sweep ls) d)
  | [], _, _, h => h
  | x :: q, d, hl, h => by
    rw [List.foldl_cons]
    exact sweeps_good hv q _ (fun y hy => hl y (List.mem_cons_of_mem _ hy)) (fold_good hv x (hl x (List.mem_cons_self ..)) ls d (fun _ h => h) h)

theorem routeTo_len (n : Int) (ls : List Lk) (a b : Int) : (routeTo n ls a b).length ≤ 8 := by
  unfold routeTo
  split
  · rename_i h
    obtain ⟨h1, h2, h3⟩ := links_of h.1
    have hg := sweeps_good h3 (List.range n.toNat) _ (fun x hx => List.mem_range.1 hx) (start_good (ls := ls) (tg := b) h.2.2.1 (by omega))
    have hlo := hg.lo a h.2.1.1 (by omega)
    unfold routeOf
    split
    · simp
    · rw [routeF_len]
      unfold dist
      omega
  · simp

end Go.Proofs.Ytgghhcifkgdpeaa.Pure
/- Plain lemma: a loop that goes on while the elements are well. No condition. -/
namespace Go.Proofs.Ytgghhcifkgdpeaa.Pure
open Go.RowKit Go.Proofs.YtgghhcifkgdpeaaW.PrintWords

theorem all_step {α : Type} (p : α → Bool) (xs : List α) (G : Nat → Nat → Option Bool) (r0 : Bool) (hend : Ev (G xs.length) r0) (hstep : ∀ i (hi : i < xs.length) r, Ev (G (i + 1)) r → Ev (G i) (p xs[i] && r)) : Ev (G 0) (xs.all p && r0) := by
  have key := Ev.up0 xs.length G (fun i => (xs.drop i).all p && r0)
    (by rw [List.drop_of_length_le (Nat.le_refl _)]; simpa using hend)
    (fun i hi ih => by
      rw [drop_get xs i hi, List.all_cons, Bool.and_assoc]
      exact hstep i hi _ ih) 0 (Nat.zero_le _)
  simpa using key

/-- The same over the places. -/
theorem all_places (n : Nat) (p : Nat → Bool) (G : Nat → Nat → Option Bool) (r0 : Bool) (hend : Ev (G n) r0) (hstep : ∀ i, i < n → ∀ r, Ev (G (i + 1)) r → Ev (G i) (p i && r)) : Ev (G 0) ((List.range n).all p && r0) := by
  refine all_step p (List.range n) G r0 (by rw [List.length_range]; exact hend) (fun i hi r hr => ?_)
  rw [List.getElem_range]
  exact hstep i (by simpa using hi) r hr

end Go.Proofs.Ytgghhcifkgdpeaa.Pure
/- Plain lemma: the reference's search in a list of numbers. Condition: the list is not longer than a list can be. -/
namespace Go.Proofs.Ytgghhcifkgdpeaa.Pure
open Go.RowKit Go.Proofs.Ytgghhcifkgdpeaa.Z Go.Proofs.YtgghhcifkgdpeaaW.PrintWords

theorem spec_has (l : List Int) (x : Int) (hl : l.length ≤ 9223372036854775806) : Ev (fun k => spec_l7Has.f k l x) (l.any fun y => decide (y = x)) := by
  unfold spec_l7Has.f
  refine any_loop (fun y => decide (y = x)) l (fun i k => spec_l7Has.l0 k l x (i : Int)) ?_ ?_ ?_
  · refine Ev.step (fun k => by rw [spec_l7Has.l0]) ?_
    exact Ev.ifneg (by omega) (Ev.now _)
  · intro i hi h
    refine Ev.step (fun k => by rw [spec_l7Has.l0]) ?_
    refine Ev.ifpos (by omega) (Ev.ifpos (by omega) ?_)
    rw [rd_get l i hi]
    exact Ev.ifpos (of_decide_eq_true h) (Ev.now _)
  · intro i hi r h hr
    refine Ev.step (fun k => by rw [spec_l7Has.l0]) ?_
    refine Ev.ifpos (by omega) (Ev.ifpos (by omega) ?_)
    rw [rd_get l i hi, wrap_succ (by omega)]
    exact Ev.ifneg (of_decide_eq_false h) hr

end Go.Proofs.Ytgghhcifkgdpeaa.Pure
/- Plain lemma: the standard search in a list of numbers. Condition: the list is not longer than a list can be. -/
namespace Go.Proofs.Ytgghhcifkgdpeaa.Pure
open Go.RowKit Go.Proofs.Ytgghhcifkgdpeaa.Z Go.Proofs.YtgghhcifkgdpeaaW.PrintWords

theorem impl_index (l : List Int) (x : Int) (hl : l.length ≤ 9223372036854775806) : Ev (fun k => slices_Index_Sint.f k l x) (firstAt (fun y => decide (y = x)) l) := by
  unfold slices_Index_Sint.f
  refine first_loop (fun y => decide (y = x)) l (fun i k => slices_Index_Sint.l0 k l x (l.length : Int) (i : Int)) ?_ ?_ ?_
  · refine Ev.step (fun k => by rw [slices_Index_Sint.l0]) ?_
    exact Ev.ifneg (by omega) (Ev.now _)
  · intro i hi h
    refine Ev.step (fun k => by rw [slices_Index_Sint.l0]) ?_
    refine Ev.ifpos (by omega) (Ev.ifpos (by omega) (Ev.ifpos (by omega) ?_))
    rw [rd_get l i hi]
    exact Ev.ifpos (of_decide_eq_true h).symm (Ev.now _)
  · intro i hi r h hr
    refine Ev.step (fun k => by rw [slices_Index_Sint.l0]) ?_
    refine Ev.ifpos (by omega) (Ev.ifpos (by omega) (Ev.ifpos (by omega) ?_))
    rw [rd_get l i hi, wrap_succ (by omega)]
    exact Ev.ifneg (fun e => of_decide_eq_false h e.symm) hr

theorem impl_has (l : List Int) (x : Int) (hl : l.length ≤ 9223372036854775806) : Ev (fun k => slices_Contains_Sint.f k l x) (l.any fun y => decide (y = x)) := by
  unfold slices_Contains_Sint.f
  refine Ev.bind (impl_index l x hl) (Ev.pure ?_)
  exact firstAt_any _ _

end Go.Proofs.Ytgghhcifkgdpeaa.Pure
/- Plain law: a list has no repeats if no element stands among those before it. No condition. -/
namespace Go.Proofs.Ytgghhcifkgdpeaa.Pure
open Go.RowKit Go.Proofs.YtgghhcifkgdpeaaW.PrintWords

def dupOf (p : List Int) (i : Nat) : Bool := (p.take i).any fun y => decide (y = p.getD i 0)
theorem dupOf_get (p : List Int) (i : Nat) (h : i < p.length) : dupOf p i = (p.take i).any fun y => decide (y = p[i]) := by
  unfold dupOf
  rw [List.getD_eq_getElem?_getD, List.getElem?_eq_getElem h]
  rfl
theorem dupOf_iff (p : List Int) (i : Nat) (h : i < p.length) : dupOf p i = true ↔ ∃ j, ∃ hj : j < i, p[j] = p[i] := by
  rw [dupOf_get p i h, List.any_eq_true]
  constructor
  · rintro ⟨x, hx, e⟩
    obtain ⟨j, hj, e2⟩ := List.getElem_of_mem hx
    rw [List.length_take] at hj
    refine ⟨j, by omega, ?_⟩
    rw [List.getElem_take] at e2
    rw [e2]
    exact of_decide_eq_true e
  · rintro ⟨j, hj, e⟩
    refine ⟨p[j], ?_, decide_eq_true e⟩
    have : (p.take i)[j]'(by rw [List.length_take]; omega) = p[j] := List.getElem_take
    rw [← this]
    exact List.getElem_mem _
end Go.Proofs.Ytgghhcifkgdpeaa.Pure
/- Plain lemma: what the program's allIn answers. Condition: the list is not longer than a list can be. -/
namespace Go.Proofs.Ytgghhcifkgdpeaa.Pure
open Go.RowKit Go.Proofs.Ytgghhcifkgdpeaa.Z Go.Proofs.YtgghhcifkgdpeaaW.PrintWords

theorem impl_allIn (l : List Int) (a b : Int) (hl : l.length ≤ 9223372036854775807) : Ev (fun k => impl_allIn.f k l a b) (l.all fun n => decide (a ≤ n ∧ n ≤ b)) := by
  unfold impl_allIn.f
  have key := all_loop (fun n : Int => decide (a ≤ n ∧ n ≤ b)) l (fun i k => impl_allIn.l0 k a b l (l.length : Int) (i : Int)) true ?_ ?_ ?_
  · simpa using key
  · refine Ev.step (fun k => by rw [impl_allIn.l0]) ?_
    exact Ev.ifneg (by omega) (Ev.now _)
  · intro i hi h
    refine Ev.step (fun k => by rw [impl_allIn.l0]) ?_
    refine Ev.ifpos (by omega) (Ev.ifpos (by omega) (Ev.ifpos (by omega) ?_))
    rw [rd_get l i hi]
    refine Ev.bind0 (a := false) ?_ (Ev.ifneg (by decide) (Ev.now _))
    simp only [decide_eq_false_iff_not] at h
    unfold impl_InRange.f
    by_cases h1 : a ≤ l[i]
    · rw [if_pos h1]
      simp only [Option.some.injEq, decide_eq_false_iff_not]
      omega
    · rw [if_neg h1]
  · intro i hi r h hr
    refine Ev.step (fun k => by rw [impl_allIn.l0]) ?_
    refine Ev.ifpos (by omega) (Ev.ifpos (by omega) (Ev.ifpos (by omega) ?_))
    rw [rd_get l i hi]
    simp only [decide_eq_true_eq] at h
    refine Ev.bind0 (a := true) ?_ (Ev.ifpos rfl ?_)
    · unfold impl_InRange.f
      rw [if_pos h.1]
      simp [h.2]
    · rw [wrap_succ (by omega)]
      exact hr

end Go.Proofs.Ytgghhcifkgdpeaa.Pure
/- Plain lemma: what the reference's and the program's AreTraces answer. Condition: the lists are not longer than the law's can be. -/
namespace Go.Proofs.Ytgghhcifkgdpeaa.Pure
open Go.RowKit Go.Proofs.Ytgghhcifkgdpeaa.Z Go.Proofs.YtgghhcifkgdpeaaW.PrintWords

abbrev Tr := S61
theorem rdTr (l : List Tr) (i : Nat) (h : i < l.length) : rd_T61 l (i : Int) = l[i] := getD_get l i _ h
def hopIn (p : List Int) (i : Nat) : Bool := decide (-1 ≤ p.getD i 0 ∧ p.getD i 0 ≤ 7)
def hopNew (p : List Int) (i : Nat) : Bool := !(decide (0 ≤ p.getD i 0) && dupOf p i)
def okTrace (t : Tr) : Bool := decide (t.f0.length ≤ 8) && (List.range t.f0.length).all (fun i => hopIn t.f0 i && hopNew t.f0 i)
def areTraces (l : List Tr) : Bool := l.all okTrace && decide (l.length ≤ 8)

theorem rd_nat' (p : List Int) (i : Nat) : rd p (i : Int) = p.getD i 0 := by
  unfold rd
  rw [Int.toNat_natCast]

theorem spec_areTraces (l : List Tr) (hl : l.length ≤ 1048576) (hr : ∀ t ∈ l, t.f0.length ≤ 1048576) : Ev (fun k => spec_AreTraces.f k l) (areTraces l) := by
  unfold spec_AreTraces.f areTraces
  refine all_step okTrace l (fun i k => spec_AreTraces.l0 k l (i : Int)) (decide (l.length ≤ 8)) ?_ ?_
  · refine Ev.step (fun k => by rw [spec_AreTraces.l0]) ?_
    exact Ev.ifneg (by omega) (Ev.pure (decide_eq_decide.2 (by omega)))
  · intro i hi r ih
    have hlen := hr l[i] (List.getElem_mem hi)
    refine Ev.step (fun k => by rw [spec_AreTraces.l0]) ?_
    rw [rdTr l i hi]
    refine Ev.ifpos (by omega) (Ev.ifpos (by omega) ?_)
    unfold okTrace
    by_cases h8 : (l[i].f0.length : Int) > 8
    · refine Ev.ifpos h8 (Ev.pure ?_)
      rw [decide_eq_false (by omega), Bool.false_and, Bool.false_and]
    · rw [decide_eq_true (by omega), Bool.true_and]
      refine Ev.ifneg h8 ?_
      generalize l[i].f0 = p at hlen h8
      refine all_places p.length (fun i => hopIn p i && hopNew p i) (fun j k => spec_AreTraces.l1 k l (i : Int) p (j : Int)) r ?_ ?_
      · refine Ev.step (fun k => by rw [spec_AreTraces.l1]) ?_
        rw [wrap_succ (i := i) (by omega)]
        exact Ev.ifneg (by omega) ih
      · intro j hj r2 ih2
        refine Ev.step (fun k => by rw [spec_AreTraces.l1]) ?_
        rw [wrap_succ (i := j) (by omega), rd_nat', Int.toNat_natCast]
        refine Ev.ifpos (by omega) (Ev.ifpos (by omega) (Ev.bind0 (spec_in _ _ _) ?_))
        show Ev (fun k => if hopIn p j = true then _ else _) _
        cases hopIn p j
        · exact Ev.ifneg (by decide) (Ev.pure (by simp))
        · refine Ev.ifpos rfl ?_
          rw [Bool.true_and]
          unfold hopNew
          by_cases h0 : p.getD j 0 ≥ 0
          · have h0' : 0 ≤ p.getD j 0 := h0
            refine Ev.ifpos h0 (Ev.ifpos (by omega) (Ev.bind (spec_has (p.take j) (p.getD j 0) (by rw [List.length_take]; omega)) ?_))
            rw [decide_eq_true h0', Bool.true_and]
            show Ev (fun k => if dupOf p j = true then _ else _) _
            cases dupOf p j
            · exact Ev.ifneg (by decide) (by simpa using ih2)
            · exact Ev.ifpos rfl (Ev.pure (by simp))
          · have h0' : ¬ 0 ≤ p.getD j 0 := h0
            rw [decide_eq_false h0']
            exact Ev.ifneg h0 (by simpa using ih2)

theorem hops_all (p : List Int) : (List.range p.length).all (fun i => hopIn p i && hopNew p i) = (p.all (fun n => decide (-1 ≤ n ∧ n ≤ 7)) && (List.range p.length).all (hopNew p)) := by
  rw [Bool.eq_iff_iff]
  simp only [List.all_eq_true, List.mem_range, Bool.and_eq_true]
  constructor
  · intro h
    refine ⟨fun n hn => ?_, fun i hi => (h i hi).2⟩
    obtain ⟨i, hi, rfl⟩ := List.getElem_of_mem hn
    have h1 := (h i hi).1
    unfold hopIn at h1
    rwa [List.getD_eq_getElem?_getD, List.getElem?_eq_getElem hi] at h1
  · rintro ⟨h1, h2⟩ i hi
    refine ⟨?_, h2 i hi⟩
    unfold hopIn
    rw [List.getD_eq_getElem?_getD, List.getElem?_eq_getElem hi]
    exact h1 _ (List.getElem_mem hi)

theorem impl_areTraces (l : List Tr) (hl : l.length ≤ 1048576) (hr : ∀ t ∈ l, t.f0.length ≤ 1048576) : Ev (fun k => impl_AreTraces.f k l) (areTraces l) := by
  unfold impl_AreTraces.f areTraces
  by_cases h12 : (l.length : Int) > 8
  · rw [decide_eq_false (by omega), Bool.and_false]
    exact Ev.ifpos h12 (Ev.now _)
  rw [decide_eq_true (by omega)]
  refine Ev.ifneg h12 ?_
  refine all_step okTrace l (fun i k => impl_AreTraces.l0 k l (l.length : Int) (i : Int)) true ?_ ?_
  · refine Ev.step (fun k => by rw [impl_AreTraces.l0]) ?_
    exact Ev.ifneg (by omega) (Ev.now _)
  · intro i hi r ih
    have hlen := hr l[i] (List.getElem_mem hi)
    refine Ev.step (fun k => by rw [impl_AreTraces.l0]) ?_
    rw [rdTr l i hi]
    refine Ev.ifpos (by omega) (Ev.ifpos (by omega) (Ev.ifpos (by omega) ?_))
    unfold okTrace
    generalize l[i].f0 = p at hlen
    have hbad : ∀ q : Bool, q = false → Ev (fun k => impl_AreTraces.j1 k l (l.length : Int) (i : Int) true p) q := fun q hq => by
      refine Ev.step (fun k => by rw [impl_AreTraces.j1]) ?_
      exact Ev.ifpos rfl (Ev.pure hq.symm)
    by_cases h8 : (p.length : Int) > 8
    · refine Ev.ifpos h8 (hbad _ ?_)
      rw [decide_eq_false (by omega), Bool.false_and, Bool.false_and]
    · rw [decide_eq_true (by omega), Bool.true_and, hops_all]
      refine Ev.ifneg h8 (Ev.bind (impl_allIn p (-1) 7 (by omega)) ?_)
      cases hb : p.all (fun n => decide (-1 ≤ n ∧ n ≤ 7)) with
      | false => exact hbad _ (by simp)
      | true =>
        refine Ev.step (fun k => by rw [impl_AreTraces.j1]) ?_
        refine Ev.ifneg (by decide) ?_
        rw [Bool.true_and]
        refine all_places p.length (hopNew p) (fun j k => impl_AreTraces.l1 k l (l.length : Int) (i : Int) p (p.length : Int) (j : Int) p) r ?_ ?_
        · refine Ev.step (fun k => by rw [impl_AreTraces.l1]) ?_
          rw [wrap_succ (i := i) (by omega)]
          exact Ev.ifneg (by omega) ih
        · intro j hj r2 ih2
          have hin := List.all_eq_true.1 hb p[j] (List.getElem_mem hj)
          have hin := of_decide_eq_true hin
          have eg : p.getD j 0 = p[j] := by rw [List.getD_eq_getElem?_getD, List.getElem?_eq_getElem hj]; rfl
          refine Ev.step (fun k => by rw [impl_AreTraces.l1]) ?_
          rw [wrap_succ (i := j) (by omega), rd_nat', Int.toNat_natCast]
          refine Ev.ifpos (by omega) (Ev.ifpos (by omega) (Ev.ifpos (by omega) ?_))
          unfold hopNew
          by_cases h0 : p.getD j 0 = -1
          · rw [decide_eq_false (by omega)]
            exact Ev.ifpos h0 (by simpa using ih2)
          · rw [decide_eq_true (by omega), Bool.true_and]
            refine Ev.ifneg h0 (Ev.ifpos (by omega) (Ev.bind (impl_has (p.take j) (p.getD j 0) (by rw [List.length_take]; omega)) ?_))
            show Ev (fun k => if dupOf p j = true then _ else _) _
            cases dupOf p j
            · exact Ev.ifneg (by decide) (by simpa using ih2)
            · exact Ev.ifpos rfl (Ev.pure (by simp))

end Go.Proofs.Ytgghhcifkgdpeaa.Pure
/- Plain lemmas: what is drawn of a network and traces: each draw answers, with at most six links and nine traces of at most ten hops. Condition: the bytes are no more than a slice can hold. -/
namespace Go.Proofs.Ytgghhcifkgdpeaa.Pure
open Go.RowKit Go.Proofs.Ytgghhcifkgdpeaa.Z Go.Proofs.YtgghhcifkgdpeaaW.PrintWords
set_option linter.unusedVariables false
set_option linter.unusedSimpArgs false

abbrev LkD := S63
abbrev TrD := S61
def Short (m : Nat) (ts : List TrD) : Prop := ∀ t ∈ ts, t.f0.length ≤ m
theorem Short.add {m : Nat} {ts : List TrD} (h : Short m ts) {t : TrD} (ht : t.f0.length ≤ m) : Short m (ts ++ [t]) := fun q hq => by
  rcases List.mem_append.1 hq with hq | hq
  · exact h q hq
  · rw [List.mem_singleton.1 hq]; exact ht
theorem Short.put {m : Nat} {ts : List TrD} (h : Short m ts) (i : Nat) {t : TrD} (ht : t.f0.length ≤ m) : Short m (ts.set i t) := fun q hq => by
  rcases List.mem_or_eq_of_mem_set hq with hq | rfl
  · exact h q hq
  · exact ht
theorem Short.up {m n : Nat} {ts : List TrD} (h : Short m ts) (hn : m ≤ n) : Short n ts := fun q hq => Nat.le_trans (h q hq) hn

section
variable (x : List Int) (hx : x.length ≤ 4611686018427387904)
include hx

theorem cur_once13 (i s n : Int) (hi : Cur x i) (hn : 0 < n) : ∃ v i' s', spec_l1Once.f x i s n = some (v, i', s') ∧ Cur x i' := by
  obtain ⟨v, i', s', e, _, c⟩ := cur_below x i s n hx hi hn
  unfold spec_l1Once.f
  rw [e, Option.bind_some]
  exact ⟨_, _, _, rfl, c⟩

theorem net_more13 (n : Int) (hn : 0 < n) : ∀ (v : Nat) (i s : Int) (ls : List LkD), v ≤ 1000 → Cur x i → 1 ≤ ls.length ∧ ls.length ≤ 6 → ∃ q i' s', Ev (fun k => spec_l7Draw.l1 k (v : Int) x i s n ls) (n, q, i', s') ∧ (1 ≤ q.length ∧ q.length ≤ 6) ∧ Cur x i' := by
  intro v
  induction v with
  | zero =>
    intro i s ls _ hi hl
    refine ⟨ls, i, s, Ev.step (fun k => by rw [spec_l7Draw.l1]) ?_, hl, hi⟩
    refine Ev.ifneg (by omega) (Ev.step (fun k => by rw [spec_l7Draw.j3]) ?_)
    exact Ev.ifneg (by decide) (Ev.now _)
  | succ v ih =>
    intro i s ls hv hi hl
    have e2 : wrap64 (((v + 1 : Nat) : Int) - 1) = (v : Int) := by rw [wrap_in (by omega) (by omega)]; omega
    by_cases h6 : (ls.length : Int) < 6
    · obtain ⟨a, i1, s1, e1, _, c1⟩ := cur_below x i s n hx hi hn
      obtain ⟨b, i3, s3, e3, _, c3⟩ := cur_below x i1 s1 n hx c1 hn
      have hlk := spec_linkOf n ls a b (by omega)
      by_cases hab : a = b
      · obtain ⟨q, i', s', h1, h2⟩ := ih i3 s3 ls (by omega) c3 hl
        refine ⟨q, i', s', Ev.step (fun k => by rw [spec_l7Draw.l1]) ?_, h2⟩
        refine Ev.ifpos (by omega) (Ev.step (fun k => by rw [spec_l7Draw.j3]) ?_)
        rw [e2]
        exact Ev.ifpos (decide_eq_true h6) (Ev.bind0 e1 (Ev.bind0 e3 (Ev.ifpos hab h1)))
      · by_cases hf : firstAt (isLink a b) ls < 0
        · obtain ⟨q, i', s', h1, h2⟩ := ih i3 s3 (ls ++ [⟨a, b⟩]) (by omega) c3 (by rw [List.length_append, List.length_singleton]; omega)
          refine ⟨q, i', s', Ev.step (fun k => by rw [spec_l7Draw.l1]) ?_, h2⟩
          refine Ev.ifpos (by omega) (Ev.step (fun k => by rw [spec_l7Draw.j3]) ?_)
          rw [e2]
          exact Ev.ifpos (decide_eq_true h6) (Ev.bind0 e1 (Ev.bind0 e3 (Ev.ifneg hab (Ev.bind hlk (Ev.ifpos hf (Ev.ifpos (by omega) h1))))))
        · obtain ⟨q, i', s', h1, h2⟩ := ih i3 s3 ls (by omega) c3 hl
          refine ⟨q, i', s', Ev.step (fun k => by rw [spec_l7Draw.l1]) ?_, h2⟩
          refine Ev.ifpos (by omega) (Ev.step (fun k => by rw [spec_l7Draw.j3]) ?_)
          rw [e2]
          exact Ev.ifpos (decide_eq_true h6) (Ev.bind0 e1 (Ev.bind0 e3 (Ev.ifneg hab (Ev.bind hlk (Ev.ifneg hf h1)))))
    · refine ⟨ls, i, s, Ev.step (fun k => by rw [spec_l7Draw.l1]) ?_, hl, hi⟩
      refine Ev.ifpos (by omega) (Ev.step (fun k => by rw [spec_l7Draw.j3]) ?_)
      exact Ev.ifneg (by rw [decide_eq_true_iff]; exact h6) (Ev.now _)

theorem net_rest13 (n : Int) (hn : 0 < n) (i s : Int) (ls : List LkD) (hi : Cur x i) (hl : 1 ≤ ls.length ∧ ls.length ≤ 6) : ∃ q i' s', Ev (fun k => spec_l7Draw.j1 k x i s n ls) (n, q, i', s') ∧ (1 ≤ q.length ∧ q.length ≤ 6) ∧ Cur x i' := by
  obtain ⟨v, i1, s1, e1, h1, c1⟩ := cur_below x i s 3 hx hi (by decide)
  obtain ⟨m, rfl⟩ : ∃ m : Nat, v = (m : Int) := ⟨v.toNat, by omega⟩
  obtain ⟨q, i', s', h2, h3⟩ := net_more13 x hx n hn m i1 s1 ls (by omega) c1 hl
  exact ⟨q, i', s', Ev.step (fun k => by rw [spec_l7Draw.j1]) (Ev.bind0 e1 h2), h3⟩

theorem net_tree13 (N : Nat) (hN : 4 ≤ N ∧ N ≤ 7) : ∀ (d c : Nat) (i s : Int) (ls : List LkD), c + d = N → 1 ≤ c → Cur x i → ls.length + 1 = c → ∃ q i' s', Ev (fun k => spec_l7Draw.l0 k (c : Int) x i s (N : Int) ls) ((N : Int), q, i', s') ∧ (1 ≤ q.length ∧ q.length ≤ 6) ∧ Cur x i' := by
  intro d
  induction d with
  | zero =>
    intro c i s ls hc h1 hi hl
    obtain ⟨q, i', s', h2, h3⟩ := net_rest13 x hx (N : Int) (by omega) i s ls hi (by omega)
    refine ⟨q, i', s', Ev.step (fun k => by rw [spec_l7Draw.l0]) ?_, h3⟩
    exact Ev.ifneg (by omega) h2
  | succ d ih =>
    intro c i s ls hc h1 hi hl
    obtain ⟨v, i1, s1, e1, _, c1⟩ := cur_below x i s (c : Int) hx hi (by omega)
    obtain ⟨q, i', s', h2, h3⟩ := ih (c + 1) i1 s1 (ls ++ [⟨v, (c : Int)⟩]) (by omega) (by omega) c1 (by rw [List.length_append, List.length_singleton]; omega)
    refine ⟨q, i', s', Ev.step (fun k => by rw [spec_l7Draw.l0]) ?_, h3⟩
    rw [wrap_succ (i := c) (by omega)]
    exact Ev.ifpos (by omega) (Ev.ifpos (by omega) (Ev.bind0 e1 (Ev.ifpos (by omega) h2)))

theorem net13 (i s : Int) (hi : Cur x i) : ∃ n q i' s', Ev (fun k => spec_l7Draw.f k x i s) (n, q, i', s') ∧ (1 ≤ q.length ∧ q.length ≤ 6) ∧ (4 ≤ n ∧ n ≤ 9) ∧ Cur x i' := by
  obtain ⟨v, i1, s1, e1, h1, c1⟩ := cur_below x i s 4 hx hi (by decide)
  have e : wrap64 (4 + v) = ((4 + v.toNat : Nat) : Int) := by rw [wrap_in (by omega) (by omega)]; omega
  obtain ⟨q, i', s', h2, h3⟩ := net_tree13 x hx (4 + v.toNat) (by omega) (3 + v.toNat) 1 i1 s1 [] (by omega) (by omega) c1 rfl
  refine ⟨((4 + v.toNat : Nat) : Int), q, i', s', ?_, h3.1, by omega, h3.2⟩
  unfold spec_l7Draw.f
  refine Ev.bind0 e1 ?_
  show Ev (fun k => spec_l7Draw.l0 k 1 x i1 s1 (wrap64 (4 + v)) []) _
  rw [e]
  exact h2

theorem trace_marks13 : ∀ (d c : Nat) (h : List Int) (i s : Int), c + d = h.length → h.length ≤ 9 → Cur x i → ∃ q i' s', Ev (fun k => spec_l13Trace.l1 k (c : Int) x i s h) (q, i', s') ∧ q.length = h.length ∧ Cur x i' := by
  intro d
  induction d with
  | zero =>
    intro c h i s hc hl hi
    refine ⟨h, i, s, Ev.step (fun k => by rw [spec_l13Trace.l1]) ?_, rfl, hi⟩
    exact Ev.ifneg (by omega) (Ev.now _)
  | succ d ih =>
    intro c h i s hc hl hi
    obtain ⟨v, i1, s1, e1, c1⟩ := cur_once13 x hx i s 6 hi (by decide)
    cases v with
    | true =>
      obtain ⟨q, i', s', h1, h2, h3⟩ := ih (c + 1) (h.set (c : Int).toNat (-1)) i1 s1 (by rw [List.length_set]; omega) (by rw [List.length_set]; omega) c1
      refine ⟨q, i', s', Ev.step (fun k => by rw [spec_l13Trace.l1]) ?_, by rw [h2, List.length_set], h3⟩
      rw [wrap_succ (i := c) (by omega)]
      exact Ev.ifpos (by omega) (Ev.bind0 e1 (Ev.ifpos rfl (Ev.ifpos (by omega) h1)))
    | false =>
      obtain ⟨q, i', s', h1, h2, h3⟩ := ih (c + 1) h i1 s1 (by omega) hl c1
      refine ⟨q, i', s', Ev.step (fun k => by rw [spec_l13Trace.l1]) ?_, h2, h3⟩
      rw [wrap_succ (i := c) (by omega)]
      exact Ev.ifpos (by omega) (Ev.bind0 e1 (Ev.ifneg Bool.false_ne_true h1))

theorem trace_hops13 (n : Int) (ls : List LkD) (hls : ls.length ≤ 6) (p : List Int) (hp : p.length ≤ 8) : ∀ (d c : Nat) (h : List Int) (a i s : Int), c + d = p.length → h.length = c + 1 → Cur x i → ∃ q i' s', Ev (fun k => spec_l13Trace.l0 k p a (c : Int) x i s n ls h) (q, i', s') ∧ q.length ≤ 9 ∧ Cur x i' := by
  intro d
  induction d with
  | zero =>
    intro c h a i s hc hl hi
    obtain ⟨q, i', s', h1, h2, h3⟩ := trace_marks13 x hx h.length 0 h i s (by omega) (by omega) hi
    refine ⟨q, i', s', Ev.step (fun k => by rw [spec_l13Trace.l0]) ?_, by omega, h3⟩
    exact Ev.ifneg (by omega) h1
  | succ d ih =>
    intro c h a i s hc hl hi
    have he := spec_endOf n ls [rd p (c : Int)] a (by omega) (by simp)
    obtain ⟨q, i', s', h1, h2⟩ := ih (c + 1) (h ++ [endOf ls a [rd p (c : Int)]]) (endOf ls a [rd p (c : Int)]) i s (by omega) (by rw [List.length_append, List.length_singleton]; omega) hi
    refine ⟨q, i', s', Ev.step (fun k => by rw [spec_l13Trace.l0]) ?_, h2⟩
    rw [wrap_succ (i := c) (by omega)]
    exact Ev.ifpos (by omega) (Ev.ifpos (by omega) (Ev.bind he (Ev.ifpos (by omega) h1)))

theorem trace13 (n : Int) (ls : List LkD) (hls : ls.length ≤ 6) (a b i s : Int) (hi : Cur x i) : ∃ q i' s', Ev (fun k => spec_l13Trace.f k x i s n ls a b) (q, i', s') ∧ q.length ≤ 9 ∧ Cur x i' := by
  have hr := spec_routeTo n ls a b (by omega)
  obtain ⟨q, i', s', h1, h2⟩ := trace_hops13 x hx n ls hls (routeTo n ls a b) (routeTo_len n ls a b) (routeTo n ls a b).length 0 [a] a i s (by omega) rfl hi
  refine ⟨q, i', s', ?_, h2⟩
  unfold spec_l13Trace.f
  exact Ev.bind hr h1

theorem draw13_from (n : Int) (hn : 4 ≤ n ∧ n ≤ 9) (ls : List LkD) (hls : ls.length ≤ 6) : ∀ (v : Nat) (ts : List TrD) (i s : Int), ts.length + v ≤ 4 → Short 9 ts → Cur x i → ∃ r i' s', Ev (fun k => spec_l13Draw.l0 k ts (v : Int) x i s n ls) (n, ls, r, i', s') ∧ r.length ≤ 4 ∧ Short 9 r ∧ Cur x i' := by
  intro v
  induction v with
  | zero =>
    intro ts i s h hs hi
    refine ⟨ts, i, s, Ev.step (fun k => by rw [spec_l13Draw.l0]) ?_, by omega, hs, hi⟩
    exact Ev.ifneg (by omega) (Ev.now _)
  | succ v ih =>
    intro ts i s h hs hi
    obtain ⟨a, i1, s1, e1, _, c1⟩ := cur_below x i s n hx hi (by omega)
    obtain ⟨b, i2, s2, e2, _, c2⟩ := cur_below x i1 s1 n hx c1 (by omega)
    obtain ⟨q, i3, s3, e3, hq, c3⟩ := trace13 x hx n ls hls a b i2 s2 c2
    obtain ⟨r, i', s', h1, h2⟩ := ih (ts ++ [⟨q⟩]) i3 s3 (by rw [List.length_append, List.length_singleton]; omega) (hs.add hq) c3
    refine ⟨r, i', s', Ev.step (fun k => by rw [spec_l13Draw.l0]) ?_, h2⟩
    have e4 : wrap64 (((v + 1 : Nat) : Int) - 1) = (v : Int) := by rw [wrap_in (by omega) (by omega)]; omega
    rw [e4]
    exact Ev.ifpos (by omega) (Ev.bind0 e1 (Ev.bind0 e2 (Ev.bind e3 (Ev.ifpos (by omega) h1))))

theorem draw13 (i s : Int) (hi : Cur x i) : ∃ n q ts i' s', Ev (fun k => spec_l13Draw.f k x i s) (n, q, ts, i', s') ∧ q.length ≤ 6 ∧ ts.length ≤ 4 ∧ Short 9 ts ∧ Cur x i' := by
  obtain ⟨n, q, i1, s1, e1, hq, hn, c1⟩ := net13 x hx i s hi
  obtain ⟨v, i2, s2, e2, h2, c2⟩ := cur_below x i1 s1 5 hx c1 (by decide)
  obtain ⟨m, rfl⟩ : ∃ m : Nat, v = (m : Int) := ⟨v.toNat, by omega⟩
  obtain ⟨r, i', s', h3, h4, h5, c3⟩ := draw13_from x hx n hn q hq.2 m [] i2 s2 (by simp; omega) (fun t ht => absurd ht (by simp)) c2
  refine ⟨n, q, r, i', s', ?_, hq.2, h4, h5, c3⟩
  unfold spec_l13Draw.f
  exact Ev.bind e1 (Ev.bind0 e2 h3)

omit hx in
theorem more13 (n i s : Int) (ls : List LkD) : ∀ (d : Nat) (q : List TrD), q.length + d = 9 → 1 ≤ q.length → Short 10 q → ∃ r, Ev (fun k => any13N.l0 k q x i s n ls) (n, ls, r, i, s) ∧ r.length ≤ 9 ∧ Short 10 r := by
  intro d
  induction d with
  | zero =>
    intro q h h1 hq
    refine ⟨q, Ev.step (fun k => by rw [any13N.l0]) ?_, by omega, hq⟩
    exact Ev.ifneg (by omega) (Ev.now _)
  | succ d ih =>
    intro q h h1 hq
    have er : rd_T61 q 0 = q[0] := getD_get q 0 _ h1
    obtain ⟨r, h2, h3⟩ := ih (q ++ [⟨(rd_T61 q 0).f0⟩]) (by rw [List.length_append, List.length_singleton]; omega) (by rw [List.length_append, List.length_singleton]; omega) (hq.add (by rw [er]; exact hq _ (List.getElem_mem h1)))
    refine ⟨r, Ev.step (fun k => by rw [any13N.l0]) ?_, h3⟩
    exact Ev.ifpos (by omega) (Ev.ifpos (by omega) (Ev.ifpos (by omega) h2))

theorem draw13_any (i s : Int) (hi : Cur x i) : ∃ n q ts i' s', Ev (fun k => spec_l13Any.f k x i s) (n, q, ts, i', s') ∧ q.length ≤ 6 ∧ ts.length ≤ 9 ∧ Short 10 ts := by
  obtain ⟨n, q, ts, i1, s1, h1, hq, ht, hs, c1⟩ := draw13 x hx i s hi
  have h10 := hs.up (show 9 ≤ 10 by omega)
  by_cases hz : (ts.length : Int) = 0 ∨ ((rd_T61 ts 0).f0.length : Int) = 0
  · refine ⟨n, q, ts, i1, s1, ?_, hq, by omega, h10⟩
    unfold spec_l13Any.f
    refine Ev.bind h1 (Ev.ifpos hz ?_)
    unfold any13S.f
    refine Ev.bind h1 ?_
    have hj : ∀ b, b = true → Ev (fun k => any13S.j0 k ts b x i1 s1 n q) (n, q, ts, i1, s1) := fun b hb => by
      refine Ev.step (fun k => by rw [any13S.j0]) ?_
      exact Ev.ifpos hb (Ev.now _)
    by_cases h0 : (ts.length : Int) = 0
    · exact Ev.ifpos h0 (hj _ rfl)
    · have hpi : (0 : Int) < (ts.length : Int) := by omega
      refine Ev.ifneg h0 (Ev.ifpos hpi (hj _ ?_))
      rcases hz with hz | hz
      · exact absurd hz h0
      · rw [beq_iff_eq]; exact hz
  have h0 : ¬ (ts.length : Int) = 0 := fun h => hz (.inl h)
  have hp : 0 < ts.length := by omega
  have hpi : (0 : Int) < (ts.length : Int) := by omega
  have er : rd_T61 ts 0 = ts[0] := getD_get ts 0 _ hp
  have h9 := hs ts[0] (List.getElem_mem hp)
  have hb0 : (((rd_T61 ts 0).f0.length : Int) == 0) = false := by
    rw [Bool.eq_false_iff, Ne, beq_iff_eq]
    exact fun h => hz (.inr h)
  have hlen0 : 0 < ((rd_T61 ts 0).f0.length : Int) := by
    have := fun h => hz (.inr h)
    omega
  obtain ⟨v, i2, s2, e2, h2, c2⟩ := cur_below x i1 s1 8 hx c1 (by decide)
  have hS : ∀ r i' s', Ev (fun k => any13S.j0 k ts false x i1 s1 n q) (n, q, r, i', s') → Ev (fun k => any13S.f k x i s) (n, q, r, i', s') := fun r i' s' h => by
    unfold any13S.f
    refine Ev.bind h1 (Ev.ifneg h0 (Ev.ifpos hpi ?_))
    show Ev (fun k => any13S.j0 k ts (((rd_T61 ts 0).f0.length : Int) == 0) x i1 s1 n q) _
    rw [hb0]
    exact h
  by_cases v2 : v = 2
  · obtain ⟨r, h3, h4, h5⟩ := more13 x n i2 s2 q (9 - ts.length) ts (by omega) hp h10
    refine ⟨n, q, r, i2, s2, ?_, hq, h4, h5⟩
    unfold spec_l13Any.f
    refine Ev.bind h1 (Ev.ifneg hz (Ev.bind0 e2 (Ev.ifpos v2 ?_)))
    unfold any13N.f
    refine Ev.bind h1 (Ev.ifneg h0 (Ev.ifpos hpi ?_))
    show Ev (fun k => any13N.j0 k ts (((rd_T61 ts 0).f0.length : Int) == 0) x i1 s1 n q) _
    rw [hb0]
    refine Ev.step (fun k => by rw [any13N.j0]) ?_
    exact Ev.ifneg Bool.false_ne_true (Ev.bind0 e2 (Ev.ifneg (by omega) (Ev.ifneg (by omega) (Ev.ifpos v2 h3))))
  have hgo : ∀ r i' s', Ev (fun k => any13S.j0 k ts false x i1 s1 n q) (n, q, r, i', s') → Ev (fun k => spec_l13Any.f k x i s) (n, q, r, i', s') := fun r i' s' h => by
    unfold spec_l13Any.f
    exact Ev.bind h1 (Ev.ifneg hz (Ev.bind0 e2 (Ev.ifneg v2 (hS r i' s' h))))
  by_cases v0 : v = 0
  · obtain ⟨u, i3, s3, e3, _, c3⟩ := cur_int x i2 s2 [(-2), 8, 0] hx c2 (by decide)
    refine ⟨n, q, ts.set (0 : Int).toNat ⟨((rd_T61 ts 0).f0.set (0 : Int).toNat u)⟩, i3, s3, hgo _ _ _ (Ev.step (fun k => by rw [any13S.j0]) ?_), hq, by rw [List.length_set]; omega, h10.put _ (by rw [List.length_set, er]; omega)⟩
    exact Ev.ifneg Bool.false_ne_true (Ev.bind0 e2 (Ev.ifpos v0 (Ev.ifpos hpi (Ev.bind0 e3 (Ev.ifpos hlen0 (Ev.now _))))))
  by_cases v1 : v = 1
  · obtain ⟨u, i3, s3, e3, _, c3⟩ := cur_below x i2 s2 9 hx c2 (by decide)
    refine ⟨n, q, ts.set (0 : Int).toNat ⟨((rd_T61 ts 0).f0 ++ [wrap64 (u - 1)])⟩, i3, s3, hgo _ _ _ (Ev.step (fun k => by rw [any13S.j0]) ?_), hq, by rw [List.length_set]; omega, h10.put _ (by rw [List.length_append, List.length_singleton, er]; omega)⟩
    exact Ev.ifneg Bool.false_ne_true (Ev.bind0 e2 (Ev.ifneg v0 (Ev.ifpos v1 (Ev.ifpos hpi (Ev.bind0 e3 (Ev.ifpos (by rw [er]; omega) (Ev.now _)))))))
  · refine ⟨n, q, ts, i2, s2, hgo _ _ _ (Ev.step (fun k => by rw [any13S.j0]) ?_), hq, by omega, h10⟩
    exact Ev.ifneg Bool.false_ne_true (Ev.bind0 e2 (Ev.ifneg v0 (Ev.ifneg v1 (Ev.ifneg v2 (Ev.now _)))))
theorem draw_fits : ∃ n q ts, Ev (fun k => spec_DrawFitsMap.f k x) (n, q, ts) ∧ q.length ≤ 6 ∧ ts.length ≤ 9 ∧ Short 10 ts := by
  obtain ⟨s, hs⟩ := cur_new x hx
  obtain ⟨n, q, ts, i', s', h1, h2⟩ := draw13_any x hx 0 s (cur_zero x)
  unfold spec_DrawFitsMap.f
  exact ⟨n, q, ts, Ev.bind hs (Ev.bind h1 (Ev.now _)), h2⟩
end
end Go.Proofs.Ytgghhcifkgdpeaa.Pure
/- Plain lemmas: the program's map of traces: each link is a step between two that follow each other, the lesser first; whether a network fits is told by the map's links; the gaps are no more than the hops. Condition: the lists are not longer than the law's can be. -/
namespace Go.Proofs.Ytgghhcifkgdpeaa.Pure
open Go.RowKit Go.Proofs.Ytgghhcifkgdpeaa.Z Go.Proofs.YtgghhcifkgdpeaaW.PrintWords
set_option linter.unusedVariables false
set_option linter.unusedSimpArgs false

theorem wrap_prevM {j : Nat} (h : j ≤ 1048576) : wrap64 (((j + 1 : Nat) : Int) - 1) = (j : Int) := by
  have := wrap_succ (i := j) (by omega)
  unfold wrap64 at *
  omega
/-- A step of one of the traces. -/
def StepOf (ts : List Tr) (x : Lk) : Prop := ∃ t ∈ ts, ∃ j, j + 1 < t.f0.length ∧ 0 ≤ x.f0 ∧ 0 ≤ x.f1 ∧ t.f0.getD j 0 = x.f0 ∧ t.f0.getD (j + 1) 0 = x.f1

theorem okTrace_hopsM (t : Tr) (h : okTrace t = true) : t.f0.length ≤ 8 ∧ (∀ j, j < t.f0.length → -1 ≤ t.f0.getD j 0) ∧ ∀ j, j < t.f0.length → 0 ≤ t.f0.getD j 0 → dupOf t.f0 j = false := by
  unfold okTrace at h
  rw [Bool.and_eq_true, decide_eq_true_eq] at h
  have key : ∀ j, j < t.f0.length → hopIn t.f0 j = true ∧ hopNew t.f0 j = true := fun j hj => by
    have := List.all_eq_true.1 h.2 j (List.mem_range.2 hj)
    rwa [Bool.and_eq_true] at this
  refine ⟨h.1, fun j hj => ?_, fun j hj h0 => ?_⟩
  · have := (key j hj).1
    unfold hopIn at this
    exact (of_decide_eq_true this).1
  · have := (key j hj).2
    unfold hopNew at this
    rw [decide_eq_true h0, Bool.true_and] at this
    simpa using this

theorem steps_in (l : List Tr) (i : Nat) (hi : i < l.length) (h8 : l.length ≤ 8) (hp : l[i].f0.length ≤ 8) (hr : ∀ j, j < l[i].f0.length → -1 ≤ l[i].f0.getD j 0)
    (next : ∀ y : List Lk, y.length ≤ 8 * (i + 1) → (∀ z ∈ y, StepOf l z) → ∃ S, Ev (fun k => impl_steps.l0 k y l (l.length : Int) ((i + 1 : Nat) : Int)) S ∧ (∀ z ∈ S, StepOf l z) ∧ S.length ≤ 64) :
    ∀ m j, l[i].f0.length ≤ m + (j + 1) → ∀ y : List Lk, y.length ≤ 8 * i + min j 8 → (∀ z ∈ y, StepOf l z) →
      ∃ S, Ev (fun k => impl_steps.l1 k y ((j + 1 : Nat) : Int) l (l.length : Int) (i : Int) l[i].f0) S ∧ (∀ z ∈ S, StepOf l z) ∧ S.length ≤ 64 := by
  intro m
  induction m with
  | zero =>
    intro j hj y hy he
    obtain ⟨S, h2, h3⟩ := next y (by omega) he
    refine ⟨S, Ev.step (fun k => by rw [impl_steps.l1]) ?_, h3⟩
    rw [wrap_succ (i := i) (by omega)]
    exact Ev.ifneg (by omega) h2
  | succ m ih =>
    intro j hj y hy he
    by_cases hlt : j + 1 < l[i].f0.length
    · have w1 := wrap_prevM (j := j) (by omega)
      have w2 := wrap_succ (i := j + 1) (by omega)
      have r1 := hr j (by omega)
      have r2 := hr (j + 1) hlt
      by_cases hc : 0 ≤ l[i].f0.getD j 0 ∧ 0 ≤ l[i].f0.getD (j + 1) 0
      · obtain ⟨S, h2, h3⟩ := ih (j + 1) (by omega) (y ++ [⟨l[i].f0.getD j 0, l[i].f0.getD (j + 1) 0⟩]) (by rw [List.length_append, List.length_singleton]; omega) (fun z hz => by
          rcases List.mem_append.1 hz with hz | hz
          · exact he z hz
          · rw [List.mem_singleton.1 hz]
            exact ⟨l[i], List.getElem_mem hi, j, hlt, hc.1, hc.2, rfl, rfl⟩)
        refine ⟨S, Ev.step (fun k => by rw [impl_steps.l1]) ?_, h3⟩
        rw [w1, w2, rd_nat', rd_nat']
        exact Ev.ifpos (by omega) (Ev.ifpos (by omega) (Ev.ifpos (by omega) (Ev.ifpos (by omega) (Ev.ifneg (by omega) (Ev.ifneg (by omega) (Ev.ifpos (by omega) h2))))))
      · obtain ⟨S, h2, h3⟩ := ih (j + 1) (by omega) y (by omega) he
        refine ⟨S, Ev.step (fun k => by rw [impl_steps.l1]) ?_, h3⟩
        rw [w1, w2, rd_nat', rd_nat']
        refine Ev.ifpos (by omega) (Ev.ifpos (by omega) (Ev.ifpos (by omega) (Ev.ifpos (by omega) ?_)))
        by_cases h0 : l[i].f0.getD j 0 = -1
        · exact Ev.ifpos h0 h2
        · exact Ev.ifneg h0 (Ev.ifpos (by omega) h2)
    · obtain ⟨S, h2, h3⟩ := next y (by omega) he
      refine ⟨S, Ev.step (fun k => by rw [impl_steps.l1]) ?_, h3⟩
      rw [wrap_succ (i := i) (by omega)]
      exact Ev.ifneg (by omega) h2

theorem steps_from (l : List Tr) (h8 : l.length ≤ 8) (hk : ∀ t ∈ l, okTrace t = true) : ∀ m i, l.length ≤ m + i → i ≤ l.length → ∀ y : List Lk, y.length ≤ 8 * i → (∀ z ∈ y, StepOf l z) →
    ∃ S, Ev (fun k => impl_steps.l0 k y l (l.length : Int) (i : Int)) S ∧ (∀ z ∈ S, StepOf l z) ∧ S.length ≤ 64 := by
  intro m
  induction m with
  | zero =>
    intro i hm hi y hy he
    refine ⟨y, Ev.step (fun k => by rw [impl_steps.l0]) ?_, he, by omega⟩
    exact Ev.ifneg (by omega) (Ev.now _)
  | succ m ih =>
    intro i hm hi y hy he
    by_cases hlt : i < l.length
    · obtain ⟨hp, hr, _⟩ := okTrace_hopsM l[i] (hk _ (List.getElem_mem hlt))
      have hin := steps_in l i hlt h8 hp hr (fun y' hy' he' => ih (i + 1) (by omega) (by omega) y' hy' he') l[i].f0.length 0 (by omega) y (by omega) he
      rw [show ((0 + 1 : Nat) : Int) = 1 from rfl] at hin
      obtain ⟨S, h2, h3⟩ := hin
      refine ⟨S, Ev.step (fun k => by rw [impl_steps.l0]) ?_, h3⟩
      rw [rdTr l i hlt]
      exact Ev.ifpos (by omega) (Ev.ifpos (by omega) (Ev.ifpos (by omega) h2))
    · refine ⟨y, Ev.step (fun k => by rw [impl_steps.l0]) ?_, he, by omega⟩
      exact Ev.ifneg (by omega) (Ev.now _)

theorem impl_stepsM (l : List Tr) (h : areTraces l = true) : ∃ S, Ev (fun k => impl_steps.f k l) S ∧ (∀ z ∈ S, StepOf l z) ∧ S.length ≤ 64 := by
  unfold areTraces at h
  rw [Bool.and_eq_true, decide_eq_true_eq] at h
  exact steps_from l h.2 (List.all_eq_true.1 h.1) l.length 0 (by omega) (by omega) [] (by simp) (fun z hz => absurd hz (by simp))

section
variable {α : Type} [Inhabited α] [DecidableEq α]
omit [DecidableEq α] in
theorem cm_get (zs : List α) (j : Nat) (h : j < zs.length) : zs.toArray[j]! = zs[j] := by simp [h]
theorem cm_mem (zs : List α) (x : α) : x ∈ Lib.compact zs ↔ x ∈ zs := by
  unfold Lib.compact Lib.compactUpTo
  simp only [List.mem_map, List.mem_filter, List.mem_range]
  constructor
  · rintro ⟨j, ⟨hj, _⟩, rfl⟩
    rw [cm_get zs j hj]
    exact List.getElem_mem hj
  · intro hx
    obtain ⟨j, hj, e⟩ := List.getElem_of_mem hx
    have key : ∀ j, j < zs.length → zs.toArray[j]! = x → ∃ a, (a < zs.length ∧ Lib.keeps zs.toArray a = true) ∧ zs.toArray[a]! = x := by
      intro j
      induction j with
      | zero => intro h e; exact ⟨0, ⟨h, Lib.keeps_lt_one _ 0 (by omega)⟩, e⟩
      | succ j ih =>
        intro h e
        by_cases h2 : zs.toArray[j + 1]! = zs.toArray[j]!
        · exact ih (by omega) (by rw [← h2]; exact e)
        · exact ⟨j + 1, ⟨h, Lib.keeps_pos (by simpa using h2)⟩, e⟩
    exact key j hj (by rw [cm_get zs j hj]; exact e)
theorem cm_len (zs : List α) : (Lib.compact zs).length ≤ zs.length := by
  unfold Lib.compact Lib.compactUpTo
  rw [List.length_map]
  refine Nat.le_trans (List.length_filter_le _ _) ?_
  rw [List.length_range]
  exact Nat.le_refl _
end
def mapM (S : List Lk) : List Lk := Lib.compact (sortLk (S.map ordL))
theorem sortM_perm (l : List Lk) : (sortLk l).Perm l := List.mergeSort_perm l _
theorem mapM_mem (S : List Lk) (z : Lk) : z ∈ mapM S ↔ z ∈ S.map ordL := by
  unfold mapM
  rw [cm_mem, (sortM_perm _).mem_iff]
theorem mapM_len (S : List Lk) : (mapM S).length ≤ S.length := by
  unfold mapM
  refine Nat.le_trans (cm_len _) ?_
  rw [(sortM_perm _).length_eq, List.length_map]
  exact Nat.le_refl _

/-- A link of the map: its ends follow each other in a trace, the lesser first. -/
theorem mapM_step (ts : List Tr) (h : areTraces ts = true) (S : List Lk) (hS : ∀ z ∈ S, StepOf ts z) (z : Lk) (hz : z ∈ mapM S) :
    z.f0 < z.f1 ∧ ∃ t ∈ ts, ∃ j, j + 1 < t.f0.length ∧ ((t.f0.getD j 0 = z.f0 ∧ t.f0.getD (j + 1) 0 = z.f1) ∨ (t.f0.getD j 0 = z.f1 ∧ t.f0.getD (j + 1) 0 = z.f0)) := by
  obtain ⟨x, hx, rfl⟩ := List.mem_map.1 ((mapM_mem S z).1 hz)
  obtain ⟨t, ht, j, hj, h0, h1, e0, e1⟩ := hS x hx
  unfold areTraces at h
  rw [Bool.and_eq_true] at h
  obtain ⟨_, _, hd⟩ := okTrace_hopsM t (List.all_eq_true.1 h.1 t ht)
  have hne : x.f0 ≠ x.f1 := fun e => by
    have h2 := hd (j + 1) hj (by omega)
    rw [Bool.eq_false_iff] at h2
    refine h2 ((dupOf_iff t.f0 (j + 1) hj).2 ⟨j, by omega, ?_⟩)
    rw [List.getD_eq_getElem?_getD, List.getElem?_eq_getElem (show j < t.f0.length by omega)] at e0
    rw [List.getD_eq_getElem?_getD, List.getElem?_eq_getElem hj] at e1
    have e0 : t.f0[j] = x.f0 := e0
    have e1 : t.f0[j + 1] = x.f1 := e1
    omega
  unfold ordL
  refine ⟨by show min x.f0 x.f1 < max x.f0 x.f1; omega, t, ht, j, hj, ?_⟩
  show (_ = min x.f0 x.f1 ∧ _ = max x.f0 x.f1) ∨ (_ = max x.f0 x.f1 ∧ _ = min x.f0 x.f1)
  omega
theorem mapM_all (S : List Lk) (g : Lk → Bool) (hg : ∀ a b, g ⟨a, b⟩ = g ⟨b, a⟩) : (mapM S).all g = S.all g := by
  have ho : ∀ x : Lk, g (ordL x) = g x := fun x => by
    unfold ordL
    by_cases h : x.f0 ≤ x.f1
    · rw [show min x.f0 x.f1 = x.f0 by omega, show max x.f0 x.f1 = x.f1 by omega]
    · rw [show min x.f0 x.f1 = x.f1 by omega, show max x.f0 x.f1 = x.f0 by omega, hg]
  rw [Bool.eq_iff_iff, List.all_eq_true, List.all_eq_true]
  constructor
  · intro h x hx
    rw [← ho]
    exact h _ ((mapM_mem S _).2 (List.mem_map.2 ⟨x, hx, rfl⟩))
  · intro h z hz
    obtain ⟨x, hx, rfl⟩ := List.mem_map.1 ((mapM_mem S z).1 hz)
    rw [ho]
    exact h x hx

theorem isLink_swapM (a b : Int) : isLink a b = isLink b a := by
  funext k
  unfold isLink
  exact Bool.or_comm _ _
theorem not_anyM (l : List Lk) (s : List Lk) : (!(s.any (badStep l))) = s.all (fun x => !badStep l x) := by
  induction s with
  | nil => rfl
  | cons x s ih => rw [List.any_cons, List.all_cons, ← ih, Bool.not_or]

/-- What the program answers of traces. -/
theorem maps_yes (n : Int) (l : List Lk) (ts : List Tr) (hl : l.length ≤ 1048576) (ht : ts.length ≤ 1048576) (hr : ∀ t ∈ ts, t.f0.length ≤ 1048576) (h : areTraces ts = true) :
    ∃ M : List Lk, Ev (fun k => impl_MapOf.f k ts) M ∧ Ev (fun k => impl_FitsMap.f k n l ts) (isNet n l && M.all (fun x => !badStep l x)) ∧ M.length ≤ 64 ∧
      ∀ z ∈ M, z.f0 < z.f1 ∧ ∃ t ∈ ts, ∃ j, j + 1 < t.f0.length ∧ ((t.f0.getD j 0 = z.f0 ∧ t.f0.getD (j + 1) 0 = z.f1) ∨ (t.f0.getD j 0 = z.f1 ∧ t.f0.getD (j + 1) 0 = z.f0)) := by
  obtain ⟨S, hS, hS2, hS3⟩ := impl_stepsM ts h
  have i1 := impl_net n l (by omega)
  have i2 := impl_areTraces ts ht hr
  rw [h] at i2
  refine ⟨mapM S, ?_, ?_, Nat.le_trans (mapM_len S) hS3, fun z hz => mapM_step ts h S hS2 z hz⟩
  · unfold impl_MapOf.f
    exact Ev.bind i2 (Ev.ifpos rfl (Ev.bind hS (Ev.ifpos (by omega) (Ev.now _))))
  · rw [mapM_all S _ (fun a b => by show (!badStep l _) = (!badStep l _); unfold badStep; rw [isLink_swapM a b]), ← not_anyM]
    unfold impl_FitsMap.f
    refine Ev.bind i1 ?_
    cases hN : isNet n l with
    | false => exact Ev.ifneg (by decide) (Ev.now _)
    | true => exact Ev.ifpos rfl (Ev.bind i2 (Ev.ifpos rfl (Ev.bind hS (Ev.pure (by rw [Bool.true_and])))))
theorem maps_no (n : Int) (l : List Lk) (ts : List Tr) (hl : l.length ≤ 1048576) (ht : ts.length ≤ 1048576) (hr : ∀ t ∈ ts, t.f0.length ≤ 1048576) (h : areTraces ts = false) :
    Ev (fun k => impl_MapOf.f k ts) [] ∧ Ev (fun k => impl_FitsMap.f k n l ts) false := by
  have i1 := impl_net n l (by omega)
  have i2 := impl_areTraces ts ht hr
  rw [h] at i2
  constructor
  · unfold impl_MapOf.f
    exact Ev.bind i2 (Ev.ifneg (by decide) (Ev.now _))
  · unfold impl_FitsMap.f
    refine Ev.bind i1 ?_
    cases hN : isNet n l with
    | false => exact Ev.ifneg (by decide) (Ev.now _)
    | true => exact Ev.ifpos rfl (Ev.bind i2 (Ev.ifneg (by decide) (Ev.now _)))

end Go.Proofs.Ytgghhcifkgdpeaa.Pure
/- Plain lemma: the program's count of gaps is no more than the number of hops. Condition: at most eight traces of at most eight hops. -/
namespace Go.Proofs.Ytgghhcifkgdpeaa.Pure
open Go.RowKit Go.Proofs.Ytgghhcifkgdpeaa.Z Go.Proofs.YtgghhcifkgdpeaaW.PrintWords
set_option linter.unusedVariables false
set_option linter.unusedSimpArgs false

def gapsM (c : Int) (l : List Int) : Int := l.foldl (fun c x => if x = -1 then wrap64 (c + 1) else c) c
theorem gapsM_cons (c x : Int) (l : List Int) : gapsM c (x :: l) = gapsM (if x = -1 then wrap64 (c + 1) else c) l := rfl
def totalM (c : Int) (l : List Tr) : Int := l.foldl (fun c t => gapsM c t.f0) c
def hopsM (c : Int) (l : List Tr) : Int := l.foldl (fun c t => wrap64 (c + (t.f0.length : Int))) c

theorem gapsM_le : ∀ (l : List Int) (c : Int), 0 ≤ c → c + (l.length : Int) ≤ 1048576 → 0 ≤ gapsM c l ∧ gapsM c l ≤ c + (l.length : Int)
  | [], c, h0, h1 => ⟨h0, by show c ≤ c + ((([] : List Int).length : Nat) : Int); simp⟩
  | x :: l, c, h0, h1 => by
    rw [List.length_cons] at h1 ⊢
    rw [gapsM_cons]
    by_cases hx : x = -1
    · rw [if_pos hx, wrap_in (by omega) (by omega)]
      have := gapsM_le l (c + 1) (by omega) (by omega)
      omega
    · rw [if_neg hx]
      have := gapsM_le l c h0 (by omega)
      omega
theorem totalM_le : ∀ (l : List Tr) (c d : Int), (∀ t ∈ l, t.f0.length ≤ 8) → 0 ≤ c → c ≤ d → d + 8 * (l.length : Int) ≤ 1048576 → totalM c l ≤ hopsM d l
  | [], c, d, _, h0, h1, h2 => h1
  | t :: l, c, d, ht, h0, h1, h2 => by
    have h8 := ht t List.mem_cons_self
    rw [List.length_cons] at h2
    have hg := gapsM_le t.f0 c h0 (by omega)
    show totalM (gapsM c t.f0) l ≤ hopsM (wrap64 (d + (t.f0.length : Int))) l
    rw [wrap_in (by omega) (by omega)]
    exact totalM_le l _ _ (fun q hq => ht q (List.mem_cons_of_mem _ hq)) hg.1 (by omega) (by omega)

theorem gaps_inM (l : List Tr) (i : Nat) (hi : i < l.length) (hb : l.length ≤ 1048576) (h : List Int) (hx : h.length ≤ 1048576) (r : Int) :
    ∀ d j (c : Int), j + d = h.length → Ev (fun k => impl_GapsIn.l0 k (gapsM c (h.drop j)) l (l.length : Int) ((i + 1 : Nat) : Int)) r → Ev (fun k => impl_GapsIn.l1 k c l (l.length : Int) (i : Int) h (h.length : Int) (j : Int)) r := by
  intro d
  induction d with
  | zero =>
    intro j c hj hr
    refine Ev.step (fun k => by rw [impl_GapsIn.l1]) ?_
    refine Ev.ifneg (by omega) ?_
    rw [wrap_succ (by omega)]
    rw [List.drop_of_length_le (by omega)] at hr
    simpa [gapsM] using hr
  | succ d ih =>
    intro j c hj hr
    have hlt : j < h.length := by omega
    refine Ev.step (fun k => by rw [impl_GapsIn.l1]) ?_
    refine Ev.ifpos (by omega) (Ev.ifpos (by omega) (Ev.ifpos (by omega) ?_))
    rw [rd_get _ j hlt, wrap_succ (by omega)]
    rw [drop_get _ j hlt, gapsM_cons] at hr
    by_cases hc : h[j] = -1
    · refine Ev.ifpos hc (ih (j + 1) _ (by omega) ?_)
      rwa [if_pos hc] at hr
    · refine Ev.ifneg hc (ih (j + 1) c (by omega) ?_)
      rwa [if_neg hc] at hr

theorem impl_gapsM (l : List Tr) (hb : l.length ≤ 1048576) (hx : ∀ x ∈ l, x.f0.length ≤ 1048576) : Ev (fun k => impl_GapsIn.f k l) (totalM 0 l) := by
  unfold impl_GapsIn.f
  have key := Ev.up l.length (fun i (c : Int) k => impl_GapsIn.l0 k c l (l.length : Int) (i : Int)) (fun i c => totalM c (l.drop i)) (fun _ _ => True)
    (fun c _ => by
      refine Ev.step (fun k => by rw [impl_GapsIn.l0]) ?_
      rw [List.drop_of_length_le (by omega)]
      exact Ev.ifneg (by omega) (Ev.now _))
    (fun i c hi _ ih => by
      refine Ev.step (fun k => by rw [impl_GapsIn.l0]) ?_
      refine Ev.ifpos (by omega) (Ev.ifpos (by omega) (Ev.ifpos (by omega) ?_))
      rw [rdTr l i hi]
      refine gaps_inM l i hi hb _ (hx _ (List.getElem_mem hi)) _ _ 0 c (Nat.zero_add _) ?_
      rw [drop_get l i hi]
      exact ih _ trivial) 0 0 (Nat.zero_le _) trivial
  simpa using key

end Go.Proofs.Ytgghhcifkgdpeaa.Pure
namespace Go.Proofs.Ytgghhcifkgdpeaa.Pure
open Go.RowKit Go.Proofs.Ytgghhcifkgdpeaa.Z Go.Proofs.YtgghhcifkgdpeaaW.PrintWords
set_option linter.unusedVariables false
set_option linter.unusedSimpArgs false

/-- Two hops that follow each other are a link's ends. -/
def StepQ (h : List Int) (z : Lk) (j : Nat) : Prop := (h.getD j 0 = z.f0 ∧ h.getD (j + 1) 0 = z.f1) ∨ (h.getD j 0 = z.f1 ∧ h.getD (j + 1) 0 = z.f0)

section
variable (ts : List Tr) (h8 : ts.length ≤ 8) (M : List Lk) (hM : M.length ≤ 64) (n : Int) (ls : List Lk)

include h8 in
theorem cross_in (r : Bool) (f : Bool) (i : Nat) (hi : i < M.length) (t : Nat) (ht : t < ts.length) (h : List Int) (hl : h.length ≤ 8) :
    ∀ (d j : Nat) (c : Bool), h.length ≤ j + 1 + d → (∀ c' : Bool, ((c = true ∨ ∃ q, j ≤ q ∧ q + 1 < h.length ∧ StepQ h M[i] q) → c' = true) → Ev (fun k => laws_FnMaps.l1 k ts M f (i : Int) c' ((t + 1 : Nat) : Int) n ls) r) →
      Ev (fun k => laws_FnMaps.l2 k ts M f (i : Int) c (t : Int) h ((j + 1 : Nat) : Int) n ls) r := by
  intro d
  induction d with
  | zero =>
    intro j c hj hc
    refine Ev.step (fun k => by rw [laws_FnMaps.l2]) ?_
    rw [wrap_succ (i := t) (by omega)]
    refine Ev.ifneg (by omega) (hc c (fun e => ?_))
    rcases e with e | ⟨q, h1, h2, _⟩
    · exact e
    · omega
  | succ d ih =>
    intro j c hj hc
    by_cases hlt : j + 1 < h.length
    · have w1 := wrap_prevM (j := j) (by omega)
      have w2 := wrap_succ (i := j + 1) (by omega)
      have rM : rd_T63 M (i : Int) = M[i] := rdLink M i hi
      have hnext : ∀ b : Bool, ((c = true ∨ StepQ h M[i] j) → b = true) → Ev (fun k => laws_FnMaps.l2 k ts M f (i : Int) b (t : Int) h ((j + 1 + 1 : Nat) : Int) n ls) r := fun b hb =>
        ih (j + 1) b (by omega) (fun c' hc' => hc c' (fun e => hc' (by
          rcases e with e | ⟨q, h1, h2, h3⟩
          · exact .inl (hb (.inl e))
          · by_cases hq : q = j
            · subst hq
              exact .inl (hb (.inr h3))
            · exact .inr ⟨q, by omega, h2, h3⟩)))
      refine Ev.step (fun k => by rw [laws_FnMaps.l2]) ?_
      rw [w1, w2, rd_nat', rd_nat', rM]
      refine Ev.ifpos (by omega) ?_
      by_cases hcc : c = true
      · exact Ev.ifpos hcc (hnext true (fun _ => rfl))
      refine Ev.ifneg hcc (Ev.ifpos (by omega) (Ev.ifpos (by omega) (Ev.ifpos (by omega) (Ev.ifpos (by omega) ?_))))
      by_cases a0 : h.getD j 0 = M[i].f0
      · refine Ev.ifpos a0 (Ev.ifpos (by omega) ?_)
        by_cases a1 : h.getD (j + 1) 0 = M[i].f1
        · exact Ev.ifpos a1 (hnext true (fun _ => rfl))
        · refine Ev.ifneg a1 ?_
          by_cases b0 : h.getD j 0 = M[i].f1
          · refine Ev.ifpos b0 (hnext _ (fun e => ?_))
            rcases e with e | e | e
            · exact absurd e hcc
            · exact absurd e.2 a1
            · rw [beq_iff_eq]; exact e.2
          · refine Ev.ifneg b0 (hnext _ (fun e => ?_))
            rcases e with e | e | e
            · exact absurd e hcc
            · exact absurd e.2 a1
            · exact absurd e.1 b0
      · refine Ev.ifneg a0 ?_
        by_cases b0 : h.getD j 0 = M[i].f1
        · refine Ev.ifpos b0 (Ev.ifpos (by omega) (hnext _ (fun e => ?_)))
          rcases e with e | e | e
          · exact absurd e hcc
          · exact absurd e.1 a0
          · rw [beq_iff_eq]; exact e.2
        · refine Ev.ifneg b0 (hnext _ (fun e => ?_))
          rcases e with e | e | e
          · exact absurd e hcc
          · exact absurd e.1 a0
          · exact absurd e.1 b0
    · refine Ev.step (fun k => by rw [laws_FnMaps.l2]) ?_
      rw [wrap_succ (i := t) (by omega)]
      refine Ev.ifneg (by omega) (hc c (fun e => ?_))
      rcases e with e | ⟨q, h1, h2, _⟩
      · exact e
      · omega

include h8 hM in
theorem cross_out (hh : ∀ t ∈ ts, t.f0.length ≤ 8) (r : Bool) (f : Bool) (i : Nat) (hi : i < M.length)
    (after : Ev (fun k => if M[i].f0 ≥ M[i].f1 then (some false) else (if f = true then ((impl_LinkOf.f n ls M[i].f0 M[i].f1).bind fun t324 => (laws_FnMaps.l0 k ts M (decide (t324 ≥ 0)) ((i + 1 : Nat) : Int) n ls)) else (laws_FnMaps.l0 k ts M false ((i + 1 : Nat) : Int) n ls))) r) :
    ∀ (d t : Nat) (c : Bool), ts.length ≤ t + d → (c = true ∨ ∃ q, t ≤ q ∧ ∃ hq : q < ts.length, ∃ j, j + 1 < ts[q].f0.length ∧ StepQ ts[q].f0 M[i] j) → Ev (fun k => laws_FnMaps.l1 k ts M f (i : Int) c (t : Int) n ls) r := by
  have rM : rd_T63 M (i : Int) = M[i] := rdLink M i hi
  have hend : ∀ (t : Nat) (c : Bool), ts.length ≤ t → (c = true ∨ ∃ q, t ≤ q ∧ ∃ hq : q < ts.length, ∃ j, j + 1 < ts[q].f0.length ∧ StepQ ts[q].f0 M[i] j) → Ev (fun k => laws_FnMaps.l1 k ts M f (i : Int) c (t : Int) n ls) r := fun t c ht he => by
    have hc : c = true := by
      rcases he with he | ⟨q, h1, h2, _⟩
      · exact he
      · omega
    refine Ev.step (fun k => by rw [laws_FnMaps.l1]) ?_
    rw [rM, wrap_succ (i := i) (by omega)]
    exact Ev.ifneg (by omega) (Ev.ifpos hc (Ev.ifpos (by omega) (Ev.ifpos (by omega) after)))
  intro d
  induction d with
  | zero => exact fun t c ht he => hend t c (by omega) he
  | succ d ih =>
    intro t c ht he
    by_cases hlt : t < ts.length
    · refine Ev.step (fun k => by rw [laws_FnMaps.l1]) ?_
      rw [rdTr ts t hlt]
      refine Ev.ifpos (by omega) (Ev.ifpos (by omega) ?_)
      have := cross_in ts h8 M n ls r f i hi t hlt ts[t].f0 (hh _ (List.getElem_mem hlt)) ts[t].f0.length 0 c (by omega) (fun c' hc' => ih (t + 1) c' (by omega) (by
        rcases he with he | ⟨q, h1, h2, j, h3, h4⟩
        · exact .inl (hc' (.inl he))
        · by_cases hq : q = t
          · subst hq
            exact .inl (hc' (.inr ⟨j, by omega, h3, h4⟩))
          · exact .inr ⟨q, by omega, h2, j, h3, h4⟩))
      rwa [show ((0 + 1 : Nat) : Int) = 1 from rfl] at this
    · exact hend t c (by omega) he

include h8 hM in
theorem map_rounds (hh : ∀ t ∈ ts, t.f0.length ≤ 8) (F : Bool)
    (hz : ∀ z ∈ M, z.f0 < z.f1 ∧ ∃ t ∈ ts, ∃ j, j + 1 < t.f0.length ∧ ((t.f0.getD j 0 = z.f0 ∧ t.f0.getD (j + 1) 0 = z.f1) ∨ (t.f0.getD j 0 = z.f1 ∧ t.f0.getD (j + 1) 0 = z.f0)))
    (hend : Ev (fun k => laws_FnMaps.l3 k ts M F 0 0 n ls) true) :
    ∀ (d i : Nat) (f : Bool), i + d = M.length → (f && (M.drop i).all (fun x => !badStep ls x)) = F → Ev (fun k => laws_FnMaps.l0 k ts M f (i : Int) n ls) true := by
  intro d
  induction d with
  | zero =>
    intro i f hi hf
    refine Ev.step (fun k => by rw [laws_FnMaps.l0]) ?_
    rw [List.drop_of_length_le (by omega), List.all_nil, Bool.and_true] at hf
    subst hf
    exact Ev.ifneg (by omega) hend
  | succ d ih =>
    intro i f hi hf
    have hlt : i < M.length := by omega
    obtain ⟨hAB, t, ht, j, hj, hs⟩ := hz M[i] (List.getElem_mem hlt)
    obtain ⟨q, hq, rfl⟩ := List.getElem_of_mem ht
    rw [drop_get M i hlt, List.all_cons] at hf
    refine Ev.step (fun k => by rw [laws_FnMaps.l0]) ?_
    refine Ev.ifpos (by omega) ?_
    refine cross_out ts h8 M hM n ls hh true f i hlt ?_ ts.length 0 false (by omega) (.inr ⟨q, by omega, hq, j, hj, hs⟩)
    refine Ev.ifneg (by omega) ?_
    cases f with
    | true =>
      refine Ev.ifpos rfl (Ev.bind0 rfl (ih (i + 1) _ (by omega) ?_))
      rw [Bool.true_and] at hf
      rw [← hf]
      congr 1
      unfold badStep
      by_cases hb : firstAt (isLink M[i].f0 M[i].f1) ls < 0
      · rw [decide_eq_true hb, decide_eq_false (by omega)]
        rfl
      · rw [decide_eq_false hb, decide_eq_true (by omega)]
        rfl
    | false =>
      refine Ev.ifneg Bool.false_ne_true (ih (i + 1) _ (by omega) ?_)
      rw [Bool.false_and] at hf ⊢
      exact hf

include h8 in
theorem hop_rounds (F : Bool) (hh : ∀ t ∈ ts, t.f0.length ≤ 8) (hF : Ev (fun k => impl_FitsMap.f k n ls ts) F) (hG : totalM 0 ts ≤ hopsM 0 ts) :
    ∀ (d t : Nat) (c : Int), t + d = ts.length → hopsM c (ts.drop t) = hopsM 0 ts → Ev (fun k => laws_FnMaps.l3 k ts M F c (t : Int) n ls) true := by
  have hgp := impl_gapsM ts (by omega) (fun t ht => by have := hh t ht; omega)
  intro d
  induction d with
  | zero =>
    intro t c ht hc
    rw [List.drop_of_length_le (by omega)] at hc
    have hc : c = hopsM 0 ts := hc
    refine Ev.step (fun k => by rw [laws_FnMaps.l3]) ?_
    refine Ev.ifneg (by omega) (Ev.bind hF (Ev.ifpos (by cases F <;> rfl) (Ev.bind hgp (Ev.ifpos (by omega) ?_))))
    by_cases hm : (M.length : Int) > 0
    · exact Ev.ifpos hm (Ev.now _)
    · have : M = [] := List.length_eq_zero_iff.1 (by omega)
      subst this
      refine Ev.ifneg hm (Ev.bind (a := false) ⟨1, fun k hk => ?_⟩ (Ev.now _))
      cases k with
      | zero => omega
      | succ k => rfl
  | succ d ih =>
    intro t c ht hc
    have hlt : t < ts.length := by omega
    rw [drop_get ts t hlt] at hc
    refine Ev.step (fun k => by rw [laws_FnMaps.l3]) ?_
    rw [rdTr ts t hlt, wrap_succ (i := t) (by omega)]
    exact Ev.ifpos (by omega) (Ev.ifpos (by omega) (ih (t + 1) _ (by omega) hc))
end

theorem FnMaps : laws_FnMaps.Pure := by
  intro x h1 h2 _
  refine Ev.rounds ?_
  have hx : x.length ≤ 4611686018427387904 := by omega
  unfold laws_FnMaps.f
  refine Ev.bind0 (a := decide ((x.length : Int) > 1048576)) rfl ?_
  by_cases hbig : (x.length : Int) > 1048576
  · rw [decide_eq_true hbig]
    exact Ev.ifpos rfl (Ev.now _)
  rw [decide_eq_false hbig]
  obtain ⟨n, ls, ts, e1, hls, hts, hsh⟩ := draw_fits x hx
  have hr : ∀ t ∈ ts, t.f0.length ≤ 1048576 := fun t ht => by have := hsh t ht; omega
  have a1 := impl_areTraces ts (by omega) hr
  have a2 := spec_areTraces ts (by omega) hr
  have hN := impl_net n ls (by omega)
  refine Ev.ifneg Bool.false_ne_true (Ev.bind e1 ?_)
  cases hT : areTraces ts with
  | false =>
    obtain ⟨m1, m2⟩ := maps_no n ls ts (by omega) (by omega) hr hT
    rw [hT] at a1 a2
    exact Ev.bind m1 (Ev.bind a1 (Ev.bind a2 (Ev.ifneg (by decide) (Ev.bind a1 (Ev.ifneg (by decide) (Ev.ifpos rfl (Ev.bind m2 (Ev.now _))))))))
  | true =>
    obtain ⟨M, m1, m2, m3, m4⟩ := maps_yes n ls ts (by omega) (by omega) hr hT
    rw [hT] at a1 a2
    have hA := hT
    unfold areTraces at hA
    rw [Bool.and_eq_true, decide_eq_true_eq] at hA
    have hh : ∀ t ∈ ts, t.f0.length ≤ 8 := fun t ht => (okTrace_hopsM t (List.all_eq_true.1 hA.1 t ht)).1
    have hG := totalM_le ts 0 0 hh (by omega) (by omega) (by omega)
    refine Ev.bind m1 (Ev.bind a1 (Ev.bind a2 (Ev.ifneg (by decide) (Ev.bind a1 (Ev.ifpos rfl (Ev.bind hN ?_))))))
    refine map_rounds ts hA.2 M m3 n ls hh _ m4 (hop_rounds ts hA.2 M n ls _ hh m2 hG ts.length 0 0 (by omega) rfl) M.length 0 (isNet n ls) (by omega) rfl
end Go.Proofs.Ytgghhcifkgdpeaa.Pure
