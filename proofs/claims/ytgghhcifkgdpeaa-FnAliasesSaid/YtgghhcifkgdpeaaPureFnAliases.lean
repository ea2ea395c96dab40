/- The statement: in the groups that the program makes of drawn replies no group is empty, each may be one router, each rises, has addresses of the replies and none that surely are apart; together they have each address once. No condition. -/
import Derived.Test.YtgghhcifkgdpeaaWWords
import Derived.Test.YtgghhcifkgdpeaaWLast
import Derived.Test.YtgghhcifkgdpeaaWMore
import Derived.Test.YtgghhcifkgdpeaaZFirst
import Derived.Test.YtgghhcifkgdpeaaZ0
import Derived.Test.YtgghhcifkgdpeaaZ7
import Derived.Test.YtgghhcifkgdpeaaZ10
import Derived.Test.YtgghhcifkgdpeaaZ2
import Derived.Test.YtgghhcifkgdpeaaZ5
import Derived.Test.YtgghhcifkgdpeaaZ3
import Derived.Test.YtgghhcifkgdpeaaZ4
import Derived.Test.YtgghhcifkgdpeaaZ8
import Derived.Test.YtgghhcifkgdpeaaZ9
import Derived.Test.YtgghhcifkgdpeaaZDefFnAliases
import Derived.Test.YtgghhcifkgdpeaaZ11
/- Plain lemmas for what the printed functions come to: loops that go up, indices that do not wrap, reads. No condition. -/
namespace Go.Proofs.Ytgghhcifkgdpeaa.Pure
open Go.RowKit Go.Proofs.YtgghhcifkgdpeaaW.PrintWords Go.Proofs.YtgghhcifkgdpeaaW.PrintLast Go.Proofs.YtgghhcifkgdpeaaW.PrintMore

/-- A loop that goes up to n: at each index it comes to R, if it does so one index further. -/
theorem Ev.up {σ ρ : Type} (n : Nat) (G : Nat → σ → Nat → Option ρ) (R : Nat → σ → ρ) (Inv : Nat → σ → Prop) (hend : ∀ s, Inv n s → Ev (G n s) (R n s))
    (hstep : ∀ i s, i < n → Inv i s → (∀ s', Inv (i + 1) s' → Ev (G (i + 1) s') (R (i + 1) s')) → Ev (G i s) (R i s)) : ∀ i s, i ≤ n → Inv i s → Ev (G i s) (R i s) := by
  have key : ∀ d i s, i + d = n → Inv i s → Ev (G i s) (R i s) := by
    intro d
    induction d with
    | zero => intro i s h hi; obtain rfl : i = n := by omega
              exact hend s hi
    | succ d ih => intro i s h hi; exact hstep i s (by omega) hi (fun s' hs' => ih (i + 1) s' (by omega) hs')
  intro i s h hi
  exact key (n - i) i s (by omega) hi

/-- The same without a state. -/
theorem Ev.up0 {ρ : Type} (n : Nat) (G : Nat → Nat → Option ρ) (R : Nat → ρ) (hend : Ev (G n) (R n)) (hstep : ∀ i, i < n → Ev (G (i + 1)) (R (i + 1)) → Ev (G i) (R i)) : ∀ i, i ≤ n → Ev (G i) (R i) := by
  intro i h
  exact Ev.up n (fun i (_ : Unit) => G i) (fun i _ => R i) (fun _ _ => True) (fun _ _ => hend) (fun i s hi _ hn => hstep i hi (hn () trivial)) i () h trivial

theorem Ev.det {α : Type} {g : Nat → Option α} {r q : α} (h : Ev g r) (h' : Ev g q) : r = q := by
  obtain ⟨K, h⟩ := h
  obtain ⟨K', h'⟩ := h'
  have a := h (max K K') (by omega)
  have b := h' (max K K') (by omega)
  rw [a] at b
  exact Option.some.inj b

theorem Ev.const {α : Type} {g : Nat → Option α} {r : α} (h : ∀ k, g k = some r) : Ev g r := ⟨0, fun k _ => h k⟩

theorem Ev.ifpos {α : Type} {c : Prop} [Decidable c] {g f : Nat → Option α} {r : α} (hc : c) (h : Ev g r) : Ev (fun k => if c then g k else f k) r := Ev.congr (fun k => by rw [if_pos hc]) h
theorem Ev.ifneg {α : Type} {c : Prop} [Decidable c] {g f : Nat → Option α} {r : α} (hc : ¬ c) (h : Ev f r) : Ev (fun k => if c then g k else f k) r := Ev.congr (fun k => by rw [if_neg hc]) h
theorem Ev.pure {α : Type} {a r : α} (h : a = r) : Ev (fun _ => some a) r := by subst h; exact Ev.now _

/-- A call that needs no rounds. -/
theorem Ev.bind0 {α β : Type} {g : Option α} {f : Nat → α → Option β} {a : α} {r : β} (h : g = some a) (k : Ev (fun n => f n a) r) : Ev (fun n => g.bind (f n)) r :=
  Ev.congr (fun n => by rw [h]; rfl) k

theorem wrap_in {n : Int} (h0 : -9223372036854775808 ≤ n) (h1 : n ≤ 9223372036854775807) : wrap64 n = n := by unfold wrap64; omega
theorem wrap_succ {i : Nat} (h : i < 9223372036854775807) : wrap64 ((i : Int) + 1) = ((i + 1 : Nat) : Int) := by unfold wrap64; omega

theorem rd_nat (xs : List Int) (i : Nat) : rd xs (i : Int) = xs.getD i 0 := by unfold rd; rw [Int.toNat_natCast]
theorem rd_get (xs : List Int) (i : Nat) (h : i < xs.length) : rd xs (i : Int) = xs[i] := by rw [rd_nat, List.getD_eq_getElem?_getD, List.getElem?_eq_getElem h]; rfl
theorem getD_get {α : Type} (xs : List α) (i : Nat) (z : α) (h : i < xs.length) : xs.getD (i : Int).toNat z = xs[i] := by rw [Int.toNat_natCast, List.getD_eq_getElem?_getD, List.getElem?_eq_getElem h]; rfl

theorem drop_get {α : Type} (xs : List α) (i : Nat) (h : i < xs.length) : xs.drop i = xs[i] :: xs.drop (i + 1) := List.drop_eq_getElem_cons h

theorem take_set_self {α : Type} (s : List α) (i : Nat) (a : α) : (s.set i a).take i = s.take i := by
  apply List.ext_getElem?
  intro j
  by_cases h : j < i
  · rw [List.getElem?_take, List.getElem?_take, if_pos h, if_pos h, List.getElem?_set_ne (by omega)]
  · rw [List.getElem?_take, List.getElem?_take, if_neg h, if_neg h]

/-- A loop that copies, element by element. -/
theorem copy_loop {α β : Type} (l : List α) (f : α → β) (G : Nat → List β → Nat → Option (List β)) (hend : ∀ s : List β, Ev (G l.length s) s)
    (hstep : ∀ i (hi : i < l.length) (s r : List β), s.length = l.length → Ev (G (i + 1) (s.set i (f l[i]))) r → Ev (G i s) r) (s : List β) (hs : s.length = l.length) : Ev (G 0 s) (l.map f) := by
  have key := Ev.up l.length G (fun i s => s.take i ++ (l.map f).drop i) (fun _ s => s.length = l.length)
    (fun s hs => by
      have e : s.take l.length ++ (l.map f).drop l.length = s := by rw [List.take_of_length_le (by omega), List.drop_of_length_le (by simp), List.append_nil]
      simp only [e]
      exact hend s)
    (fun i s hi hs ih => by
      have h1 := ih (s.set i (f l[i])) (by simpa using hs)
      have e : (s.set i (f l[i])).take (i + 1) ++ (l.map f).drop (i + 1) = s.take i ++ (l.map f).drop i := by
        rw [List.take_succ_eq_append_getElem (by simp; omega), List.drop_eq_getElem_cons (l := l.map f) (i := i) (by simpa using hi), take_set_self]
        simp
      simp only [e] at h1
      exact hstep i hi s _ hs h1) 0 s (Nat.zero_le _) hs
  simpa using key

/-- A loop that takes off what the elements weigh. -/
theorem sz_loop {α : Type} (l : List α) (sm : α → Prop) (G : Nat → Int → Nat → Option Int) (hend : ∀ s : Int, Ev (G l.length s) s)
    (hstep : ∀ i (hi : i < l.length) (s : Int), 0 ≤ s → s ≤ 1048576 → Ev (G i s) (-1) ∨ ∃ q : Int, 0 ≤ q ∧ q ≤ s ∧ sm l[i] ∧ ∀ r, Ev (G (i + 1) q) r → Ev (G i s) r) (s : Int) (h0 : 0 ≤ s) (h1 : s ≤ 1048576) :
    ∃ r : Int, Ev (G 0 s) r ∧ (0 ≤ r → r ≤ s ∧ ∀ x ∈ l, sm x) := by
  have key : ∀ d i (s : Int), i + d = l.length → 0 ≤ s → s ≤ 1048576 → ∃ r : Int, Ev (G i s) r ∧ (0 ≤ r → r ≤ s ∧ ∀ x ∈ l.drop i, sm x) := by
    intro d
    induction d with
    | zero =>
      intro i s hi h0 h1
      obtain rfl : i = l.length := by omega
      exact ⟨s, hend s, fun _ => ⟨Int.le_refl _, by simp⟩⟩
    | succ d ih =>
      intro i s hi h0 h1
      have hlt : i < l.length := by omega
      rcases hstep i hlt s h0 h1 with h | ⟨q, hq0, hq1, hsm, hnext⟩
      · exact ⟨-1, h, fun h => by omega⟩
      · obtain ⟨r, hr, hr2⟩ := ih (i + 1) q (by omega) hq0 (by omega)
        refine ⟨r, hnext r hr, fun h => ⟨by have := (hr2 h).1; omega, ?_⟩⟩
        rw [drop_get l i hlt]
        intro x hx
        rcases List.mem_cons.1 hx with rfl | hx
        · exact hsm
        · exact (hr2 h).2 x hx
  simpa using key l.length 0 s (by omega) h0 h1

/-- What a mark leaves: element i holds the numbers from m + c * i on. -/
def marked {α : Type} (c : Nat) (mk : Int → α) (m : Int) (n : Nat) : List α := (List.range n).map fun i => mk (m + ((c * i : Nat) : Int))
theorem marked_length {α : Type} (c : Nat) (mk : Int → α) (m : Int) (n : Nat) : (marked c mk m n).length = n := by simp [marked]
theorem marked_get {α : Type} (c : Nat) (mk : Int → α) (m : Int) (n i : Nat) (h : i < (marked c mk m n).length) : (marked c mk m n)[i] = mk (m + ((c * i : Nat) : Int)) := by simp [marked]
theorem marked_succ {α : Type} (c : Nat) (mk : Int → α) (m : Int) (n : Nat) : marked c mk m (n + 1) = mk m :: marked c mk (m + (c : Int)) n := by
  unfold marked
  rw [List.range_succ_eq_map, List.map_cons, List.map_map]
  congr 1
  · simp
  · apply List.map_congr_left
    intro i _
    show mk _ = mk _
    congr 1
    rw [Nat.mul_succ]
    omega

theorem mark_loop {α : Type} (c : Nat) (mk : Int → α) (n : Nat) (G : Nat → List α → Int → Nat → Option (Int × List α)) (hend : ∀ (s : List α) (m : Int), s.length = n → Ev (G n s m) (m, s))
    (hstep : ∀ i (s : List α) (m : Int) r, i < n → s.length = n → 0 ≤ m → m ≤ 4611686018427387904 → Ev (G (i + 1) (s.set i (mk m)) (m + (c : Int))) r → Ev (G i s m) r)
    (s : List α) (m : Int) (hs : s.length = n) (h0 : 0 ≤ m) (h1 : m + ((c * n : Nat) : Int) ≤ 4611686018427387904) : Ev (G 0 s m) (m + ((c * n : Nat) : Int), marked c mk m n) := by
  have key : ∀ d i (s : List α) (m : Int), i + d = n → s.length = n → 0 ≤ m → m + ((c * d : Nat) : Int) ≤ 4611686018427387904 → Ev (G i s m) (m + ((c * d : Nat) : Int), s.take i ++ marked c mk m d) := by
    intro d
    induction d with
    | zero =>
      intro i s m hi hs h0 h1
      obtain rfl : i = n := by omega
      have e : s.take i ++ marked c mk m 0 = s := by rw [List.take_of_length_le (by omega)]; simp [marked]
      rw [e]
      simpa using hend s m hs
    | succ d ih =>
      intro i s m hi hs h0 h1
      rw [Nat.mul_succ] at h1
      have h2 := ih (i + 1) (s.set i (mk m)) (m + (c : Int)) (by omega) (by simpa using hs) (by omega) (by omega)
      have e : (s.set i (mk m)).take (i + 1) ++ marked c mk (m + (c : Int)) d = s.take i ++ marked c mk m (d + 1) := by
        rw [List.take_succ_eq_append_getElem (by simp; omega), marked_succ, take_set_self]
        simp
      rw [e] at h2
      have e2 : m + (c : Int) + ((c * d : Nat) : Int) = m + ((c * (d + 1) : Nat) : Int) := by rw [Nat.mul_succ]; omega
      rw [e2] at h2
      exact hstep i s m _ (by omega) hs h0 (by omega) h2
  have := key n 0 s m (by omega) hs h0 h1
  simpa using this

theorem held_loop (c : Nat) (n : Nat) (m0 : Int) (G : Nat → Int → Nat → Option Int) (hend : ∀ m : Int, Ev (G n m) m)
    (hstep : ∀ i r, i < n → Ev (G (i + 1) (m0 + ((c * i : Nat) : Int) + (c : Int))) r → Ev (G i (m0 + ((c * i : Nat) : Int))) r) : Ev (G 0 m0) (m0 + ((c * n : Nat) : Int)) := by
  have key := Ev.up0 n (fun i => G i (m0 + ((c * i : Nat) : Int))) (fun _ => m0 + ((c * n : Nat) : Int)) (hend _)
    (fun i hi ih => hstep i _ hi (by
      have e : m0 + ((c * i : Nat) : Int) + (c : Int) = m0 + ((c * (i + 1) : Nat) : Int) := by rw [Nat.mul_succ]; omega
      rw [e]
      exact ih)) 0 (Nat.zero_le _)
  simpa using key

end Go.Proofs.Ytgghhcifkgdpeaa.Pure
/- Plain lemma: a loop that goes on while the elements are well. No condition. -/
namespace Go.Proofs.Ytgghhcifkgdpeaa.Pure
open Go.RowKit Go.Proofs.YtgghhcifkgdpeaaW.PrintWords

theorem all_step {α : Type} (p : α → Bool) (xs : List α) (G : Nat → Nat → Option Bool) (r0 : Bool) (hend : Ev (G xs.length) r0) (hstep : ∀ i (hi : i < xs.length) r, Ev (G (i + 1)) r → Ev (G i) (p xs[i] && r)) : Ev (G 0) (xs.all p && r0) := by
  have key := Ev.up0 xs.length G (fun i => (xs.drop i).all p && r0)
    (by rw [List.drop_of_length_le (Nat.le_refl _)]; simpa using hend)
    (fun i hi ih => by
      rw [drop_get xs i hi, List.all_cons, Bool.and_assoc]
      exact hstep i hi _ ih) 0 (Nat.zero_le _)
  simpa using key

/-- The same over the places. -/
theorem all_places (n : Nat) (p : Nat → Bool) (G : Nat → Nat → Option Bool) (r0 : Bool) (hend : Ev (G n) r0) (hstep : ∀ i, i < n → ∀ r, Ev (G (i + 1)) r → Ev (G i) (p i && r)) : Ev (G 0) ((List.range n).all p && r0) := by
  refine all_step p (List.range n) G r0 (by rw [List.length_range]; exact hend) (fun i hi r hr => ?_)
  rw [List.getElem_range]
  exact hstep i (by simpa using hi) r hr

end Go.Proofs.Ytgghhcifkgdpeaa.Pure
/- Plain lemmas: loops that search. No condition. -/
namespace Go.Proofs.Ytgghhcifkgdpeaa.Pure
open Go.RowKit Go.Proofs.Ytgghhcifkgdpeaa.Z Go.Proofs.YtgghhcifkgdpeaaW.PrintWords

theorem firstAt_cons {α : Type} (p : α → Bool) (x : α) (xs : List α) : firstAt p (x :: xs) = if p x = true then 0 else if firstAt p xs < 0 then -1 else firstAt p xs + 1 := by
  unfold firstAt
  rw [List.findIdx_cons]
  cases h : p x
  · simp only [cond_false, List.length_cons, Bool.false_eq_true, if_false]
    by_cases h2 : xs.findIdx p < xs.length
    · rw [if_pos (by omega), if_pos h2, if_neg (by omega)]
      omega
    · rw [if_neg (by omega), if_neg h2]
      simp
  · simp

/-- A loop that searches from the front comes to the first place. -/
theorem first_loop {α : Type} (p : α → Bool) (xs : List α) (G : Nat → Nat → Option Int) (hend : Ev (G xs.length) (-1)) (hhit : ∀ i (hi : i < xs.length), p xs[i] = true → Ev (G i) (i : Int))
    (hmiss : ∀ i (hi : i < xs.length) r, p xs[i] = false → Ev (G (i + 1)) r → Ev (G i) r) : Ev (G 0) (firstAt p xs) := by
  have key := Ev.up0 xs.length G (fun i => if firstAt p (xs.drop i) < 0 then -1 else firstAt p (xs.drop i) + (i : Int))
    (by rw [List.drop_of_length_le (Nat.le_refl _)]; simpa [firstAt] using hend)
    (fun i hi ih => by
      rw [drop_get xs i hi, firstAt_cons]
      cases h : p xs[i]
      · simp only [Bool.false_eq_true, if_false]
        refine hmiss i hi _ h ?_
        by_cases h2 : firstAt p (xs.drop (i + 1)) < 0
        · rw [if_pos h2, if_pos (by omega)]
          rwa [if_pos h2] at ih
        · rw [if_neg h2, if_neg (by omega)]
          rw [if_neg h2] at ih
          have e : firstAt p (xs.drop (i + 1)) + ((i + 1 : Nat) : Int) = firstAt p (xs.drop (i + 1)) + 1 + (i : Int) := by omega
          rwa [e] at ih
      · simp only [if_true]
        rw [if_neg (by omega)]
        have := hhit i hi h
        simpa using this) 0 (Nat.zero_le _)
  rw [List.drop_zero] at key
  by_cases h : firstAt p xs < 0
  · have e : firstAt p xs = -1 := by
      unfold firstAt at h ⊢
      split at h
      · omega
      · rename_i h2; rw [if_neg h2]
    rw [if_pos h] at key
    rw [e]
    exact key
  · rw [if_neg h] at key
    simpa using key

/-- A loop that asks whether one holds. -/
theorem any_loop {α : Type} (p : α → Bool) (xs : List α) (G : Nat → Nat → Option Bool) (hend : Ev (G xs.length) false) (hhit : ∀ i (hi : i < xs.length), p xs[i] = true → Ev (G i) true)
    (hmiss : ∀ i (hi : i < xs.length) r, p xs[i] = false → Ev (G (i + 1)) r → Ev (G i) r) : Ev (G 0) (xs.any p) := by
  have key := Ev.up0 xs.length G (fun i => (xs.drop i).any p)
    (by rw [List.drop_of_length_le (Nat.le_refl _)]; simpa using hend)
    (fun i hi ih => by
      rw [drop_get xs i hi, List.any_cons]
      cases h : p xs[i]
      · simpa using hmiss i hi _ h ih
      · simpa using hhit i hi h) 0 (Nat.zero_le _)
  simpa using key

/-- A loop that asks whether all hold. -/
theorem all_loop {α : Type} (p : α → Bool) (xs : List α) (G : Nat → Nat → Option Bool) (r0 : Bool) (hend : Ev (G xs.length) r0) (hbad : ∀ i (hi : i < xs.length), p xs[i] = false → Ev (G i) false)
    (hgood : ∀ i (hi : i < xs.length) r, p xs[i] = true → Ev (G (i + 1)) r → Ev (G i) r) : Ev (G 0) (xs.all p && r0) := by
  have key := Ev.up0 xs.length G (fun i => (xs.drop i).all p && r0)
    (by rw [List.drop_of_length_le (Nat.le_refl _)]; simpa using hend)
    (fun i hi ih => by
      rw [drop_get xs i hi, List.all_cons]
      cases h : p xs[i]
      · simpa using hbad i hi h
      · simpa using hgood i hi _ h ih) 0 (Nat.zero_le _)
  simpa using key

end Go.Proofs.Ytgghhcifkgdpeaa.Pure
/- Plain lemma: the reference's search in a list of numbers. Condition: the list is not longer than a list can be. -/
namespace Go.Proofs.Ytgghhcifkgdpeaa.Pure
open Go.RowKit Go.Proofs.Ytgghhcifkgdpeaa.Z Go.Proofs.YtgghhcifkgdpeaaW.PrintWords

end Go.Proofs.Ytgghhcifkgdpeaa.Pure
/- Plain lemma: the standard search in a list of numbers. Condition: the list is not longer than a list can be. -/
namespace Go.Proofs.Ytgghhcifkgdpeaa.Pure
open Go.RowKit Go.Proofs.Ytgghhcifkgdpeaa.Z Go.Proofs.YtgghhcifkgdpeaaW.PrintWords

theorem impl_index (l : List Int) (x : Int) (hl : l.length ≤ 9223372036854775806) : Ev (fun k => slices_Index_Sint.f k l x) (firstAt (fun y => decide (y = x)) l) := by
  unfold slices_Index_Sint.f
  refine first_loop (fun y => decide (y = x)) l (fun i k => slices_Index_Sint.l0 k l x (l.length : Int) (i : Int)) ?_ ?_ ?_
  · refine Ev.step (fun k => by rw [slices_Index_Sint.l0]) ?_
    exact Ev.ifneg (by omega) (Ev.now _)
  · intro i hi h
    refine Ev.step (fun k => by rw [slices_Index_Sint.l0]) ?_
    refine Ev.ifpos (by omega) (Ev.ifpos (by omega) (Ev.ifpos (by omega) ?_))
    rw [rd_get l i hi]
    exact Ev.ifpos (of_decide_eq_true h).symm (Ev.now _)
  · intro i hi r h hr
    refine Ev.step (fun k => by rw [slices_Index_Sint.l0]) ?_
    refine Ev.ifpos (by omega) (Ev.ifpos (by omega) (Ev.ifpos (by omega) ?_))
    rw [rd_get l i hi, wrap_succ (by omega)]
    exact Ev.ifneg (fun e => of_decide_eq_false h e.symm) hr

theorem impl_has (l : List Int) (x : Int) (hl : l.length ≤ 9223372036854775806) : Ev (fun k => slices_Contains_Sint.f k l x) (l.any fun y => decide (y = x)) := by
  unfold slices_Contains_Sint.f
  refine Ev.bind (impl_index l x hl) (Ev.pure ?_)
  exact firstAt_any _ _

end Go.Proofs.Ytgghhcifkgdpeaa.Pure
/- Plain lemma: what the reference's range test answers. No condition. -/
namespace Go.Proofs.Ytgghhcifkgdpeaa.Pure
open Go.RowKit Go.Proofs.Ytgghhcifkgdpeaa.Z Go.Proofs.YtgghhcifkgdpeaaW.PrintWords

theorem spec_in (n a b : Int) : spec_l1In.f n a b = some (decide (a ≤ n ∧ n ≤ b)) := by
  unfold spec_l1In.f
  by_cases h : a ≤ n <;> simp [h]

end Go.Proofs.Ytgghhcifkgdpeaa.Pure
/- Plain lemma: what the reference's AreReplies answers. Condition: the list is not longer than a list can be. -/
namespace Go.Proofs.Ytgghhcifkgdpeaa.Pure
open Go.RowKit Go.Proofs.Ytgghhcifkgdpeaa.Z Go.Proofs.YtgghhcifkgdpeaaW.PrintWords

abbrev Rp := S68
theorem rdRp (xs : List Rp) (i : Nat) (h : i < xs.length) : rd_T68 xs (i : Int) = xs[i] := getD_get xs i _ h

theorem spec_stamp (n : Int) : spec_l9Stamp.f n = some (decide (0 ≤ n ∧ n ≤ 100000)) := by
  unfold spec_l9Stamp.f
  rw [spec_in]
  rfl

theorem spec_replies_in (l : List Rp) (i : Nat) (hi : i < l.length) (hl : l.length ≤ 9223372036854775806) (r : Bool) (hr : Ev (fun k => spec_AreReplies.l0 k l ((i + 1 : Nat) : Int)) r) :
    Ev (fun k => spec_AreReplies.l1 k l (i : Int) 0) (!((l.take i).any (sameTime l[i].f1)) && r) := by
  have htl : (l.take i).length = i := by rw [List.length_take]; omega
  have key := all_loop (fun y => !(sameTime l[i].f1 y)) (l.take i) (fun j k => spec_AreReplies.l1 k l (i : Int) (j : Int)) r ?_ ?_ ?_
  · rw [List.all_eq_not_any_not] at key
    simpa using key
  · rw [htl]
    refine Ev.step (fun k => by rw [spec_AreReplies.l1]) ?_
    refine Ev.ifneg (by omega) ?_
    rw [wrap_succ (by omega)]
    exact hr
  · intro j hj h
    rw [htl] at hj
    refine Ev.step (fun k => by rw [spec_AreReplies.l1]) ?_
    refine Ev.ifpos (by omega) (Ev.ifpos (by omega) (Ev.ifpos (by omega) (Ev.ifpos (by omega) (Ev.ifpos (by omega) ?_))))
    rw [rdRp l j (by omega), rdRp l i hi]
    refine Ev.ifpos ?_ (Ev.now _)
    simpa [sameTime] using h
  · intro j hj r h hr
    rw [htl] at hj
    refine Ev.step (fun k => by rw [spec_AreReplies.l1]) ?_
    refine Ev.ifpos (by omega) (Ev.ifpos (by omega) (Ev.ifpos (by omega) (Ev.ifpos (by omega) (Ev.ifpos (by omega) ?_))))
    rw [rdRp l j (by omega), rdRp l i hi, wrap_succ (by omega)]
    refine Ev.ifneg ?_ hr
    simpa [sameTime] using h

theorem spec_replies_from (l : List Rp) (hl : l.length ≤ 9223372036854775806) : ∀ i, i ≤ l.length → Ev (fun k => spec_AreReplies.l0 k l (i : Int)) (((List.range l.length).drop i).all (replyOk l) && decide (l.length ≤ 12)) := by
  refine Ev.up0 l.length (fun i k => spec_AreReplies.l0 k l (i : Int)) (fun i => ((List.range l.length).drop i).all (replyOk l) && decide (l.length ≤ 12)) ?_ ?_
  · rw [List.drop_of_length_le (by simp)]
    refine Ev.step (fun k => by rw [spec_AreReplies.l0]) ?_
    refine Ev.ifneg (by omega) (Ev.pure ?_)
    simp only [List.all_nil, Bool.true_and]
    exact decide_eq_decide.2 (by omega)
  · intro i hi ih
    rw [drop_get _ i (by simpa using hi), List.all_cons, List.getElem_range, Bool.and_assoc]
    generalize (((List.range l.length).drop (i + 1)).all (replyOk l) && decide (l.length ≤ 12)) = r at ih ⊢
    have hin := spec_replies_in l i hi hl r ih
    refine Ev.step (fun k => by rw [spec_AreReplies.l0]) ?_
    refine Ev.ifpos (by omega) (Ev.ifpos (by omega) ?_)
    unfold replyOk okReply
    rw [rdRp l i hi]
    refine Ev.bind0 (spec_in _ _ _) ?_
    cases h1 : decide (0 ≤ l[i].f0 ∧ l[i].f0 ≤ 20)
    · refine Ev.ifneg (by decide) (Ev.step (fun k => by rw [spec_AreReplies.j1]) (Ev.ifpos rfl (Ev.pure (by simp))))
    · refine Ev.ifpos rfl (Ev.bind0 (spec_stamp _) ?_)
      cases h2 : decide (0 ≤ l[i].f1 ∧ l[i].f1 ≤ 100000)
      · refine Ev.ifneg (by decide) (Ev.step (fun k => by rw [spec_AreReplies.j1]) (Ev.ifpos rfl (Ev.pure (by simp))))
      · refine Ev.ifpos rfl (Ev.bind0 (spec_stamp _) ?_)
        cases h3 : decide (0 ≤ l[i].f2 ∧ l[i].f2 ≤ 100000)
        · refine Ev.step (f := fun k => if (!false) = true then some false else spec_AreReplies.l1 k l (i : Int) 0) (fun k => by rw [spec_AreReplies.j1]) ?_
          exact Ev.ifpos rfl (Ev.pure (by simp))
        · refine Ev.step (fun k => by rw [spec_AreReplies.j1]) (Ev.ifneg (by decide) ?_)
          simpa using hin

theorem spec_replies (l : List Rp) (hl : l.length ≤ 9223372036854775806) : Ev (fun k => spec_AreReplies.f k l) (areReplies l) := by
  have key := spec_replies_from l hl 0 (Nat.zero_le _)
  unfold spec_AreReplies.f areReplies
  rw [List.drop_zero] at key
  by_cases h : l.length > 12
  · rw [if_pos h]
    have : decide (l.length ≤ 12) = false := decide_eq_false (by omega)
    rw [this, Bool.and_false] at key
    exact key
  · rw [if_neg h]
    have : decide (l.length ≤ 12) = true := decide_eq_true (by omega)
    rw [this, Bool.and_true] at key
    exact key

end Go.Proofs.Ytgghhcifkgdpeaa.Pure
/- Plain lemma: what the reference's and the program's MayBeOne answer, and that it is one. Condition: the lists are not longer than the law's can be. -/
namespace Go.Proofs.Ytgghhcifkgdpeaa.Pure
open Go.RowKit Go.Proofs.Ytgghhcifkgdpeaa.Z Go.Proofs.YtgghhcifkgdpeaaW.PrintWords

def hasA (ads : List Int) (x : Rp) : Bool := ads.any fun y => decide (y = x.f0)
def pairOk (ads : List Int) (x y : Rp) : Bool := !(hasA ads x && (hasA ads y && (decide (x.f1 < y.f1) && decide (x.f2 ≥ y.f2))))
def areR (l : List Rp) : Bool := (List.range l.length).all (replyOk l) && decide (l.length ≤ 12)
theorem areReplies_eq (l : List Rp) : areReplies l = areR l := by
  unfold areReplies areR
  split
  · rw [decide_eq_false (by omega), Bool.and_false]
  · rw [decide_eq_true (by omega), Bool.and_true]
def mayBe (l : List Rp) (ads : List Int) : Bool := l.all (fun x => l.all (pairOk ads x)) && areR l

theorem keep_ev (ads : List Int) (ha : ads.length ≤ 9223372036854775806) : ∀ l : List Rp, Ev (fun k => keepO k ads l) (l.filter (hasA ads))
  | [] => Ev.now _
  | x :: l => by
    refine Ev.bind (impl_has ads x.f0 ha) (Ev.bind (keep_ev ads ha l) (Ev.pure ?_))
    rw [List.filter_cons]
    rfl

theorem impl_mayBe0 (l : List Rp) (ads : List Int) (ha : ads.length ≤ 9223372036854775806) : Ev (fun k => impl_MayBeOne.f k l ads) (areR l && idsRise (sortT (l.filter (hasA ads)))) := by
  unfold impl_MayBeOne.f
  rw [areReplies_eq]
  cases areR l
  · exact Ev.ifneg (by decide) (Ev.now _)
  · exact Ev.ifpos rfl (Ev.bind (keep_ev ads ha l) (Ev.now _))

theorem times_apart {l : List Rp} (h : areR l = true) : l.Pairwise (fun x y => x.f1 ≠ y.f1) := by
  unfold areR at h
  rw [Bool.and_eq_true, List.all_eq_true] at h
  rw [List.pairwise_iff_getElem]
  intro i j hi hj hij e
  have h2 := h.1 j (List.mem_range.2 hj)
  unfold replyOk at h2
  rw [Bool.and_eq_true, Bool.not_eq_true', List.any_eq_false] at h2
  have hm : l[i] ∈ l.take j := by
    rw [List.mem_take_iff_getElem]
    exact ⟨i, by omega, rfl⟩
  refine h2.2 _ hm ?_
  unfold sameTime
  rw [rdRp l j hj, e]
  exact beq_self_eq_true _

theorem rises (s : List Rp) (h : idsRise s = true) : ∀ (d i : Nat) (hi : i < s.length) (hj : i + d + 1 < s.length), s[i].f2 < s[i + d + 1].f2 := by
  have step : ∀ (i : Nat) (hi : i < s.length) (h2 : i + 1 < s.length), s[i].f2 < s[i + 1].f2 := fun i hi h2 => by
    unfold idsRise at h
    have h3 := List.all_eq_true.1 h (i + 1) (List.mem_range.2 h2)
    unfold idStep at h3
    rw [Nat.add_sub_cancel, rdRp s i hi, rdRp s (i + 1) h2] at h3
    simpa using h3
  intro d
  induction d with
  | zero => intro i hi hj; exact step i hi hj
  | succ d ih =>
    intro i hi hj
    have h1 := ih i hi (by omega)
    have h2 := step (i + d + 1) (by omega) (by omega)
    have e : i + (d + 1) + 1 = i + d + 1 + 1 := by omega
    simp only [e]
    omega

theorem mayBe_core {l s : List Rp} (ads : List Int) (hs : ∀ (i j : Nat) (_hi : i < j) (hj : j < s.length), s[i].f1 ≤ s[j].f1) (ht : s.Pairwise (fun x y => x.f1 ≠ y.f1)) (hmem : ∀ x, x ∈ s ↔ x ∈ l ∧ hasA ads x = true) : idsRise s = l.all (fun x => l.all (pairOk ads x)) := by
  rw [Bool.eq_iff_iff]
  constructor
  · intro hr
    have hr := rises s hr
    rw [List.all_eq_true]
    intro x hx
    rw [List.all_eq_true]
    intro y hy
    unfold pairOk
    rw [Bool.not_eq_true', ← Bool.not_eq_true]
    intro hb
    simp only [Bool.and_eq_true, decide_eq_true_eq] at hb
    obtain ⟨b1, b2, b3, b4⟩ := hb
    obtain ⟨i, hi, rfl⟩ := List.getElem_of_mem ((hmem x).2 ⟨hx, b1⟩)
    obtain ⟨j, hj, rfl⟩ := List.getElem_of_mem ((hmem y).2 ⟨hy, b2⟩)
    rcases Nat.lt_or_ge i j with hij | hij
    · have := hr (j - i - 1) i hi (by omega)
      have e : i + (j - i - 1) + 1 = j := by omega
      simp only [e] at this
      omega
    · rcases Nat.eq_or_lt_of_le hij with e | hlt
      · subst e; omega
      · have := hs j i hlt hi
        omega
  · intro ha
    refine may_ends s (fun i h1 h2 => ?_)
    have h0 : i - 1 < s.length := by omega
    rw [rdRp s (i - 1) h0, rdRp s i h2]
    have hx := (hmem s[i - 1]).1 (List.getElem_mem h0)
    have hy := (hmem s[i]).1 (List.getElem_mem h2)
    have hle := hs (i - 1) i (by omega) h2
    have hne := List.pairwise_iff_getElem.1 ht (i - 1) i h0 h2 (by omega)
    have hq := List.all_eq_true.1 (List.all_eq_true.1 ha _ hx.1) _ hy.1
    unfold pairOk at hq
    rw [hx.2, hy.2, Bool.true_and, Bool.true_and, decide_eq_true (by omega), Bool.true_and, Bool.not_eq_true', decide_eq_false_iff_not] at hq
    omega

theorem mayBe_sorted {l : List Rp} (ads : List Int) (h : areR l = true) : idsRise (sortT (l.filter (hasA ads))) = l.all (fun x => l.all (pairOk ads x)) := by
  obtain ⟨hp, hs⟩ := sort_facts (l.filter (hasA ads))
  exact mayBe_core ads hs ((hp.pairwise_iff (fun h e => h e.symm)).2 ((times_apart h).filter _)) (fun x => by rw [hp.mem_iff, List.mem_filter])

theorem impl_mayBe (l : List Rp) (ads : List Int) (ha : ads.length ≤ 9223372036854775806) : Ev (fun k => impl_MayBeOne.f k l ads) (mayBe l ads) := by
  have h := impl_mayBe0 l ads ha
  have e : (areR l && idsRise (sortT (l.filter (hasA ads)))) = mayBe l ads := by
    unfold mayBe
    cases hr : areR l with
    | false => simp
    | true => rw [mayBe_sorted ads hr, Bool.and_true, Bool.true_and]
  rw [e] at h
  exact h

end Go.Proofs.Ytgghhcifkgdpeaa.Pure
/- Plain laws of the ordered list without repeats ('sortedF'): it rises strictly, it has the members of the list, it is the only such list; it is as long as the list if and only if the list has no repeats. No condition. -/
namespace Go.Proofs.Ytgghhcifkgdpeaa.Pure
open Go.RowKit Go.Proofs.Ytgghhcifkgdpeaa.Z Go.Proofs.YtgghhcifkgdpeaaW.PrintWords

theorem ms_perm (l : List Int) : (l.mergeSort fun x y => decide (x ≤ y)).Perm l := List.mergeSort_perm l _
theorem ms_pair (l : List Int) : (l.mergeSort fun x y => decide (x ≤ y)).Pairwise (fun x y => x ≤ y) := by
  have h := List.pairwise_mergeSort (le := fun x y : Int => decide (x ≤ y)) (fun a b c h1 h2 => by simp only [decide_eq_true_eq] at *; omega) (fun a b => by simp only [Bool.or_eq_true, decide_eq_true_eq]; omega) l
  exact h.imp (fun h => by simpa using h)

theorem getB (zs : List Int) (j : Nat) (h : j < zs.length) : zs.toArray[j]! = zs[j] := by simp [h]
theorem getB' (zs : List Int) (j : Nat) : zs.toArray[j]! = zs.getD j 0 := by
  by_cases h : j < zs.length
  · rw [getB zs j h, List.getD_eq_getElem?_getD, List.getElem?_eq_getElem h]; rfl
  · simp [h]

theorem keep_iff (zs : List Int) (j : Nat) : Lib.keeps zs.toArray j = true ↔ j = 0 ∨ zs.getD j 0 ≠ zs.getD (j - 1) 0 := by
  unfold Lib.keeps
  rw [decide_eq_true_iff, getB', getB']

theorem compact_eq (zs : List Int) : Lib.compact zs = ((List.range zs.length).filter fun j => Lib.keeps zs.toArray j).map (fun j => zs.getD j 0) := by
  unfold Lib.compact Lib.compactUpTo
  apply List.map_congr_left
  intro j _
  exact getB' zs j

theorem compact_mem (zs : List Int) (x : Int) : x ∈ Lib.compact zs ↔ x ∈ zs := by
  rw [compact_eq]
  simp only [List.mem_map, List.mem_filter, List.mem_range]
  constructor
  · rintro ⟨j, ⟨hj, _⟩, rfl⟩
    rw [List.getD_eq_getElem?_getD, List.getElem?_eq_getElem hj]
    exact List.getElem_mem hj
  · intro hx
    obtain ⟨j, hj, e⟩ := List.getElem_of_mem hx
    have key : ∀ j, j < zs.length → zs.getD j 0 = x → ∃ a, (a < zs.length ∧ Lib.keeps zs.toArray a = true) ∧ zs.getD a 0 = x := by
      intro j
      induction j with
      | zero => intro h e; exact ⟨0, ⟨h, (keep_iff zs 0).2 (Or.inl rfl)⟩, e⟩
      | succ j ih =>
        intro h e
        by_cases h2 : zs.getD (j + 1) 0 = zs.getD j 0
        · exact ih (by omega) (by rw [← h2]; exact e)
        · exact ⟨j + 1, ⟨h, (keep_iff zs _).2 (Or.inr h2)⟩, e⟩
    exact key j hj (by rw [List.getD_eq_getElem?_getD, List.getElem?_eq_getElem hj]; exact e)

theorem pair_get {zs : List Int} (h : zs.Pairwise (fun x y => x ≤ y)) {i j : Nat} (hij : i ≤ j) (hj : j < zs.length) : zs.getD i 0 ≤ zs.getD j 0 := by
  rw [List.getD_eq_getElem?_getD, List.getElem?_eq_getElem (by omega), List.getD_eq_getElem?_getD, List.getElem?_eq_getElem hj]
  rcases Nat.lt_or_ge i j with h1 | h1
  · exact (List.pairwise_iff_getElem.1 h) i j (by omega) hj h1
  · obtain rfl : i = j := by omega
    exact Int.le_refl _

theorem compact_rise {zs : List Int} (h : zs.Pairwise (fun x y => x ≤ y)) : (Lib.compact zs).Pairwise (fun x y => x < y) := by
  rw [compact_eq, List.pairwise_map]
  have h2 : ((List.range zs.length).filter fun j => Lib.keeps zs.toArray j).Pairwise (fun a b => a < b) := List.Pairwise.filter _ List.pairwise_lt_range
  refine h2.imp_of_mem (fun {a b} ha hb hab => ?_)
  simp only [List.mem_filter, List.mem_range] at ha hb
  rcases (keep_iff zs b).1 hb.2 with h0 | h0
  · omega
  · have h1 := pair_get h (i := a) (j := b - 1) (by omega) (by omega)
    have h3 := pair_get h (i := b - 1) (j := b) (by omega) hb.1
    omega

theorem sorted_rise (l : List Int) : (sortedF l).Pairwise (fun x y => x < y) := compact_rise (ms_pair l)
theorem sorted_mem (l : List Int) (x : Int) : x ∈ sortedF l ↔ x ∈ l := (compact_mem _ x).trans (ms_perm l).mem_iff

/-- Two lists that rise strictly and have the same members are one. -/
theorem rise_ext : ∀ {l m : List Int}, l.Pairwise (fun x y => x < y) → m.Pairwise (fun x y => x < y) → (∀ x, x ∈ l ↔ x ∈ m) → l = m
  | [], [], _, _, _ => rfl
  | [], b :: m, _, _, h => absurd ((h b).2 (List.mem_cons_self ..)) (by simp)
  | a :: l, [], _, _, h => absurd ((h a).1 (List.mem_cons_self ..)) (by simp)
  | a :: l, b :: m, hl, hm, h => by
    rw [List.pairwise_cons] at hl hm
    have e : a = b := by
      have h1 := (h a).1 (List.mem_cons_self ..)
      have h2 := (h b).2 (List.mem_cons_self ..)
      rcases List.mem_cons.1 h1 with h1 | h1
      · exact h1
      · rcases List.mem_cons.1 h2 with h2 | h2
        · exact h2.symm
        · have := hm.1 a h1
          have := hl.1 b h2
          omega
    subst e
    rw [rise_ext hl.2 hm.2 (fun x => ?_)]
    constructor
    · intro hx
      rcases List.mem_cons.1 ((h x).1 (List.mem_cons_of_mem _ hx)) with h1 | h1
      · subst h1
        exact absurd (hl.1 _ hx) (by omega)
      · exact h1
    · intro hx
      rcases List.mem_cons.1 ((h x).2 (List.mem_cons_of_mem _ hx)) with h1 | h1
      · subst h1
        exact absurd (hm.1 _ hx) (by omega)
      · exact h1

theorem sorted_eq {l m : List Int} (hm : m.Pairwise (fun x y => x < y)) (h : ∀ x, x ∈ m ↔ x ∈ l) : sortedF l = m := rise_ext (sorted_rise l) hm (fun x => (sorted_mem l x).trans (h x).symm)

theorem sorted_len_le (l : List Int) : (sortedF l).length ≤ l.length := by
  have h := Lib.compact_length_le (l.mergeSort fun x y => decide (x ≤ y))
  rw [(ms_perm l).length_eq] at h
  exact h

theorem sorted_len (l : List Int) : (sortedF l).length = l.length ↔ l.Nodup := by
  have hlen : (l.mergeSort fun x y => decide (x ≤ y)).length = l.length := (ms_perm l).length_eq
  rw [← (ms_perm l).nodup_iff]
  constructor
  · intro h
    unfold sortedF at h
    have hall : ∀ j, j < (l.mergeSort fun x y => decide (x ≤ y)).length → Lib.keeps (l.mergeSort fun x y => decide (x ≤ y)).toArray j = true := by
      rw [compact_eq, List.length_map, ← hlen] at h
      have h2 := List.length_filter_eq_length_iff.1 (h.trans List.length_range.symm)
      intro j hj
      exact h2 j (List.mem_range.2 hj)
    have e := Lib.compact_all _ hall
    rw [← e]
    exact (compact_rise (ms_pair l)).imp (fun h => by omega)
  · intro h
    have hs := ms_pair l
    unfold sortedF
    rw [Lib.compact_all, hlen]
    intro j hj
    rw [keep_iff]
    rcases Nat.eq_zero_or_pos j with h0 | h0
    · exact Or.inl h0
    · refine Or.inr ?_
      rw [List.getD_eq_getElem?_getD, List.getElem?_eq_getElem hj, List.getD_eq_getElem?_getD, List.getElem?_eq_getElem (by omega)]
      exact fun e => (List.pairwise_iff_getElem.1 h) (j - 1) j (by omega) hj (by omega) e.symm

end Go.Proofs.Ytgghhcifkgdpeaa.Pure
/- Plain laws: a number put into a rising list at its place; many put in one after another are the ordered list without repeats. No condition. -/
namespace Go.Proofs.Ytgghhcifkgdpeaa.Pure
open Go.RowKit Go.Proofs.Ytgghhcifkgdpeaa.Z Go.Proofs.YtgghhcifkgdpeaaW.PrintWords

/-- The first place whose number is not below x. -/
def posOf (x : Int) : List Int → Nat
  | [] => 0
  | y :: ys => if y < x then posOf x ys + 1 else 0
theorem posOf_le (x : Int) : ∀ l : List Int, posOf x l ≤ l.length
  | [] => Nat.le_refl _
  | y :: ys => by
    have := posOf_le x ys
    rw [posOf, List.length_cons]
    split <;> omega
theorem posOf_lt (x : Int) : ∀ (l : List Int) (p : Nat) (hp : p < l.length), p < posOf x l → l[p] < x
  | [], p, hp, _ => absurd hp (by simp)
  | y :: ys, p, hp, h => by
    rw [posOf] at h
    by_cases c : y < x
    · rw [if_pos c] at h
      match p, hp, h with
      | 0, _, _ => exact c
      | p + 1, hp, h => exact posOf_lt x ys p (by simpa using hp) (by omega)
    · rw [if_neg c] at h; omega
theorem posOf_at (x : Int) : ∀ (l : List Int) (h : posOf x l < l.length), ¬ l[posOf x l] < x
  | [], h => absurd h (by simp)
  | y :: ys, h => by
    by_cases c : y < x
    · have e : posOf x (y :: ys) = posOf x ys + 1 := by rw [posOf, if_pos c]
      simp only [e, List.getElem_cons_succ]
      exact posOf_at x ys (by rw [e] at h; simpa using h)
    · have e : posOf x (y :: ys) = 0 := by rw [posOf, if_neg c]
      simp only [e, List.getElem_cons_zero]
      exact c

/-- x put in at its place, if it is not there. -/
def ins (x : Int) (l : List Int) : List Int := if posOf x l < l.length ∧ l.getD (posOf x l) 0 = x then l else l.take (posOf x l) ++ ([x] ++ l.drop (posOf x l))
def insAll (out : List Int) (l : List Int) : List Int := l.foldl (fun o x => ins x o) out

theorem ins_length (x : Int) (l : List Int) : (ins x l).length ≤ l.length + 1 := by
  unfold ins
  split
  · omega
  · simp; omega

theorem ins_mem (x : Int) (l : List Int) (y : Int) : y ∈ ins x l ↔ y = x ∨ y ∈ l := by
  unfold ins
  split
  · rename_i h
    constructor
    · exact .inr
    · rintro (rfl | h2)
      · have : l.getD (posOf y l) 0 ∈ l := by
          rw [List.getD_eq_getElem?_getD, List.getElem?_eq_getElem h.1]
          exact List.getElem_mem _
        rwa [h.2] at this
      · exact h2
  · have e : y ∈ l ↔ y ∈ l.take (posOf x l) ∨ y ∈ l.drop (posOf x l) := by
      rw [← List.mem_append, List.take_append_drop]
    rw [e]
    simp only [List.mem_append, List.mem_singleton]
    constructor
    · rintro (h | h | h)
      · exact .inr (.inl h)
      · exact .inl h
      · exact .inr (.inr h)
    · rintro (h | h | h)
      · exact .inr (.inl h)
      · exact .inl h
      · exact .inr (.inr h)

theorem ins_rise (x : Int) (l : List Int) (h : l.Pairwise (fun x y => x < y)) : (ins x l).Pairwise (fun x y => x < y) := by
  unfold ins
  split
  · exact h
  · rename_i hc
    have h2 := h
    rw [← List.take_append_drop (posOf x l) l, List.pairwise_append] at h2
    obtain ⟨h3, h4, h5⟩ := h2
    have hlow : ∀ a ∈ l.take (posOf x l), a < x := by
      intro a ha
      obtain ⟨i, hi, rfl⟩ := List.getElem_of_mem ha
      rw [List.length_take] at hi
      rw [List.getElem_take]
      exact posOf_lt x l i (by omega) (by omega)
    have hhigh : ∀ b ∈ l.drop (posOf x l), x < b := by
      intro b hb
      by_cases hl : posOf x l < l.length
      · have h6 : ¬ l[posOf x l] < x := posOf_at x l hl
        have h7 : l[posOf x l] ≠ x := fun e => hc ⟨hl, by rw [List.getD_eq_getElem?_getD, List.getElem?_eq_getElem hl]; exact e⟩
        rw [drop_get l _ hl] at hb h4
        rw [List.pairwise_cons] at h4
        rcases List.mem_cons.1 hb with rfl | hb
        · omega
        · have := h4.1 b hb
          omega
      · rw [List.drop_of_length_le (by omega)] at hb
        exact absurd hb (by simp)
    rw [List.pairwise_append, List.singleton_append, List.pairwise_cons]
    refine ⟨h3, ⟨fun b hb => hhigh b hb, h4⟩, fun a ha b hb => ?_⟩
    rcases List.mem_cons.1 hb with rfl | hb
    · exact hlow a ha
    · exact h5 a ha b hb

theorem insAll_spec : ∀ (l out : List Int), out.Pairwise (fun x y => x < y) → (insAll out l).Pairwise (fun x y => x < y) ∧ ∀ y, y ∈ insAll out l ↔ y ∈ out ∨ y ∈ l
  | [], out, h => ⟨h, fun y => by simp [insAll]⟩
  | x :: l, out, h => by
    obtain ⟨h1, h2⟩ := insAll_spec l (ins x out) (ins_rise x out h)
    refine ⟨h1, fun y => ?_⟩
    show y ∈ insAll (ins x out) l ↔ _
    rw [h2 y, ins_mem, List.mem_cons]
    constructor
    · rintro ((h | h) | h)
      · exact .inr (.inl h)
      · exact .inl h
      · exact .inr (.inr h)
    · rintro (h | h | h)
      · exact .inl (.inr h)
      · exact .inl (.inl h)
      · exact .inr h

theorem insAll_sorted (l : List Int) : insAll [] l = sortedF l := by
  obtain ⟨h1, h2⟩ := insAll_spec l [] List.Pairwise.nil
  exact (sorted_eq h1 (fun x => by rw [h2 x]; simp)).symm

theorem insAll_append (out a b : List Int) : insAll out (a ++ b) = insAll (insAll out a) b := by unfold insAll; rw [List.foldl_append]

/-- A loop that looks for the place. -/
theorem pos_loop {β : Type} (x : Int) (out : List Int) (G : Nat → Nat → Option β) (r : β) (hend : Ev (G (posOf x out)) r) (hskip : ∀ p (hp : p < out.length), out[p] < x → Ev (G (p + 1)) r → Ev (G p) r) : Ev (G 0) r :=
  Ev.up0 (posOf x out) G (fun _ => r) hend (fun p hp ih => hskip p (by have := posOf_le x out; omega) (posOf_lt x out p (by have := posOf_le x out; omega) hp) ih) 0 (Nat.zero_le _)

end Go.Proofs.Ytgghhcifkgdpeaa.Pure
/- Plain lemma: the addresses of replies, as the reference and the program list them. Condition: there are no more than a list of the law can have. -/
namespace Go.Proofs.Ytgghhcifkgdpeaa.Pure
open Go.RowKit Go.Proofs.Ytgghhcifkgdpeaa.Z Go.Proofs.YtgghhcifkgdpeaaW.PrintWords

abbrev RpA := S68
def addrs (l : List RpA) : List Int := l.map fun x => x.f0

theorem rdRpA (l : List RpA) (i : Nat) (h : i < l.length) : rd_T68 l (i : Int) = l[i] := getD_get l i _ h

theorem impl_addr (xs : List RpA) (hx : xs.length ≤ 1048576) : Ev (fun k => impl_AddressesOf.f k xs) (sortedF (addrs xs)) := by
  unfold impl_AddressesOf.f
  have key := Ev.up xs.length (fun i (out : List Int) k => impl_AddressesOf.l0 k out xs (xs.length : Int) (i : Int)) (fun i out => sortedF (out ++ addrs (xs.drop i))) (fun i out => out.length = i) ?_ ?_ 0 [] (Nat.zero_le _) rfl
  · rw [List.drop_zero, List.nil_append] at key
    exact key
  · intro out ho
    rw [List.drop_of_length_le (Nat.le_refl _)]
    refine Ev.step (fun k => by rw [impl_AddressesOf.l0]) ?_
    refine Ev.ifneg (by omega) (Ev.bind0 (a := sortedF out) ?_ ?_)
    · unfold impl_sorted.f
      rw [if_pos (by omega)]
    · exact Ev.pure (by show sortedF out = sortedF (out ++ addrs []); unfold addrs; simp)
  · intro i out hi ho ih
    refine Ev.step (fun k => by rw [impl_AddressesOf.l0]) ?_
    refine Ev.ifpos (by omega) (Ev.ifpos (by omega) (Ev.ifpos (by omega) (Ev.ifpos (by omega) ?_)))
    rw [rdRpA xs i hi, wrap_succ (by omega)]
    have h := ih (out ++ [xs[i].f0]) (by simp; omega)
    have e : out ++ addrs (xs.drop i) = (out ++ [xs[i].f0]) ++ addrs (xs.drop (i + 1)) := by
      rw [drop_get xs i hi, List.append_assoc]
      rfl
    rw [e]
    exact h

end Go.Proofs.Ytgghhcifkgdpeaa.Pure
/- Plain lemmas: the groups of addresses, as the reference and the program make them. Condition: the lists are not longer than the law's can be. -/
namespace Go.Proofs.Ytgghhcifkgdpeaa.Pure
open Go.RowKit Go.Proofs.Ytgghhcifkgdpeaa.Z Go.Proofs.YtgghhcifkgdpeaaW.PrintWords

def groupsP (p : List Int → Bool) : List (List Int) → List Int → List (List Int)
  | gs, [] => gs
  | gs, x :: xs => groupsP p (placeP (fun g => p (g ++ [x])) gs x) xs

theorem all_ev (f : Nat → List Int → Option Bool) (p : List Int → Bool) (x : Int) : ∀ gs : List (List Int), (∀ g ∈ gs, Ev (fun k => f k (g ++ [x])) (p (g ++ [x]))) → ∃ K, ∀ k, K ≤ k → ∀ g ∈ gs, f k (g ++ [x]) = some (p (g ++ [x]))
  | [], _ => ⟨0, fun _ _ g hg => absurd hg (by simp)⟩
  | g :: gs, h => by
    obtain ⟨K1, h1⟩ := h g (List.mem_cons_self ..)
    obtain ⟨K2, h2⟩ := all_ev f p x gs (fun g hg => h g (List.mem_cons_of_mem _ hg))
    refine ⟨max K1 K2, fun k hk y hy => ?_⟩
    rcases List.mem_cons.1 hy with rfl | hy
    · exact h1 k (by omega)
    · exact h2 k (by omega) y hy

theorem groups_ev (f : Nat → List Int → Option Bool) (p : List Int → Bool) (N : Nat) (h : ∀ g, g.length ≤ N → Ev (fun k => f k g) (p g)) : ∀ (xs : List Int) (gs : List (List Int)) (n : Nat), n + xs.length ≤ N → (∀ g ∈ gs, g.length ≤ n) → Ev (fun k => groupsO (f k) gs xs) (groupsP p gs xs)
  | [], gs, _, _, _ => ⟨0, fun _ _ => rfl⟩
  | x :: xs, gs, n, hn, hg => by
    rw [List.length_cons] at hn
    obtain ⟨K1, h1⟩ := all_ev f p x gs (fun g hm => h _ (by rw [List.length_append, List.length_singleton]; have := hg g hm; omega))
    obtain ⟨K2, h2⟩ := groups_ev f p N h xs (placeP (fun g => p (g ++ [x])) gs x) (n + 1) (by omega) (placeP_each hg)
    refine ⟨max K1 K2, fun k hk => ?_⟩
    show groupsO (f k) gs (x :: xs) = _
    rw [groupsO_step (p := fun g => p (g ++ [x])) (h1 k (by omega))]
    exact h2 k (by omega)

theorem groupsP_small (p : List Int → Bool) : ∀ (xs : List Int) (gs : List (List Int)) (n : Nat), gs.length ≤ n → (∀ g ∈ gs, g.length ≤ n) → (groupsP p gs xs).length ≤ n + xs.length ∧ ∀ g ∈ groupsP p gs xs, g.length ≤ n + xs.length
  | [], gs, n, h1, h2 => ⟨h1, h2⟩
  | x :: xs, gs, n, h1, h2 => by
    have h := groupsP_small p xs (placeP (fun g => p (g ++ [x])) gs x) (n + 1) (by have := placeP_len (fun g => p (g ++ [x])) gs x; omega) (placeP_each h2)
    rw [List.length_cons]
    refine ⟨by have := h.1; show (groupsP p _ xs).length ≤ _; omega, fun g hg => ?_⟩
    have := h.2 g hg
    omega

/-- The groups that the replies tell. -/
def groupsA (l : List Rp) : List (List Int) := if areR l = true then groupsP (mayBe l) [] (sortedF (addrs l)) else []

theorem addr_few {l : List Rp} (h : areR l = true) : (sortedF (addrs l)).length ≤ 12 := by
  unfold areR at h
  rw [Bool.and_eq_true, decide_eq_true_eq] at h
  have := sorted_len_le (addrs l)
  have e : (addrs l).length = l.length := by unfold addrs; rw [List.length_map]
  omega

theorem impl_groups (l : List Rp) (hl : l.length ≤ 1048576) : Ev (fun k => impl_GroupsOf.f k l) (groupsA l) := by
  unfold impl_GroupsOf.f groupsA
  rw [areReplies_eq]
  by_cases h : areR l = true
  · have h12 := addr_few h
    rw [if_pos h]
    refine Ev.ifpos h (Ev.bind (impl_addr l hl) (Ev.ifpos (by omega) ?_))
    exact groups_ev (fun k => impl_MayBeOne.f k l) (mayBe l) 12 (fun g hg => impl_mayBe l g (by omega)) _ _ 0 (by omega) (by simp)
  · rw [if_neg h]
    exact Ev.ifneg h (Ev.now _)

theorem groupsA_small (l : List Rp) : (groupsA l).length ≤ 12 ∧ ∀ g ∈ groupsA l, g.length ≤ 12 := by
  unfold groupsA
  by_cases h : areR l = true
  · rw [if_pos h]
    have h12 := addr_few h
    have := groupsP_small (mayBe l) (sortedF (addrs l)) [] 0 (by simp) (by simp)
    exact ⟨by omega, fun g hg => by have := this.2 g hg; omega⟩
  · rw [if_neg h]
    simp

end Go.Proofs.Ytgghhcifkgdpeaa.Pure
/- Plain lemmas: what holds of the groups that are made: none is empty, each is one router's by the replies, each rises, all together have each address once. Condition: the addresses rise. -/
namespace Go.Proofs.Ytgghhcifkgdpeaa.Pure
open Go.RowKit Go.Proofs.Ytgghhcifkgdpeaa.Z Go.Proofs.YtgghhcifkgdpeaaW.PrintWords

def lensOf : List (List Int) → Nat
  | [] => 0
  | g :: gs => g.length + lensOf gs
theorem lensOf_append : ∀ (a b : List (List Int)), lensOf (a ++ b) = lensOf a + lensOf b
  | [], b => by simp [lensOf]
  | g :: a, b => by rw [List.cons_append, lensOf, lensOf, lensOf_append a b]; omega
theorem lensOf_set (x : Int) : ∀ (gs : List (List Int)) (k : Nat), k < gs.length → lensOf (gs.set k (gs.getD k [] ++ [x])) = lensOf gs + 1
  | [], k, h => absurd h (Nat.not_lt_zero _)
  | g :: gs, 0, _ => by
    rw [List.set_cons_zero, lensOf, lensOf]
    simp
    omega
  | g :: gs, k + 1, h => by
    rw [List.set_cons_succ, lensOf, lensOf, show (g :: gs).getD (k + 1) [] = gs.getD k [] from rfl, lensOf_set x gs k (by simpa using h)]
    omega

/-- What holds of groups made of the addresses 'done'. -/
structure Good (p : List Int → Bool) (done : List Int) (gs : List (List Int)) : Prop where
  some : ∀ g ∈ gs, g ≠ []
  may : ∀ g ∈ gs, 1 < g.length → p g = true
  rise : ∀ g ∈ gs, g.Pairwise (fun x y => x < y)
  mem : ∀ g ∈ gs, ∀ x ∈ g, x ∈ done
  sum : lensOf gs = done.length

theorem Good.step {p : List Int → Bool} {done : List Int} {gs : List (List Int)} (h : Good p done gs) {x : Int} (hx : ∀ y ∈ done, y < x) : Good p (done ++ [x]) (placeP (fun g => p (g ++ [x])) gs x) := by
  have hin : ∀ {y}, y ∈ done → y ∈ done ++ [x] := fun hy => List.mem_append_left _ hy
  have hxx : x ∈ done ++ [x] := List.mem_append_right _ (List.mem_singleton.2 rfl)
  unfold placeP
  by_cases hf : firstAt (fun g => p (g ++ [x])) gs < 0
  · rw [if_pos hf]
    have cases_ : ∀ g ∈ gs ++ [[x]], g ∈ gs ∨ g = [x] := fun g hg => by
      rcases List.mem_append.1 hg with hg | hg
      · exact .inl hg
      · exact .inr (List.mem_singleton.1 hg)
    refine ⟨fun g hg => ?_, fun g hg h1 => ?_, fun g hg => ?_, fun g hg y hy => ?_, ?_⟩
    · rcases cases_ g hg with hg | rfl
      · exact h.some g hg
      · simp
    · rcases cases_ g hg with hg | rfl
      · exact h.may g hg h1
      · simp at h1
    · rcases cases_ g hg with hg | rfl
      · exact h.rise g hg
      · simp
    · rcases cases_ g hg with hg | rfl
      · exact hin (h.mem g hg y hy)
      · rw [List.mem_singleton.1 hy]; exact hxx
    · rw [lensOf_append, h.sum, List.length_append]; rfl
  · rw [if_neg hf]
    obtain ⟨k, hk⟩ : ∃ k : Nat, firstAt (fun g => p (g ++ [x])) gs = (k : Int) := ⟨(firstAt (fun g => p (g ++ [x])) gs).toNat, by omega⟩
    have hkl : k < gs.length ∧ p (gs.getD k [] ++ [x]) = true := by
      unfold firstAt at hk
      split at hk
      · rename_i hlt
        have e : gs.findIdx (fun g => p (g ++ [x])) = k := by omega
        rw [e] at hlt
        refine ⟨hlt, ?_⟩
        have h1 := List.findIdx_getElem (w := (by rw [e]; exact hlt : gs.findIdx (fun g => p (g ++ [x])) < gs.length))
        rw [List.getD_eq_getElem?_getD, List.getElem?_eq_getElem hlt]
        simp only [e] at h1
        exact h1
      · omega
    rw [hk, Int.toNat_natCast]
    have hgm : gs.getD k [] ∈ gs := by rw [List.getD_eq_getElem?_getD, List.getElem?_eq_getElem hkl.1]; exact List.getElem_mem hkl.1
    have cases_ : ∀ g ∈ gs.set k (gs.getD k [] ++ [x]), g ∈ gs ∨ g = gs.getD k [] ++ [x] := fun g hg => List.mem_or_eq_of_mem_set hg
    refine ⟨fun g hg => ?_, fun g hg h1 => ?_, fun g hg => ?_, fun g hg y hy => ?_, ?_⟩
    · rcases cases_ g hg with hg | rfl
      · exact h.some g hg
      · simp
    · rcases cases_ g hg with hg | rfl
      · exact h.may g hg h1
      · exact hkl.2
    · rcases cases_ g hg with hg | rfl
      · exact h.rise g hg
      · rw [List.pairwise_append]
        refine ⟨h.rise _ hgm, by simp, fun a ha b hb => ?_⟩
        rw [List.mem_singleton.1 hb]
        exact hx a (h.mem _ hgm a ha)
    · rcases cases_ g hg with hg | rfl
      · exact hin (h.mem g hg y hy)
      · rcases List.mem_append.1 hy with hy | hy
        · exact hin (h.mem _ hgm y hy)
        · rw [List.mem_singleton.1 hy]; exact hxx
    · rw [lensOf_set x gs k hkl.1, h.sum, List.length_append]; rfl

theorem Good.all {p : List Int → Bool} : ∀ (xs done : List Int) (gs : List (List Int)), Good p done gs → (done ++ xs).Pairwise (fun x y => x < y) → Good p (done ++ xs) (groupsP p gs xs)
  | [], done, gs, h, _ => by rw [List.append_nil]; exact h
  | x :: xs, done, gs, h, hp => by
    have e : done ++ x :: xs = (done ++ [x]) ++ xs := by simp
    rw [e] at hp ⊢
    refine Good.all xs (done ++ [x]) _ (h.step (fun y hy => ?_)) hp
    rw [List.pairwise_append] at hp
    have h2 := hp.1
    rw [List.pairwise_append] at h2
    exact h2.2.2 y hy x (List.mem_singleton.2 rfl)

theorem groups_good {l : List Rp} (h : areR l = true) : Good (mayBe l) (sortedF (addrs l)) (groupsA l) := by
  unfold groupsA
  rw [if_pos h]
  have h0 : Good (mayBe l) [] [] := ⟨by simp, by simp, by simp, by simp, rfl⟩
  exact Good.all (sortedF (addrs l)) [] [] h0 (by simpa using sorted_rise (addrs l))

theorem hasA_mono {a b : List Int} (h : ∀ z ∈ a, z ∈ b) {x : Rp} (hx : hasA a x = true) : hasA b x = true := by
  unfold hasA at *
  obtain ⟨z, hz, e⟩ := List.any_eq_true.1 hx
  exact List.any_eq_true.2 ⟨z, h z hz, e⟩
theorem mayBe_mono {l : List Rp} {a b : List Int} (h : ∀ z ∈ a, z ∈ b) (hb : mayBe l b = true) : mayBe l a = true := by
  unfold mayBe at *
  rw [Bool.and_eq_true] at hb ⊢
  refine ⟨List.all_eq_true.2 (fun x hx => List.all_eq_true.2 (fun y hy => ?_)), hb.2⟩
  have h1 := List.all_eq_true.1 (List.all_eq_true.1 hb.1 x hx) y hy
  unfold pairOk at *
  by_cases ha : hasA a x = true
  · by_cases hc : hasA a y = true
    · rw [ha, hc]
      rw [hasA_mono h ha, hasA_mono h hc] at h1
      exact h1
    · rw [Bool.eq_false_iff.2 hc]; simp
  · rw [Bool.eq_false_iff.2 ha]; simp

end Go.Proofs.Ytgghhcifkgdpeaa.Pure
/- Plain lemmas: what is drawn from the bytes: each draw answers; Below n lies in 0..n-1; Int gives an element. Condition: the bytes are no more than a slice can hold. -/
namespace Go.Proofs.Ytgghhcifkgdpeaa.Pure
open Go.RowKit Go.Proofs.Ytgghhcifkgdpeaa.Z Go.Proofs.YtgghhcifkgdpeaaW.PrintWords

theorem and255 (x : Int) : 0 ≤ Go.bits .and .i64 x 255 ∧ Go.bits .and .i64 x 255 ≤ 255 := by
  have h : (BitVec.ofInt 64 x &&& BitVec.ofInt 64 255).toNat ≤ 255 := by
    rw [BitVec.toNat_and]
    exact Nat.and_le_right
  have e : Go.bits .and .i64 x 255 = wrap64 ((BitVec.ofInt 64 x &&& BitVec.ofInt 64 255).toNat : Int) := by
    unfold Go.bits
    exact Go.Proofs.YtgghhcifkgdpeaaW.PrintLast.i64_w _
  rw [e, wrap_in (by omega) (by omega)]
  omega

/-- A place in the bytes. -/
def Cur (x : List Int) (i : Int) : Prop := 0 ≤ i ∧ i ≤ x.length

theorem cur_byte (x : List Int) (i s : Int) (hx : x.length ≤ 4611686018427387904) (hi : Cur x i) : ∃ v i' s', spec_l1Byte.f x i s = some (v, i', s') ∧ (0 ≤ v ∧ v ≤ 255) ∧ Cur x i' := by
  unfold spec_l1Byte.f
  by_cases h : i < x.length
  · rw [if_pos h, if_pos hi.1]
    refine ⟨_, _, _, rfl, and255 _, ?_⟩
    have h0 := hi.1
    rw [wrap_in (by omega) (by omega)]
    exact ⟨by omega, by omega⟩
  · rw [if_neg h]
    exact ⟨_, _, _, rfl, and255 _, hi⟩

theorem cur_below (x : List Int) (i s n : Int) (hx : x.length ≤ 4611686018427387904) (hi : Cur x i) (hn : 0 < n) : ∃ v i' s', spec_l1Below.f x i s n = some (v, i', s') ∧ (0 ≤ v ∧ v < n) ∧ Cur x i' := by
  unfold spec_l1Below.f
  rw [if_neg (by omega)]
  obtain ⟨v1, i1, s1, e1, h1, c1⟩ := cur_byte x i s hx hi
  rw [e1]
  by_cases h : n ≤ 256
  · rw [if_pos h, Option.bind_some, if_neg (by omega)]
    refine ⟨_, _, _, rfl, ?_, c1⟩
    show 0 ≤ Int.tmod v1 n ∧ Int.tmod v1 n < n
    rw [Int.tmod_eq_emod_of_nonneg h1.1]
    exact ⟨Int.emod_nonneg _ (by omega), Int.emod_lt_of_pos _ hn⟩
  · obtain ⟨v2, i2, s2, e2, h2, c2⟩ := cur_byte x i1 s1 hx c1
    obtain ⟨v3, i3, s3, e3, h3, c3⟩ := cur_byte x i2 s2 hx c2
    rw [if_neg h, Option.bind_some]
    show ∃ v i' s', ((spec_l1Byte.f x i1 s1).bind _) = _ ∧ _
    rw [e2, Option.bind_some]
    show ∃ v i' s', ((spec_l1Byte.f x i2 s2).bind _) = _ ∧ _
    rw [e3, Option.bind_some, if_neg (by omega)]
    refine ⟨_, _, _, rfl, ?_, c3⟩
    show 0 ≤ Int.tmod (wrap64 (wrap64 (wrap64 (v1 * 65536) + wrap64 (v2 * 256)) + v3)) n ∧ _
    rw [wrap_in (n := v1 * 65536) (by omega) (by omega), wrap_in (n := v2 * 256) (by omega) (by omega), wrap_in (n := v1 * 65536 + v2 * 256) (by omega) (by omega), wrap_in (by omega) (by omega), Int.tmod_eq_emod_of_nonneg (by omega)]
    exact ⟨Int.emod_nonneg _ (by omega), Int.emod_lt_of_pos _ hn⟩

theorem cur_int (x : List Int) (i s : Int) (l : List Int) (hx : x.length ≤ 4611686018427387904) (hi : Cur x i) (hl : 0 < l.length) : ∃ v i' s', spec_l1Int.f x i s l = some (v, i', s') ∧ v ∈ l ∧ Cur x i' := by
  obtain ⟨v, i', s', e, h, c⟩ := cur_below x i s l.length hx hi (by omega)
  unfold spec_l1Int.f
  rw [e, Option.bind_some]
  refine ⟨rd l v, i', s', ?_, ?_, c⟩
  · show (if 0 ≤ v then (if v < (l.length : Int) then some (rd l v, i', s') else none) else none) = _
    rw [if_pos h.1, if_pos h.2]
  · obtain ⟨j, rfl⟩ : ∃ j : Nat, v = (j : Int) := ⟨v.toNat, by omega⟩
    rw [rd_get l j (by omega)]
    exact List.getElem_mem _

theorem cur_new_from (x : List Int) (_hx : x.length ≤ 4611686018427387904) : ∀ d i h, i + d = x.length → ∃ s, Ev (fun k => spec_l1New.l0 k x h (i : Int)) (x, 0, s) := by
  intro d
  induction d with
  | zero =>
    intro i h hi
    refine ⟨h, Ev.step (fun k => by rw [spec_l1New.l0]) ?_⟩
    exact Ev.ifneg (by omega) (Ev.now _)
  | succ d ih =>
    intro i h hi
    by_cases h4 : (i : Int) < 4000
    · obtain ⟨s, hs⟩ := ih (i + 1) (Go.bits .and .i64 (wrap64 ((wrap64 ((wrap64 (h * 137)) + (wrap64 (rd x i)))) + 11)) 1073741823) (by omega)
      refine ⟨s, Ev.step (fun k => by rw [spec_l1New.l0]) ?_⟩
      refine Ev.ifpos (by omega) (Ev.ifpos h4 (Ev.ifpos (by omega) ?_))
      have e : wrap64 ((i : Int) + 1) = ((i + 1 : Nat) : Int) := wrap_succ (by omega)
      rw [e]
      exact hs
    · refine ⟨h, Ev.step (fun k => by rw [spec_l1New.l0]) ?_⟩
      exact Ev.ifpos (by omega) (Ev.ifneg h4 (Ev.now _))

theorem cur_new (x : List Int) (hx : x.length ≤ 4611686018427387904) : ∃ s, Ev (fun k => spec_l1New.f k x) (x, 0, s) := by
  unfold spec_l1New.f
  exact cur_new_from x hx x.length 0 _ (by omega)

theorem cur_zero (x : List Int) : Cur x 0 := ⟨by omega, by omega⟩

end Go.Proofs.Ytgghhcifkgdpeaa.Pure
/- Plain lemmas: drawn replies are thirteen at most. Condition: the bytes are no more than a slice can hold. -/
namespace Go.Proofs.Ytgghhcifkgdpeaa.Pure
open Go.RowKit Go.Proofs.Ytgghhcifkgdpeaa.Z Go.Proofs.YtgghhcifkgdpeaaW.PrintWords

section
variable (x : List Int) (hx : x.length ≤ 4611686018427387904)
include hx

theorem raw11 (i s : Int) (hi : Cur x i) : ∃ v i' s', spec_l9Raw.f x i s = some (v, i', s') ∧ Cur x i' := by
  obtain ⟨v1, i1, s1, e1, _, c1⟩ := cur_below x i s 6 hx hi (by decide)
  have e0 : spec_l1Once.f x i s 6 = some (v1 == 0, i1, s1) := by unfold spec_l1Once.f; rw [e1]; rfl
  unfold spec_l9Raw.f
  rw [e0]
  by_cases h : v1 = 0
  · obtain ⟨v2, i2, s2, e2, _, c2⟩ := cur_int x i1 s1 [(-1), 0, 100000, 100001, (-100000), (-100001), 9223372036854775807, (-9223372036854775808)] hx c1 (by decide)
    refine ⟨v2, i2, s2, ?_, c2⟩
    have hb : (v1 == 0) = true := beq_iff_eq.2 h
    simp only [Option.bind_some, hb, if_true, e2]
  · obtain ⟨v2, i2, s2, e2, _, c2⟩ := cur_below x i1 s1 60 hx c1 (by decide)
    refine ⟨v2, i2, s2, ?_, c2⟩
    have hb : (v1 == 0) = false := beq_false_of_ne h
    simp only [Option.bind_some, hb, e2]
    rfl

theorem draw11_more : ∀ (d : Nat) (t : Int) (ids : List Int) (l : List S68) (i s : Int), d ≤ 11 → ids.length = 3 → l.length + d ≤ 11 → Cur x i → ∃ q i' s', Ev (fun k => spec_l11Draw.l0 k l ids t (d : Int) x i s) (q, i', s') ∧ q.length ≤ 11 ∧ Cur x i' := by
  intro d
  induction d with
  | zero =>
    intro t ids l i s _ _ hl hi
    refine ⟨l, i, s, Ev.step (fun k => by rw [spec_l11Draw.l0]) (Ev.ifneg (by omega) ?_), by omega, hi⟩
    exact Ev.now _
  | succ d ih =>
    intro t ids l i s hd hids hl hi
    obtain ⟨v1, i1, s1, e1, h1, c1⟩ := cur_below x i s 4 hx hi (by decide)
    obtain ⟨v2, i2, s2, e2, h2, c2⟩ := cur_below x i1 s1 3 hx c1 (by decide)
    obtain ⟨v3, i3, s3, e3, h3, c3⟩ := cur_below x i2 s2 30 hx c2 (by decide)
    obtain ⟨v4, i4, s4, e4, h4, c4⟩ := cur_below x i3 s3 2 hx c3 (by decide)
    have ew : wrap64 (((d + 1 : Nat) : Int) - 1) = (d : Int) := by rw [wrap_in (by omega) (by omega)]; omega
    obtain ⟨q, i', s', e5, h5⟩ := ih (wrap64 ((wrap64 (t + 1)) + v1)) (ids.set (v2 : Int).toNat (wrap64 ((wrap64 ((rd ids v2) + 1)) + v3))) (l ++ [(⟨wrap64 ((wrap64 (2 * v2)) + v4), wrap64 ((wrap64 (t + 1)) + v1), rd (ids.set (v2 : Int).toNat (wrap64 ((wrap64 ((rd ids v2) + 1)) + v3))) v2⟩ : S68)]) i4 s4 (by omega) (by rw [List.length_set]; exact hids) (by rw [List.length_append, List.length_singleton]; omega) c4
    have hlt : v2 < (ids.length : Int) := by omega
    have h11 : l.length < 5864062014805 := by omega
    have hpos : ((d + 1 : Nat) : Int) > 0 := by omega
    refine ⟨q, i', s', Ev.step (fun k => by rw [spec_l11Draw.l0]) ?_, h5⟩
    refine Ev.ifpos hpos (Ev.bind0 e1 (Ev.bind0 e2 (Ev.ifpos h2.1 (Ev.ifpos hlt (Ev.bind0 e3 (Ev.bind0 rfl (Ev.bind0 e4 (Ev.ifpos h11 ?_))))))))
    rw [ew]
    exact e5

theorem draw11 (i s : Int) (hi : Cur x i) : ∃ q i' s', Ev (fun k => spec_l11Draw.f k x i s) (q, i', s') ∧ q.length ≤ 11 ∧ Cur x i' := by
  obtain ⟨v, i1, s1, e1, h1, c1⟩ := cur_below x i s 11 hx hi (by decide)
  obtain ⟨d, rfl⟩ : ∃ d : Nat, v = (d : Int) := ⟨v.toNat, by omega⟩
  obtain ⟨q, i', s', e2, h2⟩ := draw11_more x hx d 0 [10, 500, 20] [] i1 s1 (by omega) rfl (by rw [List.length_nil]; omega) c1
  refine ⟨q, i', s', ?_, h2⟩
  unfold spec_l11Draw.f
  exact Ev.bind0 e1 e2

omit hx in
theorem fill11 : ∀ (d : Nat) (l : List S68) (i s : Int), l.length + d = 13 → ∃ q, Ev (fun k => spec_l11Any.l0 k l x i s) (q, i, s) ∧ q.length ≤ 13 := by
  intro d
  induction d with
  | zero =>
    intro l i s h
    refine ⟨l, Ev.step (fun k => by rw [spec_l11Any.l0]) (Ev.ifneg (by omega) ?_), by omega⟩
    exact Ev.now _
  | succ d ih =>
    intro l i s h
    obtain ⟨q, e, hq⟩ := ih (l ++ [(⟨7, wrap64 (1000 + (l.length : Int)), (l.length : Int)⟩ : S68)]) i s (by rw [List.length_append, List.length_singleton]; omega)
    exact ⟨q, Ev.step (fun k => by rw [spec_l11Any.l0]) (Ev.ifpos (by omega) (Ev.ifpos (by omega) e)), hq⟩

theorem any11 (i s : Int) (hi : Cur x i) : ∃ q i' s', Ev (fun k => spec_l11Any.f k x i s) (q, i', s') ∧ q.length ≤ 13 := by
  obtain ⟨l, i1, s1, e1, h1, c1⟩ := draw11 x hx i s hi
  by_cases h0 : (l.length : Int) = 0
  · refine ⟨l, i1, s1, ?_, by omega⟩
    unfold spec_l11Any.f
    refine Ev.bind e1 (Ev.ifpos h0 ?_)
    exact Ev.now _
  obtain ⟨v2, i2, s2, e2, h2, c2⟩ := cur_below x i1 s1 (l.length : Int) hx c1 (by omega)
  obtain ⟨v3, i3, s3, e3, h3, c3⟩ := cur_below x i2 s2 8 hx c2 (by decide)
  obtain ⟨w4, i4, s4, e4, c4⟩ := raw11 x hx i3 s3 c3
  obtain ⟨w5, i5, s5, e5, _, c5⟩ := cur_int x i3 s3 [(-1), 20, 21] hx c3 (by decide)
  by_cases v0 : v3 = 0
  · refine ⟨_, i4, s4, by
      unfold spec_l11Any.f
      refine Ev.bind e1 (Ev.ifneg h0 (Ev.bind0 e2 (Ev.bind0 e3 (Ev.ifpos v0 (Ev.bind0 e4 (Ev.ifpos h2.1 (Ev.ifpos h2.2 ?_)))))))
      exact Ev.now _, by rw [List.length_set]; show l.length ≤ 13; omega⟩
  by_cases v1 : v3 = 1
  · refine ⟨_, i4, s4, by
      unfold spec_l11Any.f
      refine Ev.bind e1 (Ev.ifneg h0 (Ev.bind0 e2 (Ev.bind0 e3 (Ev.ifneg v0 (Ev.ifpos v1 (Ev.bind0 e4 (Ev.ifpos h2.1 (Ev.ifpos h2.2 ?_))))))))
      exact Ev.now _, by rw [List.length_set]; show l.length ≤ 13; omega⟩
  by_cases v2_ : v3 = 2
  · refine ⟨_, i5, s5, by
      unfold spec_l11Any.f
      refine Ev.bind e1 (Ev.ifneg h0 (Ev.bind0 e2 (Ev.bind0 e3 (Ev.ifneg v0 (Ev.ifneg v1 (Ev.ifpos v2_ (Ev.bind0 e5 (Ev.ifpos h2.1 (Ev.ifpos h2.2 ?_)))))))))
      exact Ev.now _, by rw [List.length_set]; show l.length ≤ 13; omega⟩
  by_cases v3_ : v3 = 3
  · obtain ⟨q, e6, h6⟩ := fill11 x (13 - l.length) l i3 s3 (by omega)
    refine ⟨q, i3, s3, ?_, h6⟩
    unfold spec_l11Any.f
    exact Ev.bind e1 (Ev.ifneg h0 (Ev.bind0 e2 (Ev.bind0 e3 (Ev.ifneg v0 (Ev.ifneg v1 (Ev.ifneg v2_ (Ev.ifpos v3_ e6)))))))
  · refine ⟨l, i3, s3, ?_, by omega⟩
    unfold spec_l11Any.f
    refine Ev.bind e1 (Ev.ifneg h0 (Ev.bind0 e2 (Ev.bind0 e3 (Ev.ifneg v0 (Ev.ifneg v1 (Ev.ifneg v2_ (Ev.ifneg v3_ ?_)))))))
    exact Ev.now _

theorem draw_groups : ∃ l, Ev (fun k => spec_DrawGroupsOf.f k x) l ∧ l.length ≤ 13 := by
  obtain ⟨s, e0⟩ := cur_new x hx
  obtain ⟨q, i', s', e1, h1⟩ := any11 x hx 0 s (cur_zero x)
  refine ⟨q, ?_, h1⟩
  unfold spec_DrawGroupsOf.f spec_DrawAreReplies.f
  refine Ev.bind (a := q) (Ev.bind e0 (Ev.bind e1 ?_)) ?_
  · exact Ev.now _
  · exact Ev.now _

end
end Go.Proofs.Ytgghhcifkgdpeaa.Pure
/- Plain lemma: the laws' search in a list of numbers. Condition: the list is not longer than a list can be. -/
namespace Go.Proofs.Ytgghhcifkgdpeaa.Pure
open Go.RowKit Go.Proofs.Ytgghhcifkgdpeaa.Z Go.Proofs.YtgghhcifkgdpeaaW.PrintWords

theorem laws_has (l : List Int) (x : Int) (hl : l.length ≤ 9223372036854775806) : Ev (fun k => laws_contains.f k l x) (l.any fun y => decide (y = x)) := by
  unfold laws_contains.f
  refine any_loop (fun y => decide (y = x)) l (fun i k => laws_contains.l0 k l x (i : Int)) ?_ ?_ ?_
  · refine Ev.step (fun k => by rw [laws_contains.l0]) ?_
    exact Ev.ifneg (by omega) (Ev.now _)
  · intro i hi h
    refine Ev.step (fun k => by rw [laws_contains.l0]) ?_
    refine Ev.ifpos (by omega) (Ev.ifpos (by omega) ?_)
    rw [rd_get l i hi]
    exact Ev.ifpos (of_decide_eq_true h) (Ev.now _)
  · intro i hi r h hr
    refine Ev.step (fun k => by rw [laws_contains.l0]) ?_
    refine Ev.ifpos (by omega) (Ev.ifpos (by omega) ?_)
    rw [rd_get l i hi, wrap_succ (by omega)]
    exact Ev.ifneg (of_decide_eq_false h) hr

theorem laws_has_mem (l : List Int) (x : Int) (hl : l.length ≤ 9223372036854775806) (h : x ∈ l) : Ev (fun k => laws_contains.f k l x) true := by
  have e : (l.any fun y => decide (y = x)) = true := List.any_eq_true.2 ⟨x, h, decide_eq_true rfl⟩
  rw [← e]
  exact laws_has l x hl

end Go.Proofs.Ytgghhcifkgdpeaa.Pure
namespace Go.Proofs.Ytgghhcifkgdpeaa.Pure
open Go.RowKit Go.Proofs.Ytgghhcifkgdpeaa.Z Go.Proofs.YtgghhcifkgdpeaaW.PrintWords

def apart (l : List Rp) (a b : Int) : Bool := areR l && !mayBe l [a, b]
theorem impl_apart (l : List Rp) (a b : Int) : Ev (fun k => impl_SurelyApart.f k l a b) (apart l a b) := by
  unfold impl_SurelyApart.f apart
  refine Ev.bind0 (a := areR l) (by unfold impl_AreReplies.f; rw [areReplies_eq]) ?_
  cases areR l
  · exact Ev.ifneg (by decide) (Ev.now _)
  · exact Ev.ifpos rfl (Ev.bind (impl_mayBe l [a, b] (by simp)) (Ev.now _))

theorem rdG (m : List (List Int)) (i : Nat) (h : i < m.length) : rd_L4 m (i : Int) = m[i] := getD_get m i _ h
theorem rdI (p : List Int) (i : Nat) (h : i < p.length) : rd p (i : Int) = p[i] := getD_get p i _ h

section
variable (l : List Rp) (gs : List (List Int)) (a : List Int) (hr : areR l = true) (hg : Good (mayBe l) a gs) (hl : gs.length ≤ 12) (he : ∀ g ∈ gs, g.length ≤ 12) (ha : a.length ≤ 12)
include hg hl he ha

omit hl ha in
theorem al_two (i j : Nat) (hi : i < gs.length) (hj : j < gs[i].length) (s : Int) (r : Bool) (next : Ev (fun k => laws_FnAliases.l1 k l gs a s (i : Int) ((j + 1 : Nat) : Int)) r) :
    ∀ d q, q + d = j → Ev (fun k => laws_FnAliases.l2 k l gs a s (i : Int) (j : Int) (q : Int)) r := by
  have hgm : gs[i] ∈ gs := List.getElem_mem hi
  have h12 := he _ hgm
  intro d
  induction d with
  | zero =>
    intro q hq
    refine Ev.step (fun k => by rw [laws_FnAliases.l2]) ?_
    rw [wrap_succ (i := j) (by omega)]
    exact Ev.ifneg (by omega) next
  | succ d ih =>
    intro q hq
    have hqj : q < gs[i].length := by omega
    refine Ev.step (fun k => by rw [laws_FnAliases.l2]) ?_
    rw [rdG gs i hi, rdI gs[i] q hqj, rdI gs[i] j hj, wrap_succ (i := q) (by omega)]
    have hmay : mayBe l gs[i] = true := hg.may _ hgm (by omega)
    have hap : apart l gs[i][q] gs[i][j] = false := by
      unfold apart
      rw [mayBe_mono (b := gs[i]) (fun z hz => by
        simp only [List.mem_cons, List.not_mem_nil, or_false] at hz
        rcases hz with rfl | rfl
        · exact List.getElem_mem hqj
        · exact List.getElem_mem hj) hmay]
      simp
    have hlt : gs[i][q] < gs[i][j] := (List.pairwise_iff_getElem.1 (hg.rise _ hgm)) q j hqj hj (by omega)
    have h1 := impl_apart l gs[i][q] gs[i][j]
    rw [hap] at h1
    refine Ev.ifpos (by omega) (Ev.ifpos (by omega) (Ev.ifpos (by omega) (Ev.ifpos (by omega) (Ev.ifpos (by omega) (Ev.ifpos (by omega) (Ev.ifpos (by omega) (Ev.bind h1 (Ev.ifneg (by decide) (Ev.ifneg (by omega) ?_)))))))))
    exact ih (q + 1) (by omega)

theorem al_one (i : Nat) (hi : i < gs.length) (s : Int) (r : Bool) (next : Ev (fun k => laws_FnAliases.l0 k l gs a s ((i + 1 : Nat) : Int)) r) :
    ∀ d j, j + d = gs[i].length → Ev (fun k => laws_FnAliases.l1 k l gs a s (i : Int) (j : Int)) r := by
  have hgm : gs[i] ∈ gs := List.getElem_mem hi
  have h12 := he _ hgm
  intro d
  induction d with
  | zero =>
    intro j hj
    refine Ev.step (fun k => by rw [laws_FnAliases.l1]) ?_
    rw [rdG gs i hi, wrap_succ (i := i) (by omega)]
    exact Ev.ifpos (by omega) (Ev.ifpos (by omega) (Ev.ifneg (by omega) next))
  | succ d ih =>
    intro j hj
    have hjl : j < gs[i].length := by omega
    refine Ev.step (fun k => by rw [laws_FnAliases.l1]) ?_
    rw [rdG gs i hi, rdI gs[i] j hjl]
    have h1 := laws_has_mem a gs[i][j] (by omega) (hg.mem _ hgm _ (List.getElem_mem hjl))
    refine Ev.ifpos (by omega) (Ev.ifpos (by omega) (Ev.ifpos (by omega) (Ev.ifpos (by omega) (Ev.bind h1 (Ev.ifpos rfl ?_)))))
    exact al_two l gs a hg he i j hi hjl s r (ih (j + 1) (by omega)) j 0 (by omega)

theorem al_all : ∀ d i, i + d = gs.length → Ev (fun k => laws_FnAliases.l0 k l gs a ((lensOf (gs.take i) : Nat) : Int) (i : Int)) true := by
  intro d
  induction d with
  | zero =>
    intro i hi
    refine Ev.step (fun k => by rw [laws_FnAliases.l0]) ?_
    refine Ev.ifneg (by omega) (Ev.pure ?_)
    rw [List.take_of_length_le (by omega), hg.sum]
    simp
  | succ d ih =>
    intro i hi
    have hil : i < gs.length := by omega
    have hgm : gs[i] ∈ gs := List.getElem_mem hil
    have h12 := he _ hgm
    have hsum : lensOf (gs.take (i + 1)) = lensOf (gs.take i) + gs[i].length := by
      rw [List.take_succ_eq_append_getElem hil, lensOf_append]
      simp [lensOf]
    have hle : lensOf (gs.take (i + 1)) ≤ lensOf gs := by
      have e : lensOf gs = lensOf (gs.take (i + 1)) + lensOf (gs.drop (i + 1)) := by rw [← lensOf_append, List.take_append_drop]
      omega
    have hs := hg.sum
    have hw : wrap64 (((lensOf (gs.take i) : Nat) : Int) + (gs[i].length : Int)) = ((lensOf (gs.take (i + 1)) : Nat) : Int) := by
      rw [hsum, wrap_in (by omega) (by omega)]; omega
    have hne : gs[i] ≠ [] := hg.some _ hgm
    have hpos : 0 < gs[i].length := List.length_pos_iff.2 hne
    have hnext := al_one l gs a hg hl he ha i hil ((lensOf (gs.take (i + 1)) : Nat) : Int) true (ih (i + 1) (by omega)) gs[i].length 0 (by omega)
    have hj : Ev (fun k => laws_FnAliases.j1 k l gs a ((lensOf (gs.take (i + 1)) : Nat) : Int) (i : Int) false) true := by
      refine Ev.step (fun k => by rw [laws_FnAliases.j1]) ?_
      exact Ev.ifneg (by decide) hnext
    refine Ev.step (fun k => by rw [laws_FnAliases.l0]) ?_
    rw [rdG gs i hil, hw]
    refine Ev.ifpos (by omega) (Ev.ifpos (by omega) (Ev.ifneg (by omega) ?_))
    by_cases h1 : (gs[i].length : Int) > 1
    · have hm := impl_mayBe l gs[i] (by omega)
      rw [hg.may _ hgm (by omega)] at hm
      exact Ev.ifpos h1 (Ev.bind hm hj)
    · exact Ev.ifneg h1 hj
end

theorem FnAliases : laws_FnAliases.Pure := by
  intro x hx _ _
  refine Ev.rounds ?_
  unfold laws_FnAliases.f
  by_cases hb : (x.length : Int) > 1048576
  · refine Ev.bind0 (a := true) (by unfold laws_big.f; rw [decide_eq_true hb]) (Ev.ifpos rfl (Ev.now _))
  refine Ev.bind0 (a := false) (by unfold laws_big.f; rw [decide_eq_false hb]) (Ev.ifneg (by decide) ?_)
  obtain ⟨l, h0, hl⟩ := draw_groups x (by omega)
  have hg := impl_groups l (by omega)
  have hs := spec_replies l (by omega)
  rw [areReplies_eq] at hs
  refine Ev.bind h0 (Ev.bind hg (Ev.bind0 (a := areR l) (by unfold impl_AreReplies.f; rw [areReplies_eq]) (Ev.bind hs (Ev.ifneg (by simp) (Ev.bind0 (a := areR l) (by unfold impl_AreReplies.f; rw [areReplies_eq]) ?_)))))
  by_cases h : areR l = true
  · refine Ev.ifpos h (Ev.bind (impl_addr l (by omega)) ?_)
    obtain ⟨h1, h2⟩ := groupsA_small l
    have := al_all l (groupsA l) (sortedF (addrs l)) (groups_good h) h1 h2 (addr_few h) (groupsA l).length 0 (by omega)
    exact this
  · refine Ev.ifneg h (Ev.pure ?_)
    unfold groupsA
    rw [if_neg h]
    rfl

end Go.Proofs.Ytgghhcifkgdpeaa.Pure
