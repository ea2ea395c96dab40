/- The statement: at every bytes, the probes' laws hold: the probes go along paths, their rows have exactly the links of them, and all these links are seen. No condition. -/
import Derived.Test.YtlplegdcpgbbbaaWWords
import Derived.Test.YtlplegdcpgbbbaaWLast
import Derived.Test.YtlplegdcpgbbbaaWMore
import Derived.Test.YtlplegdcpgbbbaaZFirst
import Derived.Test.YtlplegdcpgbbbaaZ6
import Derived.Test.YtlplegdcpgbbbaaZ3
import Derived.Test.YtlplegdcpgbbbaaZ0
import Derived.Test.YtlplegdcpgbbbaaZ4
import Derived.Test.YtlplegdcpgbbbaaZ2
import Derived.Test.YtlplegdcpgbbbaaZ7
import Derived.Test.YtlplegdcpgbbbaaZ8
import Derived.Test.YtlplegdcpgbbbaaZ5
import Derived.Test.YtlplegdcpgbbbaaZ9
import Derived.Test.YtlplegdcpgbbbaaZ10
import Derived.Test.YtlplegdcpgbbbaaZ11
import Derived.Test.YtlplegdcpgbbbaaZDefFnProbes
import Derived.Test.YtlplegdcpgbbbaaZ12
/- Plain lemmas for what the printed functions come to: loops that go up, indices that do not wrap, reads. No condition. -/
namespace Go.Proofs.Ytlplegdcpgbbbaa.Pure
open Go.RowKit Go.Proofs.YtlplegdcpgbbbaaW.PrintWords Go.Proofs.YtlplegdcpgbbbaaW.PrintLast Go.Proofs.YtlplegdcpgbbbaaW.PrintMore

/-- A loop that goes up to n: at each index it comes to R, if it does so one index further. -/
theorem Ev.up {σ ρ : Type} (n : Nat) (G : Nat → σ → Nat → Option ρ) (R : Nat → σ → ρ) (Inv : Nat → σ → Prop) (hend : ∀ s, Inv n s → Ev (G n s) (R n s))
    (hstep : ∀ i s, i < n → Inv i s → (∀ s', Inv (i + 1) s' → Ev (G (i + 1) s') (R (i + 1) s')) → Ev (G i s) (R i s)) : ∀ i s, i ≤ n → Inv i s → Ev (G i s) (R i s) := by
  have key : ∀ d i s, i + d = n → Inv i s → Ev (G i s) (R i s) := by
    intro d
    induction d with
    | zero => intro i s h hi; obtain rfl : i = n := by omega
              exact hend s hi
    | succ d ih => intro i s h hi; exact hstep i s (by omega) hi (fun s' hs' => ih (i + 1) s' (by omega) hs')
  intro i s h hi
  exact key (n - i) i s (by omega) hi

/-- The same without a state. -/
theorem Ev.up0 {ρ : Type} (n : Nat) (G : Nat → Nat → Option ρ) (R : Nat → ρ) (hend : Ev (G n) (R n)) (hstep : ∀ i, i < n → Ev (G (i + 1)) (R (i + 1)) → Ev (G i) (R i)) : ∀ i, i ≤ n → Ev (G i) (R i) := by
  intro i h
  exact Ev.up n (fun i (_ : Unit) => G i) (fun i _ => R i) (fun _ _ => True) (fun _ _ => hend) (fun i s hi _ hn => hstep i hi (hn () trivial)) i () h trivial

theorem Ev.det {α : Type} {g : Nat → Option α} {r q : α} (h : Ev g r) (h' : Ev g q) : r = q := by
  obtain ⟨K, h⟩ := h
  obtain ⟨K', h'⟩ := h'
  have a := h (max K K') (by omega)
  have b := h' (max K K') (by omega)
  rw [a] at b
  exact Option.some.inj b

theorem Ev.const {α : Type} {g : Nat → Option α} {r : α} (h : ∀ k, g k = some r) : Ev g r := ⟨0, fun k _ => h k⟩

theorem Ev.ifpos {α : Type} {c : Prop} [Decidable c] {g f : Nat → Option α} {r : α} (hc : c) (h : Ev g r) : Ev (fun k => if c then g k else f k) r := Ev.congr (fun k => by rw [if_pos hc]) h
theorem Ev.ifneg {α : Type} {c : Prop} [Decidable c] {g f : Nat → Option α} {r : α} (hc : ¬ c) (h : Ev f r) : Ev (fun k => if c then g k else f k) r := Ev.congr (fun k => by rw [if_neg hc]) h
theorem Ev.pure {α : Type} {a r : α} (h : a = r) : Ev (fun _ => some a) r := by subst h; exact Ev.now _

/-- A call that needs no rounds. -/
theorem Ev.bind0 {α β : Type} {g : Option α} {f : Nat → α → Option β} {a : α} {r : β} (h : g = some a) (k : Ev (fun n => f n a) r) : Ev (fun n => g.bind (f n)) r :=
  Ev.congr (fun n => by rw [h]; rfl) k

theorem wrap_in {n : Int} (h0 : -9223372036854775808 ≤ n) (h1 : n ≤ 9223372036854775807) : wrap64 n = n := by unfold wrap64; omega
theorem wrap_succ {i : Nat} (h : i < 9223372036854775807) : wrap64 ((i : Int) + 1) = ((i + 1 : Nat) : Int) := by unfold wrap64; omega

theorem rd_nat (xs : List Int) (i : Nat) : rd xs (i : Int) = xs.getD i 0 := by unfold rd; rw [Int.toNat_natCast]
theorem rd_get (xs : List Int) (i : Nat) (h : i < xs.length) : rd xs (i : Int) = xs[i] := by rw [rd_nat, List.getD_eq_getElem?_getD, List.getElem?_eq_getElem h]; rfl
theorem getD_get {α : Type} (xs : List α) (i : Nat) (z : α) (h : i < xs.length) : xs.getD (i : Int).toNat z = xs[i] := by rw [Int.toNat_natCast, List.getD_eq_getElem?_getD, List.getElem?_eq_getElem h]; rfl

theorem drop_get {α : Type} (xs : List α) (i : Nat) (h : i < xs.length) : xs.drop i = xs[i] :: xs.drop (i + 1) := List.drop_eq_getElem_cons h

theorem take_set_self {α : Type} (s : List α) (i : Nat) (a : α) : (s.set i a).take i = s.take i := by
  apply List.ext_getElem?
  intro j
  by_cases h : j < i
  · rw [List.getElem?_take, List.getElem?_take, if_pos h, if_pos h, List.getElem?_set_ne (by omega)]
  · rw [List.getElem?_take, List.getElem?_take, if_neg h, if_neg h]

/-- A loop that copies, element by element. -/
theorem copy_loop {α β : Type} (l : List α) (f : α → β) (G : Nat → List β → Nat → Option (List β)) (hend : ∀ s : List β, Ev (G l.length s) s)
    (hstep : ∀ i (hi : i < l.length) (s r : List β), s.length = l.length → Ev (G (i + 1) (s.set i (f l[i]))) r → Ev (G i s) r) (s : List β) (hs : s.length = l.length) : Ev (G 0 s) (l.map f) := by
  have key := Ev.up l.length G (fun i s => s.take i ++ (l.map f).drop i) (fun _ s => s.length = l.length)
    (fun s hs => by
      have e : s.take l.length ++ (l.map f).drop l.length = s := by rw [List.take_of_length_le (by omega), List.drop_of_length_le (by simp), List.append_nil]
      simp only [e]
      exact hend s)
    (fun i s hi hs ih => by
      have h1 := ih (s.set i (f l[i])) (by simpa using hs)
      have e : (s.set i (f l[i])).take (i + 1) ++ (l.map f).drop (i + 1) = s.take i ++ (l.map f).drop i := by
        rw [List.take_succ_eq_append_getElem (by simp; omega), List.drop_eq_getElem_cons (l := l.map f) (i := i) (by simpa using hi), take_set_self]
        simp
      simp only [e] at h1
      exact hstep i hi s _ hs h1) 0 s (Nat.zero_le _) hs
  simpa using key

/-- A loop that takes off what the elements weigh. -/
theorem sz_loop {α : Type} (l : List α) (sm : α → Prop) (G : Nat → Int → Nat → Option Int) (hend : ∀ s : Int, Ev (G l.length s) s)
    (hstep : ∀ i (hi : i < l.length) (s : Int), 0 ≤ s → s ≤ 1048576 → Ev (G i s) (-1) ∨ ∃ q : Int, 0 ≤ q ∧ q ≤ s ∧ sm l[i] ∧ ∀ r, Ev (G (i + 1) q) r → Ev (G i s) r) (s : Int) (h0 : 0 ≤ s) (h1 : s ≤ 1048576) :
    ∃ r : Int, Ev (G 0 s) r ∧ (0 ≤ r → r ≤ s ∧ ∀ x ∈ l, sm x) := by
  have key : ∀ d i (s : Int), i + d = l.length → 0 ≤ s → s ≤ 1048576 → ∃ r : Int, Ev (G i s) r ∧ (0 ≤ r → r ≤ s ∧ ∀ x ∈ l.drop i, sm x) := by
    intro d
    induction d with
    | zero =>
      intro i s hi h0 h1
      obtain rfl : i = l.length := by omega
      exact ⟨s, hend s, fun _ => ⟨Int.le_refl _, by simp⟩⟩
    | succ d ih =>
      intro i s hi h0 h1
      have hlt : i < l.length := by omega
      rcases hstep i hlt s h0 h1 with h | ⟨q, hq0, hq1, hsm, hnext⟩
      · exact ⟨-1, h, fun h => by omega⟩
      · obtain ⟨r, hr, hr2⟩ := ih (i + 1) q (by omega) hq0 (by omega)
        refine ⟨r, hnext r hr, fun h => ⟨by have := (hr2 h).1; omega, ?_⟩⟩
        rw [drop_get l i hlt]
        intro x hx
        rcases List.mem_cons.1 hx with rfl | hx
        · exact hsm
        · exact (hr2 h).2 x hx
  simpa using key l.length 0 s (by omega) h0 h1

/-- What a mark leaves: element i holds the numbers from m + c * i on. -/
def marked {α : Type} (c : Nat) (mk : Int → α) (m : Int) (n : Nat) : List α := (List.range n).map fun i => mk (m + ((c * i : Nat) : Int))
theorem marked_length {α : Type} (c : Nat) (mk : Int → α) (m : Int) (n : Nat) : (marked c mk m n).length = n := by simp [marked]
theorem marked_get {α : Type} (c : Nat) (mk : Int → α) (m : Int) (n i : Nat) (h : i < (marked c mk m n).length) : (marked c mk m n)[i] = mk (m + ((c * i : Nat) : Int)) := by simp [marked]
theorem marked_succ {α : Type} (c : Nat) (mk : Int → α) (m : Int) (n : Nat) : marked c mk m (n + 1) = mk m :: marked c mk (m + (c : Int)) n := by
  unfold marked
  rw [List.range_succ_eq_map, List.map_cons, List.map_map]
  congr 1
  · simp
  · apply List.map_congr_left
    intro i _
    show mk _ = mk _
    congr 1
    rw [Nat.mul_succ]
    omega

theorem mark_loop {α : Type} (c : Nat) (mk : Int → α) (n : Nat) (G : Nat → List α → Int → Nat → Option (Int × List α)) (hend : ∀ (s : List α) (m : Int), s.length = n → Ev (G n s m) (m, s))
    (hstep : ∀ i (s : List α) (m : Int) r, i < n → s.length = n → 0 ≤ m → m ≤ 4611686018427387904 → Ev (G (i + 1) (s.set i (mk m)) (m + (c : Int))) r → Ev (G i s m) r)
    (s : List α) (m : Int) (hs : s.length = n) (h0 : 0 ≤ m) (h1 : m + ((c * n : Nat) : Int) ≤ 4611686018427387904) : Ev (G 0 s m) (m + ((c * n : Nat) : Int), marked c mk m n) := by
  have key : ∀ d i (s : List α) (m : Int), i + d = n → s.length = n → 0 ≤ m → m + ((c * d : Nat) : Int) ≤ 4611686018427387904 → Ev (G i s m) (m + ((c * d : Nat) : Int), s.take i ++ marked c mk m d) := by
    intro d
    induction d with
    | zero =>
      intro i s m hi hs h0 h1
      obtain rfl : i = n := by omega
      have e : s.take i ++ marked c mk m 0 = s := by rw [List.take_of_length_le (by omega)]; simp [marked]
      rw [e]
      simpa using hend s m hs
    | succ d ih =>
      intro i s m hi hs h0 h1
      rw [Nat.mul_succ] at h1
      have h2 := ih (i + 1) (s.set i (mk m)) (m + (c : Int)) (by omega) (by simpa using hs) (by omega) (by omega)
      have e : (s.set i (mk m)).take (i + 1) ++ marked c mk (m + (c : Int)) d = s.take i ++ marked c mk m (d + 1) := by
        rw [List.take_succ_eq_append_getElem (by simp; omega), marked_succ, take_set_self]
        simp
      rw [e] at h2
      have e2 : m + (c : Int) + ((c * d : Nat) : Int) = m + ((c * (d + 1) : Nat) : Int) := by rw [Nat.mul_succ]; omega
      rw [e2] at h2
      exact hstep i s m _ (by omega) hs h0 (by omega) h2
  have := key n 0 s m (by omega) hs h0 h1
  simpa using this

theorem held_loop (c : Nat) (n : Nat) (m0 : Int) (G : Nat → Int → Nat → Option Int) (hend : ∀ m : Int, Ev (G n m) m)
    (hstep : ∀ i r, i < n → Ev (G (i + 1) (m0 + ((c * i : Nat) : Int) + (c : Int))) r → Ev (G i (m0 + ((c * i : Nat) : Int))) r) : Ev (G 0 m0) (m0 + ((c * n : Nat) : Int)) := by
  have key := Ev.up0 n (fun i => G i (m0 + ((c * i : Nat) : Int))) (fun _ => m0 + ((c * n : Nat) : Int)) (hend _)
    (fun i hi ih => hstep i _ hi (by
      have e : m0 + ((c * i : Nat) : Int) + (c : Int) = m0 + ((c * (i + 1) : Nat) : Int) := by rw [Nat.mul_succ]; omega
      rw [e]
      exact ih)) 0 (Nat.zero_le _)
  simpa using key

end Go.Proofs.Ytlplegdcpgbbbaa.Pure
/- Plain lemmas: loops that search. No condition. -/
namespace Go.Proofs.Ytlplegdcpgbbbaa.Pure
open Go.RowKit Go.Proofs.Ytlplegdcpgbbbaa.Z Go.Proofs.YtlplegdcpgbbbaaW.PrintWords

theorem firstAt_cons {α : Type} (p : α → Bool) (x : α) (xs : List α) : firstAt p (x :: xs) = if p x = true then 0 else if firstAt p xs < 0 then -1 else firstAt p xs + 1 := by
  unfold firstAt
  rw [List.findIdx_cons]
  cases h : p x
  · simp only [cond_false, List.length_cons, Bool.false_eq_true, if_false]
    by_cases h2 : xs.findIdx p < xs.length
    · rw [if_pos (by omega), if_pos h2, if_neg (by omega)]
      omega
    · rw [if_neg (by omega), if_neg h2]
      simp
  · simp

/-- A loop that searches from the front comes to the first place. -/
theorem first_loop {α : Type} (p : α → Bool) (xs : List α) (G : Nat → Nat → Option Int) (hend : Ev (G xs.length) (-1)) (hhit : ∀ i (hi : i < xs.length), p xs[i] = true → Ev (G i) (i : Int))
    (hmiss : ∀ i (hi : i < xs.length) r, p xs[i] = false → Ev (G (i + 1)) r → Ev (G i) r) : Ev (G 0) (firstAt p xs) := by
  have key := Ev.up0 xs.length G (fun i => if firstAt p (xs.drop i) < 0 then -1 else firstAt p (xs.drop i) + (i : Int))
    (by rw [List.drop_of_length_le (Nat.le_refl _)]; simpa [firstAt] using hend)
    (fun i hi ih => by
      rw [drop_get xs i hi, firstAt_cons]
      cases h : p xs[i]
      · simp only [Bool.false_eq_true, if_false]
        refine hmiss i hi _ h ?_
        by_cases h2 : firstAt p (xs.drop (i + 1)) < 0
        · rw [if_pos h2, if_pos (by omega)]
          rwa [if_pos h2] at ih
        · rw [if_neg h2, if_neg (by omega)]
          rw [if_neg h2] at ih
          have e : firstAt p (xs.drop (i + 1)) + ((i + 1 : Nat) : Int) = firstAt p (xs.drop (i + 1)) + 1 + (i : Int) := by omega
          rwa [e] at ih
      · simp only [if_true]
        rw [if_neg (by omega)]
        have := hhit i hi h
        simpa using this) 0 (Nat.zero_le _)
  rw [List.drop_zero] at key
  by_cases h : firstAt p xs < 0
  · have e : firstAt p xs = -1 := by
      unfold firstAt at h ⊢
      split at h
      · omega
      · rename_i h2; rw [if_neg h2]
    rw [if_pos h] at key
    rw [e]
    exact key
  · rw [if_neg h] at key
    simpa using key

/-- A loop that asks whether one holds. -/
theorem any_loop {α : Type} (p : α → Bool) (xs : List α) (G : Nat → Nat → Option Bool) (hend : Ev (G xs.length) false) (hhit : ∀ i (hi : i < xs.length), p xs[i] = true → Ev (G i) true)
    (hmiss : ∀ i (hi : i < xs.length) r, p xs[i] = false → Ev (G (i + 1)) r → Ev (G i) r) : Ev (G 0) (xs.any p) := by
  have key := Ev.up0 xs.length G (fun i => (xs.drop i).any p)
    (by rw [List.drop_of_length_le (Nat.le_refl _)]; simpa using hend)
    (fun i hi ih => by
      rw [drop_get xs i hi, List.any_cons]
      cases h : p xs[i]
      · simpa using hmiss i hi _ h ih
      · simpa using hhit i hi h) 0 (Nat.zero_le _)
  simpa using key

/-- A loop that asks whether all hold. -/
theorem all_loop {α : Type} (p : α → Bool) (xs : List α) (G : Nat → Nat → Option Bool) (r0 : Bool) (hend : Ev (G xs.length) r0) (hbad : ∀ i (hi : i < xs.length), p xs[i] = false → Ev (G i) false)
    (hgood : ∀ i (hi : i < xs.length) r, p xs[i] = true → Ev (G (i + 1)) r → Ev (G i) r) : Ev (G 0) (xs.all p && r0) := by
  have key := Ev.up0 xs.length G (fun i => (xs.drop i).all p && r0)
    (by rw [List.drop_of_length_le (Nat.le_refl _)]; simpa using hend)
    (fun i hi ih => by
      rw [drop_get xs i hi, List.all_cons]
      cases h : p xs[i]
      · simpa using hbad i hi h
      · simpa using hgood i hi _ h ih) 0 (Nat.zero_le _)
  simpa using key

end Go.Proofs.Ytlplegdcpgbbbaa.Pure
/- Plain lemma: what the reference's LinkOf returns: the first link that connects the two. Condition: the list is not longer than a list can be. -/
namespace Go.Proofs.Ytlplegdcpgbbbaa.Pure
open Go.RowKit Go.Proofs.Ytlplegdcpgbbbaa.Z Go.Proofs.YtlplegdcpgbbbaaW.PrintWords

theorem rdLink (xs : List S93) (i : Nat) (h : i < xs.length) : rd_T93 xs (i : Int) = xs[i] := getD_get xs i _ h

theorem spec_linkOf (n : Int) (l : List S93) (a b : Int) (hl : l.length ≤ 9223372036854775806) : Ev (fun k => spec_LinkOf.f k n l a b) (firstAt (isLink a b) l) := by
  unfold spec_LinkOf.f
  refine first_loop (isLink a b) l (fun i k => spec_LinkOf.l0 k a b (i : Int) n l) ?_ ?_ ?_
  · refine Ev.step (fun k => by rw [spec_LinkOf.l0]) ?_
    exact Ev.ifneg (by omega) (Ev.now _)
  · intro i hi h
    refine Ev.step (fun k => by rw [spec_LinkOf.l0]) ?_
    refine Ev.ifpos (by omega) (Ev.ifpos (by omega) ?_)
    rw [rdLink l i hi]
    unfold isLink at h
    by_cases h1 : (l[i].f0 == a && l[i].f1 == b) = true
    · exact Ev.ifpos h1 (Ev.now _)
    · refine Ev.ifneg h1 (Ev.ifpos ?_ (Ev.now _))
      simpa [h1] using h
  · intro i hi r h hr
    refine Ev.step (fun k => by rw [spec_LinkOf.l0]) ?_
    refine Ev.ifpos (by omega) (Ev.ifpos (by omega) ?_)
    rw [rdLink l i hi]
    unfold isLink at h
    rw [Bool.or_eq_false_iff] at h
    refine Ev.ifneg (by rw [h.1]; exact Bool.noConfusion) (Ev.ifneg (by rw [h.2]; exact Bool.noConfusion) ?_)
    rw [wrap_succ (by omega)]
    exact hr

end Go.Proofs.Ytlplegdcpgbbbaa.Pure
/- Plain lemma: what the reference's range test answers. No condition. -/
namespace Go.Proofs.Ytlplegdcpgbbbaa.Pure
open Go.RowKit Go.Proofs.Ytlplegdcpgbbbaa.Z Go.Proofs.YtlplegdcpgbbbaaW.PrintWords

end Go.Proofs.Ytlplegdcpgbbbaa.Pure
/- Plain lemmas: what the program's and the reference's IsNet answer. Condition: the list is not longer than a list can be. -/
namespace Go.Proofs.Ytlplegdcpgbbbaa.Pure
open Go.RowKit Go.Proofs.Ytlplegdcpgbbbaa.Z Go.Proofs.YtlplegdcpgbbbaaW.PrintWords

abbrev Lk := S93

theorem firstAt_le {α : Type} (p : α → Bool) (xs : List α) (i : Nat) (h : i < xs.length) (hp : p xs[i] = true) : 0 ≤ firstAt p xs ∧ firstAt p xs ≤ (i : Int) := by
  have h1 : xs.findIdx p ≤ i := by
    rcases Nat.lt_or_ge i (xs.findIdx p) with hlt | hge
    · have := List.not_of_lt_findIdx hlt
      rw [hp] at this
      exact Bool.noConfusion this
    · exact hge
  unfold firstAt
  rw [if_pos (by omega)]
  omega

/-- Does link i of the network lead between two nodes, and is it the first that connects them? -/
def linkOk (n : Int) (l : List Lk) (i : Nat) : Bool :=
  decide (0 ≤ (rd_T93 l (i : Int)).f0 ∧ (rd_T93 l (i : Int)).f0 < n) && (decide (0 ≤ (rd_T93 l (i : Int)).f1 ∧ (rd_T93 l (i : Int)).f1 < n) &&
    (decide ((rd_T93 l (i : Int)).f0 ≠ (rd_T93 l (i : Int)).f1) && decide (firstAt (isLink (rd_T93 l (i : Int)).f0 (rd_T93 l (i : Int)).f1) l = (i : Int))))

def isNet (n : Int) (l : List Lk) : Bool := decide (1 ≤ n ∧ n ≤ 8) && (decide (1 ≤ l.length ∧ l.length ≤ 6) && (List.range l.length).all (linkOk n l))

theorem isLink_self (k : Lk) : isLink k.f0 k.f1 k = true := by unfold isLink; simp

theorem impl_at_eq (i n : Int) : impl_at.f i n = some (decide (0 ≤ i ∧ i < n)) := by
  unfold impl_at.f
  by_cases h : 0 ≤ i <;> simp [h]

theorem impl_in (n a b : Int) : impl_InRange.f n a b = some (decide (a ≤ n ∧ n ≤ b)) := by
  unfold impl_InRange.f
  by_cases h : a ≤ n <;> simp [h]

theorem impl_net_from (n : Int) (l : List Lk) (hl : l.length ≤ 9223372036854775806) : ∀ i, i ≤ l.length → Ev (fun k => impl_IsNet.l0 k l (l.length : Int) (i : Int) n l) (((List.range l.length).drop i).all (linkOk n l)) := by
  refine Ev.up0 l.length (fun i k => impl_IsNet.l0 k l (l.length : Int) (i : Int) n l) (fun i => ((List.range l.length).drop i).all (linkOk n l)) ?_ ?_
  · rw [List.drop_of_length_le (by simp)]
    refine Ev.step (fun k => by rw [impl_IsNet.l0]) ?_
    exact Ev.ifneg (by omega) (Ev.now _)
  · intro i hi ih
    rw [drop_get _ i (by simpa using hi), List.all_cons, List.getElem_range]
    generalize ((List.range l.length).drop (i + 1)).all (linkOk n l) = r at ih ⊢
    refine Ev.step (fun k => by rw [impl_IsNet.l0]) ?_
    refine Ev.ifpos (by omega) (Ev.ifpos (by omega) (Ev.ifpos (by omega) ?_))
    unfold linkOk
    rw [rdLink l i hi]
    by_cases a3 : l[i].f0 = l[i].f1
    · exact Ev.ifpos a3 (Ev.pure (by simp [a3]))
    · refine Ev.ifneg a3 (Ev.bind0 (impl_at_eq _ _) ?_)
      by_cases a1 : 0 ≤ l[i].f0 ∧ l[i].f0 < n
      · refine Ev.ifpos (decide_eq_true a1) (Ev.bind0 (impl_at_eq _ _) ?_)
        by_cases a2 : 0 ≤ l[i].f1 ∧ l[i].f1 < n
        · refine Ev.ifpos (decide_eq_true a2) (Ev.bind0 rfl ?_)
          by_cases a4 : firstAt (isLink l[i].f0 l[i].f1) l = (i : Int)
          · refine Ev.ifpos a4 ?_
            rw [wrap_succ (by omega)]
            simpa [a1, a2, a3, a4] using ih
          · exact Ev.ifneg a4 (Ev.pure (by simp [a4]))
        · refine Ev.ifneg (by rw [decide_eq_true_eq]; omega) (Ev.pure ?_)
          rw [decide_eq_false a2]
          simp
      · refine Ev.ifneg (by rw [decide_eq_true_eq]; omega) (Ev.pure ?_)
        rw [decide_eq_false a1]
        simp

theorem impl_net (n : Int) (l : List Lk) (hl : l.length ≤ 9223372036854775806) : Ev (fun k => impl_IsNet.f k n l) (isNet n l) := by
  unfold impl_IsNet.f isNet
  refine Ev.bind0 (impl_in _ _ _) ?_
  by_cases h1 : 1 ≤ n ∧ n ≤ 8
  · refine Ev.ifpos (decide_eq_true h1) (Ev.bind0 (impl_in _ _ _) ?_)
    by_cases h2 : 1 ≤ l.length ∧ l.length ≤ 6
    · have e : decide (1 ≤ (l.length : Int) ∧ (l.length : Int) ≤ 6) = true := decide_eq_true (by omega)
      rw [e, decide_eq_true h1, decide_eq_true h2]
      refine Ev.step (fun k => by rw [impl_IsNet.j0]) (Ev.ifneg (by decide) ?_)
      simpa using impl_net_from n l hl 0 (Nat.zero_le _)
    · have e : decide (1 ≤ (l.length : Int) ∧ (l.length : Int) ≤ 6) = false := decide_eq_false (by omega)
      rw [e, decide_eq_false h2]
      refine Ev.step (fun k => by rw [impl_IsNet.j0]) ?_
      exact Ev.ifpos rfl (Ev.pure (by simp))
  · rw [decide_eq_false h1]
    exact Ev.ifneg (by decide) (Ev.step (fun k => by rw [impl_IsNet.j0]) (Ev.ifpos rfl (Ev.pure (by simp))))

end Go.Proofs.Ytlplegdcpgbbbaa.Pure
/- Plain words: where a path leads. No condition. -/
namespace Go.Proofs.Ytlplegdcpgbbbaa.Pure
open Go.RowKit Go.Proofs.Ytlplegdcpgbbbaa.Z Go.Proofs.YtlplegdcpgbbbaaW.PrintWords

/-- Where the path leads from x on; -1 where it leaves the network. -/
def endOf (ls : List S93) : Int → List Int → Int
  | x, [] => x
  | x, i :: is => if 0 ≤ i ∧ i < ls.length then (if x = (rd_T93 ls i).f0 then endOf ls (rd_T93 ls i).f1 is else if x = (rd_T93 ls i).f1 then endOf ls (rd_T93 ls i).f0 is else -1) else -1

end Go.Proofs.Ytlplegdcpgbbbaa.Pure
/- Plain law: how far each node is from a node, and the route that follows the distances down. No program in sight. -/
namespace Go.Proofs.Ytlplegdcpgbbbaa.Pure
open Go.RowKit Go.Proofs.Ytlplegdcpgbbbaa.Z Go.Proofs.YtlplegdcpgbbbaaW.PrintWords

def across (l : Lk) (x : Int) : Int := if x = l.f0 then l.f1 else if x = l.f1 then l.f0 else -1
def relax1 (n : Int) (d : List Int) (a b : Int) : List Int := if rd d a = n ∧ rd d b < 0 then d.set b.toNat (n + 1) else d
def relaxL (n : Int) (d : List Int) (l : Lk) : List Int := relax1 n (relax1 n d l.f0 l.f1) l.f1 l.f0
def sweep (ls : List Lk) (d : List Int) (n : Nat) : List Int := ls.foldl (relaxL (n : Int)) d
def dist (N : Nat) (ls : List Lk) (b : Int) : List Int := (List.range N).foldl (sweep ls) ((List.replicate N (-1)).set b.toNat 0)
def stepOk (d : List Int) (x : Int) (l : Lk) : Bool := decide (0 ≤ across l x ∧ rd d (across l x) = rd d x - 1)
def routeF (d : List Int) (ls : List Lk) : Nat → Int → List Int
  | 0, _ => []
  | m + 1, x => firstAt (stepOk d x) ls :: routeF d ls m (across (rd_T93 ls (firstAt (stepOk d x) ls)) x)

theorem rd_set (d : List Int) (b v x : Int) (hb : 0 ≤ b) (hb2 : b < d.length) (hv : 0 ≤ v) : rd (d.set b.toNat x) v = if v = b then x else rd d v := by
  unfold rd
  rw [List.getD_eq_getElem?_getD, List.getD_eq_getElem?_getD]
  by_cases h : v = b
  · subst h
    rw [if_pos rfl, List.getElem?_set_self (by omega)]
    rfl
  · rw [if_neg h, List.getElem?_set_ne (by omega)]

/-- Links between two nodes of N. -/
def Links (N : Nat) (ls : List Lk) : Prop := ∀ l ∈ ls, 0 ≤ l.f0 ∧ l.f0 < N ∧ 0 ≤ l.f1 ∧ l.f1 < N ∧ l.f0 ≠ l.f1

/-- What the distances are at each stage: each node that has one greater than 0 has a neighbour one nearer. -/
structure Good (N : Nat) (ls : List Lk) (tg : Int) (d : List Int) : Prop where
  len : d.length = N
  lo : ∀ v : Int, 0 ≤ v → v < N → -1 ≤ rd d v ∧ rd d v ≤ N
  zero : ∀ v : Int, 0 ≤ v → v < N → rd d v = 0 → v = tg
  t0 : 0 ≤ tg ∧ tg < N
  own : rd d tg = 0
  near : ∀ v : Int, 0 ≤ v → v < N → 0 < rd d v → ∃ l ∈ ls, 0 ≤ across l v ∧ across l v < N ∧ rd d (across l v) = rd d v - 1

theorem relax1_good {N : Nat} {ls : List Lk} {tg : Int} {d : List Int} (h : Good N ls tg d) {n a b : Int} {l : Lk} (hl : l ∈ ls) (hn : 0 ≤ n) (hN : n < N) (ha : 0 ≤ a ∧ a < N) (hb : 0 ≤ b ∧ b < N) (hc : across l b = a) : Good N ls tg (relax1 n d a b) := by
  unfold relax1
  by_cases hif : rd d a = n ∧ rd d b < 0
  · rw [if_pos hif]
    have hlen := h.len
    have hrd : ∀ v : Int, 0 ≤ v → rd (d.set b.toNat (n + 1)) v = if v = b then n + 1 else rd d v := fun v hv => rd_set d b v (n + 1) hb.1 (by omega) hv
    refine ⟨by simpa using hlen, fun v hv hv2 => ?_, fun v hv hv2 => ?_, h.t0, by rw [hrd tg h.t0.1, if_neg (fun e => by have := h.own; rw [e] at this; omega)]; exact h.own, fun v hv hv2 => ?_⟩
    · rw [hrd v hv]
      split
      · omega
      · exact h.lo v hv hv2
    · rw [hrd v hv]
      split
      · intro h0; omega
      · exact h.zero v hv hv2
    · rw [hrd v hv]
      split
      · rename_i hvb
        intro _
        refine ⟨l, hl, ?_⟩
        rw [hvb, hc, hrd a ha.1, if_neg (fun e => by rw [e] at hif; omega)]
        exact ⟨ha.1, ha.2, by omega⟩
      · intro hpos
        obtain ⟨l', hl', h1, h2, h3⟩ := h.near v hv hv2 hpos
        refine ⟨l', hl', h1, h2, ?_⟩
        rw [hrd _ h1, if_neg (fun e => by rw [e] at h3; omega)]
        exact h3
  · rw [if_neg hif]
    exact h

theorem relaxL_good {N : Nat} {ls : List Lk} {tg : Int} {d : List Int} (hv : Links N ls) (h : Good N ls tg d) {n : Int} {l : Lk} (hl : l ∈ ls) (hn : 0 ≤ n) (hN : n < N) : Good N ls tg (relaxL n d l) := by
  have h1 := hv l hl
  unfold relaxL
  refine relax1_good (relax1_good h hl hn hN ⟨h1.1, h1.2.1⟩ ⟨h1.2.2.1, h1.2.2.2.1⟩ ?_) hl hn hN ⟨h1.2.2.1, h1.2.2.2.1⟩ ⟨h1.1, h1.2.1⟩ ?_
  · unfold across
    rw [if_neg (fun e => h1.2.2.2.2 e.symm), if_pos rfl]
  · unfold across
    rw [if_pos rfl]

theorem start_good {N : Nat} {ls : List Lk} {tg : Int} (h0 : 0 ≤ tg) (h1 : tg < N) : Good N ls tg ((List.replicate N (-1)).set tg.toNat 0) := by
  have hlen : ((List.replicate N (-1 : Int)).set tg.toNat 0).length = N := by simp
  have hrd : ∀ v : Int, 0 ≤ v → v < N → rd ((List.replicate N (-1)).set tg.toNat 0) v = if v = tg then 0 else -1 := by
    intro v hv hv2
    rw [rd_set _ tg v 0 h0 (by simp; omega) hv]
    congr 1
    unfold rd
    rw [List.getD_eq_getElem?_getD, List.getElem?_replicate, if_pos (by omega)]
    rfl
  refine ⟨hlen, fun v hv hv2 => ?_, fun v hv hv2 => ?_, ⟨h0, h1⟩, by rw [hrd tg h0 h1, if_pos rfl], fun v hv hv2 => ?_⟩
  · rw [hrd v hv hv2]
    split <;> omega
  · rw [hrd v hv hv2]
    split
    · intro _; assumption
    · intro h; omega
  · rw [hrd v hv hv2]
    split <;> (intro h; omega)

theorem links_of {n : Int} {ls : List Lk} (h : isNet n ls = true) : (1 ≤ n ∧ n ≤ 8) ∧ (1 ≤ ls.length ∧ ls.length ≤ 6) ∧ Links n.toNat ls := by
  unfold isNet at h
  simp only [Bool.and_eq_true, decide_eq_true_eq, List.all_eq_true, List.mem_range] at h
  refine ⟨h.1, h.2.1, fun l hl => ?_⟩
  obtain ⟨i, hi, rfl⟩ := List.getElem_of_mem hl
  have h2 := h.2.2 i hi
  unfold linkOk at h2
  simp only [Bool.and_eq_true, decide_eq_true_eq] at h2
  have e : rd_T93 ls (i : Int) = ls[i] := getD_get ls i _ hi
  rw [e] at h2
  have := h2.1
  have := h2.2.1
  exact ⟨by omega, by omega, by omega, by omega, h2.2.2.1⟩

/-- At a node that is m + 1 away the first link that leads nearer is there. -/
theorem near_first {N : Nat} {ls : List Lk} {tg : Int} {d : List Int} (hv : Links N ls) (h : Good N ls tg d) {x : Int} (h0 : 0 ≤ x) (h1 : x < N) {m : Nat} (hm : rd d x = (m : Int) + 1) :
    ∃ f, ∃ hf : f < ls.length, firstAt (stepOk d x) ls = (f : Int) ∧ rd_T93 ls (f : Int) = ls[f] ∧ 0 ≤ across ls[f] x ∧ across ls[f] x < N ∧ rd d (across ls[f] x) = (m : Int) ∧ ∀ j (hj : j < ls.length), j < f → stepOk d x ls[j] = false := by
  obtain ⟨l, hl, a1, a2, a3⟩ := h.near x h0 h1 (by omega)
  obtain ⟨i, hi, rfl⟩ := List.getElem_of_mem hl
  have hs : stepOk d x ls[i] = true := decide_eq_true ⟨a1, a3⟩
  have hle : ls.findIdx (stepOk d x) ≤ i := by
    rcases Nat.lt_or_ge i (ls.findIdx (stepOk d x)) with hlt | hge
    · have := List.not_of_lt_findIdx hlt
      rw [hs] at this
      exact Bool.noConfusion this
    · exact hge
  have hf : ls.findIdx (stepOk d x) < ls.length := by omega
  have hok : stepOk d x ls[ls.findIdx (stepOk d x)] = true := List.findIdx_getElem
  have hok2 := of_decide_eq_true hok
  refine ⟨ls.findIdx (stepOk d x), hf, ?_, getD_get ls _ _ hf, hok2.1, ?_, by omega, fun j hj hjf => ?_⟩
  · unfold firstAt
    rw [if_pos hf]
  · have hlk := hv _ (List.getElem_mem hf)
    have := hok2.1
    unfold across at this ⊢
    split
    · omega
    · split <;> omega
  · have := List.not_of_lt_findIdx hjf
    simpa using this

theorem across_lt {N : Nat} {ls : List Lk} (hv : Links N ls) {l : Lk} (hl : l ∈ ls) (x : Int) : across l x < N ∧ (0 ≤ across l x ∨ across l x = -1) := by
  have h := hv l hl
  unfold across
  split
  · omega
  · split <;> omega

end Go.Proofs.Ytlplegdcpgbbbaa.Pure
/- Plain law: the distances are those of shortest ways: over a link they grow by one at most, from both ends alike. No program in sight. -/
namespace Go.Proofs.Ytlplegdcpgbbbaa.Pure
open Go.RowKit Go.Proofs.Ytlplegdcpgbbbaa.Z Go.Proofs.YtlplegdcpgbbbaaW.PrintWords

/-- Over link l nothing that lies at most m away leads further than one. -/
def Lip (m : Int) (N : Nat) (d : List Int) (l : Lk) : Prop := ∀ u : Int, 0 ≤ u → u < N → 0 ≤ across l u → 0 ≤ rd d u → rd d u ≤ m → 0 ≤ rd d (across l u) ∧ rd d (across l u) ≤ rd d u + 1

theorem across_ends {N : Nat} {ls : List Lk} (hv : Links N ls) {l : Lk} (hl : l ∈ ls) {u : Int} (h : 0 ≤ across l u) : (u = l.f0 ∧ across l u = l.f1) ∨ (u = l.f1 ∧ across l u = l.f0) := by
  have h1 := hv l hl
  unfold across at h ⊢
  by_cases a : u = l.f0
  · rw [if_pos a]; exact .inl ⟨a, rfl⟩
  · rw [if_neg a] at h ⊢
    by_cases b : u = l.f1
    · rw [if_pos b]; exact .inr ⟨b, rfl⟩
    · rw [if_neg b] at h; omega

theorem across_back {N : Nat} {ls : List Lk} (hv : Links N ls) {l : Lk} (hl : l ∈ ls) {u : Int} (h : 0 ≤ across l u) : across l (across l u) = u := by
  have h1 := hv l hl
  rcases across_ends hv hl h with ⟨a, b⟩ | ⟨a, b⟩
  · rw [b, a]; unfold across; rw [if_neg (fun e => h1.2.2.2.2 e.symm), if_pos rfl]
  · rw [b, a]; unfold across; rw [if_pos rfl]

/-- What one relaxing changes: at most the one node, which had none, and it becomes n + 1. -/
theorem relax1_rd {N : Nat} {d : List Int} (hlen : d.length = N) {n a b : Int} (hb : 0 ≤ b ∧ b < N) (v : Int) (hv : 0 ≤ v) : rd (relax1 n d a b) v = if v = b ∧ rd d a = n ∧ rd d b < 0 then n + 1 else rd d v := by
  unfold relax1
  by_cases h : rd d a = n ∧ rd d b < 0
  · rw [if_pos h, rd_set d b v (n + 1) hb.1 (by omega) hv]
    by_cases e : v = b
    · rw [if_pos e, if_pos ⟨e, h⟩]
    · rw [if_neg e, if_neg (fun q => e q.1)]
  · rw [if_neg h, if_neg (fun q => h q.2)]

theorem relax1_lip {N : Nat} {ls : List Lk} (_hvl : Links N ls) {d : List Int} (hlen : d.length = N) {n a b m : Int} (hb : 0 ≤ b ∧ b < N) (hm : m ≤ n) {l : Lk} (_hl : l ∈ ls) (h : Lip m N d l) : Lip m N (relax1 n d a b) l := by
  intro u h0 h1 h2 h3 h4
  have e1 := relax1_rd hlen (n := n) (a := a) hb u h0
  have e2 := relax1_rd hlen (n := n) (a := a) hb (across l u) h2
  by_cases c : u = b ∧ rd d a = n ∧ rd d b < 0
  · rw [if_pos c] at e1; omega
  · rw [if_neg c] at e1
    rw [e1] at h3 h4 ⊢
    have h5 := h u h0 h1 h2 h3 h4
    rw [e2, if_neg (fun q => by have := q.1; rw [this] at h5; omega)]
    exact h5

theorem relax1_max {N : Nat} {d : List Int} (hlen : d.length = N) {n a b : Int} (hb : 0 ≤ b ∧ b < N) (h : ∀ v : Int, 0 ≤ v → v < N → rd d v ≤ n + 1) : ∀ v : Int, 0 ≤ v → v < N → rd (relax1 n d a b) v ≤ n + 1 := by
  intro v h0 h1
  rw [relax1_rd hlen hb v h0]
  split
  · omega
  · exact h v h0 h1

theorem relax1_len (n : Int) (d : List Int) (a b : Int) : (relax1 n d a b).length = d.length := by unfold relax1; split <;> simp
theorem relaxL_len (n : Int) (d : List Int) (l : Lk) : (relaxL n d l).length = d.length := by unfold relaxL; rw [relax1_len, relax1_len]

theorem relaxL_lip {N : Nat} {ls : List Lk} (hvl : Links N ls) {d : List Int} (hlen : d.length = N) {n m : Int} (hm : m ≤ n) {l q : Lk} (hq : q ∈ ls) (hl : l ∈ ls) (h : Lip m N d l) : Lip m N (relaxL n d q) l := by
  have h1 := hvl q hq
  unfold relaxL
  exact relax1_lip hvl (by rw [relax1_len]; exact hlen) ⟨h1.1, h1.2.1⟩ hm hl (relax1_lip hvl hlen ⟨h1.2.2.1, h1.2.2.2.1⟩ hm hl h)

theorem relaxL_max {N : Nat} {ls : List Lk} (hvl : Links N ls) {d : List Int} (hlen : d.length = N) {n : Int} {q : Lk} (hq : q ∈ ls) (h : ∀ v : Int, 0 ≤ v → v < N → rd d v ≤ n + 1) : ∀ v : Int, 0 ≤ v → v < N → rd (relaxL n d q) v ≤ n + 1 := by
  have h1 := hvl q hq
  unfold relaxL
  exact relax1_max (by rw [relax1_len]; exact hlen) ⟨h1.1, h1.2.1⟩ (relax1_max hlen ⟨h1.2.2.1, h1.2.2.2.1⟩ h)

/-- A link's own turn: from now on it leads no further at n, too. -/
theorem relaxL_own {N : Nat} {ls : List Lk} (hvl : Links N ls) {d : List Int} (hlen : d.length = N) {n : Int} (_hn : 0 ≤ n) {l : Lk} (hl : l ∈ ls) (h : Lip (n - 1) N d l) (hmax : ∀ v : Int, 0 ≤ v → v < N → rd d v ≤ n + 1) : Lip n N (relaxL n d l) l := by
  have h1 := hvl l hl
  have hmax2 := relaxL_max hvl hlen hl hmax
  have hlow := relaxL_lip hvl hlen (m := n - 1) (n := n) (by omega) hl hl h
  intro u h0 hu h2 h3 h4
  have hal := across_lt hvl hl u
  have hb := hmax2 (across l u) h2 hal.1
  by_cases c : rd (relaxL n d l) u ≤ n - 1
  · exact hlow u h0 hu h2 h3 c
  · have e : rd (relaxL n d l) u = n := by omega
    refine ⟨?_, by omega⟩
    have hlen1 : (relax1 n d l.f0 l.f1).length = N := by rw [relax1_len]; exact hlen
    have f0 := relax1_rd hlen (n := n) (a := l.f0) (b := l.f1) ⟨h1.2.2.1, h1.2.2.2.1⟩
    have f1 := relax1_rd hlen1 (n := n) (a := l.f1) (b := l.f0) ⟨h1.1, h1.2.1⟩
    have a0 := f0 l.f0 h1.1
    have a1 := f0 l.f1 h1.2.2.1
    have b0 := f1 l.f0 h1.1
    have b1 := f1 l.f1 h1.2.2.1
    rw [if_neg (fun q => h1.2.2.2.2 q.1)] at a0
    rw [if_neg (fun q => h1.2.2.2.2 q.1.symm)] at b1
    rcases across_ends hvl hl h2 with ⟨x, y⟩ | ⟨x, y⟩
    · rw [y]
      rw [x] at e
      unfold relaxL at e ⊢
      rw [b1, a1]
      rw [b0] at e
      split
      · omega
      · rename_i q
        by_cases c2 : rd (relax1 n d l.f0 l.f1) l.f1 = n ∧ rd (relax1 n d l.f0 l.f1) l.f0 < 0
        · rw [if_pos ⟨rfl, c2⟩] at e; omega
        · rw [if_neg (fun q => c2 q.2), a0] at e
          by_cases c3 : rd d l.f1 < 0
          · exact absurd ⟨rfl, e, c3⟩ q
          · omega
    · rw [y]
      rw [x] at e
      unfold relaxL at e ⊢
      rw [b0]
      rw [b1] at e
      split
      · omega
      · rename_i q
        by_cases c3 : rd (relax1 n d l.f0 l.f1) l.f0 < 0
        · exact absurd ⟨rfl, e, c3⟩ q
        · omega

theorem sweep_fold {N : Nat} {ls : List Lk} (hvl : Links N ls) (n : Nat) : ∀ (qs : List Lk) (d : List Int), (∀ l ∈ qs, l ∈ ls) → d.length = N → (∀ v : Int, 0 ≤ v → v < N → rd d v ≤ (n : Int) + 1) → (∀ l ∈ ls, Lip ((n : Int) - 1) N d l) →
    (qs.foldl (relaxL (n : Int)) d).length = N ∧ (∀ v : Int, 0 ≤ v → v < N → rd (qs.foldl (relaxL (n : Int)) d) v ≤ (n : Int) + 1) ∧ (∀ l ∈ ls, Lip ((n : Int) - 1) N (qs.foldl (relaxL (n : Int)) d) l) ∧ (∀ l ∈ ls, (l ∈ qs ∨ Lip n N d l) → Lip n N (qs.foldl (relaxL (n : Int)) d) l)
  | [], d, _, h1, h2, h3 => ⟨h1, h2, h3, fun l _ h => h.elim (fun q => absurd q (by simp)) id⟩
  | q :: qs, d, hs, h1, h2, h3 => by
    have hq := hs q (List.mem_cons_self ..)
    rw [List.foldl_cons]
    obtain ⟨g1, g2, g3, g4⟩ := sweep_fold hvl n qs (relaxL (n : Int) d q) (fun l hl => hs l (List.mem_cons_of_mem _ hl)) (by rw [relaxL_len]; exact h1) (relaxL_max hvl h1 hq h2) (fun l hl => relaxL_lip hvl h1 (by omega) hq hl (h3 l hl))
    refine ⟨g1, g2, g3, fun l hl h => g4 l hl ?_⟩
    rcases h with h | h
    · rcases List.mem_cons.1 h with rfl | h
      · exact .inr (relaxL_own hvl h1 (by omega) hl (h3 l hl) h2)
      · exact .inl h
    · exact .inr (relaxL_lip hvl h1 (Int.le_refl _) hq hl h)

theorem sweeps_lip {N : Nat} {ls : List Lk} (hvl : Links N ls) (d0 : List Int) (h1 : d0.length = N) (h2 : ∀ v : Int, 0 ≤ v → v < N → rd d0 v ≤ 0) : ∀ n : Nat,
    ((List.range n).foldl (sweep ls) d0).length = N ∧ (∀ v : Int, 0 ≤ v → v < N → rd ((List.range n).foldl (sweep ls) d0) v ≤ (n : Int)) ∧ (∀ l ∈ ls, Lip ((n : Int) - 1) N ((List.range n).foldl (sweep ls) d0) l)
  | 0 => ⟨h1, h2, fun l _ u _ _ _ h3 h4 => by simp only [List.range_zero, List.foldl_nil] at h3 h4; omega⟩
  | n + 1 => by
    obtain ⟨g1, g2, g3⟩ := sweeps_lip hvl d0 h1 h2 n
    rw [List.range_succ, List.foldl_append]
    obtain ⟨k1, k2, k3, k4⟩ := sweep_fold hvl n ls _ (fun _ h => h) g1 (fun v a b => by have := g2 v a b; omega) g3
    refine ⟨k1, fun v a b => ?_, fun l hl => ?_⟩
    · have := k2 v a b
      show rd (ls.foldl (relaxL (n : Int)) _) v ≤ _
      omega
    · have := k4 l hl (.inl hl)
      rw [show ((n + 1 : Nat) : Int) - 1 = n by omega]
      exact this

theorem cnt_step (m : Int) (hm : 0 ≤ m) : ∀ d : List Int, m ∈ d → d.countP (fun x => decide (0 ≤ x ∧ x ≤ m - 1)) + 1 ≤ d.countP (fun x => decide (0 ≤ x ∧ x ≤ m))
  | [], h => absurd h (by simp)
  | x :: d, h => by
    have hle : d.countP (fun x => decide (0 ≤ x ∧ x ≤ m - 1)) ≤ d.countP (fun x => decide (0 ≤ x ∧ x ≤ m)) := List.countP_mono_left (fun y _ hy => by simp only [decide_eq_true_eq] at hy ⊢; omega)
    rw [List.countP_cons, List.countP_cons]
    by_cases e : x = m
    · subst e
      rw [if_neg (by simp only [decide_eq_true_eq]; omega), if_pos (by simp only [decide_eq_true_eq]; omega)]
      omega
    · rcases List.mem_cons.1 h with h | h
      · exact absurd h.symm e
      · have ih := cnt_step m hm d h
        by_cases c : 0 ≤ x ∧ x ≤ m - 1
        · rw [if_pos (by simp only [decide_eq_true_eq]; omega), if_pos (by simp only [decide_eq_true_eq]; omega)]
          omega
        · rw [if_neg (by simp only [decide_eq_true_eq]; omega)]
          omega

theorem rd_mem {N : Nat} {d : List Int} (hlen : d.length = N) {v : Int} (h0 : 0 ≤ v) (h1 : v < N) : rd d v ∈ d := by
  obtain ⟨i, rfl⟩ : ∃ i : Nat, v = (i : Int) := ⟨v.toNat, by omega⟩
  rw [rd_get d i (by omega)]
  exact List.getElem_mem _

/-- Each level up to one that is met is met. -/
theorem levels {N : Nat} {ls : List Lk} {tg : Int} {d : List Int} (h : Good N ls tg d) : ∀ (m : Nat) (v : Int), 0 ≤ v → v < N → rd d v = (m : Int) → m + 1 ≤ d.countP (fun x => decide (0 ≤ x ∧ x ≤ (m : Int)))
  | 0, v, h0, h1, h2 => by
    have := cnt_step 0 (Int.le_refl _) d (by have := rd_mem h.len h0 h1; rw [h2] at this; exact this)
    exact Nat.le_trans (by omega) this
  | m + 1, v, h0, h1, h2 => by
    obtain ⟨l, _, a, b, c⟩ := h.near v h0 h1 (by rw [h2]; omega)
    have ih := levels h m (across l v) a b (by rw [c, h2]; omega)
    have := cnt_step ((m + 1 : Nat) : Int) (by omega) d (by have := rd_mem h.len h0 h1; rw [h2] at this; exact this)
    rw [show ((m + 1 : Nat) : Int) - 1 = (m : Int) by omega] at this
    omega

theorem below_N {N : Nat} {ls : List Lk} {tg : Int} {d : List Int} (h : Good N ls tg d) (v : Int) (h0 : 0 ≤ v) (h1 : v < N) : rd d v < N := by
  rcases Int.lt_or_le (rd d v) N with c | c
  · exact c
  · have hlo := h.lo v h0 h1
    have e : rd d v = (N : Int) := by omega
    have := levels h N v h0 h1 e
    have hle : d.countP (fun x => decide (0 ≤ x ∧ x ≤ (N : Int))) ≤ d.length := List.countP_le_length
    rw [h.len] at hle
    omega

theorem start_rd {N : Nat} {tg : Int} (h0 : 0 ≤ tg) (h1 : tg < N) (v : Int) (hv : 0 ≤ v) (hv2 : v < N) : rd ((List.replicate N (-1)).set tg.toNat 0) v ≤ 0 := by
  rw [rd_set _ tg v 0 h0 (by simp; omega) hv]
  split
  · omega
  · unfold rd
    rw [List.getD_eq_getElem?_getD, List.getElem?_replicate, if_pos (by omega)]
    decide

theorem fold_good' {N : Nat} {ls : List Lk} {tg : Int} (hv : Links N ls) (n : Nat) (hn : n < N) : ∀ (l : List Lk) (d : List Int), (∀ x ∈ l, x ∈ ls) → Good N ls tg d → Good N ls tg (l.foldl (relaxL (n : Int)) d)
  | [], _, _, h => h
  | x :: l, d, hl, h => by
    rw [List.foldl_cons]
    exact fold_good' hv n hn l _ (fun y hy => hl y (List.mem_cons_of_mem _ hy)) (relaxL_good hv h (hl x (List.mem_cons_self ..)) (by omega) (by omega))

theorem sweeps_good' {N : Nat} {ls : List Lk} {tg : Int} (hv : Links N ls) : ∀ (q : List Nat) (d : List Int), (∀ x ∈ q, x < N) → Good N ls tg d → Good N ls tg (q.foldl (sweep ls) d)
  | [], _, _, h => h
  | x :: q, d, hl, h => by
    rw [List.foldl_cons]
    exact sweeps_good' hv q _ (fun y hy => hl y (List.mem_cons_of_mem _ hy)) (fold_good' hv x (hl x (List.mem_cons_self ..)) ls d (fun _ h => h) h)

theorem dist_good {N : Nat} {ls : List Lk} {tg : Int} (hv : Links N ls) (h0 : 0 ≤ tg) (h1 : tg < N) : Good N ls tg (dist N ls tg) := sweeps_good' hv _ _ (fun _ hx => List.mem_range.1 hx) (start_good h0 h1)

/-- Over a link the distance grows by one at most. -/
theorem dist_lip {N : Nat} {ls : List Lk} {tg : Int} (hv : Links N ls) (h0 : 0 ≤ tg) (h1 : tg < N) {l : Lk} (hl : l ∈ ls) {u : Int} (a : 0 ≤ u) (b : u < N) (c : 0 ≤ across l u) (e : 0 ≤ rd (dist N ls tg) u) : 0 ≤ rd (dist N ls tg) (across l u) ∧ rd (dist N ls tg) (across l u) ≤ rd (dist N ls tg) u + 1 := by
  obtain ⟨_, _, h3⟩ := sweeps_lip hv ((List.replicate N (-1)).set tg.toNat 0) (by simp) (start_rd h0 h1) N
  have := below_N (dist_good hv h0 h1) u a b
  exact h3 l hl u a b c e (by unfold dist at this; omega)

/-- A way of m links. -/
def Walk (ls : List Lk) : Nat → Int → Int → Prop
  | 0, x, y => x = y
  | m + 1, x, y => ∃ l ∈ ls, 0 ≤ across l x ∧ Walk ls m (across l x) y

theorem walk_snoc {N : Nat} {ls : List Lk} (hv : Links N ls) : ∀ (m : Nat) (x y : Int) (l : Lk), l ∈ ls → 0 ≤ across l y → Walk ls m x y → Walk ls (m + 1) x (across l y)
  | 0, x, y, l, hl, h, e => by
    have e : x = y := e
    subst e
    exact ⟨l, hl, h, rfl⟩
  | m + 1, x, y, l, hl, h, ⟨q, hq, h1, h2⟩ => ⟨q, hq, h1, walk_snoc hv m _ y l hl h h2⟩

theorem walk_back {N : Nat} {ls : List Lk} (hv : Links N ls) : ∀ (m : Nat) (x y : Int), 0 ≤ x → Walk ls m x y → Walk ls m y x
  | 0, x, y, _, e => Eq.symm e
  | m + 1, x, y, hx, ⟨l, hl, h1, h2⟩ => by
    have h3 := walk_back hv m _ y h1 h2
    have e := across_back hv hl h1
    have := walk_snoc hv m y (across l x) l hl (by rw [e]; exact hx) h3
    rwa [e] at this

theorem dist_walk {N : Nat} {ls : List Lk} {tg : Int} {d : List Int} (h : Good N ls tg d) : ∀ (m : Nat) (x : Int), 0 ≤ x → x < N → rd d x = (m : Int) → Walk ls m x tg
  | 0, x, h0, h1, e => h.zero x h0 h1 e
  | m + 1, x, h0, h1, e => by
    obtain ⟨l, hl, a, b, c⟩ := h.near x h0 h1 (by rw [e]; omega)
    exact ⟨l, hl, a, dist_walk h m _ a b (by rw [c, e]; omega)⟩

theorem walk_dist {N : Nat} {ls : List Lk} {tg : Int} (hv : Links N ls) (h0 : 0 ≤ tg) (h1 : tg < N) : ∀ (m : Nat) (x y : Int), 0 ≤ x → x < N → 0 ≤ rd (dist N ls tg) x → Walk ls m x y → 0 ≤ rd (dist N ls tg) y ∧ rd (dist N ls tg) y ≤ rd (dist N ls tg) x + m
  | 0, x, y, _, _, h, e => by
    have e : x = y := e
    subst e
    omega
  | m + 1, x, y, a, b, h, ⟨l, hl, h2, h3⟩ => by
    have h4 := dist_lip hv h0 h1 hl a b h2 h
    have h5 := walk_dist hv h0 h1 m _ y h2 (across_lt hv hl x).1 h4.1 h3
    omega

theorem dist_le {N : Nat} {ls : List Lk} {a b : Int} (hv : Links N ls) (ha : 0 ≤ a ∧ a < N) (hb : 0 ≤ b ∧ b < N) (h : 0 ≤ rd (dist N ls b) a) : 0 ≤ rd (dist N ls a) b ∧ rd (dist N ls a) b ≤ rd (dist N ls b) a := by
  have hw := dist_walk (dist_good hv hb.1 hb.2) (rd (dist N ls b) a).toNat a ha.1 ha.2 (by omega)
  have := walk_dist hv ha.1 ha.2 _ a b ha.1 ha.2 (by rw [(dist_good hv ha.1 ha.2).own]; exact Int.le_refl _) hw
  rw [(dist_good hv ha.1 ha.2).own] at this
  omega

/-- There and back are equally far. -/
theorem dist_symm {N : Nat} {ls : List Lk} {a b : Int} (hv : Links N ls) (ha : 0 ≤ a ∧ a < N) (hb : 0 ≤ b ∧ b < N) : rd (dist N ls b) a = rd (dist N ls a) b := by
  have l1 := (dist_good hv hb.1 hb.2).lo a ha.1 ha.2
  have l2 := (dist_good hv ha.1 ha.2).lo b hb.1 hb.2
  by_cases h : 0 ≤ rd (dist N ls b) a
  · have h2 := dist_le hv ha hb h
    have h3 := dist_le hv hb ha h2.1
    omega
  · by_cases h4 : 0 ≤ rd (dist N ls a) b
    · have := dist_le hv hb ha h4
      omega
    · omega

/-- No way round is shorter. -/
theorem dist_tri {N : Nat} {ls : List Lk} {a b c : Int} (hv : Links N ls) (ha : 0 ≤ a ∧ a < N) (hb : 0 ≤ b ∧ b < N) (hc : 0 ≤ c ∧ c < N) (h1 : 0 ≤ rd (dist N ls c) a) (h2 : 0 ≤ rd (dist N ls b) c) : rd (dist N ls b) a ≤ rd (dist N ls c) a + rd (dist N ls b) c := by
  have hw := dist_walk (dist_good hv hc.1 hc.2) (rd (dist N ls c) a).toNat a ha.1 ha.2 (by omega)
  have := walk_dist hv hb.1 hb.2 _ c a hc.1 hc.2 h2 (walk_back hv _ _ _ ha.1 hw)
  omega

end Go.Proofs.Ytlplegdcpgbbbaa.Pure
/- Plain words: the route. No condition. -/
namespace Go.Proofs.Ytlplegdcpgbbbaa.Pure
open Go.RowKit Go.Proofs.Ytlplegdcpgbbbaa.Z Go.Proofs.YtlplegdcpgbbbaaW.PrintWords

/-- The route, where the distances are d. -/
def routeOf (d : List Int) (ls : List Lk) (a : Int) : List Int := if rd d a < 0 then [] else routeF d ls (rd d a).toNat a
/-- What is left of the sweeps, then the route. -/
def afterR (N : Nat) (ls : List Lk) (a : Int) (n : Nat) (d : List Int) : List Int := routeOf (((List.range N).drop n).foldl (sweep ls) d) ls a
def routeTo (n : Int) (ls : List Lk) (a b : Int) : List Int := if isNet n ls = true ∧ (0 ≤ a ∧ a < n) ∧ (0 ≤ b ∧ b < n) then routeOf (dist n.toNat ls b) ls a else []

theorem afterR_end (N : Nat) (ls : List Lk) (a : Int) (d : List Int) : afterR N ls a N d = routeOf d ls a := by
  unfold afterR
  rw [List.drop_of_length_le (by simp)]
  rfl
theorem afterR_step (N : Nat) (ls : List Lk) (a : Int) (n : Nat) (d : List Int) (h : n < N) : afterR N ls a n d = afterR N ls a (n + 1) (sweep ls d n) := by
  unfold afterR
  rw [drop_get _ n (by simpa using h), List.foldl_cons, List.getElem_range]

theorem relax_good_len {N : Nat} {ls : List Lk} {tg : Int} {d : List Int} (h : Good N ls tg d) : d.length = N := h.len

end Go.Proofs.Ytlplegdcpgbbbaa.Pure
/- Plain lemma: the standard search in a list of numbers. Condition: the list is not longer than a list can be. -/
namespace Go.Proofs.Ytlplegdcpgbbbaa.Pure
open Go.RowKit Go.Proofs.Ytlplegdcpgbbbaa.Z Go.Proofs.YtlplegdcpgbbbaaW.PrintWords

theorem impl_index (l : List Int) (x : Int) (hl : l.length ≤ 9223372036854775806) : Ev (fun k => slices_Index_Sint.f k l x) (firstAt (fun y => decide (y = x)) l) := by
  unfold slices_Index_Sint.f
  refine first_loop (fun y => decide (y = x)) l (fun i k => slices_Index_Sint.l0 k l x (l.length : Int) (i : Int)) ?_ ?_ ?_
  · refine Ev.step (fun k => by rw [slices_Index_Sint.l0]) ?_
    exact Ev.ifneg (by omega) (Ev.now _)
  · intro i hi h
    refine Ev.step (fun k => by rw [slices_Index_Sint.l0]) ?_
    refine Ev.ifpos (by omega) (Ev.ifpos (by omega) (Ev.ifpos (by omega) ?_))
    rw [rd_get l i hi]
    exact Ev.ifpos (of_decide_eq_true h).symm (Ev.now _)
  · intro i hi r h hr
    refine Ev.step (fun k => by rw [slices_Index_Sint.l0]) ?_
    refine Ev.ifpos (by omega) (Ev.ifpos (by omega) (Ev.ifpos (by omega) ?_))
    rw [rd_get l i hi, wrap_succ (by omega)]
    exact Ev.ifneg (fun e => of_decide_eq_false h e.symm) hr

theorem impl_has (l : List Int) (x : Int) (hl : l.length ≤ 9223372036854775806) : Ev (fun k => slices_Contains_Sint.f k l x) (l.any fun y => decide (y = x)) := by
  unfold slices_Contains_Sint.f
  refine Ev.bind (impl_index l x hl) (Ev.pure ?_)
  exact firstAt_any _ _

end Go.Proofs.Ytlplegdcpgbbbaa.Pure
/- Plain lemma: the node at the end of a path, as the program finds it. Condition: the lists are not longer than lists can be. -/
namespace Go.Proofs.Ytlplegdcpgbbbaa.Pure
open Go.RowKit Go.Proofs.Ytlplegdcpgbbbaa.Z Go.Proofs.YtlplegdcpgbbbaaW.PrintWords

theorem end_at (i n : Int) : impl_at.f i n = some (decide (0 ≤ i ∧ i < n)) := by
  unfold impl_at.f
  by_cases h : 0 ≤ i
  · rw [if_pos (by omega)]
    simp [h]
  · rw [if_neg (by omega)]
    simp [h]

theorem impl_endOf (n : Int) (ls : List S93) (p : List Int) (x : Int) (_hl : ls.length ≤ 9223372036854775806) (hp : p.length ≤ 9223372036854775806) : Ev (fun k => impl_EndOf.f k n ls p x) (endOf ls x p) := by
  unfold impl_EndOf.f
  refine Ev.up p.length (fun i (s : Int) k => impl_EndOf.l0 k s p (p.length : Int) (i : Int) n ls) (fun i s => endOf ls s (p.drop i)) (fun _ _ => True) ?_ ?_ 0 x (Nat.zero_le _) trivial
  · intro s _
    rw [List.drop_of_length_le (Nat.le_refl _)]
    refine Ev.step (fun k => by rw [impl_EndOf.l0]) ?_
    exact Ev.ifneg (by omega) (Ev.now _)
  · intro i s hi _ ih
    rw [drop_get _ i hi, endOf]
    refine Ev.step (fun k => by rw [impl_EndOf.l0]) ?_
    refine Ev.ifpos (by omega) (Ev.ifpos (by omega) (Ev.ifpos (by omega) ?_))
    rw [rd_get p i hi]
    refine Ev.bind0 (end_at _ _) ?_
    by_cases h : 0 ≤ p[i] ∧ p[i] < ls.length
    · rw [if_pos h]
      refine Ev.ifpos (decide_eq_true (by omega)) (Ev.ifpos (by omega) (Ev.ifpos (by omega) ?_))
      rw [wrap_succ (by omega)]
      by_cases h1 : s = (rd_T93 ls p[i]).f0
      · rw [if_pos h1]
        refine Ev.ifpos h1 (Ev.bind0 (a := (rd_T93 ls p[i]).f1) ?_ (ih _ trivial))
        unfold impl_Link_across.f
        rw [if_pos h1]
      · rw [if_neg h1]
        refine Ev.ifneg h1 ?_
        by_cases h2 : s = (rd_T93 ls p[i]).f1
        · rw [if_pos h2]
          refine Ev.ifpos h2 (Ev.bind0 (a := (rd_T93 ls p[i]).f0) ?_ (ih _ trivial))
          unfold impl_Link_across.f
          rw [if_neg h1, if_pos h2]
        · rw [if_neg h2]
          exact Ev.ifneg h2 (Ev.now _)
    · rw [if_neg h]
      exact Ev.ifneg (by rw [decide_eq_true_iff]; omega) (Ev.now _)

end Go.Proofs.Ytlplegdcpgbbbaa.Pure
/- Plain lemma: what the program's IsPath answers. Condition: the lists are not longer than lists can be. -/
namespace Go.Proofs.Ytlplegdcpgbbbaa.Pure
open Go.RowKit Go.Proofs.Ytlplegdcpgbbbaa.Z Go.Proofs.YtlplegdcpgbbbaaW.PrintWords

def dupAt (p : List Int) (i : Nat) : Bool := (p.take i).any fun y => decide (y = p.getD i 0)
def isPath (ls : List S93) (p : List Int) (a b : Int) : Bool := (List.range p.length).all (fun i => !dupAt p i) && (decide (endOf ls a p = b) && (decide (0 ≤ b) || decide (p.length = 0)))

theorem dupAt_get (p : List Int) (i : Nat) (h : i < p.length) : dupAt p i = (p.take i).any fun y => decide (y = p[i]) := by
  unfold dupAt
  rw [List.getD_eq_getElem?_getD, List.getElem?_eq_getElem h]
  rfl

theorem impl_isPath (n : Int) (ls : List S93) (p : List Int) (a b : Int) (hl : ls.length ≤ 9223372036854775806) (hp : p.length ≤ 9223372036854775806) : Ev (fun k => impl_IsPath.f k n ls p a b) (isPath ls p a b) := by
  unfold impl_IsPath.f isPath
  have key := all_loop (fun i => !dupAt p i) (List.range p.length) (fun i k => impl_IsPath.l0 k p a b p (p.length : Int) (i : Int) n ls) (decide (endOf ls a p = b) && (decide (0 ≤ b) || decide (p.length = 0))) ?_ ?_ ?_
  · exact key
  · rw [List.length_range]
    refine Ev.step (fun k => by rw [impl_IsPath.l0]) ?_
    refine Ev.ifneg (by omega) (Ev.bind (impl_endOf n ls p a hl hp) ?_)
    by_cases h : endOf ls a p = b
    · refine Ev.ifpos h ?_
      rw [decide_eq_true h]
      by_cases h2 : p.length = 0
      · exact Ev.ifpos (by omega) (Ev.pure (by simp [h2]))
      · refine Ev.ifneg (by omega) (Ev.pure ?_)
        simp [h2]
    · exact Ev.ifneg h (Ev.pure (by simp [h]))
  · intro i hi h
    rw [List.length_range] at hi
    rw [List.getElem_range, dupAt_get p i hi] at h
    refine Ev.step (fun k => by rw [impl_IsPath.l0]) ?_
    refine Ev.ifpos (by omega) (Ev.ifpos (by omega) (Ev.ifpos (by omega) (Ev.ifpos (by omega) ?_)))
    rw [rd_get p i hi, Int.toNat_natCast]
    refine Ev.bind (impl_has (p.take i) p[i] (by rw [List.length_take]; omega)) (Ev.ifpos ?_ (Ev.now _))
    simpa using h
  · intro i hi r h hr
    rw [List.length_range] at hi
    rw [List.getElem_range, dupAt_get p i hi] at h
    refine Ev.step (fun k => by rw [impl_IsPath.l0]) ?_
    refine Ev.ifpos (by omega) (Ev.ifpos (by omega) (Ev.ifpos (by omega) (Ev.ifpos (by omega) ?_)))
    rw [rd_get p i hi, Int.toNat_natCast, wrap_succ (by omega)]
    refine Ev.bind (impl_has (p.take i) p[i] (by rw [List.length_take]; omega)) (Ev.ifneg ?_ hr)
    rw [Bool.not_eq_true', ] at h
    rw [h]
    decide

end Go.Proofs.Ytlplegdcpgbbbaa.Pure
/- Plain lemma: the row of a path, as the program makes it. Condition: the path is not longer than a list can be. -/
namespace Go.Proofs.Ytlplegdcpgbbbaa.Pure
open Go.RowKit Go.Proofs.Ytlplegdcpgbbbaa.Z Go.Proofs.YtlplegdcpgbbbaaW.PrintWords

/-- A row has a one at each of a path's links. -/
def rowOf (p : List Int) (L : Nat) : List Int := (List.range L).map fun (i : Nat) => if p.any (fun y => decide (y = (i : Int))) = true then 1 else 0
def rowF (p : List Int) (a : Int) : List Int := if 1 ≤ a ∧ a ≤ 6 then rowOf p a.toNat else []

theorem rowOf_length (p : List Int) (L : Nat) : (rowOf p L).length = L := by unfold rowOf; simp
theorem rowOf_get (p : List Int) (L i : Nat) (h : i < (rowOf p L).length) : (rowOf p L)[i] = if p.any (fun y => decide (y = (i : Int))) = true then 1 else 0 := by simp [rowOf]
theorem rowF_length (p : List Int) (a : Int) : (rowF p a).length ≤ 6 := by
  unfold rowF
  split
  · rw [rowOf_length]; omega
  · simp

theorem rowOf_snoc (p : List Int) (t : Int) (L : Nat) : rowOf (p ++ [t]) L = if 0 ≤ t ∧ t < L then (rowOf p L).set t.toNat 1 else rowOf p L := by
  split
  · rename_i h
    apply List.ext_getElem
    · simp [rowOf_length]
    · intro i h1 h2
      rw [List.getElem_set, rowOf_get, rowOf_get]
      simp only [List.any_append, List.any_cons, List.any_nil, Bool.or_false, Bool.or_eq_true, decide_eq_true_eq]
      by_cases e : t = (i : Int)
      · subst e
        simp
      · have e2 : ¬ t.toNat = i := by omega
        simp [e, e2]
  · rename_i h
    unfold rowOf
    apply List.map_congr_left
    intro i hi
    have := List.mem_range.1 hi
    have e : ¬ t = (i : Int) := by omega
    simp [e]

theorem row_at (i n : Int) : impl_at.f i n = some (decide (0 ≤ i ∧ i < n)) := by
  unfold impl_at.f
  by_cases h : 0 ≤ i <;> simp [h]
theorem row_in (n a b : Int) : impl_InRange.f n a b = some (decide (a ≤ n ∧ n ≤ b)) := by
  unfold impl_InRange.f
  by_cases h : a ≤ n <;> simp [h]

theorem impl_rowOf (p : List Int) (a : Int) (hp : p.length ≤ 9223372036854775806) : Ev (fun k => impl_RowOf.f k p a) (rowF p a) := by
  unfold impl_RowOf.f
  refine Ev.bind0 (row_in _ _ _) ?_
  unfold rowF
  by_cases h : 1 ≤ a ∧ a ≤ 6
  · rw [if_pos h]
    refine Ev.ifpos (decide_eq_true h) (Ev.ifpos (by omega) (Ev.ifpos (by omega) ?_))
    obtain ⟨N, rfl⟩ : ∃ N : Nat, a = (N : Int) := ⟨a.toNat, by omega⟩
    rw [Int.toNat_natCast]
    have e0 : List.replicate N (0 : Int) = rowOf (p.take 0) N := by
      unfold rowOf
      apply List.ext_getElem <;> simp
    rw [e0]
    refine Ev.up0 p.length (fun i k => impl_RowOf.l0 k (N : Int) (rowOf (p.take i) N) p (p.length : Int) (i : Int)) (fun _ => rowOf p N) ?_ ?_ 0 (Nat.zero_le _)
    · rw [List.take_of_length_le (Nat.le_refl _)]
      refine Ev.step (fun k => by rw [impl_RowOf.l0]) ?_
      exact Ev.ifneg (by omega) (Ev.now _)
    · intro i hi ih
      refine Ev.step (fun k => by rw [impl_RowOf.l0]) ?_
      refine Ev.ifpos (by omega) (Ev.ifpos (by omega) (Ev.ifpos (by omega) ?_))
      rw [rd_get p i hi, wrap_succ (by omega)]
      refine Ev.bind0 (row_at _ _) ?_
      rw [List.take_succ_eq_append_getElem hi, rowOf_snoc] at ih
      by_cases c : 0 ≤ p[i] ∧ p[i] < (N : Int)
      · rw [if_pos c] at ih
        exact Ev.ifpos (decide_eq_true c) (Ev.ifpos c.1 (Ev.ifpos (by rw [rowOf_length]; exact c.2) ih))
      · rw [if_neg c] at ih
        exact Ev.ifneg (by rw [decide_eq_true_iff]; exact c) ih
  · rw [if_neg h]
    exact Ev.ifneg (by rw [decide_eq_true_iff]; exact h) (Ev.now _)

end Go.Proofs.Ytlplegdcpgbbbaa.Pure
/- Plain law: the route is a path of distinct links, as long as the distance; where one link leads there, it is that link. No program in sight. -/
namespace Go.Proofs.Ytlplegdcpgbbbaa.Pure
open Go.RowKit Go.Proofs.Ytlplegdcpgbbbaa.Z Go.Proofs.YtlplegdcpgbbbaaW.PrintWords

def lsum (d : List Int) (ls : List Lk) (i : Int) : Int := rd d (rd_T93 ls i).f0 + rd d (rd_T93 ls i).f1

theorem routeF_length (d : List Int) (ls : List Lk) : ∀ m x, (routeF d ls m x).length = m
  | 0, _ => rfl
  | m + 1, x => by rw [routeF, List.length_cons, routeF_length d ls m]

theorem route_end {N : Nat} {ls : List Lk} {tg : Int} {d : List Int} (hv : Links N ls) (h : Good N ls tg d) : ∀ (m : Nat) (x : Int), 0 ≤ x → x < N → rd d x = (m : Int) → endOf ls x (routeF d ls m x) = tg
  | 0, x, h0, h1, e => h.zero x h0 h1 e
  | m + 1, x, h0, h1, e => by
    obtain ⟨f, hf, e1, e2, a0, a1, a2, _⟩ := near_first hv h h0 h1 (m := m) (by rw [e]; omega)
    rw [routeF, e1, e2, endOf, if_pos (by omega), e2]
    have ih := route_end hv h m _ a0 a1 a2
    rcases across_ends hv (List.getElem_mem hf) a0 with ⟨x1, x2⟩ | ⟨x1, x2⟩
    · rw [if_pos x1, ← x2]; exact ih
    · have hl := hv _ (List.getElem_mem hf)
      rw [if_neg (fun q => hl.2.2.2.2 (by rw [← q, ← x1])), if_pos x1, ← x2]; exact ih

theorem route_mem {N : Nat} {ls : List Lk} {tg : Int} {d : List Int} (hv : Links N ls) (h : Good N ls tg d) : ∀ (m : Nat) (x : Int), 0 ≤ x → x < N → rd d x = (m : Int) → ∀ i ∈ routeF d ls m x, 0 ≤ i ∧ i < ls.length ∧ lsum d ls i ≤ 2 * (m : Int) - 1
  | 0, x, h0, h1, e => fun i hi => absurd hi (by simp [routeF])
  | m + 1, x, h0, h1, e => by
    obtain ⟨f, hf, e1, e2, a0, a1, a2, _⟩ := near_first hv h h0 h1 (m := m) (by rw [e]; omega)
    rw [routeF, e1, e2]
    intro i hi
    rcases List.mem_cons.1 hi with rfl | hi
    · refine ⟨by omega, by omega, ?_⟩
      unfold lsum
      rw [e2]
      rcases across_ends hv (List.getElem_mem hf) a0 with ⟨x1, x2⟩ | ⟨x1, x2⟩
      · rw [x2] at a2; rw [x1] at e; omega
      · rw [x2] at a2; rw [x1] at e; omega
    · have := route_mem hv h m _ a0 a1 a2 i hi
      omega

theorem route_nodup {N : Nat} {ls : List Lk} {tg : Int} {d : List Int} (hv : Links N ls) (h : Good N ls tg d) : ∀ (m : Nat) (x : Int), 0 ≤ x → x < N → rd d x = (m : Int) → (routeF d ls m x).Nodup
  | 0, x, h0, h1, e => by rw [routeF]; exact List.nodup_nil
  | m + 1, x, h0, h1, e => by
    obtain ⟨f, hf, e1, e2, a0, a1, a2, _⟩ := near_first hv h h0 h1 (m := m) (by rw [e]; omega)
    rw [routeF, e1, e2, List.nodup_cons]
    refine ⟨fun hm => ?_, route_nodup hv h m _ a0 a1 a2⟩
    have h2 := (route_mem hv h m _ a0 a1 a2 _ hm).2.2
    unfold lsum at h2
    rw [e2] at h2
    rcases across_ends hv (List.getElem_mem hf) a0 with ⟨x1, x2⟩ | ⟨x1, x2⟩
    · rw [x2] at a2; rw [x1] at e; omega
    · rw [x2] at a2; rw [x1] at e; omega

theorem nodup_dup {p : List Int} (h : p.Nodup) (i : Nat) (hi : i < p.length) : dupAt p i = false := by
  rw [dupAt_get p i hi, List.any_eq_false]
  intro y hy e
  have e : y = p[i] := of_decide_eq_true e
  have h2 : (p.take i ++ p[i] :: p.drop (i + 1)).Nodup := by
    rw [← drop_get p i hi, List.take_append_drop]
    exact h
  exact (List.nodup_append.1 h2).2.2 y hy p[i] (List.mem_cons_self ..) e

/-- What is known of a network and two of its nodes. -/
structure Net2 (n : Int) (ls : List Lk) (a b : Int) : Prop where
  net : isNet n ls = true
  a0 : 0 ≤ a ∧ a < n
  b0 : 0 ≤ b ∧ b < n

theorem net2_links {n : Int} {ls : List Lk} {a b : Int} (h : Net2 n ls a b) : Links n.toNat ls ∧ (0 ≤ a ∧ a < n.toNat) ∧ (0 ≤ b ∧ b < n.toNat) := by
  have := links_of h.net
  have := h.a0
  have := h.b0
  exact ⟨(links_of h.net).2.2, by omega, by omega⟩

theorem routeTo_net {n : Int} {ls : List Lk} {a b : Int} (h : Net2 n ls a b) : routeTo n ls a b = routeOf (dist n.toNat ls b) ls a := if_pos ⟨h.net, h.a0, h.b0⟩
theorem routeTo_none {n : Int} {ls : List Lk} {a b : Int} (h : ¬ Net2 n ls a b) : routeTo n ls a b = [] := if_neg (fun q => h ⟨q.1, q.2.1, q.2.2⟩)

/-- The route's length is the distance, where there is one. -/
theorem routeTo_length {n : Int} {ls : List Lk} {a b : Int} (h : Net2 n ls a b) : ((routeTo n ls a b).length : Int) = if rd (dist n.toNat ls b) a < 0 then 0 else rd (dist n.toNat ls b) a := by
  rw [routeTo_net h]
  unfold routeOf
  split
  · rfl
  · rw [routeF_length]; omega

theorem routeTo_path {n : Int} {ls : List Lk} {a b : Int} (h : routeTo n ls a b ≠ []) : isNet n ls = true ∧ isPath ls (routeTo n ls a b) a b = true ∧ (routeTo n ls a b).Nodup ∧ ∀ i ∈ routeTo n ls a b, 0 ≤ i ∧ i < ls.length := by
  by_cases hn : Net2 n ls a b
  · rw [routeTo_net hn] at h ⊢
    obtain ⟨hl, ha, hb⟩ := net2_links hn
    have hg := dist_good hl hb.1 hb.2
    unfold routeOf at h ⊢
    by_cases hneg : rd (dist n.toNat ls b) a < 0
    · rw [if_pos hneg] at h; exact absurd rfl h
    · rw [if_neg hneg]
      have e : rd (dist n.toNat ls b) a = ((rd (dist n.toNat ls b) a).toNat : Int) := by omega
      have hnd := route_nodup hl hg _ a ha.1 ha.2 e
      refine ⟨hn.net, ?_, hnd, fun i hi => ?_⟩
      · unfold isPath
        rw [Bool.and_eq_true, List.all_eq_true]
        refine ⟨fun i hi => ?_, ?_⟩
        · rw [nodup_dup hnd i (List.mem_range.1 hi)]; rfl
        · rw [route_end hl hg _ a ha.1 ha.2 e, decide_eq_true (rfl : b = b), decide_eq_true hn.b0.1]; rfl
      · have := route_mem hl hg _ a ha.1 ha.2 e i hi
        omega
  · rw [routeTo_none hn] at h
    exact absurd rfl h

theorem routeTo_back (n : Int) (ls : List Lk) (a b : Int) : (routeTo n ls b a).length = (routeTo n ls a b).length := by
  by_cases h : Net2 n ls a b
  · have h' : Net2 n ls b a := ⟨h.net, h.b0, h.a0⟩
    obtain ⟨hl, ha, hb⟩ := net2_links h
    have h1 := routeTo_length h
    have h2 := routeTo_length h'
    rw [dist_symm hl ha hb] at h1
    omega
  · rw [routeTo_none h, routeTo_none (fun q => h ⟨q.net, q.b0, q.a0⟩)]

theorem routeTo_tri (n : Int) (ls : List Lk) (a b c : Int) (h1 : routeTo n ls a c ≠ []) (h2 : routeTo n ls c b ≠ []) : (routeTo n ls a b).length ≤ (routeTo n ls a c).length + (routeTo n ls c b).length := by
  by_cases h3 : Net2 n ls a c
  · by_cases h4 : Net2 n ls c b
    · have h5 : Net2 n ls a b := ⟨h3.net, h3.a0, h4.b0⟩
      obtain ⟨hl, ha, hc⟩ := net2_links h3
      obtain ⟨_, _, hb⟩ := net2_links h4
      have e1 := routeTo_length h3
      have e2 := routeTo_length h4
      have e3 := routeTo_length h5
      have p1 := List.length_pos_iff.2 h1
      have p2 := List.length_pos_iff.2 h2
      by_cases n1 : rd (dist n.toNat ls c) a < 0
      · rw [if_pos n1] at e1; omega
      · by_cases n2 : rd (dist n.toNat ls b) c < 0
        · rw [if_pos n2] at e2; omega
        · have := dist_tri hl ha hb hc (by omega) (by omega)
          rw [if_neg n1] at e1
          rw [if_neg n2] at e2
          split at e3 <;> omega
    · rw [routeTo_none h4] at h2; exact absurd rfl h2
  · rw [routeTo_none h3] at h1; exact absurd rfl h1

theorem firstAt_congr {α : Type} (p q : α → Bool) : ∀ (l : List α), (∀ x ∈ l, p x = q x) → firstAt p l = firstAt q l
  | [], _ => rfl
  | x :: l, h => by rw [firstAt_cons, firstAt_cons, h x (List.mem_cons_self ..), firstAt_congr p q l (fun y hy => h y (List.mem_cons_of_mem _ hy))]

theorem firstAt_found {α : Type} (p : α → Bool) (l : List α) (h : 0 ≤ firstAt p l) : ∃ x ∈ l, p x = true := by
  unfold firstAt at h
  by_cases c : l.findIdx p < l.length
  · exact ⟨_, List.getElem_mem c, List.findIdx_getElem⟩
  · rw [if_neg c] at h; omega

/-- Where one link leads there, it is the route. -/
theorem routeTo_link (n : Int) (ls : List Lk) (a b : Int) (hn : isNet n ls = true) (h : 0 ≤ firstAt (isLink a b) ls) : routeTo n ls a b = [firstAt (isLink a b) ls] := by
  obtain ⟨l, hl, hp⟩ := firstAt_found _ _ h
  obtain ⟨g1, _, g3⟩ := links_of hn
  have hk := g3 l hl
  have hl2 : (l.f0 = a ∧ l.f1 = b) ∨ (l.f0 = b ∧ l.f1 = a) := by
    unfold isLink at hp
    simpa using hp
  have hN : Net2 n ls a b := by
    rcases hl2 with ⟨x, y⟩ | ⟨x, y⟩
    · exact ⟨hn, by omega, by omega⟩
    · exact ⟨hn, by omega, by omega⟩
  obtain ⟨hv, ha, hb⟩ := net2_links hN
  have hg := dist_good hv hb.1 hb.2
  have hac : ∀ q ∈ ls, stepOk (dist n.toNat ls b) a q = isLink a b q → True := fun _ _ _ => trivial
  have hab : across l b = a := by
    unfold across
    rcases hl2 with ⟨x, y⟩ | ⟨x, y⟩
    · rw [if_neg (fun e => hk.2.2.2.2 (by omega)), if_pos y.symm, x]
    · rw [if_pos x.symm, y]
  have h1 := dist_lip hv hb.1 hb.2 hl hb.1 hb.2 (by rw [hab]; exact ha.1) (by rw [hg.own]; exact Int.le_refl _)
  rw [hab, hg.own] at h1
  have hne : a ≠ b := by
    rcases hl2 with ⟨x, y⟩ | ⟨x, y⟩
    · intro e; exact hk.2.2.2.2 (by omega)
    · intro e; exact hk.2.2.2.2 (by omega)
  have hd : rd (dist n.toNat ls b) a = 1 := by
    rcases Int.lt_or_le 0 (rd (dist n.toNat ls b) a) with c | c
    · omega
    · exact absurd (hg.zero a ha.1 ha.2 (by omega)) hne
  rw [routeTo_net hN]
  unfold routeOf
  rw [if_neg (by omega), hd, show (1 : Int).toNat = 0 + 1 from rfl, routeF, routeF]
  congr 1
  refine firstAt_congr _ _ ls (fun q hq => ?_)
  have hq2 := g3 q hq
  rw [Bool.eq_iff_iff]
  unfold stepOk isLink
  rw [decide_eq_true_iff, hd]
  simp only [Bool.or_eq_true, Bool.and_eq_true, beq_iff_eq]
  constructor
  · rintro ⟨u1, u2⟩
    have u3 := hg.zero _ u1 (across_lt hv hq a).1 (by omega)
    rcases across_ends hv hq u1 with ⟨x, y⟩ | ⟨x, y⟩
    · exact .inl ⟨x.symm, by omega⟩
    · exact .inr ⟨by omega, x.symm⟩
  · intro u
    have e : across q a = b := by
      unfold across
      rcases u with ⟨x, y⟩ | ⟨x, y⟩
      · rw [if_pos x.symm, y]
      · rw [if_neg (fun e => hq2.2.2.2.2 (by omega)), if_pos y.symm, x]
    rw [e, hg.own]
    exact ⟨hb.1, by omega⟩

theorem sum_ind (L : Nat) (x : Int) (h0 : 0 ≤ x) (h1 : x < L) : ((List.range L).map fun (i : Nat) => if x = (i : Int) then (1 : Int) else 0).sum = 1 := by
  induction L with
  | zero => omega
  | succ L ih =>
    rw [List.range_succ, List.map_append, List.sum_append]
    by_cases e : x = (L : Int)
    · have : ((List.range L).map fun (i : Nat) => if x = (i : Int) then (1 : Int) else 0) = (List.range L).map fun _ => 0 := by
        apply List.map_congr_left
        intro i hi
        have := List.mem_range.1 hi
        rw [if_neg (by omega)]
      have z : ∀ m : Nat, ((List.range m).map fun (_ : Nat) => (0 : Int)).sum = 0 := fun m => by
        induction m with
        | zero => rfl
        | succ m ih => rw [List.range_succ, List.map_append, List.sum_append, ih]; rfl
      rw [this, z]
      simp [e]
    · rw [ih (by omega)]
      simp [e]

theorem sum_add (f g : Nat → Int) (L : Nat) : ((List.range L).map fun i => f i + g i).sum = ((List.range L).map f).sum + ((List.range L).map g).sum := by
  induction L with
  | zero => rfl
  | succ L ih =>
    rw [List.range_succ, List.map_append, List.sum_append, List.map_append, List.sum_append, List.map_append, List.sum_append, ih]
    simp
    omega

theorem rowOf_sum (L : Nat) : ∀ (p : List Int), p.Nodup → (∀ i ∈ p, 0 ≤ i ∧ i < L) → (rowOf p L).sum = (p.length : Int)
  | [], _, _ => by
    unfold rowOf
    have z : ∀ m : Nat, ((List.range m).map fun (_ : Nat) => (0 : Int)).sum = 0 := fun m => by
      induction m with
      | zero => rfl
      | succ m ih => rw [List.range_succ, List.map_append, List.sum_append, ih]; rfl
    simpa using z L
  | x :: p, hn, hp => by
    rw [List.nodup_cons] at hn
    have ih := rowOf_sum L p hn.2 (fun i hi => hp i (List.mem_cons_of_mem _ hi))
    have hx := hp x (List.mem_cons_self ..)
    have e : rowOf (x :: p) L = (List.range L).map fun (i : Nat) => (if x = (i : Int) then (1 : Int) else 0) + (if p.any (fun y => decide (y = (i : Int))) = true then 1 else 0) := by
      unfold rowOf
      apply List.map_congr_left
      intro i _
      rw [List.any_cons]
      by_cases c : x = (i : Int)
      · have : p.any (fun y => decide (y = (i : Int))) = false := by
          rw [List.any_eq_false]
          intro y hy e
          have e := of_decide_eq_true e
          exact hn.1 (by rw [c, ← e]; exact hy)
        rw [this, if_pos c]
        simp [c]
      · rw [if_neg c]
        simp [c]
    rw [e, sum_add, sum_ind L x hx.1 hx.2]
    unfold rowOf at ih
    rw [ih, List.length_cons]
    omega

end Go.Proofs.Ytlplegdcpgbbbaa.Pure
/- Plain lemmas: what is drawn from the bytes: each draw answers; Below n lies in 0..n-1; Int gives an element. Condition: the bytes are no more than a slice can hold. -/
namespace Go.Proofs.Ytlplegdcpgbbbaa.Pure
open Go.RowKit Go.Proofs.Ytlplegdcpgbbbaa.Z Go.Proofs.YtlplegdcpgbbbaaW.PrintWords

theorem and255 (x : Int) : 0 ≤ Go.bits .and .i64 x 255 ∧ Go.bits .and .i64 x 255 ≤ 255 := by
  have h : (BitVec.ofInt 64 x &&& BitVec.ofInt 64 255).toNat ≤ 255 := by
    rw [BitVec.toNat_and]
    exact Nat.and_le_right
  have e : Go.bits .and .i64 x 255 = wrap64 ((BitVec.ofInt 64 x &&& BitVec.ofInt 64 255).toNat : Int) := by
    unfold Go.bits
    exact Go.Proofs.YtlplegdcpgbbbaaW.PrintLast.i64_w _
  rw [e, wrap_in (by omega) (by omega)]
  omega

/-- A place in the bytes. -/
def Cur (x : List Int) (i : Int) : Prop := 0 ≤ i ∧ i ≤ x.length

theorem cur_byte (x : List Int) (i s : Int) (hx : x.length ≤ 4611686018427387904) (hi : Cur x i) : ∃ v i' s', spec_l1Byte.f x i s = some (v, i', s') ∧ (0 ≤ v ∧ v ≤ 255) ∧ Cur x i' := by
  unfold spec_l1Byte.f
  by_cases h : i < x.length
  · rw [if_pos h, if_pos hi.1]
    refine ⟨_, _, _, rfl, and255 _, ?_⟩
    have h0 := hi.1
    rw [wrap_in (by omega) (by omega)]
    exact ⟨by omega, by omega⟩
  · rw [if_neg h]
    exact ⟨_, _, _, rfl, and255 _, hi⟩

theorem cur_below (x : List Int) (i s n : Int) (hx : x.length ≤ 4611686018427387904) (hi : Cur x i) (hn : 0 < n) : ∃ v i' s', spec_l1Below.f x i s n = some (v, i', s') ∧ (0 ≤ v ∧ v < n) ∧ Cur x i' := by
  unfold spec_l1Below.f
  rw [if_neg (by omega)]
  obtain ⟨v1, i1, s1, e1, h1, c1⟩ := cur_byte x i s hx hi
  rw [e1]
  by_cases h : n ≤ 256
  · rw [if_pos h, Option.bind_some, if_neg (by omega)]
    refine ⟨_, _, _, rfl, ?_, c1⟩
    show 0 ≤ Int.tmod v1 n ∧ Int.tmod v1 n < n
    rw [Int.tmod_eq_emod_of_nonneg h1.1]
    exact ⟨Int.emod_nonneg _ (by omega), Int.emod_lt_of_pos _ hn⟩
  · obtain ⟨v2, i2, s2, e2, h2, c2⟩ := cur_byte x i1 s1 hx c1
    obtain ⟨v3, i3, s3, e3, h3, c3⟩ := cur_byte x i2 s2 hx c2
    rw [if_neg h, Option.bind_some]
    show ∃ v i' s', ((spec_l1Byte.f x i1 s1).bind _) = _ ∧ _
    rw [e2, Option.bind_some]
    show ∃ v i' s', ((spec_l1Byte.f x i2 s2).bind _) = _ ∧ _
    rw [e3, Option.bind_some, if_neg (by omega)]
    refine ⟨_, _, _, rfl, ?_, c3⟩
    show 0 ≤ Int.tmod (wrap64 (wrap64 (wrap64 (v1 * 65536) + wrap64 (v2 * 256)) + v3)) n ∧ _
    rw [wrap_in (n := v1 * 65536) (by omega) (by omega), wrap_in (n := v2 * 256) (by omega) (by omega), wrap_in (n := v1 * 65536 + v2 * 256) (by omega) (by omega), wrap_in (by omega) (by omega), Int.tmod_eq_emod_of_nonneg (by omega)]
    exact ⟨Int.emod_nonneg _ (by omega), Int.emod_lt_of_pos _ hn⟩

theorem cur_int (x : List Int) (i s : Int) (l : List Int) (hx : x.length ≤ 4611686018427387904) (hi : Cur x i) (hl : 0 < l.length) : ∃ v i' s', spec_l1Int.f x i s l = some (v, i', s') ∧ v ∈ l ∧ Cur x i' := by
  obtain ⟨v, i', s', e, h, c⟩ := cur_below x i s l.length hx hi (by omega)
  unfold spec_l1Int.f
  rw [e, Option.bind_some]
  refine ⟨rd l v, i', s', ?_, ?_, c⟩
  · show (if 0 ≤ v then (if v < (l.length : Int) then some (rd l v, i', s') else none) else none) = _
    rw [if_pos h.1, if_pos h.2]
  · obtain ⟨j, rfl⟩ : ∃ j : Nat, v = (j : Int) := ⟨v.toNat, by omega⟩
    rw [rd_get l j (by omega)]
    exact List.getElem_mem _

theorem cur_new_from (x : List Int) (_hx : x.length ≤ 4611686018427387904) : ∀ d i h, i + d = x.length → ∃ s, Ev (fun k => spec_l1New.l0 k x h (i : Int)) (x, 0, s) := by
  intro d
  induction d with
  | zero =>
    intro i h hi
    refine ⟨h, Ev.step (fun k => by rw [spec_l1New.l0]) ?_⟩
    exact Ev.ifneg (by omega) (Ev.now _)
  | succ d ih =>
    intro i h hi
    by_cases h4 : (i : Int) < 4000
    · obtain ⟨s, hs⟩ := ih (i + 1) (Go.bits .and .i64 (wrap64 ((wrap64 ((wrap64 (h * 137)) + (wrap64 (rd x i)))) + 11)) 1073741823) (by omega)
      refine ⟨s, Ev.step (fun k => by rw [spec_l1New.l0]) ?_⟩
      refine Ev.ifpos (by omega) (Ev.ifpos h4 (Ev.ifpos (by omega) ?_))
      have e : wrap64 ((i : Int) + 1) = ((i + 1 : Nat) : Int) := wrap_succ (by omega)
      rw [e]
      exact hs
    · refine ⟨h, Ev.step (fun k => by rw [spec_l1New.l0]) ?_⟩
      exact Ev.ifpos (by omega) (Ev.ifneg h4 (Ev.now _))

theorem cur_new (x : List Int) (hx : x.length ≤ 4611686018427387904) : ∃ s, Ev (fun k => spec_l1New.f k x) (x, 0, s) := by
  unfold spec_l1New.f
  exact cur_new_from x hx x.length 0 _ (by omega)

theorem cur_zero (x : List Int) : Cur x 0 := ⟨by omega, by omega⟩

end Go.Proofs.Ytlplegdcpgbbbaa.Pure
/- Plain lemmas: a drawn network has at most seven links. Condition: the bytes are no more than a slice can hold. -/
namespace Go.Proofs.Ytlplegdcpgbbbaa.Pure
open Go.RowKit Go.Proofs.Ytlplegdcpgbbbaa.Z Go.Proofs.YtlplegdcpgbbbaaW.PrintWords

section
variable (x : List Int) (hx : x.length ≤ 4611686018427387904)
include hx

theorem draw7_more (n : Int) (hn : 0 < n) : ∀ (v : Nat) (i s : Int) (ls : List S93), v ≤ 1000 → Cur x i → 1 ≤ ls.length ∧ ls.length ≤ 6 → ∃ q i' s', Ev (fun k => spec_l7Draw.l1 k (v : Int) x i s n ls) (n, q, i', s') ∧ (1 ≤ q.length ∧ q.length ≤ 6) ∧ Cur x i' := by
  intro v
  induction v with
  | zero =>
    intro i s ls _ hi hl
    refine ⟨ls, i, s, Ev.step (fun k => by rw [spec_l7Draw.l1]) ?_, hl, hi⟩
    refine Ev.ifneg (by omega) (Ev.step (fun k => by rw [spec_l7Draw.j3]) ?_)
    exact Ev.ifneg (by decide) (Ev.now _)
  | succ v ih =>
    intro i s ls hv hi hl
    have e2 : wrap64 (((v + 1 : Nat) : Int) - 1) = (v : Int) := by rw [wrap_in (by omega) (by omega)]; omega
    by_cases h6 : (ls.length : Int) < 6
    · obtain ⟨a, i1, s1, e1, _, c1⟩ := cur_below x i s n hx hi hn
      obtain ⟨b, i3, s3, e3, _, c3⟩ := cur_below x i1 s1 n hx c1 hn
      have hlk := spec_linkOf n ls a b (by omega)
      by_cases hab : a = b
      · obtain ⟨q, i', s', h1, h2⟩ := ih i3 s3 ls (by omega) c3 hl
        refine ⟨q, i', s', Ev.step (fun k => by rw [spec_l7Draw.l1]) ?_, h2⟩
        refine Ev.ifpos (by omega) (Ev.step (fun k => by rw [spec_l7Draw.j3]) ?_)
        rw [e2]
        exact Ev.ifpos (decide_eq_true h6) (Ev.bind0 e1 (Ev.bind0 e3 (Ev.ifpos hab h1)))
      · by_cases hf : firstAt (isLink a b) ls < 0
        · obtain ⟨q, i', s', h1, h2⟩ := ih i3 s3 (ls ++ [⟨a, b⟩]) (by omega) c3 (by rw [List.length_append, List.length_singleton]; omega)
          refine ⟨q, i', s', Ev.step (fun k => by rw [spec_l7Draw.l1]) ?_, h2⟩
          refine Ev.ifpos (by omega) (Ev.step (fun k => by rw [spec_l7Draw.j3]) ?_)
          rw [e2]
          exact Ev.ifpos (decide_eq_true h6) (Ev.bind0 e1 (Ev.bind0 e3 (Ev.ifneg hab (Ev.bind hlk (Ev.ifpos hf (Ev.ifpos (by omega) h1))))))
        · obtain ⟨q, i', s', h1, h2⟩ := ih i3 s3 ls (by omega) c3 hl
          refine ⟨q, i', s', Ev.step (fun k => by rw [spec_l7Draw.l1]) ?_, h2⟩
          refine Ev.ifpos (by omega) (Ev.step (fun k => by rw [spec_l7Draw.j3]) ?_)
          rw [e2]
          exact Ev.ifpos (decide_eq_true h6) (Ev.bind0 e1 (Ev.bind0 e3 (Ev.ifneg hab (Ev.bind hlk (Ev.ifneg hf h1)))))
    · refine ⟨ls, i, s, Ev.step (fun k => by rw [spec_l7Draw.l1]) ?_, hl, hi⟩
      refine Ev.ifpos (by omega) (Ev.step (fun k => by rw [spec_l7Draw.j3]) ?_)
      exact Ev.ifneg (by rw [decide_eq_true_iff]; exact h6) (Ev.now _)

theorem draw7_rest (n : Int) (hn : 0 < n) (i s : Int) (ls : List S93) (hi : Cur x i) (hl : 1 ≤ ls.length ∧ ls.length ≤ 6) : ∃ q i' s', Ev (fun k => spec_l7Draw.j1 k x i s n ls) (n, q, i', s') ∧ (1 ≤ q.length ∧ q.length ≤ 6) ∧ Cur x i' := by
  obtain ⟨v, i1, s1, e1, h1, c1⟩ := cur_below x i s 3 hx hi (by decide)
  obtain ⟨m, rfl⟩ : ∃ m : Nat, v = (m : Int) := ⟨v.toNat, by omega⟩
  obtain ⟨q, i', s', h2, h3⟩ := draw7_more x hx n hn m i1 s1 ls (by omega) c1 hl
  exact ⟨q, i', s', Ev.step (fun k => by rw [spec_l7Draw.j1]) (Ev.bind0 e1 h2), h3⟩

theorem draw7_tree (N : Nat) (hN : 4 ≤ N ∧ N ≤ 7) : ∀ (d c : Nat) (i s : Int) (ls : List S93), c + d = N → 1 ≤ c → Cur x i → ls.length + 1 = c → ∃ q i' s', Ev (fun k => spec_l7Draw.l0 k (c : Int) x i s (N : Int) ls) ((N : Int), q, i', s') ∧ (1 ≤ q.length ∧ q.length ≤ 6) ∧ Cur x i' := by
  intro d
  induction d with
  | zero =>
    intro c i s ls hc h1 hi hl
    obtain ⟨q, i', s', h2, h3⟩ := draw7_rest x hx (N : Int) (by omega) i s ls hi (by omega)
    refine ⟨q, i', s', Ev.step (fun k => by rw [spec_l7Draw.l0]) ?_, h3⟩
    exact Ev.ifneg (by omega) h2
  | succ d ih =>
    intro c i s ls hc h1 hi hl
    obtain ⟨v, i1, s1, e1, _, c1⟩ := cur_below x i s (c : Int) hx hi (by omega)
    obtain ⟨q, i', s', h2, h3⟩ := ih (c + 1) i1 s1 (ls ++ [⟨v, (c : Int)⟩]) (by omega) (by omega) c1 (by rw [List.length_append, List.length_singleton]; omega)
    refine ⟨q, i', s', Ev.step (fun k => by rw [spec_l7Draw.l0]) ?_, h3⟩
    rw [wrap_succ (i := c) (by omega)]
    exact Ev.ifpos (by omega) (Ev.ifpos (by omega) (Ev.bind0 e1 (Ev.ifpos (by omega) h2)))

theorem draw7 (i s : Int) (hi : Cur x i) : ∃ n q i' s', Ev (fun k => spec_l7Draw.f k x i s) (n, q, i', s') ∧ (1 ≤ q.length ∧ q.length ≤ 6) ∧ n ≤ 9 ∧ Cur x i' := by
  obtain ⟨v, i1, s1, e1, h1, c1⟩ := cur_below x i s 4 hx hi (by decide)
  have e : wrap64 (4 + v) = ((4 + v.toNat : Nat) : Int) := by rw [wrap_in (by omega) (by omega)]; omega
  obtain ⟨q, i', s', h2, h3⟩ := draw7_tree x hx (4 + v.toNat) (by omega) (3 + v.toNat) 1 i1 s1 [] (by omega) (by omega) c1 rfl
  refine ⟨((4 + v.toNat : Nat) : Int), q, i', s', ?_, h3.1, by omega, h3.2⟩
  unfold spec_l7Draw.f
  refine Ev.bind0 e1 ?_
  show Ev (fun k => spec_l7Draw.l0 k 1 x i1 s1 (wrap64 (4 + v)) []) _
  rw [e]
  exact h2

theorem draw7_any (i s : Int) (hi : Cur x i) : ∃ n q i' s', Ev (fun k => spec_l7Any.f k x i s) (n, q, i', s') ∧ q.length ≤ 7 ∧ n ≤ 9 ∧ Cur x i' := by
  obtain ⟨n, q, i1, s1, h1, h2, hn9, c1⟩ := draw7 x hx i s hi
  obtain ⟨v, i3, s3, e3, h3, c3⟩ := cur_below x i1 s1 10 hx c1 (by decide)
  have fin : ∀ (m : Int) (r : List S93) (i' s' : Int), (Ev (fun k => (spec_l7Draw.f k x i s).bind fun bt186 => ((spec_l1Below.f x bt186.2.2.1 bt186.2.2.2 10).bind fun bt193 => (if bt193.1 = 0 then ((spec_l1Int.f x bt193.2.1 bt193.2.2 (([0, 3, 8, 9] : List Int))).bind fun bt199 => (some (bt199.1, bt186.2.1, bt199.2.1, bt199.2.2))) else (if bt193.1 = 1 then ((spec_l1Int.f x bt193.2.1 bt193.2.2 (([(-1), 0, 8, 9223372036854775807] : List Int))).bind fun bt205 => (if 0 < (bt186.2.1.length : Int) then (some (bt186.1, (bt186.2.1.set (0 : Int).toNat (⟨(rd_T93 bt186.2.1 0).f0, bt205.1⟩ : S93)), bt205.2.1, bt205.2.2)) else (none))) else (if bt193.1 = 2 then (if 0 < (bt186.2.1.length : Int) then (if bt186.2.1.length < 8796093022208 then (some (bt186.1, (bt186.2.1 ++ [(⟨(rd_T93 bt186.2.1 0).f0, (rd_T93 bt186.2.1 0).f1⟩ : S93)]), bt193.2.1, bt193.2.2)) else (none)) else (none)) else (if bt193.1 = 3 then (some (bt186.1, ([] : List (S93)), bt193.2.1, bt193.2.2)) else (some (bt186.1, bt186.2.1, bt193.2.1, bt193.2.2))))))) ) (m, r, i', s') ∧ r.length ≤ 7 ∧ m ≤ 9 ∧ Cur x i') → ∃ n q i' s', Ev (fun k => spec_l7Any.f k x i s) (n, q, i', s') ∧ q.length ≤ 7 ∧ n ≤ 9 ∧ Cur x i' := fun m r i' s' h => ⟨m, r, i', s', h⟩
  have h0 : (0 : Int) < (q.length : Int) := by omega
  have h8 : q.length < 8796093022208 := by omega
  by_cases v0 : v = 0
  · obtain ⟨u, i4, s4, e4, hu, c4⟩ := cur_int x i3 s3 [0, 3, 8, 9] hx c3 (by decide)
    refine fin u q i4 s4 ⟨Ev.bind h1 (Ev.bind0 e3 (Ev.ifpos v0 (Ev.bind0 e4 ?_))), by omega, by simp only [List.mem_cons, List.not_mem_nil, or_false] at hu; omega, c4⟩
    exact Ev.now _
  · by_cases v1 : v = 1
    · obtain ⟨u, i4, s4, e4, _, c4⟩ := cur_int x i3 s3 [(-1), 0, 8, 9223372036854775807] hx c3 (by decide)
      refine fin n (q.set (0 : Int).toNat ⟨(rd_T93 q 0).f0, u⟩) i4 s4 ⟨Ev.bind h1 (Ev.bind0 e3 (Ev.ifneg v0 (Ev.ifpos v1 (Ev.bind0 e4 (Ev.ifpos h0 ?_))))), by rw [List.length_set]; omega, hn9, c4⟩
      exact Ev.now _
    · by_cases v2 : v = 2
      · refine fin n (q ++ [⟨(rd_T93 q 0).f0, (rd_T93 q 0).f1⟩]) i3 s3 ⟨Ev.bind h1 (Ev.bind0 e3 (Ev.ifneg v0 (Ev.ifneg v1 (Ev.ifpos v2 (Ev.ifpos h0 (Ev.ifpos h8 ?_)))))), by rw [List.length_append, List.length_singleton]; omega, hn9, c3⟩
        exact Ev.now _
      · by_cases v3 : v = 3
        · refine fin n [] i3 s3 ⟨Ev.bind h1 (Ev.bind0 e3 (Ev.ifneg v0 (Ev.ifneg v1 (Ev.ifneg v2 (Ev.ifpos v3 ?_))))), by simp, hn9, c3⟩
          exact Ev.now _
        · refine fin n q i3 s3 ⟨Ev.bind h1 (Ev.bind0 e3 (Ev.ifneg v0 (Ev.ifneg v1 (Ev.ifneg v2 (Ev.ifneg v3 ?_))))), by omega, hn9, c3⟩
          exact Ev.now _

end

end Go.Proofs.Ytlplegdcpgbbbaa.Pure
/- Plain lemma: a route has at most eight links. No condition. -/
namespace Go.Proofs.Ytlplegdcpgbbbaa.Pure
open Go.RowKit Go.Proofs.Ytlplegdcpgbbbaa.Z Go.Proofs.YtlplegdcpgbbbaaW.PrintWords

theorem routeF_len (d : List Int) (ls : List Lk) : ∀ m x, (routeF d ls m x).length = m
  | 0, _ => rfl
  | m + 1, x => by rw [routeF, List.length_cons, routeF_len d ls m]

theorem fold_good {N : Nat} {ls : List Lk} {tg : Int} (hv : Links N ls) (n : Nat) (hn : n < N) : ∀ (l : List Lk) (d : List Int), (∀ x ∈ l, x ∈ ls) → Good N ls tg d → Good N ls tg (l.foldl (relaxL (n : Int)) d)
  | [], _, _, h => h
  | x :: l, d, hl, h => by
    rw [List.foldl_cons]
    exact fold_good hv n hn l _ (fun y hy => hl y (List.mem_cons_of_mem _ hy)) (relaxL_good hv h (hl x (List.mem_cons_self ..)) (by omega) (by omega))

theorem sweeps_good {N : Nat} {ls : List Lk} {tg : Int} (hv : Links N ls) : ∀ (q : List Nat) (d : List Int), (∀ x ∈ q, x < N) → Good N ls tg d → Good N ls tg (q.foldl (sweep ls) d)
  | [], _, _, h => h
  | x :: q, d, hl, h => by
    rw [List.foldl_cons]
    exact sweeps_good hv q _ (fun y hy => hl y (List.mem_cons_of_mem _ hy)) (fold_good hv x (hl x (List.mem_cons_self ..)) ls d (fun _ h => h) h)

theorem routeTo_len (n : Int) (ls : List Lk) (a b : Int) : (routeTo n ls a b).length ≤ 8 := by
  unfold routeTo
  split
  · rename_i h
    obtain ⟨h1, h2, h3⟩ := links_of h.1
    have hg := sweeps_good h3 (List.range n.toNat) _ (fun x hx => List.mem_range.1 hx) (start_good (ls := ls) (tg := b) h.2.2.1 (by omega))
    have hlo := hg.lo a h.2.1.1 (by omega)
    unfold routeOf
    split
    · simp
    · rw [routeF_len]
      unfold dist
      omega
  · simp

end Go.Proofs.Ytlplegdcpgbbbaa.Pure
/- Plain words: probes, read. No condition. -/
namespace Go.Proofs.Ytlplegdcpgbbbaa.Pure
open Go.RowKit Go.Proofs.Ytlplegdcpgbbbaa.Z Go.Proofs.YtlplegdcpgbbbaaW.PrintWords

abbrev Pb := S38
theorem rdPb (l : List Pb) (i : Nat) (h : i < l.length) : rd_T38 l (i : Int) = l[i] := getD_get l i _ h

end Go.Proofs.Ytlplegdcpgbbbaa.Pure
/- Plain lemma: the node at the end of a path, as the reference finds it. Condition: the lists are not longer than lists can be. -/
namespace Go.Proofs.Ytlplegdcpgbbbaa.Pure
open Go.RowKit Go.Proofs.Ytlplegdcpgbbbaa.Z Go.Proofs.YtlplegdcpgbbbaaW.PrintWords

end Go.Proofs.Ytlplegdcpgbbbaa.Pure
/- Plain lemma: what the reference's RouteTo answers. Condition: the list is not longer than a list can be. -/
namespace Go.Proofs.Ytlplegdcpgbbbaa.Pure
open Go.RowKit Go.Proofs.Ytlplegdcpgbbbaa.Z Go.Proofs.YtlplegdcpgbbbaaW.PrintWords

section spec
variable {N : Nat} {ls : List Lk} {a b : Int}

end spec

end Go.Proofs.Ytlplegdcpgbbbaa.Pure
/- Plain lemma: what the program's RouteTo answers. Condition: the list is not longer than a list can be. -/
namespace Go.Proofs.Ytlplegdcpgbbbaa.Pure
open Go.RowKit Go.Proofs.Ytlplegdcpgbbbaa.Z Go.Proofs.YtlplegdcpgbbbaaW.PrintWords

section spec
variable {N : Nat} {ls : List Lk} {a b : Int}

theorem impl_across (l : Lk) (x : Int) : impl_Link_across.f l.f0 l.f1 x = some (across l x) := by
  unfold impl_Link_across.f across
  split
  · rfl
  · split <;> rfl

theorem impl_turn {d : List Int} (hlen : d.length = N) (n i : Nat) (hi : i < ls.length) (z j : Int) (u v : Int) (hu : rd [ls[i].f0, ls[i].f1] j = u) (hv : across ls[i] u = v) (hj : 0 ≤ j ∧ j < 2) (hu0 : 0 ≤ u ∧ u < N) (hv0 : 0 ≤ v ∧ v < N) (hn : n < 9) (r : List Int)
    (hr : Ev (fun k => impl_RouteTo.l3 k a b (relax1 (n : Int) d u v) (n : Int) (N : Int) (n : Int) ls (ls.length : Int) z [ls[i].f0, ls[i].f1] 2 (j + 1) (N : Int) ls ls[i].f0 ls[i].f1) r) :
    Ev (fun k => impl_RouteTo.l3 k a b d (n : Int) (N : Int) (n : Int) ls (ls.length : Int) z [ls[i].f0, ls[i].f1] 2 j (N : Int) ls ls[i].f0 ls[i].f1) r := by
  refine Ev.step (fun k => by rw [impl_RouteTo.l3]) ?_
  refine Ev.ifpos (by omega) (Ev.ifpos (by omega) (Ev.ifpos (by simp; omega) ?_))
  rw [hu]
  refine Ev.bind0 (impl_across ls[i] u) ?_
  rw [hv]
  have e1 : wrap64 (j + 1) = j + 1 := wrap_in (by omega) (by omega)
  have e2 : wrap64 ((n : Int) + 1) = (n : Int) + 1 := wrap_in (by omega) (by omega)
  rw [e1, e2]
  unfold relax1 at hr
  refine Ev.ifpos (by omega) (Ev.ifpos (by omega) ?_)
  by_cases h1 : rd d u = (n : Int)
  · refine Ev.ifpos h1 (Ev.ifpos (by omega) (Ev.ifpos (by omega) ?_))
    by_cases h2 : rd d v < 0
    · rw [if_pos ⟨h1, h2⟩] at hr
      exact Ev.ifpos h2 hr
    · rw [if_neg (fun h => h2 h.2)] at hr
      exact Ev.ifneg h2 hr
  · rw [if_neg (fun h => h1 h.1)] at hr
    exact Ev.ifneg h1 hr

theorem impl_relax {d : List Int} (hv : Links N ls) (hg : Good N ls b d) (hl : ls.length ≤ 6) (hN : N ≤ 8) (n i : Nat) (hn : n < N) (hi : i < ls.length) (r : List Int)
    (hr : Ev (fun k => impl_RouteTo.l2 k a b (relaxL (n : Int) d ls[i]) (n : Int) (N : Int) (n : Int) ls (ls.length : Int) ((i + 1 : Nat) : Int) (N : Int) ls) r) :
    Ev (fun k => impl_RouteTo.l2 k a b d (n : Int) (N : Int) (n : Int) ls (ls.length : Int) (i : Int) (N : Int) ls) r := by
  have hlen := hg.len
  have hlk := hv _ (List.getElem_mem hi)
  have c0 : across ls[i] ls[i].f0 = ls[i].f1 := by unfold across; rw [if_pos rfl]
  have c1 : across ls[i] ls[i].f1 = ls[i].f0 := by unfold across; rw [if_neg (fun e => hlk.2.2.2.2 e.symm), if_pos rfl]
  have hlen1 := (relax1_good (n := (n : Int)) (a := ls[i].f0) (b := ls[i].f1) hg (List.getElem_mem hi) (by omega) (by omega) ⟨hlk.1, hlk.2.1⟩ ⟨hlk.2.2.1, hlk.2.2.2.1⟩ c1).len
  refine Ev.step (fun k => by rw [impl_RouteTo.l2]) ?_
  refine Ev.ifpos (by omega) (Ev.ifpos (by omega) (Ev.ifpos (by omega) ?_))
  rw [show rd_T93 ls (i : Int) = ls[i] from getD_get ls i _ hi]
  refine Ev.bind0 (a := [ls[i].f0, ls[i].f1]) rfl ?_
  show Ev (fun k => impl_RouteTo.l3 k a b d (n : Int) (N : Int) (n : Int) ls (ls.length : Int) (i : Int) [ls[i].f0, ls[i].f1] 2 0 (N : Int) ls ls[i].f0 ls[i].f1) r
  refine impl_turn hlen n i hi _ 0 ls[i].f0 ls[i].f1 rfl c0 (by omega) ⟨hlk.1, hlk.2.1⟩ ⟨hlk.2.2.1, hlk.2.2.2.1⟩ (by omega) r ?_
  refine impl_turn hlen1 n i hi _ (0 + 1) ls[i].f1 ls[i].f0 rfl c1 (by omega) ⟨hlk.2.2.1, hlk.2.2.2.1⟩ ⟨hlk.1, hlk.2.1⟩ (by omega) r ?_
  refine Ev.step (fun k => by rw [impl_RouteTo.l3]) ?_
  refine Ev.ifneg (by omega) ?_
  rw [wrap_succ (by omega)]
  exact hr

theorem impl_walk {d : List Int} (hv : Links N ls) (hg : Good N ls b d) (hl : ls.length ≤ 6) (_hN : N ≤ 8) : ∀ (m : Nat) (x : Int) (out : List Int), 0 ≤ x → x < N → rd d x = (m : Int) → out.length + m ≤ 8 →
    Ev (fun k => impl_RouteTo.l4 k b d out x (N : Int) ls) (out ++ routeF d ls m x) := by
  intro m
  induction m with
  | zero =>
    intro x out h0 h1 hm ho
    rw [routeF, List.append_nil]
    refine Ev.step (fun k => by rw [impl_RouteTo.l4]) ?_
    exact Ev.ifpos (hg.zero x h0 h1 hm) (Ev.now _)
  | succ m ih =>
    intro x out h0 h1 hm ho
    have hlen := hg.len
    obtain ⟨f, hf, e1, e2, a0, a1, a2, hmiss⟩ := near_first hv hg h0 h1 (m := m) (by rw [hm]; omega)
    rw [routeF, e1, e2]
    have hnext := ih (across ls[f] x) (out ++ [(f : Int)]) a0 a1 a2 (by rw [List.length_append, List.length_singleton]; omega)
    rw [List.append_assoc, List.singleton_append] at hnext
    have hne : ¬ x = b := fun e => by have := hg.own; rw [← e] at this; omega
    refine Ev.step (fun k => by rw [impl_RouteTo.l4]) ?_
    refine Ev.ifneg hne ?_
    refine Ev.up0 f (fun i k => impl_RouteTo.l5 k b d out x ls (ls.length : Int) (i : Int) (N : Int) ls) (fun _ => out ++ (f : Int) :: routeF d ls m (across ls[f] x)) ?_ ?_ 0 (Nat.zero_le _)
    · refine Ev.step (fun k => by rw [impl_RouteTo.l5]) ?_
      refine Ev.ifpos (by omega) (Ev.ifpos (by omega) (Ev.ifpos (by omega) ?_))
      rw [show rd_T93 ls (f : Int) = ls[f] from getD_get ls f _ hf]
      refine Ev.bind0 (impl_across ls[f] x) ?_
      refine Ev.ifpos a0 (Ev.ifpos a0 (Ev.ifpos (by omega) (Ev.ifpos h0 (Ev.ifpos (by omega) (Ev.ifpos ?_ (Ev.ifpos (by omega) hnext))))))
      rw [a2, hm, wrap_in (by omega) (by omega)]
      omega
    · intro i hi hnx
      have hil : i < ls.length := by omega
      have hno := of_decide_eq_false (hmiss i hil hi)
      have hal := across_lt hv (List.getElem_mem hil) x
      have hlo := hg.lo x h0 h1
      refine Ev.step (fun k => by rw [impl_RouteTo.l5]) ?_
      refine Ev.ifpos (by omega) (Ev.ifpos (by omega) (Ev.ifpos (by omega) ?_))
      rw [show rd_T93 ls (i : Int) = ls[i] from getD_get ls i _ hil, wrap_succ (by omega)]
      refine Ev.bind0 (impl_across ls[i] x) ?_
      by_cases ha : across ls[i] x ≥ 0
      · refine Ev.ifpos ha (Ev.ifpos ha (Ev.ifpos (by omega) (Ev.ifpos h0 (Ev.ifpos (by omega) (Ev.ifneg ?_ hnx)))))
        rw [wrap_in (by omega) (by omega)]
        exact fun e => hno ⟨ha, e⟩
      · exact Ev.ifneg ha hnx

theorem impl_after (hv : Links N ls) (hl : ls.length ≤ 6) (hN : N ≤ 8) (ha : 0 ≤ a ∧ a < N) :
    ∀ (n : Nat) (d : List Int), n ≤ N → Good N ls b d → Ev (fun k => impl_RouteTo.l1 k a b d (N : Int) (n : Int) (N : Int) ls) (afterR N ls a n d) := by
  refine Ev.up N (fun n d k => impl_RouteTo.l1 k a b d (N : Int) (n : Int) (N : Int) ls) (fun n d => afterR N ls a n d) (fun _ d => Good N ls b d) ?_ ?_
  · intro d hg
    rw [afterR_end]
    have hlen := hg.len
    refine Ev.step (fun k => by rw [impl_RouteTo.l1]) ?_
    refine Ev.ifneg (by omega) (Ev.ifpos ha.1 (Ev.ifpos (by omega) ?_))
    unfold routeOf
    by_cases h : rd d a < 0
    · rw [if_pos h]
      exact Ev.ifpos h (Ev.now _)
    · rw [if_neg h]
      have hlo := hg.lo a ha.1 ha.2
      have := impl_walk (b := b) hv hg hl hN (rd d a).toNat a [] ha.1 ha.2 (by omega) (by simp; omega)
      exact Ev.ifneg h this
  · intro n d hn hg ih
    rw [afterR_step _ _ _ _ _ hn]
    refine Ev.step (fun k => by rw [impl_RouteTo.l1]) ?_
    refine Ev.ifpos (by omega) ?_
    refine Ev.up ls.length (fun i d k => impl_RouteTo.l2 k a b d (n : Int) (N : Int) (n : Int) ls (ls.length : Int) (i : Int) (N : Int) ls) (fun i d => afterR N ls a (n + 1) ((ls.drop i).foldl (relaxL (n : Int)) d)) (fun _ d => Good N ls b d) ?_ ?_ 0 d (Nat.zero_le _) hg
    · intro d hg
      rw [List.drop_of_length_le (Nat.le_refl _)]
      refine Ev.step (fun k => by rw [impl_RouteTo.l2]) ?_
      refine Ev.ifneg (by omega) ?_
      rw [wrap_succ (by omega)]
      exact ih d hg
    · intro i d hi hg ih2
      rw [drop_get _ i hi, List.foldl_cons]
      exact impl_relax hv hg hl hN n i hn hi _ (ih2 _ (relaxL_good hv hg (List.getElem_mem hi) (by omega) (by omega)))

theorem take_set_next (s : List Int) (i : Nat) (x : Int) (h : i < s.length) (hs : s.take i = List.replicate i x) : (s.set i x).take (i + 1) = List.replicate (i + 1) x := by
  rw [List.take_succ_eq_append_getElem (by simpa using h), take_set_self, hs, List.replicate_succ']
  simp

theorem impl_fill (hN : N ≤ 8) (hb : 0 ≤ b ∧ b < N) (r : List Int) (hr : Ev (fun k => impl_RouteTo.l1 k a b ((List.replicate N (-1)).set b.toNat 0) (N : Int) 0 (N : Int) ls) r) :
    Ev (fun k => impl_RouteTo.l0 k a b (List.replicate N 0) (N : Int) 0 (N : Int) ls) r := by
  refine Ev.up N (fun i s k => impl_RouteTo.l0 k a b s (N : Int) (i : Int) (N : Int) ls) (fun _ _ => r) (fun i s => s.length = N ∧ s.take i = List.replicate i (-1)) ?_ ?_ 0 _ (Nat.zero_le _) ⟨by simp, rfl⟩
  · rintro s ⟨h1, h2⟩
    rw [List.take_of_length_le (by omega)] at h2
    subst h2
    refine Ev.step (fun k => by rw [impl_RouteTo.l0]) ?_
    exact Ev.ifneg (by omega) (Ev.ifpos hb.1 (Ev.ifpos (by simp; omega) hr))
  · rintro i s hi ⟨h1, h2⟩ ih
    refine Ev.step (fun k => by rw [impl_RouteTo.l0]) ?_
    refine Ev.ifpos (by omega) (Ev.ifpos (by omega) (Ev.ifpos (by omega) ?_))
    rw [wrap_succ (by omega), Int.toNat_natCast]
    exact ih _ ⟨by simpa using h1, take_set_next s i (-1) (by omega) h2⟩

end spec

theorem impl_routeTo (n : Int) (ls : List Lk) (a b : Int) (hl : ls.length ≤ 9223372036854775806) : Ev (fun k => impl_RouteTo.f k n ls a b) (routeTo n ls a b) := by
  unfold impl_RouteTo.f
  refine Ev.bind (impl_net n ls hl) ?_
  have hbad : ∀ r : List Int, r = [] → Ev (fun k => impl_RouteTo.j0 k a b true n ls) r := fun r hr => by
    refine Ev.step (fun k => by rw [impl_RouteTo.j0]) ?_
    exact Ev.ifpos rfl (Ev.pure hr.symm)
  by_cases hn : isNet n ls = true
  · obtain ⟨h1, h2, h3⟩ := links_of hn
    refine Ev.ifpos hn (Ev.bind0 (impl_at_eq _ _) ?_)
    by_cases ha : 0 ≤ a ∧ a < n
    · refine Ev.ifpos (decide_eq_true ha) (Ev.bind0 (impl_at_eq _ _) ?_)
      by_cases hb : 0 ≤ b ∧ b < n
      · rw [decide_eq_true hb]
        unfold routeTo
        rw [if_pos ⟨hn, ha, hb⟩]
        obtain ⟨N, rfl⟩ : ∃ N : Nat, n = (N : Int) := ⟨n.toNat, by omega⟩
        rw [Int.toNat_natCast] at h3 ⊢
        refine Ev.step (fun k => by rw [impl_RouteTo.j0]) ?_
        refine Ev.ifneg (by decide) (Ev.ifpos (by omega) (Ev.ifpos (by omega) (Ev.bind0 (a := List.replicate N 0) rfl ?_)))
        rw [List.length_replicate]
        refine impl_fill (by omega) hb _ ?_
        exact impl_after h3 h2.2 (by omega) ha 0 _ (Nat.zero_le _) (start_good hb.1 (by omega))
      · rw [decide_eq_false hb]
        exact hbad _ (if_neg (fun h => hb h.2.2))
    · exact Ev.ifneg (by rw [decide_eq_true_iff]; exact ha) (hbad _ (if_neg (fun h => ha h.2.1)))
  · exact Ev.ifneg hn (hbad _ (if_neg (fun h => hn h.1)))

end Go.Proofs.Ytlplegdcpgbbbaa.Pure
/- Plain lemma: what ProbeFor answers. Condition: the list is not longer than a list can be. -/
namespace Go.Proofs.Ytlplegdcpgbbbaa.Pure
open Go.RowKit Go.Proofs.Ytlplegdcpgbbbaa.Z Go.Proofs.YtlplegdcpgbbbaaW.PrintWords

def probeFor (n : Int) (ls : List Lk) (a b : Int) : Int × Int × List Int × Bool := if routeTo n ls a b = [] then (0, 0, [], false) else (a, b, routeTo n ls a b, true)
theorem impl_probeFor (n : Int) (ls : List Lk) (a b : Int) (hl : ls.length ≤ 9223372036854775806) : Ev (fun k => impl_ProbeFor.f k n ls a b) (probeFor n ls a b) := by
  unfold impl_ProbeFor.f probeFor
  refine Ev.bind (impl_routeTo n ls a b hl) ?_
  by_cases h : routeTo n ls a b = []
  · rw [if_pos h]
    exact Ev.ifpos (by rw [h]; rfl) (Ev.now _)
  · rw [if_neg h]
    have := List.length_pos_iff.2 h
    exact Ev.ifneg (by omega) (Ev.now _)

end Go.Proofs.Ytlplegdcpgbbbaa.Pure
/- Plain lemma: the probes between hosts, as the reference and the program list them. Condition: the lists are not longer than the law's can be. -/
namespace Go.Proofs.Ytlplegdcpgbbbaa.Pure
open Go.RowKit Go.Proofs.Ytlplegdcpgbbbaa.Z Go.Proofs.YtlplegdcpgbbbaaW.PrintWords

def pStep (n : Int) (ls : List Lk) (a : Int) (out : List Pb) (b : Int) : List Pb := if routeTo n ls a b ≠ [] ∧ out.length < 12 then out ++ [⟨a, b, routeTo n ls a b⟩] else out
def pAll (n : Int) (ls : List Lk) : List Int → List Pb → List Pb
  | [], out => out
  | a :: hs, out => pAll n ls hs (hs.foldl (pStep n ls a) out)

theorem pStep_len (n : Int) (ls : List Lk) (a : Int) (out : List Pb) (b : Int) (h : out.length ≤ 12) : (pStep n ls a out b).length ≤ 12 := by
  unfold pStep
  split
  · rw [List.length_append, List.length_singleton]; omega
  · exact h
theorem pFold_len (n : Int) (ls : List Lk) (a : Int) : ∀ (hs : List Int) (out : List Pb), out.length ≤ 12 → (hs.foldl (pStep n ls a) out).length ≤ 12
  | [], _, h => h
  | b :: hs, out, h => pFold_len n ls a hs _ (pStep_len n ls a out b h)
theorem pAll_len (n : Int) (ls : List Lk) : ∀ (hs : List Int) (out : List Pb), out.length ≤ 12 → (pAll n ls hs out).length ≤ 12
  | [], _, h => h
  | a :: hs, out, h => pAll_len n ls hs _ (pFold_len n ls a hs out h)
/-- Each probe goes the route between its ends. -/
def OnRoute (n : Int) (ls : List Lk) (out : List Pb) : Prop := ∀ p ∈ out, p.f2 = routeTo n ls p.f0 p.f1 ∧ p.f2 ≠ []
theorem pStep_on {n : Int} {ls : List Lk} (a : Int) {out : List Pb} (b : Int) (h : OnRoute n ls out) : OnRoute n ls (pStep n ls a out b) := by
  unfold pStep
  split
  · rename_i hc
    intro p hp
    rcases List.mem_append.1 hp with hp | hp
    · exact h p hp
    · obtain rfl := List.mem_singleton.1 hp
      exact ⟨rfl, hc.1⟩
  · exact h
theorem pFold_on {n : Int} {ls : List Lk} (a : Int) : ∀ (hs : List Int) {out : List Pb}, OnRoute n ls out → OnRoute n ls (hs.foldl (pStep n ls a) out)
  | [], _, h => h
  | b :: hs, _, h => pFold_on a hs (pStep_on a b h)
theorem pAll_on {n : Int} {ls : List Lk} : ∀ (hs : List Int) {out : List Pb}, OnRoute n ls out → OnRoute n ls (pAll n ls hs out)
  | [], _, h => h
  | a :: hs, _, h => pAll_on hs (pFold_on a hs h)

theorem pStep_next {n : Int} {ls : List Lk} {a b : Int} {out : List Pb} {β : Type} {G : Nat → List Pb → Option β} {r : β} (ho : out.length ≤ 12) (h : Ev (fun k => G k (pStep n ls a out b)) r) : Ev (fun k => if (probeFor n ls a b).2.2.2 = true then (if (out.length : Int) < 12 then (if out.length < 3518437208883 then G k (out ++ [⟨(probeFor n ls a b).1, (probeFor n ls a b).2.1, (probeFor n ls a b).2.2.1⟩]) else none) else G k out) else G k out) r := by
  unfold pStep at h
  by_cases hr : routeTo n ls a b = []
  · rw [if_neg (fun q => q.1 hr)] at h
    have e : (probeFor n ls a b).2.2.2 = false := by unfold probeFor; rw [if_pos hr]
    exact Ev.ifneg (by rw [e]; decide) h
  · have e : probeFor n ls a b = (a, b, routeTo n ls a b, true) := by unfold probeFor; rw [if_neg hr]
    rw [e]
    refine Ev.ifpos rfl ?_
    by_cases hl : out.length < 12
    · rw [if_pos ⟨hr, hl⟩] at h
      exact Ev.ifpos (by omega) (Ev.ifpos (by omega) h)
    · rw [if_neg (fun q => hl q.2)] at h
      exact Ev.ifneg (by omega) h

theorem impl_probesOf (n : Int) (ls : List Lk) (hs : List Int) (hl : ls.length ≤ 9223372036854775806) (hh : hs.length ≤ 1048576) : Ev (fun k => impl_ProbesOf.f k n ls hs) (pAll n ls hs []) := by
  unfold impl_ProbesOf.f
  have key := Ev.up hs.length (fun i (out : List Pb) k => impl_ProbesOf.l0 k hs out hs (hs.length : Int) (i : Int) n ls) (fun i out => pAll n ls (hs.drop i) out) (fun _ out => out.length ≤ 12) ?_ ?_ 0 [] (Nat.zero_le _) (by simp)
  · rw [List.drop_zero] at key
    exact key
  · intro out _
    rw [List.drop_of_length_le (Nat.le_refl _)]
    refine Ev.step (fun k => by rw [impl_ProbesOf.l0]) ?_
    exact Ev.ifneg (by omega) (Ev.now _)
  · intro i out hi ho ih
    rw [drop_get hs i hi, pAll]
    refine Ev.step (fun k => by rw [impl_ProbesOf.l0]) ?_
    rw [wrap_succ (by omega), Int.toNat_natCast, rd_get hs i hi]
    refine Ev.ifpos (by omega) (Ev.ifpos (by omega) (Ev.ifpos (by omega) (Ev.ifpos (by omega) (Ev.ifpos (by omega) ?_))))
    generalize hq : hs.drop (i + 1) = q
    have hql : q.length ≤ 1048576 := by rw [← hq, List.length_drop]; omega
    rw [hq] at ih
    refine Ev.up q.length (fun j (out : List Pb) k => impl_ProbesOf.l1 k hs out hs[i] hs (hs.length : Int) (i : Int) q (q.length : Int) (j : Int) n ls) (fun j out => pAll n ls q ((q.drop j).foldl (pStep n ls hs[i]) out)) (fun _ out => out.length ≤ 12) ?_ ?_ 0 out (Nat.zero_le _) ho
    · intro out ho
      rw [List.drop_of_length_le (Nat.le_refl _)]
      refine Ev.step (fun k => by rw [impl_ProbesOf.l1]) ?_
      rw [wrap_succ (i := i) (by omega)]
      exact Ev.ifneg (by omega) (ih out ho)
    · intro j out hj ho ih2
      rw [drop_get q j hj, List.foldl_cons]
      refine Ev.step (fun k => by rw [impl_ProbesOf.l1]) ?_
      rw [wrap_succ (i := j) (by omega), rd_get q j hj]
      refine Ev.ifpos (by omega) (Ev.ifpos (by omega) (Ev.ifpos (by omega) (Ev.bind (impl_probeFor n ls _ _ hl) ?_)))
      exact pStep_next (G := fun k out => impl_ProbesOf.l1 k hs out hs[i] hs (hs.length : Int) (i : Int) q (q.length : Int) ((j + 1 : Nat) : Int) n ls) ho (ih2 _ (pStep_len n ls _ out _ ho))

end Go.Proofs.Ytlplegdcpgbbbaa.Pure
/- Plain lemma: the reference's search in a list of numbers. Condition: the list is not longer than a list can be. -/
namespace Go.Proofs.Ytlplegdcpgbbbaa.Pure
open Go.RowKit Go.Proofs.Ytlplegdcpgbbbaa.Z Go.Proofs.YtlplegdcpgbbbaaW.PrintWords

end Go.Proofs.Ytlplegdcpgbbbaa.Pure
/- Plain lemma: what the reference's IsPath answers. Condition: the lists are not longer than lists can be. -/
namespace Go.Proofs.Ytlplegdcpgbbbaa.Pure
open Go.RowKit Go.Proofs.Ytlplegdcpgbbbaa.Z Go.Proofs.YtlplegdcpgbbbaaW.PrintWords

end Go.Proofs.Ytlplegdcpgbbbaa.Pure
/- Plain lemma: a loop that goes on while the elements are well. No condition. -/
namespace Go.Proofs.Ytlplegdcpgbbbaa.Pure
open Go.RowKit Go.Proofs.YtlplegdcpgbbbaaW.PrintWords

theorem all_step {α : Type} (p : α → Bool) (xs : List α) (G : Nat → Nat → Option Bool) (r0 : Bool) (hend : Ev (G xs.length) r0) (hstep : ∀ i (hi : i < xs.length) r, Ev (G (i + 1)) r → Ev (G i) (p xs[i] && r)) : Ev (G 0) (xs.all p && r0) := by
  have key := Ev.up0 xs.length G (fun i => (xs.drop i).all p && r0)
    (by rw [List.drop_of_length_le (Nat.le_refl _)]; simpa using hend)
    (fun i hi ih => by
      rw [drop_get xs i hi, List.all_cons, Bool.and_assoc]
      exact hstep i hi _ ih) 0 (Nat.zero_le _)
  simpa using key

/-- The same over the places. -/
theorem all_places (n : Nat) (p : Nat → Bool) (G : Nat → Nat → Option Bool) (r0 : Bool) (hend : Ev (G n) r0) (hstep : ∀ i, i < n → ∀ r, Ev (G (i + 1)) r → Ev (G i) (p i && r)) : Ev (G 0) ((List.range n).all p && r0) := by
  refine all_step p (List.range n) G r0 (by rw [List.length_range]; exact hend) (fun i hi r hr => ?_)
  rw [List.getElem_range]
  exact hstep i (by simpa using hi) r hr

end Go.Proofs.Ytlplegdcpgbbbaa.Pure
/- Plain lemmas: what the reference's and the program's AreProbes answer. Condition: the lists are not longer than lists can be. -/
namespace Go.Proofs.Ytlplegdcpgbbbaa.Pure
open Go.RowKit Go.Proofs.Ytlplegdcpgbbbaa.Z Go.Proofs.YtlplegdcpgbbbaaW.PrintWords

def okProbe (ls : List S93) (p : S38) : Bool := !decide (p.f2.length = 0) && isPath ls p.f2 p.f0 p.f1
def areProbes (n : Int) (ls : List S93) (ps : List S38) : Bool := ps.all (okProbe ls) && (isNet n ls && decide (ps.length ≤ 12))

theorem rdPr (ps : List S38) (i : Nat) (h : i < ps.length) : rd_T38 ps (i : Int) = ps[i] := getD_get ps i _ h

theorem ev_anyO {α : Type} (g : Nat → α → Option Bool) (p : α → Bool) : ∀ xs : List α, (∀ x ∈ xs, Ev (fun k => g k x) (p x)) → Ev (fun k => anyO (g k) xs) (xs.any p)
  | [], _ => Ev.now _
  | x :: xs, h => by
    rw [List.any_cons]
    exact Ev.bind (h x (List.mem_cons_self ..)) (Ev.bind (ev_anyO g p xs (fun y hy => h y (List.mem_cons_of_mem _ hy))) (Ev.now _))

theorem impl_areProbes (n : Int) (ls : List S93) (ps : List S38) (hl : ls.length ≤ 9223372036854775806) (hx : ∀ p ∈ ps, p.f2.length ≤ 9223372036854775806) : Ev (fun k => impl_AreProbes.f k n ls ps) (areProbes n ls ps) := by
  unfold impl_AreProbes.f areProbes
  refine Ev.bind (impl_net n ls hl) ?_
  cases isNet n ls
  · exact Ev.ifneg (by decide) (Ev.pure (by simp))
  · refine Ev.ifpos rfl ?_
    by_cases h : ps.length ≤ 12
    · rw [decide_eq_true h, Bool.true_and, Bool.and_true]
      refine Ev.ifpos (by omega) (Ev.bind (ev_anyO (fun k => badProbe k n ls) (fun p => !okProbe ls p) ps ?_) (Ev.pure ?_))
      · intro p hp
        unfold badProbe okProbe
        by_cases h0 : p.f2.length = 0
        · refine Ev.ifpos h0 (Ev.pure ?_)
          rw [decide_eq_true h0]
          rfl
        · refine Ev.ifneg h0 (Ev.bind (impl_isPath n ls _ _ _ hl (hx _ hp)) (Ev.pure ?_))
          rw [decide_eq_false h0]
          simp
      · rw [List.all_eq_not_any_not]
    · rw [decide_eq_false h]
      exact Ev.ifneg (by omega) (Ev.pure (by simp))

end Go.Proofs.Ytlplegdcpgbbbaa.Pure
/- Plain lemma: the row of a path, as the reference makes it. Condition: the path is not longer than a list can be. -/
namespace Go.Proofs.Ytlplegdcpgbbbaa.Pure
open Go.RowKit Go.Proofs.Ytlplegdcpgbbbaa.Z Go.Proofs.YtlplegdcpgbbbaaW.PrintWords

end Go.Proofs.Ytlplegdcpgbbbaa.Pure
/- Plain lemma: the matrix of probes, as the reference and the program make it. Condition: the lists are not longer than the law's can be. -/
namespace Go.Proofs.Ytlplegdcpgbbbaa.Pure
open Go.RowKit Go.Proofs.Ytlplegdcpgbbbaa.Z Go.Proofs.YtlplegdcpgbbbaaW.PrintWords

def matrixOf (l : List Pb) (a : Int) : List (List Int) := l.map fun p => rowF p.f2 a

theorem impl_matrixOf (l : List Pb) (a : Int) (hl : l.length ≤ 1048576) (hp : ∀ p ∈ l, p.f2.length ≤ 1048576) : Ev (fun k => impl_MatrixOf.f k l a) (matrixOf l a) := by
  unfold impl_MatrixOf.f
  have key := Ev.up l.length (fun i (out : List (List Int)) k => impl_MatrixOf.l0 k a out l (l.length : Int) (i : Int)) (fun i out => out ++ matrixOf (l.drop i) a) (fun i out => out.length = i) ?_ ?_ 0 [] (Nat.zero_le _) rfl
  · simpa using key
  · intro out _
    rw [List.drop_of_length_le (Nat.le_refl _)]
    refine Ev.step (fun k => by rw [impl_MatrixOf.l0]) ?_
    exact Ev.ifneg (by omega) (Ev.pure (by unfold matrixOf; simp))
  · intro i out hi ho ih
    rw [drop_get l i hi]
    refine Ev.step (fun k => by rw [impl_MatrixOf.l0]) ?_
    refine Ev.ifpos (by omega) (Ev.ifpos (by omega) (Ev.ifpos (by omega) ?_))
    rw [rdPb l i hi, wrap_succ (by omega)]
    have h2 := ih (out ++ [rowF l[i].f2 a]) (by simp; omega)
    rw [List.append_assoc] at h2
    exact Ev.bind (impl_rowOf _ _ (by have := hp _ (List.getElem_mem hi); omega)) (Ev.ifpos (by omega) h2)

theorem matrixOf_length (l : List Pb) (a : Int) : (matrixOf l a).length = l.length := by unfold matrixOf; simp
theorem matrixOf_rows (l : List Pb) (a : Int) : ∀ r ∈ matrixOf l a, r.length ≤ 6 := by
  intro r hr
  unfold matrixOf at hr
  obtain ⟨p, _, rfl⟩ := List.mem_map.1 hr
  exact rowF_length _ _

end Go.Proofs.Ytlplegdcpgbbbaa.Pure
/- Plain laws of the ordered list without repeats ('sortedF'): it rises strictly, it has the members of the list, it is the only such list; it is as long as the list if and only if the list has no repeats. No condition. -/
namespace Go.Proofs.Ytlplegdcpgbbbaa.Pure
open Go.RowKit Go.Proofs.Ytlplegdcpgbbbaa.Z Go.Proofs.YtlplegdcpgbbbaaW.PrintWords

theorem ms_perm (l : List Int) : (l.mergeSort fun x y => decide (x ≤ y)).Perm l := List.mergeSort_perm l _
theorem ms_pair (l : List Int) : (l.mergeSort fun x y => decide (x ≤ y)).Pairwise (fun x y => x ≤ y) := by
  have h := List.pairwise_mergeSort (le := fun x y : Int => decide (x ≤ y)) (fun a b c h1 h2 => by simp only [decide_eq_true_eq] at *; omega) (fun a b => by simp only [Bool.or_eq_true, decide_eq_true_eq]; omega) l
  exact h.imp (fun h => by simpa using h)

theorem getB (zs : List Int) (j : Nat) (h : j < zs.length) : zs.toArray[j]! = zs[j] := by simp [h]
theorem getB' (zs : List Int) (j : Nat) : zs.toArray[j]! = zs.getD j 0 := by
  by_cases h : j < zs.length
  · rw [getB zs j h, List.getD_eq_getElem?_getD, List.getElem?_eq_getElem h]; rfl
  · simp [h]

theorem keep_iff (zs : List Int) (j : Nat) : Lib.keeps zs.toArray j = true ↔ j = 0 ∨ zs.getD j 0 ≠ zs.getD (j - 1) 0 := by
  unfold Lib.keeps
  rw [decide_eq_true_iff, getB', getB']

theorem compact_eq (zs : List Int) : Lib.compact zs = ((List.range zs.length).filter fun j => Lib.keeps zs.toArray j).map (fun j => zs.getD j 0) := by
  unfold Lib.compact Lib.compactUpTo
  apply List.map_congr_left
  intro j _
  exact getB' zs j

theorem compact_mem (zs : List Int) (x : Int) : x ∈ Lib.compact zs ↔ x ∈ zs := by
  rw [compact_eq]
  simp only [List.mem_map, List.mem_filter, List.mem_range]
  constructor
  · rintro ⟨j, ⟨hj, _⟩, rfl⟩
    rw [List.getD_eq_getElem?_getD, List.getElem?_eq_getElem hj]
    exact List.getElem_mem hj
  · intro hx
    obtain ⟨j, hj, e⟩ := List.getElem_of_mem hx
    have key : ∀ j, j < zs.length → zs.getD j 0 = x → ∃ a, (a < zs.length ∧ Lib.keeps zs.toArray a = true) ∧ zs.getD a 0 = x := by
      intro j
      induction j with
      | zero => intro h e; exact ⟨0, ⟨h, (keep_iff zs 0).2 (Or.inl rfl)⟩, e⟩
      | succ j ih =>
        intro h e
        by_cases h2 : zs.getD (j + 1) 0 = zs.getD j 0
        · exact ih (by omega) (by rw [← h2]; exact e)
        · exact ⟨j + 1, ⟨h, (keep_iff zs _).2 (Or.inr h2)⟩, e⟩
    exact key j hj (by rw [List.getD_eq_getElem?_getD, List.getElem?_eq_getElem hj]; exact e)

theorem pair_get {zs : List Int} (h : zs.Pairwise (fun x y => x ≤ y)) {i j : Nat} (hij : i ≤ j) (hj : j < zs.length) : zs.getD i 0 ≤ zs.getD j 0 := by
  rw [List.getD_eq_getElem?_getD, List.getElem?_eq_getElem (by omega), List.getD_eq_getElem?_getD, List.getElem?_eq_getElem hj]
  rcases Nat.lt_or_ge i j with h1 | h1
  · exact (List.pairwise_iff_getElem.1 h) i j (by omega) hj h1
  · obtain rfl : i = j := by omega
    exact Int.le_refl _

theorem compact_rise {zs : List Int} (h : zs.Pairwise (fun x y => x ≤ y)) : (Lib.compact zs).Pairwise (fun x y => x < y) := by
  rw [compact_eq, List.pairwise_map]
  have h2 : ((List.range zs.length).filter fun j => Lib.keeps zs.toArray j).Pairwise (fun a b => a < b) := List.Pairwise.filter _ List.pairwise_lt_range
  refine h2.imp_of_mem (fun {a b} ha hb hab => ?_)
  simp only [List.mem_filter, List.mem_range] at ha hb
  rcases (keep_iff zs b).1 hb.2 with h0 | h0
  · omega
  · have h1 := pair_get h (i := a) (j := b - 1) (by omega) (by omega)
    have h3 := pair_get h (i := b - 1) (j := b) (by omega) hb.1
    omega

theorem sorted_rise (l : List Int) : (sortedF l).Pairwise (fun x y => x < y) := compact_rise (ms_pair l)
theorem sorted_mem (l : List Int) (x : Int) : x ∈ sortedF l ↔ x ∈ l := (compact_mem _ x).trans (ms_perm l).mem_iff

/-- Two lists that rise strictly and have the same members are one. -/
theorem rise_ext : ∀ {l m : List Int}, l.Pairwise (fun x y => x < y) → m.Pairwise (fun x y => x < y) → (∀ x, x ∈ l ↔ x ∈ m) → l = m
  | [], [], _, _, _ => rfl
  | [], b :: m, _, _, h => absurd ((h b).2 (List.mem_cons_self ..)) (by simp)
  | a :: l, [], _, _, h => absurd ((h a).1 (List.mem_cons_self ..)) (by simp)
  | a :: l, b :: m, hl, hm, h => by
    rw [List.pairwise_cons] at hl hm
    have e : a = b := by
      have h1 := (h a).1 (List.mem_cons_self ..)
      have h2 := (h b).2 (List.mem_cons_self ..)
      rcases List.mem_cons.1 h1 with h1 | h1
      · exact h1
      · rcases List.mem_cons.1 h2 with h2 | h2
        · exact h2.symm
        · have := hm.1 a h1
          have := hl.1 b h2
          omega
    subst e
    rw [rise_ext hl.2 hm.2 (fun x => ?_)]
    constructor
    · intro hx
      rcases List.mem_cons.1 ((h x).1 (List.mem_cons_of_mem _ hx)) with h1 | h1
      · subst h1
        exact absurd (hl.1 _ hx) (by omega)
      · exact h1
    · intro hx
      rcases List.mem_cons.1 ((h x).2 (List.mem_cons_of_mem _ hx)) with h1 | h1
      · subst h1
        exact absurd (hm.1 _ hx) (by omega)
      · exact h1

theorem sorted_eq {l m : List Int} (hm : m.Pairwise (fun x y => x < y)) (h : ∀ x, x ∈ m ↔ x ∈ l) : sortedF l = m := rise_ext (sorted_rise l) hm (fun x => (sorted_mem l x).trans (h x).symm)

theorem sorted_len_le (l : List Int) : (sortedF l).length ≤ l.length := by
  have h := Lib.compact_length_le (l.mergeSort fun x y => decide (x ≤ y))
  rw [(ms_perm l).length_eq] at h
  exact h

theorem sorted_len (l : List Int) : (sortedF l).length = l.length ↔ l.Nodup := by
  have hlen : (l.mergeSort fun x y => decide (x ≤ y)).length = l.length := (ms_perm l).length_eq
  rw [← (ms_perm l).nodup_iff]
  constructor
  · intro h
    unfold sortedF at h
    have hall : ∀ j, j < (l.mergeSort fun x y => decide (x ≤ y)).length → Lib.keeps (l.mergeSort fun x y => decide (x ≤ y)).toArray j = true := by
      rw [compact_eq, List.length_map, ← hlen] at h
      have h2 := List.length_filter_eq_length_iff.1 (h.trans List.length_range.symm)
      intro j hj
      exact h2 j (List.mem_range.2 hj)
    have e := Lib.compact_all _ hall
    rw [← e]
    exact (compact_rise (ms_pair l)).imp (fun h => by omega)
  · intro h
    have hs := ms_pair l
    unfold sortedF
    rw [Lib.compact_all, hlen]
    intro j hj
    rw [keep_iff]
    rcases Nat.eq_zero_or_pos j with h0 | h0
    · exact Or.inl h0
    · refine Or.inr ?_
      rw [List.getD_eq_getElem?_getD, List.getElem?_eq_getElem hj, List.getD_eq_getElem?_getD, List.getElem?_eq_getElem (by omega)]
      exact fun e => (List.pairwise_iff_getElem.1 h) (j - 1) j (by omega) hj (by omega) e.symm

end Go.Proofs.Ytlplegdcpgbbbaa.Pure
/- Plain laws: a number put into a rising list at its place; many put in one after another are the ordered list without repeats. No condition. -/
namespace Go.Proofs.Ytlplegdcpgbbbaa.Pure
open Go.RowKit Go.Proofs.Ytlplegdcpgbbbaa.Z Go.Proofs.YtlplegdcpgbbbaaW.PrintWords

/-- The first place whose number is not below x. -/
def posOf (x : Int) : List Int → Nat
  | [] => 0
  | y :: ys => if y < x then posOf x ys + 1 else 0
theorem posOf_le (x : Int) : ∀ l : List Int, posOf x l ≤ l.length
  | [] => Nat.le_refl _
  | y :: ys => by
    have := posOf_le x ys
    rw [posOf, List.length_cons]
    split <;> omega
theorem posOf_lt (x : Int) : ∀ (l : List Int) (p : Nat) (hp : p < l.length), p < posOf x l → l[p] < x
  | [], p, hp, _ => absurd hp (by simp)
  | y :: ys, p, hp, h => by
    rw [posOf] at h
    by_cases c : y < x
    · rw [if_pos c] at h
      match p, hp, h with
      | 0, _, _ => exact c
      | p + 1, hp, h => exact posOf_lt x ys p (by simpa using hp) (by omega)
    · rw [if_neg c] at h; omega
theorem posOf_at (x : Int) : ∀ (l : List Int) (h : posOf x l < l.length), ¬ l[posOf x l] < x
  | [], h => absurd h (by simp)
  | y :: ys, h => by
    by_cases c : y < x
    · have e : posOf x (y :: ys) = posOf x ys + 1 := by rw [posOf, if_pos c]
      simp only [e, List.getElem_cons_succ]
      exact posOf_at x ys (by rw [e] at h; simpa using h)
    · have e : posOf x (y :: ys) = 0 := by rw [posOf, if_neg c]
      simp only [e, List.getElem_cons_zero]
      exact c

/-- x put in at its place, if it is not there. -/
def ins (x : Int) (l : List Int) : List Int := if posOf x l < l.length ∧ l.getD (posOf x l) 0 = x then l else l.take (posOf x l) ++ ([x] ++ l.drop (posOf x l))
def insAll (out : List Int) (l : List Int) : List Int := l.foldl (fun o x => ins x o) out

theorem ins_length (x : Int) (l : List Int) : (ins x l).length ≤ l.length + 1 := by
  unfold ins
  split
  · omega
  · simp; omega

theorem ins_mem (x : Int) (l : List Int) (y : Int) : y ∈ ins x l ↔ y = x ∨ y ∈ l := by
  unfold ins
  split
  · rename_i h
    constructor
    · exact .inr
    · rintro (rfl | h2)
      · have : l.getD (posOf y l) 0 ∈ l := by
          rw [List.getD_eq_getElem?_getD, List.getElem?_eq_getElem h.1]
          exact List.getElem_mem _
        rwa [h.2] at this
      · exact h2
  · have e : y ∈ l ↔ y ∈ l.take (posOf x l) ∨ y ∈ l.drop (posOf x l) := by
      rw [← List.mem_append, List.take_append_drop]
    rw [e]
    simp only [List.mem_append, List.mem_singleton]
    constructor
    · rintro (h | h | h)
      · exact .inr (.inl h)
      · exact .inl h
      · exact .inr (.inr h)
    · rintro (h | h | h)
      · exact .inr (.inl h)
      · exact .inl h
      · exact .inr (.inr h)

theorem ins_rise (x : Int) (l : List Int) (h : l.Pairwise (fun x y => x < y)) : (ins x l).Pairwise (fun x y => x < y) := by
  unfold ins
  split
  · exact h
  · rename_i hc
    have h2 := h
    rw [← List.take_append_drop (posOf x l) l, List.pairwise_append] at h2
    obtain ⟨h3, h4, h5⟩ := h2
    have hlow : ∀ a ∈ l.take (posOf x l), a < x := by
      intro a ha
      obtain ⟨i, hi, rfl⟩ := List.getElem_of_mem ha
      rw [List.length_take] at hi
      rw [List.getElem_take]
      exact posOf_lt x l i (by omega) (by omega)
    have hhigh : ∀ b ∈ l.drop (posOf x l), x < b := by
      intro b hb
      by_cases hl : posOf x l < l.length
      · have h6 : ¬ l[posOf x l] < x := posOf_at x l hl
        have h7 : l[posOf x l] ≠ x := fun e => hc ⟨hl, by rw [List.getD_eq_getElem?_getD, List.getElem?_eq_getElem hl]; exact e⟩
        rw [drop_get l _ hl] at hb h4
        rw [List.pairwise_cons] at h4
        rcases List.mem_cons.1 hb with rfl | hb
        · omega
        · have := h4.1 b hb
          omega
      · rw [List.drop_of_length_le (by omega)] at hb
        exact absurd hb (by simp)
    rw [List.pairwise_append, List.singleton_append, List.pairwise_cons]
    refine ⟨h3, ⟨fun b hb => hhigh b hb, h4⟩, fun a ha b hb => ?_⟩
    rcases List.mem_cons.1 hb with rfl | hb
    · exact hlow a ha
    · exact h5 a ha b hb

theorem insAll_spec : ∀ (l out : List Int), out.Pairwise (fun x y => x < y) → (insAll out l).Pairwise (fun x y => x < y) ∧ ∀ y, y ∈ insAll out l ↔ y ∈ out ∨ y ∈ l
  | [], out, h => ⟨h, fun y => by simp [insAll]⟩
  | x :: l, out, h => by
    obtain ⟨h1, h2⟩ := insAll_spec l (ins x out) (ins_rise x out h)
    refine ⟨h1, fun y => ?_⟩
    show y ∈ insAll (ins x out) l ↔ _
    rw [h2 y, ins_mem, List.mem_cons]
    constructor
    · rintro ((h | h) | h)
      · exact .inr (.inl h)
      · exact .inl h
      · exact .inr (.inr h)
    · rintro (h | h | h)
      · exact .inl (.inr h)
      · exact .inl (.inl h)
      · exact .inr h

theorem insAll_sorted (l : List Int) : insAll [] l = sortedF l := by
  obtain ⟨h1, h2⟩ := insAll_spec l [] List.Pairwise.nil
  exact (sorted_eq h1 (fun x => by rw [h2 x]; simp)).symm

theorem insAll_append (out a b : List Int) : insAll out (a ++ b) = insAll (insAll out a) b := by unfold insAll; rw [List.foldl_append]

/-- A loop that looks for the place. -/
theorem pos_loop {β : Type} (x : Int) (out : List Int) (G : Nat → Nat → Option β) (r : β) (hend : Ev (G (posOf x out)) r) (hskip : ∀ p (hp : p < out.length), out[p] < x → Ev (G (p + 1)) r → Ev (G p) r) : Ev (G 0) r :=
  Ev.up0 (posOf x out) G (fun _ => r) hend (fun p hp ih => hskip p (by have := posOf_le x out; omega) (posOf_lt x out p (by have := posOf_le x out; omega) hp) ih) 0 (Nat.zero_le _)

end Go.Proofs.Ytlplegdcpgbbbaa.Pure
/- Plain lemma: the links that probes cross, as the reference and the program list them. Condition: there are no more than the law's lists can hold. -/
namespace Go.Proofs.Ytlplegdcpgbbbaa.Pure
open Go.RowKit Go.Proofs.Ytlplegdcpgbbbaa.Z Go.Proofs.YtlplegdcpgbbbaaW.PrintWords

def links : List Pb → List Int
  | [] => []
  | p :: l => p.f2 ++ links l

theorem links_length_le (n : Nat) : ∀ l : List Pb, (∀ p ∈ l, p.f2.length ≤ n) → (links l).length ≤ n * l.length
  | [], _ => Nat.zero_le _
  | p :: l, h => by
    have := links_length_le n l (fun q hq => h q (List.mem_cons_of_mem _ hq))
    have := h p (List.mem_cons_self ..)
    rw [links, List.length_append, List.length_cons, Nat.mul_succ]
    omega

section
variable {xs : List Pb} (hx : xs.length ≤ 1048576) (hT : (links xs).length ≤ 1099511627776)
include hx hT

theorem impl_seenLinks : Ev (fun k => impl_SeenLinks.f k xs) (sortedF (links xs)) := by
  unfold impl_SeenLinks.f
  have key := Ev.up xs.length (fun i (out : List Int) k => impl_SeenLinks.l0 k out xs (xs.length : Int) (i : Int)) (fun i out => sortedF (out ++ links (xs.drop i))) (fun i out => out.length + (links (xs.drop i)).length ≤ 1099511627776) ?_ ?_ 0 [] (Nat.zero_le _) (by rw [List.drop_zero]; simpa using hT)
  · rw [List.drop_zero, List.nil_append] at key
    exact key
  · intro out ho
    rw [List.drop_of_length_le (Nat.le_refl _)] at ho ⊢
    refine Ev.step (fun k => by rw [impl_SeenLinks.l0]) ?_
    refine Ev.ifneg (by omega) (Ev.bind0 (a := sortedF out) ?_ ?_)
    · unfold impl_sorted.f
      rw [if_pos (by omega)]
    · exact Ev.pure (by rw [links, List.append_nil])
  · intro i out hi ho ih
    rw [drop_get xs i hi, links] at ho ⊢
    rw [List.length_append] at ho
    refine Ev.step (fun k => by rw [impl_SeenLinks.l0]) ?_
    rw [rdPb xs i hi, wrap_succ (by omega)]
    refine Ev.ifpos (by omega) (Ev.ifpos (by omega) (Ev.ifpos (by omega) (Ev.ifpos (by omega) ?_)))
    have h := ih (out ++ xs[i].f2) (by rw [List.length_append]; omega)
    rw [List.append_assoc] at h
    exact h

end

end Go.Proofs.Ytlplegdcpgbbbaa.Pure
/- Plain lemma: the laws' sum of a row of noughts and ones. Condition: the row is short. -/
namespace Go.Proofs.Ytlplegdcpgbbbaa.Pure
open Go.RowKit Go.Proofs.Ytlplegdcpgbbbaa.Z Go.Proofs.YtlplegdcpgbbbaaW.PrintWords

theorem sum_from (l : List Int) (hl : l.length ≤ 1048576) (h01 : ∀ y ∈ l, 0 ≤ y ∧ y ≤ 1) : Ev (fun k => laws_sumOf.f k l) l.sum := by
  unfold laws_sumOf.f
  have key := Ev.up l.length (fun i (s : Int) k => laws_sumOf.l0 k l s (i : Int)) (fun i s => s + (l.drop i).sum) (fun i s => 0 ≤ s ∧ s ≤ (i : Int)) ?_ ?_ 0 0 (Nat.zero_le _) ⟨by omega, by omega⟩
  · rw [List.drop_zero, Int.zero_add] at key
    exact key
  · intro s _
    rw [List.drop_of_length_le (Nat.le_refl _)]
    refine Ev.step (fun k => by rw [laws_sumOf.l0]) ?_
    exact Ev.ifneg (by omega) (Ev.pure (by simp))
  · intro i s hi hs ih
    have hy := h01 l[i] (List.getElem_mem hi)
    refine Ev.step (fun k => by rw [laws_sumOf.l0]) ?_
    rw [rd_get l i hi, wrap_succ (by omega), wrap_in (n := s + l[i]) (by omega) (by omega)]
    have h := ih (s + l[i]) (by omega)
    rw [drop_get l i hi, List.sum_cons, ← Int.add_assoc]
    exact Ev.ifpos (by omega) (Ev.ifpos (by omega) h)

end Go.Proofs.Ytlplegdcpgbbbaa.Pure
/- Plain lemma: the laws' search in a list of numbers. Condition: the list is not longer than a list can be. -/
namespace Go.Proofs.Ytlplegdcpgbbbaa.Pure
open Go.RowKit Go.Proofs.Ytlplegdcpgbbbaa.Z Go.Proofs.YtlplegdcpgbbbaaW.PrintWords

theorem laws_has (l : List Int) (x : Int) (hl : l.length ≤ 9223372036854775806) : Ev (fun k => laws_contains.f k l x) (l.any fun y => decide (y = x)) := by
  unfold laws_contains.f
  refine any_loop (fun y => decide (y = x)) l (fun i k => laws_contains.l0 k l x (i : Int)) ?_ ?_ ?_
  · refine Ev.step (fun k => by rw [laws_contains.l0]) ?_
    exact Ev.ifneg (by omega) (Ev.now _)
  · intro i hi h
    refine Ev.step (fun k => by rw [laws_contains.l0]) ?_
    refine Ev.ifpos (by omega) (Ev.ifpos (by omega) ?_)
    rw [rd_get l i hi]
    exact Ev.ifpos (of_decide_eq_true h) (Ev.now _)
  · intro i hi r h hr
    refine Ev.step (fun k => by rw [laws_contains.l0]) ?_
    refine Ev.ifpos (by omega) (Ev.ifpos (by omega) ?_)
    rw [rd_get l i hi, wrap_succ (by omega)]
    exact Ev.ifneg (of_decide_eq_false h) hr

theorem laws_has_mem (l : List Int) (x : Int) (hl : l.length ≤ 9223372036854775806) (h : x ∈ l) : Ev (fun k => laws_contains.f k l x) true := by
  have e : (l.any fun y => decide (y = x)) = true := List.any_eq_true.2 ⟨x, h, decide_eq_true rfl⟩
  rw [← e]
  exact laws_has l x hl

end Go.Proofs.Ytlplegdcpgbbbaa.Pure
namespace Go.Proofs.Ytlplegdcpgbbbaa.Pure
open Go.RowKit Go.Proofs.Ytlplegdcpgbbbaa.Z Go.Proofs.YtlplegdcpgbbbaaW.PrintWords

theorem cur_once (x : List Int) (i s n : Int) (hx : x.length ≤ 4611686018427387904) (hi : Cur x i) (hn : 0 < n) : ∃ v i' s', spec_l1Once.f x i s n = some (v, i', s') ∧ Cur x i' := by
  obtain ⟨v, i', s', e, _, c⟩ := cur_below x i s n hx hi hn
  unfold spec_l1Once.f
  rw [e]
  exact ⟨_, i', s', rfl, c⟩

theorem draw_hosts (x : List Int) (hx : x.length ≤ 4611686018427387904) (n : Int) (hn : n ≤ 9) (ls : List S93) : ∀ (d c : Nat), c + d = 9 → ∀ (i s : Int) (l : List Int), Cur x i → l.length ≤ c → ∃ q i' s', Ev (fun k => spec_l8Hosts.l0 k l (c : Int) x i s n ls) (q, i', s') ∧ q.length ≤ 9 ∧ Cur x i' := by
  intro d
  induction d with
  | zero =>
    intro c hc i s l hi hl
    exact ⟨l, i, s, Ev.step (fun k => by rw [spec_l8Hosts.l0]) (Ev.ifneg (by omega) (Ev.now _)), by omega, hi⟩
  | succ d ih =>
    intro c hc i s l hi hl
    by_cases h : (c : Int) < n
    · obtain ⟨v, i1, s1, e1, c1⟩ := cur_once x i s 3 hx hi (by decide)
      cases v with
      | true =>
        obtain ⟨q, i', s', h1, h2⟩ := ih (c + 1) (by omega) i1 s1 l c1 (by omega)
        refine ⟨q, i', s', Ev.step (fun k => by rw [spec_l8Hosts.l0]) ?_, h2⟩
        rw [wrap_succ (i := c) (by omega)]
        exact Ev.ifpos h (Ev.bind0 e1 (Ev.ifpos rfl h1))
      | false =>
        obtain ⟨q, i', s', h1, h2⟩ := ih (c + 1) (by omega) i1 s1 (l ++ [(c : Int)]) c1 (by rw [List.length_append, List.length_singleton]; omega)
        refine ⟨q, i', s', Ev.step (fun k => by rw [spec_l8Hosts.l0]) ?_, h2⟩
        rw [wrap_succ (i := c) (by omega)]
        exact Ev.ifpos h (Ev.bind0 e1 (Ev.ifneg (by simp) (Ev.ifpos (by omega) h1)))
    · exact ⟨l, i, s, Ev.step (fun k => by rw [spec_l8Hosts.l0]) (Ev.ifneg h (Ev.now _)), by omega, hi⟩

theorem draw_probes (x : List Int) (hx : x.length ≤ 4611686018427387904) : ∃ n q hs, Ev (fun k => spec_DrawProbesOf.f k x) (n, q, hs) ∧ q.length ≤ 7 ∧ hs.length ≤ 10 := by
  obtain ⟨s, hs⟩ := cur_new x hx
  obtain ⟨n, q, i1, s1, h1, h2, hn, c1⟩ := draw7_any x hx 0 s (cur_zero x)
  obtain ⟨l, i2, s2, h3, h4, c2⟩ := draw_hosts x hx n hn q 9 0 rfl i1 s1 [] c1 (by simp)
  obtain ⟨v, i3, s3, e3, c3⟩ := cur_once x i2 s2 6 hx c2 (by decide)
  have hh : Ev (fun k => spec_l8Hosts.f k x i1 s1 n q) (l, i2, s2) := h3
  cases v with
  | true =>
    obtain ⟨u, i4, s4, e4, _, c4⟩ := cur_below x i3 s3 9 hx c3 (by decide)
    refine ⟨n, q, l ++ [wrap64 (u - 1)], ?_, h2, by rw [List.length_append, List.length_singleton]; omega⟩
    unfold spec_DrawProbesOf.f
    refine Ev.bind hs (Ev.bind h1 (Ev.bind hh (Ev.bind0 e3 (Ev.ifpos rfl (Ev.bind0 e4 (Ev.ifpos (by show l.length < 17592186044416; omega) ?_))))))
    exact Ev.now _
  | false =>
    refine ⟨n, q, l, ?_, h2, by omega⟩
    unfold spec_DrawProbesOf.f
    refine Ev.bind hs (Ev.bind h1 (Ev.bind hh (Ev.bind0 e3 (Ev.ifneg (by simp) ?_))))
    exact Ev.now _

theorem rise_bound (L : Nat) : ∀ (l : List Int) (a : Int), 0 ≤ a → l.Pairwise (fun x y => x < y) → (∀ y ∈ l, a ≤ y ∧ y < L) → (l.length : Int) ≤ L - a ∨ l = []
  | [], _, _, _, _ => .inr rfl
  | x :: l, a, ha, hp, hb => by
    rw [List.pairwise_cons] at hp
    have hx := hb x (List.mem_cons_self ..)
    rcases rise_bound L l (x + 1) (by omega) hp.2 (fun y hy => ⟨by have := hp.1 y hy; omega, (hb y (List.mem_cons_of_mem _ hy)).2⟩) with h | h
    · rw [List.length_cons]; exact .inl (by omega)
    · rw [h]; exact .inl (by simp; omega)

theorem mem_links : ∀ (l : List Pb) (p : Pb) (y : Int), p ∈ l → y ∈ p.f2 → y ∈ links l
  | q :: l, p, y, hp, hy => by
    rw [links]
    rcases List.mem_cons.1 hp with rfl | hp
    · exact List.mem_append_left _ hy
    · exact List.mem_append_right _ (mem_links l p y hp hy)
theorem links_mem : ∀ (l : List Pb) (y : Int), y ∈ links l → ∃ p ∈ l, y ∈ p.f2
  | q :: l, y, h => by
    rw [links] at h
    rcases List.mem_append.1 h with h | h
    · exact ⟨q, List.mem_cons_self .., h⟩
    · obtain ⟨p, hp, hy⟩ := links_mem l y h
      exact ⟨p, List.mem_cons_of_mem _ hp, hy⟩

theorem probe_facts {n : Int} {q : List Lk} {l : List Pb} (hon : OnRoute n q l) (p : Pb) (hp : p ∈ l) : isNet n q = true ∧ isPath q p.f2 p.f0 p.f1 = true ∧ p.f2.Nodup ∧ (∀ i ∈ p.f2, 0 ≤ i ∧ i < q.length) ∧ p.f2.length ≤ 8 ∧ p.f2 ≠ [] := by
  obtain ⟨e, hne⟩ := hon p hp
  have h := routeTo_path (by rw [← e]; exact hne : routeTo n q p.f0 p.f1 ≠ [])
  have h8 := routeTo_len n q p.f0 p.f1
  rw [← e] at h h8
  exact ⟨h.1, h.2.1, h.2.2.1, h.2.2.2, h8, hne⟩

theorem matrix_get (q : List Lk) (l : List Pb) (i : Nat) (hi : i < l.length) : rd_L5 (matrixOf l (q.length : Int)) (i : Int) = rowF l[i].f2 (q.length : Int) := by
  have e : rd_L5 (matrixOf l (q.length : Int)) (i : Int) = (matrixOf l (q.length : Int))[i]'(by rw [matrixOf_length]; exact hi) := getD_get _ i _ _
  rw [e]
  unfold matrixOf
  rw [List.getElem_map]

theorem row_facts {n : Int} {q : List Lk} {l : List Pb} (hon : OnRoute n q l) (p : Pb) (hp : p ∈ l) : Ev (fun k => laws_sumOf.f k (rowF p.f2 (q.length : Int))) (p.f2.length : Int) ∧ (rowF p.f2 (q.length : Int)) = rowOf p.f2 q.length := by
  obtain ⟨h1, _, h3, h4, h5, h6⟩ := probe_facts hon p hp
  obtain ⟨_, hlq, _⟩ := links_of h1
  have hpos : 0 < q.length := by
    obtain ⟨y, hy⟩ := List.exists_mem_of_ne_nil _ h6
    have := h4 y hy
    omega
  have er : rowF p.f2 (q.length : Int) = rowOf p.f2 q.length := by
    unfold rowF
    rw [if_pos (by omega), Int.toNat_natCast]
  refine ⟨?_, er⟩
  rw [er, ← rowOf_sum q.length p.f2 h3 h4]
  refine sum_from _ (by rw [rowOf_length]; omega) (fun y hy => ?_)
  unfold rowOf at hy
  obtain ⟨j, _, rfl⟩ := List.mem_map.1 hy
  split <;> omega

section
variable {n : Int} {q : List Lk} {l : List Pb} (hq : q.length ≤ 7) (hl : l.length ≤ 12) (hon : OnRoute n q l)
include hq hl hon

theorem probes_alone : ∀ (d c : Nat), c + d = q.length → Ev (fun k => laws_FnProbes.l2 k l (matrixOf l (q.length : Int)) (sortedF (links l)) (c : Int) n q) true := by
  have _ := hl
  have hm := matrixOf_length l (q.length : Int)
  intro d
  induction d with
  | zero =>
    intro c hc
    refine Ev.step (fun k => by rw [laws_FnProbes.l2]) ?_
    refine Ev.ifneg (by omega) (Ev.pure (decide_eq_true ?_))
    rcases rise_bound q.length (sortedF (links l)) 0 (by decide) (sorted_rise _) (fun y hy => by
      obtain ⟨p, hp, hy⟩ := links_mem l y ((sorted_mem _ _).1 hy)
      exact (probe_facts hon p hp).2.2.2.1 y hy) with h | h
    · omega
    · rw [h]; simp
  | succ d ih =>
    intro c hc
    have hnext := ih (c + 1) (by omega)
    refine Ev.step (fun k => by rw [laws_FnProbes.l2]) ?_
    rw [wrap_succ (i := c) (by omega)]
    refine Ev.ifpos (by omega) (Ev.bind0 (a := firstAt (isAlone (c : Int)) l) rfl ?_)
    by_cases h : firstAt (isAlone (c : Int)) l ≥ 0
    · have hf : l.findIdx (isAlone (c : Int)) < l.length := by
        unfold firstAt at h
        by_cases hf : l.findIdx (isAlone (c : Int)) < l.length
        · exact hf
        · rw [if_neg hf] at h; omega
      have e : firstAt (isAlone (c : Int)) l = ((l.findIdx (isAlone (c : Int)) : Nat) : Int) := by unfold firstAt; rw [if_pos hf]
      have ha : isAlone (c : Int) l[l.findIdx (isAlone (c : Int))] = true := List.findIdx_getElem
      have h1 : l[l.findIdx (isAlone (c : Int))].f2.length = 1 := by
        unfold isAlone at ha
        simp only [Bool.and_eq_true, beq_iff_eq] at ha
        exact ha.1
      have hs := (row_facts hon _ (List.getElem_mem hf)).1
      rw [h1] at hs
      rw [e] at h ⊢
      refine Ev.ifpos h (Ev.ifpos (by omega) (Ev.ifpos (by omega) ?_))
      rw [matrix_get q l _ hf]
      exact Ev.bind hs (Ev.ifpos rfl hnext)
    · exact Ev.ifneg h hnext

theorem probes_rows : ∀ (d c : Nat), c + d = l.length → Ev (fun k => laws_FnProbes.l0 k l (matrixOf l (q.length : Int)) (sortedF (links l)) (c : Int) n q) true := by
  have hm := matrixOf_length l (q.length : Int)
  intro d
  induction d with
  | zero =>
    intro c hc
    refine Ev.step (fun k => by rw [laws_FnProbes.l0]) ?_
    exact Ev.ifneg (by omega) (probes_alone hq hl hon q.length 0 (by omega))
  | succ d ih =>
    intro c hc
    have hi : c < l.length := by omega
    have hnext := ih (c + 1) (by omega)
    have hp := List.getElem_mem hi
    obtain ⟨h1, h2, h3, h4, h5, h6⟩ := probe_facts hon l[c] hp
    obtain ⟨hs, er⟩ := row_facts hon l[c] hp
    refine Ev.step (fun k => by rw [laws_FnProbes.l0]) ?_
    rw [matrix_get q l c hi, rdPb l c hi]
    refine Ev.ifpos (by omega) (Ev.ifpos (by omega) (Ev.ifpos (by omega) (Ev.bind hs (Ev.ifpos rfl ?_))))
    refine Ev.up0 l[c].f2.length (fun j k => laws_FnProbes.l1 k l (matrixOf l (q.length : Int)) (sortedF (links l)) (c : Int) (j : Int) n q) (fun _ => true) ?_ ?_ 0 (Nat.zero_le _)
    · refine Ev.step (fun k => by rw [laws_FnProbes.l1]) ?_
      rw [rdPb l c hi, wrap_succ (i := c) (by omega)]
      exact Ev.ifpos (by omega) (Ev.ifpos (by omega) (Ev.ifneg (by omega) hnext))
    · intro j hj ih2
      have hy := h4 _ (List.getElem_mem hj)
      have hlen := sorted_len_le (links l)
      have hmem : l[c].f2[j] ∈ sortedF (links l) := (sorted_mem _ _).2 (mem_links l l[c] _ hp (List.getElem_mem hj))
      have hll := links_length_le 8 l (fun p hp => (probe_facts hon p hp).2.2.2.2.1)
      refine Ev.step (fun k => by rw [laws_FnProbes.l1]) ?_
      rw [matrix_get q l c hi, rdPb l c hi, rd_get _ j hj, wrap_succ (i := j) (by omega), er]
      refine Ev.ifpos (by omega) (Ev.ifpos (by omega) (Ev.ifpos (by omega) (Ev.ifpos (by omega) (Ev.bind (laws_has_mem _ _ (by omega) hmem) (Ev.ifpos rfl (Ev.ifpos (by omega) (Ev.ifpos hy.1 (Ev.ifpos (by rw [rowOf_length]; omega) (Ev.ifpos ?_ ih2)))))))))
      obtain ⟨u, hu⟩ : ∃ u : Nat, l[c].f2[j] = (u : Int) := ⟨l[c].f2[j].toNat, by omega⟩
      rw [hu, rd_get _ u (by rw [rowOf_length]; omega), rowOf_get]
      rw [if_pos (List.any_eq_true.2 ⟨_, List.getElem_mem hj, decide_eq_true hu⟩)]

theorem probes_seen : Ev (fun k => laws_FnProbes.j0 k l false n q) true := by
  refine Ev.step (fun k => by rw [laws_FnProbes.j0]) ?_
  have h8 : ∀ p ∈ l, p.f2.length ≤ 8 := fun p hp => (probe_facts hon p hp).2.2.2.2.1
  have hll := links_length_le 8 l h8
  refine Ev.ifneg (by decide) (Ev.bind (impl_matrixOf l (q.length : Int) (by omega) (fun p hp => by have := h8 p hp; omega)) (Ev.bind (impl_seenLinks (by omega) (by omega)) ?_))
  exact probes_rows hq hl hon l.length 0 (by omega)

end

theorem FnProbes : laws_FnProbes.Pure := by
  intro x hx _ _
  refine Ev.rounds ?_
  unfold laws_FnProbes.f laws_big.f
  by_cases hbig : (x.length : Int) > 1048576
  · exact Ev.bind0 (a := true) (by rw [decide_eq_true hbig]) (Ev.ifpos rfl (Ev.now _))
  refine Ev.bind0 (a := false) (by rw [decide_eq_false hbig]) (Ev.ifneg (by decide) ?_)
  obtain ⟨n, q, hs, hd, hq, hh⟩ := draw_probes x (by omega)
  refine Ev.bind hd (Ev.bind (impl_probesOf n q hs (by omega) (by omega)) ?_)
  have hl := pAll_len n q hs [] (by simp)
  have hon : OnRoute n q (pAll n q hs []) := pAll_on hs (fun p hp => absurd hp (by simp))
  generalize pAll n q hs [] = l at hl hon ⊢
  have hend := probes_seen hq hl hon
  by_cases hp : (l.length : Int) > 0
  · refine Ev.ifpos hp (Ev.bind (impl_areProbes n q l (by omega) (fun p hp => by have := (probe_facts hon p hp).2.2.2.2.1; omega)) ?_)
    have e : areProbes n q l = true := by
      unfold areProbes
      rw [Bool.and_eq_true, Bool.and_eq_true, List.all_eq_true]
      refine ⟨fun p hp => ?_, ?_, decide_eq_true hl⟩
      · obtain ⟨_, h2, _, _, _, h6⟩ := probe_facts hon p hp
        unfold okProbe
        have h0 : p.f2.length ≠ 0 := fun h => h6 (List.eq_nil_of_length_eq_zero h)
        rw [h2, decide_eq_false h0]
        rfl
      · have hpos : 0 < l.length := by omega
        exact (probe_facts hon l[0] (List.getElem_mem hpos)).1
    rw [e]
    exact hend
  · exact Ev.ifneg hp hend

end Go.Proofs.Ytlplegdcpgbbbaa.Pure
