/- The statement: at every bytes: a link's delay is answered exactly if the link is told and the system solvable; told links have no twins; the useful rows are as many as the rank, and with the missing they are the columns. No condition. -/
import Derived.Test.YtabjcjieniokaaaWWords
import Derived.Test.YtabjcjieniokaaaWLast
import Derived.Test.YtabjcjieniokaaaWMore
import Derived.Test.YtabjcjieniokaaaZReduce
import Derived.Test.YtabjcjieniokaaaZ5
import Derived.Test.YtabjcjieniokaaaZ0
import Derived.Test.YtabjcjieniokaaaZ2
import Derived.Test.YtabjcjieniokaaaZFirst
import Derived.Test.YtabjcjieniokaaaZ1
import Derived.Test.YtabjcjieniokaaaZ16
import Derived.Test.YtabjcjieniokaaaZ12
import Derived.Test.YtabjcjieniokaaaZ13
import Derived.Test.YtabjcjieniokaaaZ9
import Derived.Test.YtabjcjieniokaaaZ8
import Derived.Test.YtabjcjieniokaaaZ14
import Derived.Test.YtabjcjieniokaaaZ10
import Derived.Test.YtabjcjieniokaaaZ11
import Derived.Test.YtabjcjieniokaaaZ15
import Derived.Test.YtabjcjieniokaaaZDefFnTold
/- Plain lemmas for what the printed functions come to: loops that go up, indices that do not wrap, reads. No condition. -/
namespace Go.Proofs.Ytabjcjieniokaaa.Pure
open Go.RowKit Go.Proofs.YtabjcjieniokaaaW.PrintWords Go.Proofs.YtabjcjieniokaaaW.PrintLast Go.Proofs.YtabjcjieniokaaaW.PrintMore

/-- A loop that goes up to n: at each index it comes to R, if it does so one index further. -/
theorem Ev.up {σ ρ : Type} (n : Nat) (G : Nat → σ → Nat → Option ρ) (R : Nat → σ → ρ) (Inv : Nat → σ → Prop) (hend : ∀ s, Inv n s → Ev (G n s) (R n s))
    (hstep : ∀ i s, i < n → Inv i s → (∀ s', Inv (i + 1) s' → Ev (G (i + 1) s') (R (i + 1) s')) → Ev (G i s) (R i s)) : ∀ i s, i ≤ n → Inv i s → Ev (G i s) (R i s) := by
  have key : ∀ d i s, i + d = n → Inv i s → Ev (G i s) (R i s) := by
    intro d
    induction d with
    | zero => intro i s h hi; obtain rfl : i = n := by omega
              exact hend s hi
    | succ d ih => intro i s h hi; exact hstep i s (by omega) hi (fun s' hs' => ih (i + 1) s' (by omega) hs')
  intro i s h hi
  exact key (n - i) i s (by omega) hi

/-- The same without a state. -/
theorem Ev.up0 {ρ : Type} (n : Nat) (G : Nat → Nat → Option ρ) (R : Nat → ρ) (hend : Ev (G n) (R n)) (hstep : ∀ i, i < n → Ev (G (i + 1)) (R (i + 1)) → Ev (G i) (R i)) : ∀ i, i ≤ n → Ev (G i) (R i) := by
  intro i h
  exact Ev.up n (fun i (_ : Unit) => G i) (fun i _ => R i) (fun _ _ => True) (fun _ _ => hend) (fun i s hi _ hn => hstep i hi (hn () trivial)) i () h trivial

theorem Ev.det {α : Type} {g : Nat → Option α} {r q : α} (h : Ev g r) (h' : Ev g q) : r = q := by
  obtain ⟨K, h⟩ := h
  obtain ⟨K', h'⟩ := h'
  have a := h (max K K') (by omega)
  have b := h' (max K K') (by omega)
  rw [a] at b
  exact Option.some.inj b

theorem Ev.ifpos {α : Type} {c : Prop} [Decidable c] {g f : Nat → Option α} {r : α} (hc : c) (h : Ev g r) : Ev (fun k => if c then g k else f k) r := Ev.congr (fun k => by rw [if_pos hc]) h
theorem Ev.ifneg {α : Type} {c : Prop} [Decidable c] {g f : Nat → Option α} {r : α} (hc : ¬ c) (h : Ev f r) : Ev (fun k => if c then g k else f k) r := Ev.congr (fun k => by rw [if_neg hc]) h
theorem Ev.pure {α : Type} {a r : α} (h : a = r) : Ev (fun _ => some a) r := by subst h; exact Ev.now _

/-- A call that needs no rounds. -/
theorem Ev.bind0 {α β : Type} {g : Option α} {f : Nat → α → Option β} {a : α} {r : β} (h : g = some a) (k : Ev (fun n => f n a) r) : Ev (fun n => g.bind (f n)) r :=
  Ev.congr (fun n => by rw [h]; rfl) k

theorem wrap_in {n : Int} (h0 : -9223372036854775808 ≤ n) (h1 : n ≤ 9223372036854775807) : wrap64 n = n := by unfold wrap64; omega
theorem wrap_succ {i : Nat} (h : i < 9223372036854775807) : wrap64 ((i : Int) + 1) = ((i + 1 : Nat) : Int) := by unfold wrap64; omega

theorem rd_nat (xs : List Int) (i : Nat) : rd xs (i : Int) = xs.getD i 0 := by unfold rd; rw [Int.toNat_natCast]
theorem rd_get (xs : List Int) (i : Nat) (h : i < xs.length) : rd xs (i : Int) = xs[i] := by rw [rd_nat, List.getD_eq_getElem?_getD, List.getElem?_eq_getElem h]; rfl
theorem getD_get {α : Type} (xs : List α) (i : Nat) (z : α) (h : i < xs.length) : xs.getD (i : Int).toNat z = xs[i] := by rw [Int.toNat_natCast, List.getD_eq_getElem?_getD, List.getElem?_eq_getElem h]; rfl

theorem drop_get {α : Type} (xs : List α) (i : Nat) (h : i < xs.length) : xs.drop i = xs[i] :: xs.drop (i + 1) := List.drop_eq_getElem_cons h

end Go.Proofs.Ytabjcjieniokaaa.Pure
/- Rows of whole numbers as functions of the column: null vectors, pivots, spans. No condition. -/
namespace Go.Proofs.Ytabjcjieniokaaa.Lin
set_option linter.unusedVariables false
set_option linter.unusedSimpArgs false
abbrev Vec := Nat → Int
/-- The sum of a j * x j, j below n. -/
def dotN : Nat → Vec → Vec → Int
  | 0, _, _ => 0
  | n + 1, a, x => dotN n a x + a n * x n

theorem dotN_congr : ∀ {n : Nat} {a b x y : Vec}, (∀ j, j < n → a j * x j = b j * y j) → dotN n a x = dotN n b y
  | 0, _, _, _, _, _ => rfl
  | n + 1, a, b, x, y, h => by
    rw [dotN, dotN, dotN_congr (fun j hj => h j (by omega)), h n (by omega)]
theorem dotN_zero : ∀ {n : Nat} {a x : Vec}, (∀ j, j < n → a j * x j = 0) → dotN n a x = 0
  | 0, _, _, _ => rfl
  | n + 1, a, x, h => by rw [dotN, dotN_zero (fun j hj => h j (by omega)), h n (by omega)]; rfl
theorem dotN_one : ∀ {n : Nat} {a x : Vec} {p : Nat}, p < n → (∀ j, j < n → j ≠ p → a j * x j = 0) → dotN n a x = a p * x p
  | 0, _, _, _, hp, _ => by omega
  | n + 1, a, x, p, hp, h => by
    by_cases e : p = n
    · subst e
      rw [dotN, dotN_zero (fun j hj => h j (by omega) (by omega))]
      omega
    · rw [dotN, dotN_one (p := p) (by omega) (fun j hj hn => h j (by omega) hn), h n (by omega) (by omega)]
      omega
theorem dotN_two : ∀ {n : Nat} {a x : Vec} {p q : Nat}, p < n → q < n → p ≠ q → (∀ j, j < n → j ≠ p → j ≠ q → a j * x j = 0) → dotN n a x = a p * x p + a q * x q
  | 0, _, _, _, _, hp, _, _, _ => by omega
  | n + 1, a, x, p, q, hp, hq, hpq, h => by
    by_cases e : p = n
    · subst e
      rw [dotN, dotN_one (p := q) (by omega) (fun j hj hn => h j (by omega) (by omega) hn)]
      omega
    · by_cases e2 : q = n
      · subst e2
        rw [dotN, dotN_one (p := p) (by omega) (fun j hj hn => h j (by omega) hn (by omega))]
      · rw [dotN, dotN_two (p := p) (q := q) (by omega) (by omega) hpq (fun j hj h1 h2 => h j (by omega) h1 h2), h n (by omega) (by omega) (by omega)]
        omega
theorem dotN_smul (g : Int) (a x : Vec) : ∀ n, dotN n (fun j => g * a j) x = g * dotN n a x
  | 0 => by simp [dotN]
  | n + 1 => by rw [dotN, dotN, dotN_smul g a x n, Int.mul_add, Int.mul_assoc]
theorem dotN_smulR (g : Int) (a x : Vec) : ∀ n, dotN n a (fun j => g * x j) = g * dotN n a x
  | 0 => by simp [dotN]
  | n + 1 => by rw [dotN, dotN, dotN_smulR g a x n, Int.mul_add, Int.mul_left_comm]
theorem dotN_sub (a b x : Vec) : ∀ n, dotN n (fun j => a j - b j) x = dotN n a x - dotN n b x
  | 0 => by simp [dotN]
  | n + 1 => by rw [dotN, dotN, dotN, dotN_sub a b x n, Int.sub_mul]; omega
theorem dotN_subR (a x y : Vec) : ∀ n, dotN n a (fun j => x j - y j) = dotN n a x - dotN n a y
  | 0 => by simp [dotN]
  | n + 1 => by rw [dotN, dotN, dotN, dotN_subR a x y n, Int.mul_sub]; omega
theorem dotN_comb (a b x : Vec) (p f : Int) (n : Nat) : dotN n (fun j => a j * p - b j * f) x = dotN n a x * p - dotN n b x * f := by
  have e : dotN n (fun j => a j * p - b j * f) x = dotN n (fun j => p * a j - f * b j) x := dotN_congr (fun j _ => by rw [Int.mul_comm (a j), Int.mul_comm (b j)])
  rw [e, dotN_sub, dotN_smul, dotN_smul, Int.mul_comm p, Int.mul_comm f]
theorem dotN_combR (a x y : Vec) (p f : Int) (n : Nat) : dotN n a (fun j => p * x j - f * y j) = p * dotN n a x - f * dotN n a y := by
  rw [dotN_subR, dotN_smulR, dotN_smulR]

theorem mul_ne {a b : Int} (h1 : a ≠ 0) (h2 : b ≠ 0) : a * b ≠ 0 := fun h => by
  rcases Int.mul_eq_zero.1 h with h | h
  · exact h1 h
  · exact h2 h
theorem cancel {a b : Int} (h1 : a ≠ 0) (h : a * b = 0) : b = 0 := by
  rcases Int.mul_eq_zero.1 h with h | h
  · exact absurd h h1
  · exact h
theorem cancelR {a b : Int} (h1 : b ≠ 0) (h : a * b = 0) : a = 0 := by
  rcases Int.mul_eq_zero.1 h with h | h
  · exact h
  · exact absurd h h1

def Null (n : Nat) (m : List Vec) (x : Vec) : Prop := ∀ r ∈ m, dotN n r x = 0
/-- Column c is free: a null vector ends there. -/
def Free (n : Nat) (m : List Vec) (c : Nat) : Prop := ∃ x, Null n m x ∧ x c ≠ 0 ∧ ∀ j, c < j → j < n → x j = 0

/-- A row that is cleared of column c by p. -/
def Clr (p : Vec) (c : Nat) (r r' : Vec) : Prop := ∃ g, g ≠ 0 ∧ ∀ j, g * r' j = r j * p c - p j * r c
def Sc (r r' : Vec) : Prop := ∃ g, g ≠ 0 ∧ ∀ j, r j = g * r' j

theorem Clr.dot {p r r' : Vec} {c : Nat} (h : Clr p c r r') (n : Nat) (x : Vec) : ∃ g, g ≠ 0 ∧ g * dotN n r' x = dotN n r x * p c - dotN n p x * r c := by
  obtain ⟨g, hg, h⟩ := h
  refine ⟨g, hg, ?_⟩
  rw [← dotN_smul, dotN_congr (b := fun j => r j * p c - p j * r c) (y := x) (fun j _ => by rw [h j]), dotN_comb]
theorem Clr.at_c {p r r' : Vec} {c : Nat} (h : Clr p c r r') : r' c = 0 := by
  obtain ⟨g, hg, h⟩ := h
  refine cancel hg ?_
  rw [h c, Int.mul_comm]
  omega
theorem Clr.zero {p r r' : Vec} {c j : Nat} (h : Clr p c r r') (h1 : r j = 0) (h2 : p j = 0) : r' j = 0 := by
  obtain ⟨g, hg, h⟩ := h
  refine cancel hg ?_
  rw [h j, h1, h2]
  simp
theorem Clr.keep {p r r' : Vec} {c j : Nat} (h : Clr p c r r') (hc : p c ≠ 0) (h1 : r j ≠ 0) (h2 : p j = 0) : r' j ≠ 0 := by
  obtain ⟨g, hg, h⟩ := h
  intro e
  have h3 := h j
  rw [e, h2] at h3
  exact mul_ne h1 hc (by omega)

noncomputable instance (n : Nat) (m : List Vec) (c : Nat) : Decidable (Free n m c) := Classical.propDecidable _
/-- The pivots' columns below c. -/
noncomputable def pivs (n : Nat) (m : List Vec) (c : Nat) : List Nat := (List.range c).filter (fun j => decide (¬ Free n m j))

/-- The state ahead of column c: rows that remain, rows with a pivot. -/
structure Red (n c : Nat) (m : List Vec) (R : List Vec) (O : List (Nat × Vec)) : Prop where
  null : ∀ x, Null n m x ↔ (Null n R x ∧ ∀ o ∈ O, dotN n o.2 x = 0)
  low : ∀ r ∈ R, ∀ j, j < c → r j = 0
  lead : ∀ o ∈ O, o.2 o.1 ≠ 0 ∧ ∀ j, j < o.1 → o.2 j = 0
  off : ∀ o ∈ O, ∀ q ∈ O, q.1 ≠ o.1 → o.2 q.1 = 0
  keys : O.map (·.1) = pivs n m c

theorem pivs_lt {n : Nat} {m : List Vec} {c j : Nat} (h : j ∈ pivs n m c) : j < c ∧ ¬ Free n m j := by
  unfold pivs at h
  rw [List.mem_filter, List.mem_range, decide_eq_true_eq] at h
  exact h
theorem pivs_nodup (n : Nat) (m : List Vec) (c : Nat) : (pivs n m c).Nodup := by
  unfold pivs
  exact List.Pairwise.filter _ List.nodup_range
theorem Red.lt {n c : Nat} {m R : List Vec} {O : List (Nat × Vec)} (h : Red n c m R O) {o : Nat × Vec} (ho : o ∈ O) : o.1 < c := by
  have h1 : o.1 ∈ O.map (·.1) := List.mem_map_of_mem ho
  rw [h.keys] at h1
  exact (pivs_lt h1).1

/-- A vector that meets the rows with a pivot, at column c. -/
theorem solve (c : Nat) : ∀ O : List (Nat × Vec), (O.map (·.1)).Nodup → (∀ o ∈ O, o.1 ≠ c ∧ o.2 o.1 ≠ 0) → ∃ x : Vec, x c ≠ 0 ∧ (∀ j, x j ≠ 0 → j = c ∨ j ∈ O.map (·.1)) ∧ ∀ o ∈ O, o.2 o.1 * x o.1 + o.2 c * x c = 0
  | [], _, _ => ⟨fun j => if j = c then 1 else 0, by simp, fun j hj => by
      by_cases e : j = c
      · exact .inl e
      · exact absurd (if_neg e) hj, fun o ho => absurd ho (by simp)⟩
  | o :: O, hn, hp => by
    rw [List.map_cons, List.nodup_cons] at hn
    obtain ⟨x, h1, h2, h3⟩ := solve c O hn.2 (fun q hq => hp q (List.mem_cons_of_mem _ hq))
    obtain ⟨hoc, ho0⟩ := hp o (List.mem_cons_self ..)
    refine ⟨fun j => if j = o.1 then - (o.2 c * x c) else o.2 o.1 * x j, ?_, fun j hj => ?_, fun q hq => ?_⟩
    · show (if c = o.1 then _ else _) ≠ (0 : Int)
      rw [if_neg (fun e => hoc e.symm)]
      exact mul_ne ho0 h1
    · by_cases e : j = o.1
      · exact .inr (by rw [List.map_cons, e]; exact List.mem_cons_self ..)
      · have hj : (if j = o.1 then - (o.2 c * x c) else o.2 o.1 * x j) ≠ 0 := hj
        rw [if_neg e] at hj
        rcases h2 j (fun e2 => hj (by rw [e2, Int.mul_zero])) with h | h
        · exact .inl h
        · exact .inr (by rw [List.map_cons]; exact List.mem_cons_of_mem _ h)
    · have ec : (fun j => if j = o.1 then - (o.2 c * x c) else o.2 o.1 * x j) c = o.2 o.1 * x c := if_neg (fun e => hoc e.symm)
      rw [ec]
      rcases List.mem_cons.1 hq with e | hq
      · subst e
        have eo : (fun j => if j = q.1 then - (q.2 c * x c) else q.2 q.1 * x j) q.1 = - (q.2 c * x c) := if_pos rfl
        rw [eo, Int.mul_neg, Int.mul_left_comm (q.2 c)]
        omega
      · have hne : q.1 ≠ o.1 := fun e => hn.1 (by rw [← e]; exact List.mem_map_of_mem hq)
        have eo : (fun j => if j = o.1 then - (o.2 c * x c) else o.2 o.1 * x j) q.1 = o.2 o.1 * x q.1 := if_neg hne
        rw [eo, Int.mul_left_comm, Int.mul_left_comm (q.2 c), ← Int.mul_add, h3 q hq, Int.mul_zero]

theorem Red.free {n c : Nat} {m R : List Vec} {O : List (Nat × Vec)} (h : Red n c m R O) (hc : c < n) (h0 : ∀ r ∈ R, r c = 0) : Free n m c := by
  obtain ⟨x, h1, h2, h3⟩ := solve c O (by rw [h.keys]; exact pivs_nodup n m c) (fun o ho => ⟨by have := h.lt ho; omega, (h.lead o ho).1⟩)
  have hsup : ∀ j, x j ≠ 0 → j = c ∨ ∃ o ∈ O, o.1 = j := fun j hj => by
    rcases h2 j hj with h4 | h4
    · exact .inl h4
    · obtain ⟨o, ho, e⟩ := List.mem_map.1 h4
      exact .inr ⟨o, ho, e⟩
  refine ⟨x, (h.null x).2 ⟨fun r hr => dotN_zero (fun j _ => ?_), fun o ho => ?_⟩, h1, fun j hj _ => Classical.byContradiction (fun hx => ?_)⟩
  · by_cases hx : x j = 0
    · rw [hx, Int.mul_zero]
    · rcases hsup j hx with rfl | ⟨o, ho, rfl⟩
      · rw [h0 r hr, Int.zero_mul]
      · rw [h.low r hr _ (h.lt ho), Int.zero_mul]
  · have hlt := h.lt ho
    rw [dotN_two (p := o.1) (q := c) (by omega) hc (by omega) (fun j _ hj1 hj2 => ?_)]
    · exact h3 o ho
    · by_cases hx : x j = 0
      · rw [hx, Int.mul_zero]
      · rcases hsup j hx with e | ⟨q, hq, rfl⟩
        · exact absurd e hj2
        · rw [h.off o ho q hq hj1, Int.zero_mul]
  · rcases hsup j hx with e | ⟨o, ho, e⟩
    · omega
    · have := h.lt ho
      omega

theorem Red.bound {n c : Nat} {m R : List Vec} {O : List (Nat × Vec)} (h : Red n c m R O) (hc : c < n) {p : Vec} (hp : p ∈ R) (h0 : p c ≠ 0) : ¬ Free n m c := by
  rintro ⟨x, h1, h2, h3⟩
  have h4 := ((h.null x).1 h1).1 p hp
  rw [dotN_one (p := c) hc (fun j hj hne => ?_)] at h4
  · exact mul_ne h0 h2 h4
  · rcases Nat.lt_or_ge j c with h5 | h5
    · rw [h.low p hp j h5, Int.zero_mul]
    · rw [h3 j (by omega) hj, Int.mul_zero]

theorem pivs_free {n : Nat} {m : List Vec} {c : Nat} (h : Free n m c) : pivs n m (c + 1) = pivs n m c := by
  unfold pivs
  rw [List.range_succ, List.filter_append]
  simp [h]
theorem pivs_bound {n : Nat} {m : List Vec} {c : Nat} (h : ¬ Free n m c) : pivs n m (c + 1) = pivs n m c ++ [c] := by
  unfold pivs
  rw [List.range_succ, List.filter_append]
  simp [h]

theorem Red.skip {n c : Nat} {m R : List Vec} {O : List (Nat × Vec)} (h : Red n c m R O) (hc : c < n) (h0 : ∀ r ∈ R, r c = 0) : Red n (c + 1) m R O where
  null := h.null
  low := fun r hr j hj => by
    by_cases e : j = c
    · subst e; exact h0 r hr
    · exact h.low r hr j (by omega)
  lead := h.lead
  off := h.off
  keys := by rw [pivs_free (h.free hc h0)]; exact h.keys

theorem Red.step {n c : Nat} {m R R' : List Vec} {O O' : List (Nat × Vec)} {p p' : Vec} (h : Red n c m R O) (hc : c < n) (hp : p ∈ R) (h0 : p c ≠ 0)
    (r1 : ∀ r' ∈ R', ∃ r ∈ R, Clr p c r r') (r2 : ∀ r ∈ R, r = p ∨ ∃ r' ∈ R', Clr p c r r')
    (o1 : ∀ o' ∈ O', (∃ o ∈ O, o'.1 = o.1 ∧ Clr p c o.2 o'.2) ∨ o' = (c, p')) (o2 : ∀ o ∈ O, ∃ o' ∈ O', o'.1 = o.1 ∧ Clr p c o.2 o'.2) (o3 : (c, p') ∈ O') (hs : Sc p p')
    (hk : O'.map (·.1) = O.map (·.1) ++ [c]) : Red n (c + 1) m R' O' := by
  obtain ⟨g, hg, hs⟩ := hs
  have hdp : ∀ x, dotN n p x = g * dotN n p' x := fun x => by
    rw [← dotN_smul]
    exact dotN_congr (fun j _ => by rw [hs j])
  have pz : ∀ j, p j = 0 → p' j = 0 := fun j hj => cancel hg (by rw [← hs j, hj])
  refine ⟨fun x => (h.null x).trans ?_, fun r' hr' j hj => ?_, fun o' ho' => ?_, fun o' ho' q' hq' hne => ?_, by rw [hk, h.keys, pivs_bound (h.bound hc hp h0)]⟩
  · constructor
    · rintro ⟨h1, h2⟩
      refine ⟨fun r' hr' => ?_, fun o' ho' => ?_⟩
      · obtain ⟨r, hr, hcl⟩ := r1 r' hr'
        obtain ⟨g1, hg1, e⟩ := hcl.dot n x
        refine cancel hg1 ?_
        rw [e, h1 r hr, h1 p hp]
        simp
      · rcases o1 o' ho' with ⟨o, ho, _, hcl⟩ | rfl
        · obtain ⟨g1, hg1, e⟩ := hcl.dot n x
          refine cancel hg1 ?_
          rw [e, h2 o ho, h1 p hp]
          simp
        · exact cancel hg (by rw [← hdp]; exact h1 p hp)
    · rintro ⟨h1, h2⟩
      have hpx : dotN n p x = 0 := by rw [hdp, h2 _ o3, Int.mul_zero]
      refine ⟨fun r hr => ?_, fun o ho => ?_⟩
      · rcases r2 r hr with rfl | ⟨r', hr', hcl⟩
        · exact hpx
        · obtain ⟨g1, hg1, e⟩ := hcl.dot n x
          rw [h1 r' hr', hpx, Int.mul_zero, Int.zero_mul, Int.sub_zero] at e
          exact cancelR h0 e.symm
      · obtain ⟨o', ho', _, hcl⟩ := o2 o ho
        obtain ⟨g1, hg1, e⟩ := hcl.dot n x
        rw [h2 o' ho', hpx, Int.mul_zero, Int.zero_mul, Int.sub_zero] at e
        exact cancelR h0 e.symm
  · obtain ⟨r, hr, hcl⟩ := r1 r' hr'
    by_cases e : j = c
    · subst e; exact hcl.at_c
    · exact hcl.zero (h.low r hr j (by omega)) (h.low p hp j (by omega))
  · rcases o1 o' ho' with ⟨o, ho, e, hcl⟩ | rfl
    · have hlt := h.lt ho
      obtain ⟨l1, l2⟩ := h.lead o ho
      rw [e]
      exact ⟨hcl.keep h0 l1 (h.low p hp _ hlt), fun j hj => hcl.zero (l2 j hj) (h.low p hp j (by omega))⟩
    · refine ⟨fun e => h0 (by rw [hs c, show p' c = 0 from e, Int.mul_zero]), fun j hj => pz j (h.low p hp j hj)⟩
  · rcases o1 o' ho' with ⟨o, ho, e, hcl⟩ | rfl
    · rcases o1 q' hq' with ⟨q, hq, e2, _⟩ | rfl
      · rw [e2] at hne ⊢
        rw [e] at hne
        exact hcl.zero (h.off o ho q hq hne) (h.low p hp _ (h.lt hq))
      · exact hcl.at_c
    · rcases o1 q' hq' with ⟨q, hq, e2, _⟩ | rfl
      · rw [e2]
        exact pz _ (h.low p hp _ (h.lt hq))
      · exact absurd rfl hne

theorem Red.start {n : Nat} {m R : List Vec} (r1 : ∀ r' ∈ R, ∃ r ∈ m, Sc r r') (r2 : ∀ r ∈ m, ∃ r' ∈ R, Sc r r') : Red n 0 m R [] where
  null := fun x => by
    constructor
    · intro h
      refine ⟨fun r' hr' => ?_, fun o ho => absurd ho (by simp)⟩
      obtain ⟨r, hr, g, hg, e⟩ := r1 r' hr'
      refine cancel hg ?_
      rw [← dotN_smul, ← dotN_congr (a := r) (x := x) (fun j _ => by rw [e j])]
      exact h r hr
    · rintro ⟨h, _⟩ r hr
      obtain ⟨r', hr', g, hg, e⟩ := r2 r hr
      rw [dotN_congr (b := fun j => g * r' j) (y := x) (fun j _ => by rw [e j]), dotN_smul, h r' hr', Int.mul_zero]
  low := fun _ _ j hj => absurd hj (Nat.not_lt_zero j)
  lead := fun o ho => absurd ho (by simp)
  off := fun o ho => absurd ho (by simp)
  keys := rfl

/-! Spans. -/
def Perp (n : Nat) (m : List Vec) (row : Vec) : Prop := ∀ v, Null n m v → dotN n row v = 0

/-- A row with zeros at the pivots that is a multiple of the row, as the null vectors see it: the row is in the span exactly if it is 0. -/
theorem perp_iff {n : Nat} {m : List Vec} {row x : Vec} (hp : ∀ j, j < n → ¬ Free n m j → x j = 0) {a b : Int} (ha : a ≠ 0) (hb : b ≠ 0) (hx : ∀ v, Null n m v → b * dotN n x v = a * dotN n row v) :
    (∀ j, j < n → x j = 0) ↔ Perp n m row := by
  constructor
  · intro h v hv
    refine cancel ha ?_
    rw [← hx v hv, dotN_zero (fun j hj => by rw [h j hj, Int.zero_mul]), Int.mul_zero]
  · intro h
    have key : ∀ k, k ≤ n → ∀ j, j < k → x j = 0 := by
      intro k
      induction k with
      | zero => intro _ j hj; omega
      | succ k ih =>
        intro hk j hj
        by_cases e : j = k
        · subst e
          by_cases hf : Free n m j
          · obtain ⟨v, h1, h2, h3⟩ := hf
            have h4 := hx v h1
            rw [h v h1, Int.mul_zero] at h4
            have h5 := cancel hb h4
            rw [dotN_one (p := j) (by omega) (fun i hi hne => ?_)] at h5
            · exact cancelR h2 h5
            · rcases Nat.lt_or_ge i j with h6 | h6
              · rw [ih (by omega) i h6, Int.zero_mul]
              · rw [h3 i (by omega) hi, Int.mul_zero]
          · exact hp j (by omega) hf
        · exact ih (by omega) j (by omega)
    exact key n (Nat.le_refl _)

theorem free_more {n : Nat} {m : List Vec} {row : Vec} {c : Nat} (h : Free n (m ++ [row]) c) : Free n m c := by
  obtain ⟨x, h1, h2, h3⟩ := h
  exact ⟨x, fun r hr => h1 r (List.mem_append_left _ hr), h2, h3⟩
theorem perp_free {n : Nat} {m : List Vec} {row : Vec} (hp : Perp n m row) {c : Nat} : Free n (m ++ [row]) c ↔ Free n m c := by
  refine ⟨free_more, ?_⟩
  rintro ⟨x, h1, h2, h3⟩
  refine ⟨x, fun r hr => ?_, h2, h3⟩
  rcases List.mem_append.1 hr with hr | hr
  · exact h1 r hr
  · obtain rfl := List.mem_singleton.1 hr
    exact hp x h1
theorem perp_of_free {n : Nat} {m : List Vec} {row : Vec} (hf : ∀ c, c < n → Free n m c → Free n (m ++ [row]) c) : Perp n m row := by
  have key : ∀ k, k ≤ n → ∀ v, Null n m v → (∀ j, k ≤ j → j < n → v j = 0) → dotN n row v = 0 := by
    intro k
    induction k with
    | zero => intro _ v _ h; exact dotN_zero (fun j hj => by rw [h j (Nat.zero_le _) hj, Int.mul_zero])
    | succ c ih =>
      intro hk v hv h
      by_cases e : v c = 0
      · exact ih (by omega) v hv (fun j hj hn => by
          by_cases e2 : j = c
          · subst e2; exact e
          · exact h j (by omega) hn)
      · obtain ⟨u, h1, h2, h3⟩ := hf c (by omega) ⟨v, hv, e, fun j hj hn => h j (by omega) hn⟩
        have hrow : dotN n row u = 0 := h1 row (List.mem_append_right _ (List.mem_singleton.2 rfl))
        have h4 := ih (by omega) (fun j => u c * v j - v c * u j) (fun r hr => by
          rw [dotN_combR, hv r hr, h1 r (List.mem_append_left _ hr)]
          simp) (fun j hj hn => by
          show u c * v j - v c * u j = 0
          by_cases e2 : j = c
          · subst e2; rw [Int.mul_comm]; omega
          · rw [h j (by omega) hn, h3 j (by omega) hn]; simp)
        rw [dotN_combR, hrow, Int.mul_zero, Int.sub_zero] at h4
        exact cancel h2 h4
  intro v hv
  exact key n (Nat.le_refl _) v hv (fun j h1 h2 => by omega)

theorem filter_len_lt {α : Type} (p q : α → Bool) : ∀ l : List α, (∀ x ∈ l, p x = true → q x = true) → (l.filter p).length = (l.filter q).length → ∀ x ∈ l, q x = true → p x = true
  | [], _, _, x, hx, _ => absurd hx (by simp)
  | a :: l, h, e, x, hx, hq => by
    have hle : ∀ l : List α, (∀ x ∈ l, p x = true → q x = true) → (l.filter p).length ≤ (l.filter q).length := by
      intro l
      induction l with
      | nil => intro _; simp
      | cons b l ih =>
        intro h
        have := ih (fun x hx => h x (List.mem_cons_of_mem _ hx))
        have hb := h b (List.mem_cons_self ..)
        rw [List.filter_cons, List.filter_cons]
        cases hp : p b <;> cases hq : q b
        · simpa using this
        · simp; omega
        · rw [hp, hq] at hb; exact absurd (hb rfl) (by decide)
        · simpa using this
    have h2 := hle l (fun x hx => h x (List.mem_cons_of_mem _ hx))
    have ha := h a (List.mem_cons_self ..)
    rw [List.filter_cons, List.filter_cons] at e
    have ih := filter_len_lt p q l (fun x hx => h x (List.mem_cons_of_mem _ hx))
    cases hp : p a <;> cases hqa : q a
    · rw [hp, hqa] at e
      rcases List.mem_cons.1 hx with rfl | hx
      · rw [hqa] at hq; cases hq
      · exact ih (by simpa using e) x hx hq
    · rw [hp, hqa] at e
      simp at e
      omega
    · rw [hp, hqa] at ha; exact absurd (ha rfl) (by decide)
    · rw [hp, hqa] at e
      rcases List.mem_cons.1 hx with rfl | hx
      · exact hp
      · exact ih (by simpa using e) x hx hq

/-- In the span: one row more makes no pivot more. -/
theorem span_iff {n : Nat} {m : List Vec} {row : Vec} : (pivs n m n).length = (pivs n (m ++ [row]) n).length ↔ Perp n m row := by
  constructor
  · intro h
    refine perp_of_free (fun c hc hf => Classical.byContradiction (fun hn => ?_))
    have := filter_len_lt (fun j => decide (¬ Free n m j)) (fun j => decide (¬ Free n (m ++ [row]) j)) (List.range n) (fun x _ hx => by
      rw [decide_eq_true_eq] at *
      exact fun hc => hx (free_more hc)) h c (List.mem_range.2 hc) (by rw [decide_eq_true_eq]; exact hn)
    rw [decide_eq_true_eq] at this
    exact this hf
  · intro h
    unfold pivs
    congr 1
    apply List.filter_congr
    intro j _
    exact decide_eq_decide.2 (not_congr (perp_free h).symm)
end Go.Proofs.Ytabjcjieniokaaa.Lin
/- Small solutions of systems, small reduced rows. No condition. -/
namespace Go.Proofs.Ytabjcjieniokaaa.Lin
set_option linter.unusedVariables false
set_option linter.unusedSimpArgs false
theorem dotN_abs {b : Nat} : ∀ {n : Nat} {a x : Vec}, (∀ j, j < n → (a j * x j).natAbs ≤ b) → (dotN n a x).natAbs ≤ n * b
  | 0, _, _, _ => by simp [dotN]
  | n + 1, a, x, h => by
    have h1 := dotN_abs (n := n) (a := a) (x := x) (fun j hj => h j (by omega))
    have h2 := h n (by omega)
    rw [dotN, Nat.add_mul, Nat.one_mul]
    omega

/-! Determinants by their first column: no more is wanted of them than that they are small and vanish where a column comes twice. -/
def expand (f : Nat → Int) : (List Nat → Int) → List Nat → Int
  | _, [] => 0
  | g, x :: L => f x * g L - expand f (fun M => g (x :: M)) L
theorem expand_congr (f : Nat → Int) : ∀ (L : List Nat) (g h : List Nat → Int), (∀ M, g M = h M) → expand f g L = expand f h L
  | [], _, _, _ => rfl
  | x :: L, g, h, e => by rw [expand, expand, e L, expand_congr f L _ _ (fun M => e (x :: M))]
theorem expand_zero (f : Nat → Int) : ∀ (L : List Nat) (g : List Nat → Int), (∀ M, g M = 0) → expand f g L = 0
  | [], _, _ => rfl
  | x :: L, g, e => by rw [expand, e L, expand_zero f L _ (fun M => e (x :: M))]; simp
theorem expand_sub (f : Nat → Int) : ∀ (L : List Nat) (g h : List Nat → Int), expand f (fun M => g M - h M) L = expand f g L - expand f h L
  | [], _, _ => rfl
  | x :: L, g, h => by
    rw [expand, expand, expand, expand_sub f L (fun M => g (x :: M)) (fun M => h (x :: M)), Int.mul_sub]
    omega
theorem expand_add (f : Nat → Int) : ∀ (L : List Nat) (g h : List Nat → Int), expand f (fun M => g M + h M) L = expand f g L + expand f h L
  | [], _, _ => rfl
  | x :: L, g, h => by
    rw [expand, expand, expand, expand_add f L (fun M => g (x :: M)) (fun M => h (x :: M)), Int.mul_add]
    omega
theorem expand_mul (f : Nat → Int) (c : Int) : ∀ (L : List Nat) (g : List Nat → Int), expand f (fun M => c * g M) L = c * expand f g L
  | [], _ => by rw [expand, expand, Int.mul_zero]
  | x :: L, g => by rw [expand, expand, expand_mul f c L (fun M => g (x :: M)), Int.mul_sub, Int.mul_left_comm]
theorem expand_addF (f h : Nat → Int) : ∀ (L : List Nat) (g : List Nat → Int), expand (fun i => f i + h i) g L = expand f g L + expand h g L
  | [], _ => rfl
  | x :: L, g => by
    rw [expand, expand, expand, expand_addF f h L, Int.add_mul]
    omega
theorem expand_self (f : Nat → Int) : ∀ (L : List Nat) (g : List Nat → Int), expand f (expand f g) L = 0
  | [], _ => rfl
  | x :: L, g => by
    rw [expand]
    have e1 : expand f (fun M => expand f g (x :: M)) L = f x * expand f g L := by
      have e2 : expand f (fun M => expand f g (x :: M)) L = expand f (fun M => f x * g M - expand f (fun N => g (x :: N)) M) L := expand_congr f L _ _ (fun M => by rw [expand])
      rw [e2, expand_sub, expand_mul, expand_self f L (fun N => g (x :: N)), Int.sub_zero]
    rw [e1]
    omega
theorem expand_swap (f h : Nat → Int) (L : List Nat) (g : List Nat → Int) : expand f (expand h g) L = - expand h (expand f g) L := by
  have e := expand_self (fun i => f i + h i) L g
  rw [expand_addF, expand_congr f L _ _ (fun M => expand_addF f h M g), expand_congr h L _ _ (fun M => expand_addF f h M g), expand_add, expand_add, expand_self, expand_self] at e
  omega
def det : List (Nat → Int) → List Nat → Int
  | [], _ => 1
  | f :: C, L => expand f (det C) L
theorem det_head (f : Nat → Int) : ∀ (C : List (Nat → Int)) (L : List Nat), f ∈ C → det (f :: C) L = 0
  | [], _, h => absurd h (by simp)
  | c :: C, L, h => by
    rcases List.mem_cons.1 h with rfl | h
    · exact expand_self f L (det C)
    · show expand f (expand c (det C)) L = 0
      rw [expand_swap, expand_zero c L (expand f (det C)) (fun M => det_head f C M h)]
      rfl
theorem det_twice (col : Nat → Nat → Int) : ∀ (Ks : List Nat) (L : List Nat), ¬ Ks.Nodup → det (Ks.map col) L = 0
  | [], _, h => absurd List.nodup_nil h
  | k :: Ks, L, h => by
    by_cases hk : k ∈ Ks
    · exact det_head (col k) (Ks.map col) L (List.mem_map_of_mem hk)
    · exact expand_zero (col k) L _ (fun M => det_twice col Ks M (fun hn => h (List.nodup_cons.2 ⟨hk, hn⟩)))
def facA (a : Nat) : Nat → Nat
  | 0 => 1
  | r + 1 => (r + 1) * (a * facA a r)
theorem facA_mono {a : Nat} (ha : 1 ≤ a) : ∀ {r q : Nat}, r ≤ q → facA a r ≤ facA a q
  | r, 0, h => by obtain rfl : r = 0 := by omega
                  exact Nat.le_refl _
  | r, q + 1, h => by
    by_cases e : r = q + 1
    · rw [e]; exact Nat.le_refl _
    · have h1 := facA_mono ha (r := r) (q := q) (by omega)
      have h2 : facA a q ≤ facA a (q + 1) := by
        rw [facA, ← Nat.mul_assoc]
        exact Nat.le_mul_of_pos_left _ (Nat.mul_pos (by omega) ha)
      omega
theorem expand_abs {a B s : Nat} {f : Nat → Int} (hf : ∀ i, i < s → (f i).natAbs ≤ a) : ∀ (L : List Nat) (g : List Nat → Int), (∀ x ∈ L, x < s) → (∀ M, M.length + 1 = L.length → (∀ x ∈ M, x < s) → (g M).natAbs ≤ B) → (expand f g L).natAbs ≤ L.length * (a * B)
  | [], _, _, _ => by simp [expand]
  | x :: L, g, hL, hg => by
    have h1 : (f x * g L).natAbs ≤ a * B := by
      rw [Int.natAbs_mul]
      exact Nat.mul_le_mul (hf x (hL x (List.mem_cons_self ..))) (hg L rfl (fun y hy => hL y (List.mem_cons_of_mem _ hy)))
    have h2 := expand_abs hf L (fun M => g (x :: M)) (fun y hy => hL y (List.mem_cons_of_mem _ hy)) (fun M hM hs => hg (x :: M) (by rw [List.length_cons, List.length_cons]; omega) (fun y hy => by
      rcases List.mem_cons.1 hy with rfl | hy
      · exact hL y (List.mem_cons_self ..)
      · exact hs y hy))
    rw [expand, List.length_cons, Nat.add_mul, Nat.one_mul]
    omega
theorem det_abs {a s : Nat} : ∀ (C : List (Nat → Int)) (L : List Nat), (∀ f ∈ C, ∀ i, i < s → (f i).natAbs ≤ a) → (∀ x ∈ L, x < s) → L.length = C.length → (det C L).natAbs ≤ facA a C.length
  | [], _, _, _, _ => Nat.le_refl _
  | f :: C, L, hC, hL, hl => by
    have h := expand_abs (B := facA a C.length) (hC f (List.mem_cons_self ..)) L (det C) hL (fun M hM hs => det_abs C M (fun h hh => hC h (List.mem_cons_of_mem _ hh)) hs (by rw [hl, List.length_cons] at hM; omega))
    rw [hl, List.length_cons] at h
    rw [List.length_cons, facA]
    exact h
def coef : (List Nat → Int) → List Nat → Vec
  | _, [] => fun _ => 0
  | g, x :: L => fun y => (if y = x then g L else 0) - coef (fun M => g (x :: M)) L y
theorem coef_out : ∀ (L : List Nat) (g : List Nat → Int) (y : Nat), y ∉ L → coef g L y = 0
  | [], _, _, _ => rfl
  | x :: L, g, y, h => by
    rw [List.mem_cons, not_or] at h
    show (if y = x then g L else 0) - coef _ L y = 0
    rw [if_neg h.1, coef_out L _ y h.2]
    rfl
theorem coef_abs {B s : Nat} : ∀ (L : List Nat) (g : List Nat → Int) (y : Nat), L.Nodup → (∀ x ∈ L, x < s) → (∀ M, M.length + 1 = L.length → (∀ x ∈ M, x < s) → (g M).natAbs ≤ B) → (coef g L y).natAbs ≤ B
  | [], _, _, _, _, _ => Nat.zero_le _
  | x :: L, g, y, hn, hs, hg => by
    rw [List.nodup_cons] at hn
    show ((if y = x then g L else 0) - coef _ L y).natAbs ≤ B
    by_cases e : y = x
    · rw [if_pos e, e, coef_out L _ x hn.1, Int.sub_zero]
      exact hg L rfl (fun z hz => hs z (List.mem_cons_of_mem _ hz))
    · rw [if_neg e, Int.zero_sub, Int.natAbs_neg]
      exact coef_abs L _ y hn.2 (fun z hz => hs z (List.mem_cons_of_mem _ hz)) (fun M hM hM2 => hg (x :: M) (by rw [List.length_cons, List.length_cons]; omega) (fun z hz => by
        rcases List.mem_cons.1 hz with rfl | hz
        · exact hs z (List.mem_cons_self ..)
        · exact hM2 z hz))
theorem expand_dot {s : Nat} (f : Nat → Int) : ∀ (L : List Nat) (g : List Nat → Int), (∀ x ∈ L, x < s) → expand f g L = dotN s (coef g L) f
  | [], _, _ => (dotN_zero (fun j _ => Int.zero_mul _)).symm
  | x :: L, g, h => by
    have e1 : dotN s (coef g (x :: L)) f = dotN s (fun y => (if y = x then g L else 0) - coef (fun M => g (x :: M)) L y) f := rfl
    have e2 : dotN s (fun y => if y = x then g L else 0) f = g L * f x := by
      rw [dotN_one (p := x) (h x (List.mem_cons_self ..)) (fun j _ hj => by rw [if_neg hj, Int.zero_mul]), if_pos rfl]
    rw [e1, dotN_sub, expand, expand_dot f L _ (fun z hz => h z (List.mem_cons_of_mem _ hz)), e2, Int.mul_comm]
theorem nodup_le : ∀ {L K : List Nat}, L.Nodup → (∀ x ∈ L, x ∈ K) → L.length ≤ K.length
  | [], _, _, _ => Nat.zero_le _
  | x :: L, K, hn, h => by
    rw [List.nodup_cons] at hn
    have hx := h x (List.mem_cons_self ..)
    have h1 := nodup_le (L := L) (K := K.erase x) hn.2 (fun y hy => (List.mem_erase_of_ne (by intro e; subst e; exact hn.1 hy)).2 (h y (List.mem_cons_of_mem _ hy)))
    have h2 := List.length_erase_of_mem hx
    have h3 := List.length_pos_of_mem hx
    rw [List.length_cons]
    omega
theorem last_true (P : Nat → Prop) (h0 : P 0) : ∀ n, ¬ P n → ∃ r, r < n ∧ P r ∧ ¬ P (r + 1)
  | 0, h => absurd h0 h
  | n + 1, h => by
    by_cases hn : P n
    · exact ⟨n, Nat.lt_succ_self n, hn, h⟩
    · obtain ⟨r, h1, h2⟩ := last_true P h0 n hn
      exact ⟨r, by omega, h2⟩

/-- More unknowns than equations: a small solution that is not 0. -/
theorem siegel (a : Nat) (A : Nat → Vec) (K : List Nat) (s : Nat) (hs : K.length + 1 = s) (ha : 1 ≤ a) (hA : ∀ i, i < s → ∀ k ∈ K, (A i k).natAbs ≤ a) :
    ∃ c : Vec, (∃ i, i < s ∧ c i ≠ 0) ∧ (∀ i, i < s → (c i).natAbs ≤ facA a K.length) ∧ ∀ k ∈ K, dotN s c (fun i => A i k) = 0 := by
  obtain ⟨r, hr, ⟨Ks, L, hKl, hLl, hn, hLs, hKK, hd⟩, hmax⟩ := last_true (fun r => ∃ Ks L : List Nat, Ks.length = r ∧ L.length = r ∧ L.Nodup ∧ (∀ x ∈ L, x < s) ∧ (∀ k ∈ Ks, k ∈ K) ∧ det (Ks.map (fun k i => A i k)) L ≠ 0)
    ⟨[], [], rfl, rfl, List.nodup_nil, fun x hx => absurd hx (by simp), fun x hx => absurd hx (by simp), (show (1 : Int) ≠ 0 by decide)⟩ s (by
      rintro ⟨Ks, L, h1, _, _, _, h5, h6⟩
      refine h6 (det_twice _ Ks L (fun hnd => ?_))
      have := nodup_le hnd h5
      omega)
  obtain ⟨l, hl, hlL⟩ : ∃ l, l < s ∧ l ∉ L := Classical.byContradiction (fun hno => by
    have h1 := nodup_le (L := List.range s) (K := L) List.nodup_range (fun x hx => Classical.byContradiction (fun hx2 => hno ⟨x, List.mem_range.1 hx, hx2⟩))
    rw [List.length_range] at h1
    omega)
  have hL2 : ∀ x ∈ l :: L, x < s := fun x hx => by
    rcases List.mem_cons.1 hx with rfl | hx
    · exact hl
    · exact hLs x hx
  have hnd : (l :: L).Nodup := List.nodup_cons.2 ⟨hlL, hn⟩
  refine ⟨coef (det (Ks.map (fun k i => A i k))) (l :: L), ⟨l, hl, ?_⟩, fun i _ => ?_, fun k hk => ?_⟩
  · show (if l = l then det (Ks.map (fun k i => A i k)) L else 0) - coef _ L l ≠ 0
    rw [if_pos rfl, coef_out L _ l hlL, Int.sub_zero]
    exact hd
  · refine Nat.le_trans (coef_abs (B := facA a r) (s := s) (l :: L) _ i hnd hL2 (fun M hM hMs => ?_)) (facA_mono ha (by omega))
    have h1 := det_abs (a := a) (s := s) (Ks.map (fun k i => A i k)) M (fun f hf i hi => by
      obtain ⟨k, hk, rfl⟩ := List.mem_map.1 hf
      exact hA i hi k (hKK k hk)) hMs (by rw [List.length_map, hKl]; rw [List.length_cons, hLl] at hM; omega)
    rw [List.length_map, hKl] at h1
    exact h1
  · rw [← expand_dot (fun i => A i k) (l :: L) _ hL2]
    refine Classical.byContradiction (fun hne => hmax ⟨k :: Ks, l :: L, by rw [List.length_cons, hKl], by rw [List.length_cons, hLl], hnd, hL2, fun q hq => ?_, hne⟩)
    rcases List.mem_cons.1 hq with rfl | hq
    · exact hk
    · exact hKK q hq

/-- The rows A 0 .. A (t - 1) are independent on the columns K. -/
def Ind (t : Nat) (A : Nat → Vec) (K : List Nat) : Prop := ∀ u : Vec, (∀ k ∈ K, dotN t u (fun i => A i k) = 0) → ∀ i, i < t → u i = 0
def put (A : Nat → Vec) (t : Nat) (b : Vec) : Nat → Vec := fun i => if i = t then b else A i
theorem dot_put (A : Nat → Vec) (t : Nat) (b : Vec) (u : Vec) (k : Nat) : dotN (t + 1) u (fun i => put A t b i k) = dotN t u (fun i => A i k) + u t * b k := by
  have e : put A t b t = b := if_pos rfl
  have e2 : dotN t u (fun i => put A t b i k) = dotN t u (fun i => A i k) := dotN_congr (fun j hj => by rw [show put A t b j = A j from if_neg (by omega)])
  rw [dotN, e2]
  show _ + u t * put A t b t k = _
  rw [e]

theorem Ind.zero (A : Nat → Vec) : Ind 0 A [] := fun _ _ i hi => by omega

theorem Ind.snoc {t : Nat} {A : Nat → Vec} {K : List Nat} (h : Ind t A K) {b p u : Vec} {g l : Int} {c : Nat} (hg : g ≠ 0) (hl : l ≠ 0) (hr : ∀ j, g * p j = l * b j + dotN t u (fun i => A i j)) (h0 : ∀ k ∈ K, p k = 0) (hc : p c ≠ 0) : Ind (t + 1) (put A t b) (K ++ [c]) := by
  intro v hv
  have key : ∀ k, l * dotN (t + 1) v (fun i => put A t b i k) = dotN t (fun i => l * v i - v t * u i) (fun i => A i k) + v t * g * p k := fun k => by
    rw [dot_put, dotN_sub, dotN_smul, dotN_smul, Int.mul_add, Int.mul_left_comm l (v t), show l * b k = g * p k - dotN t u (fun i => A i k) by rw [hr k]; omega, Int.mul_sub, Int.mul_assoc]
    omega
  have h1 : ∀ i, i < t → l * v i - v t * u i = 0 := h (fun i => l * v i - v t * u i) (fun k hk => by
    have h2 := key k
    rw [hv k (List.mem_append_left _ hk), h0 k hk, Int.mul_zero, Int.mul_zero, Int.add_zero] at h2
    exact h2.symm)
  have h3 := key c
  rw [hv c (List.mem_append_right _ (List.mem_singleton.2 rfl)), Int.mul_zero, dotN_zero (fun i hi => by rw [h1 i hi, Int.zero_mul]), Int.zero_add] at h3
  have h4 : v t = 0 := cancelR hg (cancelR hc h3.symm)
  intro i hi
  by_cases e : i = t
  · rw [e]; exact h4
  · have h5 := h1 i (by omega)
    rw [h4, Int.zero_mul, Int.sub_zero] at h5
    exact cancel hl h5

def Prim (n : Nat) (r : Vec) : Prop := ∀ d : Int, (∀ j, j < n → d ∣ r j) → d ∣ 1

theorem prim_le {n : Nat} {r y : Vec} (hp : Prim n r) {u w : Int} (hu : u ≠ 0) (hw : w ≠ 0) (h : ∀ j, j < n → u * y j = w * r j) : ∀ j, j < n → (r j).natAbs ≤ (y j).natAbs := by
  have hd : (0 : Nat) < Int.gcd u w := Int.gcd_pos_of_ne_zero_left w hu
  obtain ⟨u', hu'⟩ := Int.gcd_dvd_left (a := u) (b := w)
  obtain ⟨w', hw'⟩ := Int.gcd_dvd_right (a := u) (b := w)
  have hd0 : ((Int.gcd u w : Nat) : Int) ≠ 0 := by omega
  have h1 : ∀ j, j < n → u' * y j = w' * r j := fun j hj => by
    have h2 : ((Int.gcd u w : Nat) : Int) * (u' * y j) = (Int.gcd u w : Nat) * (w' * r j) := by
      rw [← Int.mul_assoc, ← Int.mul_assoc, ← hu', ← hw']
      exact h j hj
    exact Int.eq_of_mul_eq_mul_left hd0 h2
  have hco : Int.gcd u' w' = 1 := by
    have := Int.gcd_mul_left (Int.gcd u w) u' w'
    rw [← hu', ← hw'] at this
    simp only [Int.natAbs_natCast] at this
    exact Nat.eq_of_mul_eq_mul_left hd (by omega)
  have hdv : u' ∣ 1 := hp u' (fun j hj => by
    rw [← Int.natAbs_dvd_natAbs]
    refine Nat.Coprime.dvd_of_dvd_mul_left (m := w'.natAbs) (n := (r j).natAbs) hco ?_
    rw [← Int.natAbs_mul, Int.natAbs_dvd_natAbs]
    exact ⟨y j, (h1 j hj).symm⟩)
  have hu1 : u'.natAbs = 1 := by
    have := Int.natAbs_dvd_natAbs.2 hdv
    exact Nat.dvd_one.1 this
  have hw0 : w' ≠ 0 := fun e => hw (by rw [hw', e, Int.mul_zero])
  intro j hj
  have h2 := congrArg Int.natAbs (h1 j hj)
  rw [Int.natAbs_mul, Int.natAbs_mul, hu1, Nat.one_mul] at h2
  rw [h2]
  exact Nat.le_mul_of_pos_left _ (by omega)

/-- A row out of small rows is small: with zeros (of the row b', in place of b) on K. -/
theorem small {n a t : Nat} {e : Nat → Nat} {A : Nat → Vec} {K : List Nat} (hI : Ind t A K) (hK : K.length = t) (ha : 1 ≤ a) (he : ∀ k ∈ K, e k ≤ a) (hA : ∀ i, i < t → ∀ j, (A i j).natAbs ≤ e j) {b b' r u : Vec} {g l : Int} (hb : ∀ j, (b j).natAbs ≤ e j) (hb' : ∀ j, (b' j).natAbs ≤ e j) (hg : g ≠ 0) (hl : l ≠ 0)
    (hr : ∀ j, g * r j = l * b j + dotN t u (fun i => A i j)) (h0 : ∀ k ∈ K, l * b' k + dotN t u (fun i => A i k) = 0) (hp : Prim n r) :
    ∀ j, j < n → (r j).natAbs ≤ (t + 1) * (facA a t * e j) := by
  obtain ⟨c, h1, h2, h3⟩ := siegel a (put A t b') K (t + 1) (by omega) ha (fun i hi k hk => by
    unfold put
    split
    · exact Nat.le_trans (hb' k) (he k hk)
    · exact Nat.le_trans (hA i (by omega) k) (he k hk))
  rw [hK] at h2
  have h4 : ∀ i, i < t → l * c i - c t * u i = 0 := hI (fun i => l * c i - c t * u i) (fun k hk => by
    have h5 := h3 k hk
    rw [dot_put] at h5
    have h6 := congrArg (l * ·) h5
    simp only [Int.mul_add, Int.mul_zero] at h6
    rw [Int.mul_left_comm l (c t), show l * b' k = - dotN t u (fun i => A i k) by have := h0 k hk; omega, Int.mul_neg] at h6
    rw [dotN_sub, dotN_smul, dotN_smul]
    omega)
  have hct : c t ≠ 0 := fun e => by
    obtain ⟨i, hi, hne⟩ := h1
    by_cases e2 : i = t
    · rw [e2] at hne; exact hne e
    · have h5 := h4 i (by omega)
      rw [e, Int.zero_mul, Int.sub_zero] at h5
      exact hne (cancel hl h5)
  have h5 : ∀ j, l * dotN (t + 1) c (fun i => put A t b i j) = c t * g * r j := fun j => by
    have h6 : dotN t (fun i => l * c i - c t * u i) (fun i => A i j) = 0 := dotN_zero (fun i hi => by rw [h4 i hi, Int.zero_mul])
    rw [dotN_sub, dotN_smul, dotN_smul] at h6
    rw [dot_put, Int.mul_add, Int.mul_left_comm l (c t), show l * b j = g * r j - dotN t u (fun i => A i j) by rw [hr j]; omega, Int.mul_sub, Int.mul_assoc]
    omega
  intro j hj
  refine Nat.le_trans (prim_le hp hl (mul_ne hct hg) (fun j _ => h5 j) j hj) (dotN_abs (fun i hi => ?_))
  rw [Int.natAbs_mul]
  refine Nat.mul_le_mul (h2 i hi) ?_
  unfold put
  split
  · exact hb j
  · exact hA i (by omega) j

/-- .. and so is one out of A's rows alone, with zeros on K but at one column. -/
theorem smallO {n a t : Nat} {e : Nat → Nat} {A : Nat → Vec} {K : List Nat} (hI : Ind t A K) (hK : K.length = t) (hN : K.Nodup) (ha : 1 ≤ a) (he : ∀ k ∈ K, e k ≤ a) (hA : ∀ i, i < t → ∀ j, (A i j).natAbs ≤ e j) {o u : Vec} {g : Int} {q : Nat} (hq : q ∈ K) (hg : g ≠ 0)
    (hr : ∀ j, g * o j = dotN t u (fun i => A i j)) (h0 : ∀ k ∈ K, k ≠ q → o k = 0) (hq0 : o q ≠ 0) (hp : Prim n o) :
    ∀ j, j < n → (o j).natAbs ≤ t * (facA a (t - 1) * e j) := by
  have hlen : (K.filter (fun k => k != q)).length + 1 = t := by
    rw [← hK]
    have : ∀ K : List Nat, K.Nodup → q ∈ K → (K.filter (fun k => k != q)).length + 1 = K.length := by
      intro K
      induction K with
      | nil => intro _ h; exact absurd h (by simp)
      | cons x K ih =>
        intro hn hm
        rw [List.nodup_cons] at hn
        rw [List.filter_cons]
        by_cases e' : x = q
        · subst e'
          have : K.filter (fun k => k != x) = K := List.filter_eq_self.2 (fun y hy => by
            have : y ≠ x := fun e => hn.1 (e ▸ hy)
            simpa using this)
          rw [this]
          simp
        · have hm : q ∈ K := by
            rcases List.mem_cons.1 hm with h | h
            · exact absurd h.symm e'
            · exact h
          have := ih hn.2 hm
          have e2 : (x != q) = true := by simpa using e'
          rw [if_pos e2, List.length_cons, List.length_cons]
          omega
    exact this K hN hq
  obtain ⟨c, h1, h2, h3⟩ := siegel a A (K.filter (fun k => k != q)) t hlen ha (fun i hi k hk => Nat.le_trans (hA i hi k) (he k (List.mem_filter.1 hk).1))
  rw [show (K.filter (fun k => k != q)).length = t - 1 by omega] at h2
  have h3 : ∀ k ∈ K, k ≠ q → dotN t c (fun i => A i k) = 0 := fun k hk hne => h3 k (List.mem_filter.2 ⟨hk, by simpa using hne⟩)
  obtain ⟨y, hy⟩ : ∃ y : Vec, ∀ j, dotN t c (fun i => A i j) = y j := ⟨_, fun _ => rfl⟩
  have hyq : y q ≠ 0 := fun e => by
    obtain ⟨i, hi, hne⟩ := h1
    refine hne (hI c (fun k hk => ?_) i hi)
    by_cases e2 : k = q
    · rw [e2, hy]; exact e
    · exact h3 k hk e2
  have h4 : ∀ i, i < t → y q * u i - g * o q * c i = 0 := hI (fun i => y q * u i - g * o q * c i) (fun k hk => by
    rw [dotN_sub, dotN_smul, dotN_smul, ← hr k, hy]
    by_cases e2 : k = q
    · rw [e2, Int.mul_comm]; omega
    · rw [h0 k hk e2, ← hy k, h3 k hk e2]; simp)
  have h5 : ∀ j, o q * y j = y q * o j := fun j => by
    have h6 : dotN t (fun i => y q * u i - g * o q * c i) (fun i => A i j) = 0 := dotN_zero (fun i hi => by rw [h4 i hi, Int.zero_mul])
    rw [dotN_sub, dotN_smul, dotN_smul, ← hr j, hy] at h6
    have h7 : g * (y q * o j - o q * y j) = 0 := by
      rw [Int.mul_sub, Int.mul_left_comm g (y q), ← Int.mul_assoc g (o q)]
      exact h6
    have := cancel hg h7
    omega
  intro j hj
  refine Nat.le_trans (prim_le hp hq0 hyq (fun j _ => h5 j) j hj) ?_
  rw [← hy j]
  refine dotN_abs (fun i hi => ?_)
  rw [Int.natAbs_mul]
  exact Nat.mul_le_mul (h2 i hi) (hA i hi j)
end Go.Proofs.Ytabjcjieniokaaa.Lin
/- Reduced rows stay small: each is a combination of given rows, and primitive. No condition. -/
namespace Go.Proofs.Ytabjcjieniokaaa.Lin
set_option linter.unusedVariables false
set_option linter.unusedSimpArgs false

/-- The state ahead of column c, whose rows are made out of small ones. -/
structure Sml (e : Nat → Nat) (n c : Nat) (m R : List Vec) (O : List (Nat × Vec)) : Prop where
  red : Red n c m R O
  made : ∃ A : Nat → Vec, Ind O.length A (O.map (·.1)) ∧ (∀ i, i < O.length → ∀ j, (A i j).natAbs ≤ e j) ∧
    (∀ r ∈ R, ∃ (g l : Int) (b u : Vec), g ≠ 0 ∧ l ≠ 0 ∧ (∀ j, (b j).natAbs ≤ e j) ∧ ∀ j, g * r j = l * b j + dotN O.length u (fun i => A i j)) ∧
    (∀ o ∈ O, ∃ (g : Int) (u : Vec), g ≠ 0 ∧ ∀ j, g * o.2 j = dotN O.length u (fun i => A i j))
  prim : ∀ r ∈ R, Prim n r ∨ ∀ j, r j = 0
  primO : ∀ o ∈ O, Prim n o.2

theorem dot_cut (u : Vec) (z : Int) (x : Vec) (t : Nat) : dotN t (fun i => if i = t then z else u i) x = dotN t u x := dotN_congr (fun j hj => by rw [if_neg (by omega)])
theorem dot_more (A : Nat → Vec) (t : Nat) (b u : Vec) (z : Int) (j : Nat) : dotN (t + 1) (fun i => if i = t then z else u i) (fun i => put A t b i j) = dotN t u (fun i => A i j) + z * b j := by
  rw [dot_put, dot_cut, if_pos rfl]

theorem Sml.skip {e : Nat → Nat} {n c : Nat} {m R : List Vec} {O : List (Nat × Vec)} (h : Sml e n c m R O) (hc : c < n) (h0 : ∀ r ∈ R, r c = 0) : Sml e n (c + 1) m R O :=
  ⟨h.red.skip hc h0, h.made, h.prim, h.primO⟩

theorem Sml.step {e : Nat → Nat} {n c : Nat} {m R R' : List Vec} {O O' : List (Nat × Vec)} {p p' : Vec} (h : Sml e n c m R O) (hc : c < n) (hp : p ∈ R) (h0 : p c ≠ 0)
    (r1 : ∀ r' ∈ R', ∃ r ∈ R, Clr p c r r') (r2 : ∀ r ∈ R, r = p ∨ ∃ r' ∈ R', Clr p c r r')
    (o1 : ∀ o' ∈ O', (∃ o ∈ O, o'.1 = o.1 ∧ Clr p c o.2 o'.2) ∨ o' = (c, p')) (o2 : ∀ o ∈ O, ∃ o' ∈ O', o'.1 = o.1 ∧ Clr p c o.2 o'.2) (o3 : (c, p') ∈ O') (hs : Sc p p')
    (hk : O'.map (·.1) = O.map (·.1) ++ [c]) (hP : ∀ r ∈ R', Prim n r ∨ ∀ j, r j = 0) (hQ : ∀ o ∈ O', Prim n o.2) : Sml e n (c + 1) m R' O' := by
  have hR := h.red.step hc hp h0 r1 r2 o1 o2 o3 hs hk
  have hlen : O'.length = O.length + 1 := by
    have := congrArg List.length hk
    simpa using this
  obtain ⟨A, hI, hA, hmR, hmO⟩ := h.made
  obtain ⟨gp, lp, bp, up, hgp, hlp, hbp, hrp⟩ := hmR p hp
  have hlow : ∀ k ∈ O.map (·.1), p k = 0 := fun k hk => by
    obtain ⟨o, ho, rfl⟩ := List.mem_map.1 hk
    exact h.red.low p hp _ (h.red.lt ho)
  refine ⟨hR, ⟨put A O.length bp, ?_, ?_, ?_, ?_⟩, hP, hQ⟩
  · rw [hlen, hk]
    exact Ind.snoc hI hgp hlp hrp hlow h0
  · intro i hi j
    rw [hlen] at hi
    unfold put
    split
    · exact hbp j
    · exact hA i (by omega) j
  · intro r' hr'
    obtain ⟨r, hr, g1, hg1, e1⟩ := r1 r' hr'
    obtain ⟨g, l, b, u, hg, hl, hb, e2⟩ := hmR r hr
    refine ⟨g1 * g * gp, l * gp * p c, b, fun i => if i = O.length then -(lp * g * r c) else u i * (gp * p c) - up i * (g * r c), mul_ne (mul_ne hg1 hg) hgp, mul_ne (mul_ne hl hgp) h0, hb, fun j => ?_⟩
    rw [hlen, dot_more, dotN_comb]
    have e3 := hrp j
    have e4 := e2 j
    have e5 := e1 j
    have x1 : g1 * g * gp * r' j = (g * r j) * (gp * p c) - (gp * p j) * (g * r c) := by
      rw [show g1 * g * gp * r' j = (g * gp) * (g1 * r' j) by simp only [Int.mul_assoc, Int.mul_comm, Int.mul_left_comm], e5, Int.mul_sub]
      congr 1 <;> simp only [Int.mul_assoc, Int.mul_comm, Int.mul_left_comm]
    rw [x1, e4, e3, Int.add_mul, Int.add_mul, Int.neg_mul]
    have x2 : l * b j * (gp * p c) = l * gp * p c * b j := by simp only [Int.mul_assoc, Int.mul_comm, Int.mul_left_comm]
    have x3 : lp * bp j * (g * r c) = lp * g * r c * bp j := by simp only [Int.mul_assoc, Int.mul_comm, Int.mul_left_comm]
    rw [x2, x3]
    omega
  · intro o' ho'
    rcases o1 o' ho' with ⟨o, ho, _, g1, hg1, e1⟩ | rfl
    · obtain ⟨g, u, hg, e2⟩ := hmO o ho
      refine ⟨g1 * g * gp, fun i => if i = O.length then -(lp * g * o.2 c) else u i * (gp * p c) - up i * (g * o.2 c), mul_ne (mul_ne hg1 hg) hgp, fun j => ?_⟩
      rw [hlen, dot_more, dotN_comb]
      have e3 := hrp j
      have e4 := e2 j
      have e5 := e1 j
      have x1 : g1 * g * gp * o'.2 j = (g * o.2 j) * (gp * p c) - (gp * p j) * (g * o.2 c) := by
        rw [show g1 * g * gp * o'.2 j = (g * gp) * (g1 * o'.2 j) by simp only [Int.mul_assoc, Int.mul_comm, Int.mul_left_comm], e5, Int.mul_sub]
        congr 1 <;> simp only [Int.mul_assoc, Int.mul_comm, Int.mul_left_comm]
      rw [x1, e4, e3, Int.add_mul, Int.neg_mul]
      have x3 : lp * bp j * (g * o.2 c) = lp * g * o.2 c * bp j := by simp only [Int.mul_assoc, Int.mul_comm, Int.mul_left_comm]
      rw [x3]
      omega
    · obtain ⟨g', hg', es⟩ := hs
      refine ⟨gp * g', fun i => if i = O.length then lp else up i, mul_ne hgp hg', fun j => ?_⟩
      rw [hlen, dot_more]
      show gp * g' * p' j = _
      rw [Int.mul_assoc, ← es j, hrp j, Int.add_comm]

theorem pivs_len (n : Nat) (m : List Vec) (c : Nat) : (pivs n m c).length ≤ c := by
  unfold pivs
  have := List.length_filter_le (fun j => decide (¬ Free n m j)) (List.range c)
  rwa [List.length_range] at this

theorem Sml.count {e : Nat → Nat} {n c : Nat} {m R : List Vec} {O : List (Nat × Vec)} (h : Sml e n c m R O) : O.length = (pivs n m c).length := by
  have := congrArg List.length h.red.keys
  simpa using this

theorem powR {t : Nat} (h : t ≤ 5) : (t + 1) * facA 2 t ≤ 23040 := by
  rcases (by omega : t = 0 ∨ t = 1 ∨ t = 2 ∨ t = 3 ∨ t = 4 ∨ t = 5) with rfl | rfl | rfl | rfl | rfl | rfl <;> decide
theorem powX {t : Nat} (h : t ≤ 6) : (t + 1) * facA 2 t ≤ 322560 := by
  rcases (by omega : t = 0 ∨ t = 1 ∨ t = 2 ∨ t = 3 ∨ t = 4 ∨ t = 5 ∨ t = 6) with rfl | rfl | rfl | rfl | rfl | rfl | rfl <;> decide
theorem powO {t : Nat} (h : t ≤ 6) : t * facA 2 (t - 1) ≤ 23040 := by
  rcases (by omega : t = 0 ∨ t = 1 ∨ t = 2 ∨ t = 3 ∨ t = 4 ∨ t = 5 ∨ t = 6) with rfl | rfl | rfl | rfl | rfl | rfl | rfl <;> decide

theorem Sml.boundR {e : Nat → Nat} {n c : Nat} {m R : List Vec} {O : List (Nat × Vec)} (h : Sml e n c m R O) (ht : O.length ≤ 5) (he : ∀ k, k < c → e k ≤ 2) {r : Vec} (hr : r ∈ R) : ∀ j, j < n → (r j).natAbs ≤ 23040 * e j := by
  intro j hj
  rcases h.prim r hr with hp | h0
  · obtain ⟨A, hI, hA, hmR, _⟩ := h.made
    obtain ⟨g, l, b, u, hg, hl, hb, e2⟩ := hmR r hr
    have hlow : ∀ k ∈ O.map (·.1), r k = 0 ∧ k < c := fun k hk => by
      obtain ⟨o, ho, rfl⟩ := List.mem_map.1 hk
      exact ⟨h.red.low r hr _ (h.red.lt ho), h.red.lt ho⟩
    have := small (n := n) hI (by simp) (by omega) (fun k hk => he k (hlow k hk).2) hA hb hb hg hl e2 (fun k hk => by rw [← e2 k, (hlow k hk).1, Int.mul_zero]) hp j hj
    refine Nat.le_trans this ?_
    rw [← Nat.mul_assoc]
    exact Nat.mul_le_mul_right _ (powR ht)
  · rw [h0 j]; exact Nat.zero_le _

theorem Sml.boundO {e : Nat → Nat} {n c : Nat} {m R : List Vec} {O : List (Nat × Vec)} (h : Sml e n c m R O) (ht : O.length ≤ 6) (he : ∀ k, k < c → e k ≤ 2) {o : Nat × Vec} (ho : o ∈ O) : ∀ j, j < n → (o.2 j).natAbs ≤ 23040 * e j := by
  intro j hj
  obtain ⟨A, hI, hA, _, hmO⟩ := h.made
  obtain ⟨g, u, hg, e2⟩ := hmO o ho
  have hkc : ∀ k ∈ O.map (·.1), k < c := fun k hk => by
    obtain ⟨o, ho, rfl⟩ := List.mem_map.1 hk
    exact h.red.lt ho
  have hn : (O.map (·.1)).Nodup := by rw [h.red.keys]; exact pivs_nodup _ _ _
  have := smallO (n := n) hI (by simp) hn (by omega) (fun k hk => he k (hkc k hk)) hA (q := o.1) (List.mem_map_of_mem ho) hg e2 (fun k hk hne => by
    obtain ⟨q, hq, rfl⟩ := List.mem_map.1 hk
    exact h.red.off o ho q hq hne) (h.red.lead o ho).1 (h.primO o ho) j hj
  refine Nat.le_trans this ?_
  rw [← Nat.mul_assoc]
  exact Nat.mul_le_mul_right _ (powO ht)

/-- A primitive row that has one number alone. -/
theorem prim_one {n : Nat} {r : Vec} (hp : Prim n r) {c : Nat} (h : ∀ j, j < n → j ≠ c → r j = 0) : (r c).natAbs ≤ 1 := by
  have := hp (r c) (fun j hj => by
    by_cases e : j = c
    · rw [e]; exact Int.dvd_refl _
    · rw [h j hj e]; exact Int.dvd_zero _)
  have h2 := Int.natAbs_dvd_natAbs.2 this
  exact Nat.le_of_dvd (by decide) h2

theorem Sml.start {e : Nat → Nat} {n : Nat} {m R : List Vec} (r1 : ∀ r' ∈ R, ∃ r ∈ m, Sc r r') (r2 : ∀ r ∈ m, ∃ r' ∈ R, Sc r r') (hm : ∀ r ∈ m, ∀ j, (r j).natAbs ≤ e j) (hP : ∀ r ∈ R, Prim n r ∨ ∀ j, r j = 0) : Sml e n 0 m R [] where
  red := Red.start r1 r2
  made := ⟨fun _ _ => 0, fun _ _ i hi => absurd hi (Nat.not_lt_zero _), fun i hi => absurd hi (Nat.not_lt_zero _), fun r' hr' => by
    obtain ⟨r, hr, g, hg, es⟩ := r1 r' hr'
    refine ⟨g, 1, r, fun _ => 0, hg, by decide, hm r hr, fun j => ?_⟩
    rw [← es j, Int.one_mul]
    exact (Int.add_zero _).symm, fun o ho => absurd ho (by simp)⟩
  prim := hP
  primO := fun o ho => absurd ho (by simp)
end Go.Proofs.Ytabjcjieniokaaa.Lin
/- A row as a list, divided by its greatest divisor; a row cleared by another one. No condition. -/
namespace Go.Proofs.Ytabjcjieniokaaa.Lin
set_option linter.unusedVariables false
set_option linter.unusedSimpArgs false

def vec (r : List Int) : Vec := fun j => r.getD j 0
theorem vec_get {r : List Int} {j : Nat} (h : j < r.length) : vec r j = r[j] := by unfold vec; rw [List.getD_eq_getElem?_getD, List.getElem?_eq_getElem h]; rfl
theorem vec_out {r : List Int} {j : Nat} (h : r.length ≤ j) : vec r j = 0 := by unfold vec; rw [List.getD_eq_getElem?_getD, List.getElem?_eq_none h]; rfl
theorem vec_mem {r : List Int} {x : Int} (h : x ∈ r) : ∃ j, j < r.length ∧ vec r j = x := by
  obtain ⟨j, hj, e⟩ := List.mem_iff_getElem.1 h
  exact ⟨j, hj, by rw [vec_get hj, e]⟩
theorem vec_abs {r : List Int} {B : Nat} (h : ∀ x ∈ r, x.natAbs ≤ B) (j : Nat) : (vec r j).natAbs ≤ B := by
  by_cases hj : j < r.length
  · rw [vec_get hj]; exact h _ (List.getElem_mem hj)
  · rw [vec_out (by omega)]; exact Nat.zero_le _
theorem abs_vec {r : List Int} {B : Nat} (h : ∀ j, j < r.length → (vec r j).natAbs ≤ B) : ∀ x ∈ r, x.natAbs ≤ B := fun x hx => by
  obtain ⟨j, hj, e⟩ := vec_mem hx
  rw [← e]; exact h j hj

def gcdFrom (g : Nat) (r : List Int) : Nat := r.foldl (fun g x => Nat.gcd g x.natAbs) g
def gcdL (r : List Int) : Nat := gcdFrom 0 r
theorem gcdFrom_cons (g : Nat) (x : Int) (r : List Int) : gcdFrom g (x :: r) = gcdFrom (Nat.gcd g x.natAbs) r := rfl
theorem gcdFrom_dvd : ∀ (r : List Int) (g : Nat), gcdFrom g r ∣ g ∧ ∀ x ∈ r, gcdFrom g r ∣ x.natAbs
  | [], g => ⟨Nat.dvd_refl _, fun x hx => absurd hx (by simp)⟩
  | x :: r, g => by
    rw [gcdFrom_cons]
    obtain ⟨h1, h2⟩ := gcdFrom_dvd r (Nat.gcd g x.natAbs)
    refine ⟨Nat.dvd_trans h1 (Nat.gcd_dvd_left _ _), fun y hy => ?_⟩
    rcases List.mem_cons.1 hy with rfl | hy
    · exact Nat.dvd_trans h1 (Nat.gcd_dvd_right _ _)
    · exact h2 y hy
theorem dvd_gcdFrom : ∀ (r : List Int) (g d : Nat), d ∣ g → (∀ x ∈ r, d ∣ x.natAbs) → d ∣ gcdFrom g r
  | [], _, _, h, _ => h
  | x :: r, g, d, h, hr => by
    rw [gcdFrom_cons]
    exact dvd_gcdFrom r _ d (Nat.dvd_gcd h (hr x (List.mem_cons_self ..))) (fun y hy => hr y (List.mem_cons_of_mem _ hy))
theorem gcdL_zero {r : List Int} (h : gcdL r = 0) : ∀ x ∈ r, x = 0 := fun x hx => by
  have := (gcdFrom_dvd r 0).2 x hx
  rw [show gcdFrom 0 r = 0 from h] at this
  have := Nat.eq_zero_of_zero_dvd this
  omega
theorem gcdFrom_le {r : List Int} {g B : Nat} (hg : g ≤ B) (h : ∀ x ∈ r, x.natAbs ≤ B) : gcdFrom g r ≤ B := by
  by_cases h0 : ∀ x ∈ r, x = 0
  · by_cases hg0 : g = 0
    · subst hg0
      have h1 : ∀ r : List Int, (∀ x ∈ r, x = 0) → gcdFrom 0 r = 0 := by
        intro r
        induction r with
        | nil => intro _; rfl
        | cons x r ih =>
          intro h
          rw [gcdFrom_cons, h x (List.mem_cons_self ..)]
          exact ih (fun y hy => h y (List.mem_cons_of_mem _ hy))
      rw [h1 r h0]; exact Nat.zero_le _
    · exact Nat.le_trans (Nat.le_of_dvd (by omega) (gcdFrom_dvd r g).1) hg
  · obtain ⟨x, hx⟩ := Classical.not_forall.1 h0
    obtain ⟨hx, hne⟩ := Classical.not_imp.1 hx
    exact Nat.le_trans (Nat.le_of_dvd (by omega) ((gcdFrom_dvd r g).2 x hx)) (h x hx)
theorem gcdL_le {r : List Int} {B : Nat} (h : ∀ x ∈ r, x.natAbs ≤ B) : gcdL r ≤ B := gcdFrom_le (Nat.zero_le _) h

def nz (x : Int) : Bool := !decide (x = 0)
def leadL (r : List Int) : Nat := r.findIdx nz
def sgL (r : List Int) : Int := if vec r (leadL r) < 0 then -1 else 1
def divL (r : List Int) : Int := sgL r * (gcdL r : Int)
/-- The row divided by its greatest divisor, its first number that is not 0 made positive. -/
def tidyL (r : List Int) : List Int := if gcdL r = 0 then r else r.map (fun x => Int.tdiv x (divL r))
theorem tidyL_len (r : List Int) : (tidyL r).length = r.length := by unfold tidyL; split <;> simp
theorem divL_ne {r : List Int} (h : gcdL r ≠ 0) : divL r ≠ 0 := by unfold divL sgL; split <;> omega
theorem divL_abs (r : List Int) : (divL r).natAbs = gcdL r := by unfold divL sgL; split <;> omega
theorem divL_dvd {r : List Int} {x : Int} (h : x ∈ r) : divL r ∣ x := by
  rw [← Int.natAbs_dvd_natAbs, divL_abs]
  exact (gcdFrom_dvd r 0).2 x h
theorem tidyL_at {r : List Int} (h : gcdL r ≠ 0) (j : Nat) : vec r j = divL r * vec (tidyL r) j := by
  by_cases hj : j < r.length
  · rw [vec_get hj, vec_get (by rw [tidyL_len]; exact hj)]
    unfold tidyL
    simp only [if_neg h, List.getElem_map]
    rw [Int.mul_comm, Int.tdiv_mul_cancel (divL_dvd (List.getElem_mem hj))]
  · rw [vec_out (by omega), vec_out (by rw [tidyL_len]; omega), Int.mul_zero]
theorem tidyL_sc (r : List Int) : Sc (vec r) (vec (tidyL r)) := by
  by_cases h : gcdL r = 0
  · refine ⟨1, by decide, fun j => ?_⟩
    unfold tidyL
    rw [if_pos h, Int.one_mul]
  · exact ⟨divL r, divL_ne h, tidyL_at h⟩
theorem tidyL_prim {n : Nat} {r : List Int} (hn : r.length = n) : Prim n (vec (tidyL r)) ∨ ∀ j, vec (tidyL r) j = 0 := by
  by_cases h : gcdL r = 0
  · right
    intro j
    unfold tidyL
    rw [if_pos h]
    by_cases hj : j < r.length
    · rw [vec_get hj]; exact gcdL_zero h _ (List.getElem_mem hj)
    · exact vec_out (by omega)
  · left
    intro d hd
    have h1 : gcdL r * d.natAbs ∣ gcdL r := dvd_gcdFrom r 0 _ (Nat.dvd_zero _) (fun x hx => by
      obtain ⟨j, hj, e⟩ := vec_mem hx
      rw [← e, tidyL_at h j, Int.natAbs_mul, divL_abs]
      exact Nat.mul_dvd_mul_left _ (Int.natAbs_dvd_natAbs.2 (hd j (by omega))))
    have h2 : d.natAbs ∣ 1 := by
      have h3 : gcdL r * d.natAbs ∣ gcdL r * 1 := by rw [Nat.mul_one]; exact h1
      exact Nat.dvd_of_mul_dvd_mul_left (by omega) h3
    exact Int.natAbs_dvd_natAbs.1 h2

/-- The row r, cleared at column c by p. -/
def elimL (p : List Int) (c : Nat) (r : List Int) : List Int := (List.range r.length).map (fun i => vec r i * vec p c - vec p i * vec r c)
theorem elimL_len (p : List Int) (c : Nat) (r : List Int) : (elimL p c r).length = r.length := by unfold elimL; simp
theorem elimL_at {p : List Int} {c : Nat} {r : List Int} (h : p.length = r.length) (j : Nat) : vec (elimL p c r) j = vec r j * vec p c - vec p j * vec r c := by
  by_cases hj : j < r.length
  · rw [vec_get (by rw [elimL_len]; exact hj)]
    unfold elimL
    simp
  · rw [vec_out (r := elimL p c r) (by rw [elimL_len]; omega), vec_out (r := r) (j := j) (by omega), vec_out (r := p) (j := j) (by omega)]
    simp
theorem elimL_clr {p : List Int} {c : Nat} {r : List Int} (h : p.length = r.length) : Clr (vec p) c (vec r) (vec (tidyL (elimL p c r))) := by
  obtain ⟨g, hg, e⟩ := tidyL_sc (elimL p c r)
  exact ⟨g, hg, fun j => by rw [← e j, elimL_at h]⟩
theorem keep_clr {p r : Vec} {c : Nat} (h0 : p c ≠ 0) (h : r c = 0) : Clr p c r r := ⟨p c, h0, fun j => by rw [h, Int.mul_zero, Int.sub_zero, Int.mul_comm]⟩
theorem Clr.sc {p p' r r' : Vec} {c : Nat} (h : Clr p' c r r') (hs : Sc p p') : Clr p c r r' := by
  obtain ⟨g, hg, e⟩ := h
  obtain ⟨s, hs, e2⟩ := hs
  refine ⟨s * g, mul_ne hs hg, fun j => ?_⟩
  rw [e2 c, e2 j, Int.mul_assoc, e j, Int.mul_sub, Int.mul_left_comm s (r j), Int.mul_assoc s (p' j)]
def clrL (p : List Int) (c : Nat) (r : List Int) : List Int := if vec r c = 0 then r else tidyL (elimL p c r)
theorem clrL_len (p : List Int) (c : Nat) (r : List Int) : (clrL p c r).length = r.length := by
  unfold clrL
  split
  · rfl
  · rw [tidyL_len, elimL_len]
theorem clrL_clr {p : List Int} {c : Nat} {r : List Int} (h : p.length = r.length) (h0 : vec p c ≠ 0) : Clr (vec p) c (vec r) (vec (clrL p c r)) := by
  unfold clrL
  split
  · rename_i hr; exact keep_clr h0 hr
  · exact elimL_clr h
theorem clrL_prim {n : Nat} {p : List Int} {c : Nat} {r : List Int} (hn : r.length = n) (h : Prim n (vec r) ∨ ∀ j, vec r j = 0) : Prim n (vec (clrL p c r)) ∨ ∀ j, vec (clrL p c r) j = 0 := by
  unfold clrL
  split
  · exact h
  · exact tidyL_prim (by rw [elimL_len]; exact hn)
theorem prim_ne {n m : Nat} {r : Vec} (h : r n ≠ 0) (hq : Prim m r ∨ ∀ j, r j = 0) : Prim m r := by
  rcases hq with hq | hq
  · exact hq
  · exact absurd (hq n) h

theorem mul_abs {x y : Int} {B C : Nat} (h1 : x.natAbs ≤ B) (h2 : y.natAbs ≤ C) : (x * y).natAbs ≤ B * C := by rw [Int.natAbs_mul]; exact Nat.mul_le_mul h1 h2
theorem elimL_abs {p r : List Int} {c B C : Nat} (hp : ∀ x ∈ p, x.natAbs ≤ B) (hr : ∀ x ∈ r, x.natAbs ≤ C) : ∀ x ∈ elimL p c r, x.natAbs ≤ 2 * (B * C) := fun x hx => by
  unfold elimL at hx
  obtain ⟨i, _, rfl⟩ := List.mem_map.1 hx
  have h1 := mul_abs (vec_abs hr i) (vec_abs hp c)
  have h2 := mul_abs (vec_abs hp i) (vec_abs hr c)
  rw [Nat.mul_comm] at h1
  omega
end Go.Proofs.Ytabjcjieniokaaa.Lin
/- Plain lemmas: the divisors and the rows' tidying, of the reference and of the program. Condition: the numbers are no greater than an int can be, either way. -/
namespace Go.Proofs.Ytabjcjieniokaaa.Pure
open Go.RowKit Go.Proofs.Ytabjcjieniokaaa.Z Go.Proofs.YtabjcjieniokaaaW.PrintWords Go.Proofs.Ytabjcjieniokaaa.Lin
set_option linter.unusedVariables false
set_option linter.unusedSimpArgs false

theorem tmod_nat (a b : Nat) : Int.tmod (a : Int) (b : Int) = ((a % b : Nat) : Int) := (Int.ofNat_tmod a b).symm
theorem gcd_turn (a b : Nat) : Nat.gcd b (a % b) = Nat.gcd a b := by rw [Nat.gcd_comm b, ← Nat.gcd_rec, Nat.gcd_comm]

theorem impl_gcd_loop : ∀ (n b a : Nat), b ≤ n → Ev (fun k => impl_gcd.l0 k (a : Int) (b : Int)) ((Nat.gcd a b : Nat) : Int)
  | 0, b, a, h => by
    obtain rfl : b = 0 := by omega
    refine Ev.step (fun k => by rw [impl_gcd.l0]) ?_
    refine Ev.ifpos rfl (Ev.pure ?_)
    rw [Nat.gcd_zero_right]
  | n + 1, b, a, h => by
    refine Ev.step (fun k => by rw [impl_gcd.l0]) ?_
    by_cases hb : b = 0
    · subst hb
      refine Ev.ifpos rfl (Ev.pure ?_)
      rw [Nat.gcd_zero_right]
    · refine Ev.ifneg (by omega) ?_
      rw [tmod_nat, ← gcd_turn]
      exact impl_gcd_loop n (a % b) b (by have := Nat.mod_lt a (Nat.pos_of_ne_zero hb); omega)
theorem impl_gcd_ev (a b : Int) (ha : a.natAbs ≤ 9223372036854775807) (hb : b.natAbs ≤ 9223372036854775807) : Ev (fun k => impl_gcd.f k a b) ((Nat.gcd a.natAbs b.natAbs : Nat) : Int) := by
  have hloop := impl_gcd_loop b.natAbs b.natAbs a.natAbs (Nat.le_refl _)
  have h1 : Ev (fun k => impl_gcd.j0 k (a.natAbs : Int) b) ((Nat.gcd a.natAbs b.natAbs : Nat) : Int) := by
    refine Ev.step (fun k => by rw [impl_gcd.j0]) ?_
    by_cases h0 : b < 0
    · refine Ev.ifpos h0 ?_
      rw [wrap_in (by omega) (by omega), show -b = ((b.natAbs : Nat) : Int) by omega]
      exact Ev.step (fun k => by rw [impl_gcd.j1]) hloop
    · refine Ev.ifneg h0 ?_
      refine Ev.step (fun k => by rw [impl_gcd.j1]) ?_
      rw [show b = ((b.natAbs : Nat) : Int) by omega]
      simpa using hloop
  unfold impl_gcd.f
  by_cases h0 : a < 0
  · refine Ev.ifpos h0 ?_
    rw [wrap_in (by omega) (by omega), show -a = ((a.natAbs : Nat) : Int) by omega]
    exact h1
  · refine Ev.ifneg h0 ?_
    have e : ((a.natAbs : Nat) : Int) = a := by omega
    rw [e] at h1
    exact h1

theorem gcdTo (r : List Int) (i : Nat) (h : i < r.length) : Nat.gcd (gcdL (r.take i)) r[i].natAbs = gcdL (r.take (i + 1)) := by
  unfold gcdL gcdFrom
  rw [List.take_succ_eq_append_getElem h, List.foldl_append]
  rfl
theorem gcdTo_le {r : List Int} {B : Nat} (h : ∀ x ∈ r, x.natAbs ≤ B) (i : Nat) : gcdL (r.take i) ≤ B := gcdL_le (fun x hx => h x (List.mem_of_mem_take hx))

theorem leadL_at {r : List Int} (h : leadL r < r.length) : r[leadL r] ≠ 0 := by
  have h1 : nz r[leadL r] = true := List.findIdx_getElem (w := h)
  unfold nz at h1
  intro h0
  rw [h0] at h1
  exact absurd h1 (by decide)
theorem leadL_lt {r : List Int} {i : Nat} (hi : i < r.length) (h : i < leadL r) : r[i] = 0 := by
  have h1 : nz r[i] = false := List.not_of_lt_findIdx h
  unfold nz at h1
  exact Classical.byContradiction (fun h0 => by rw [decide_eq_false h0] at h1; exact absurd h1 (by decide))
theorem leadL_is {r : List Int} {i : Nat} (hi : i < r.length) (h : i ≤ leadL r) (h0 : r[i] ≠ 0) : leadL r = i := by
  rcases Nat.lt_or_ge i (leadL r) with h1 | h1
  · exact absurd (leadL_lt hi h1) h0
  · omega
theorem leadL_some {r : List Int} (h : gcdL r ≠ 0) : leadL r < r.length := by
  refine Classical.byContradiction (fun hn => h ?_)
  have h0 : ∀ x ∈ r, x = 0 := fun x hx => by
    obtain ⟨i, hi, rfl⟩ := List.mem_iff_getElem.1 hx
    exact leadL_lt hi (by omega)
  have : ((gcdL r : Nat)) ≤ 0 := gcdL_le (fun x hx => by rw [h0 x hx]; exact Nat.le_refl 0)
  omega
theorem firstAt_nz {r : List Int} (h : leadL r < r.length) : firstAt notZero r = ((leadL r : Nat) : Int) := by
  unfold firstAt
  have e : r.findIdx notZero = leadL r := rfl
  rw [e, if_pos h]

theorem tdiv_abs (x d : Int) : (Int.tdiv x d).natAbs ≤ x.natAbs := by
  rw [Int.natAbs_tdiv]
  exact Nat.div_le_self _ _
theorem tidyL_get {r : List Int} (h : gcdL r ≠ 0) {i : Nat} (hi : i < r.length) : (tidyL r)[i]'(by rw [tidyL_len]; exact hi) = Int.tdiv r[i] (divL r) := by
  unfold tidyL
  simp only [if_neg h, List.getElem_map]

theorem impl_tidy_last (r : List Int) (hl : r.length ≤ 1048576) (hr : ∀ x ∈ r, x.natAbs ≤ 9223372036854775807) (hg : gcdL r ≠ 0) : Ev (fun k => impl_tidy.l1 k r (divL r) (r.length : Int) 0) (tidyL r) := by
  have key := Ev.up r.length (fun i s k => impl_tidy.l1 k s (divL r) (r.length : Int) (i : Int)) (fun _ _ => tidyL r) (fun i s => s = mixL (tidyL r) r i) ?_ ?_ 0 r (Nat.zero_le _) (mixL_zero _ _).symm
  · simpa using key
  · rintro s rfl
    refine Ev.step (fun k => by rw [impl_tidy.l1]) ?_
    exact Ev.ifneg (by omega) (Ev.pure (mixL_all _ _ (tidyL_len r) rfl))
  · rintro i s hi rfl ih
    refine Ev.step (fun k => by rw [impl_tidy.l1]) ?_
    have hml := mixL_len (tidyL r) r (tidyL_len r) (Nat.le_of_lt hi)
    have hat : rd (mixL (tidyL r) r i) (i : Int) = r[i] := by rw [rd_nat]; exact mixL_at _ _ _ (tidyL_len r) hi
    have h1 := tdiv_abs r[i] (divL r)
    have h2 := hr _ (List.getElem_mem hi)
    refine Ev.ifpos (by omega) (Ev.ifpos (by omega) (Ev.ifpos (by omega) (Ev.ifneg (divL_ne hg) ?_)))
    rw [hat, wrap_in (by omega) (by omega), ← tidyL_get hg hi, wrap_succ (by omega), Int.toNat_natCast]
    exact ih _ (mixL_set _ _ (tidyL_len r) hi)

theorem impl_tidy_ev (r : List Int) (hl : r.length ≤ 1048576) (hr : ∀ x ∈ r, x.natAbs ≤ 9223372036854775807) : Ev (fun k => impl_tidy.f k r) (tidyL r) := by
  unfold impl_tidy.f
  have key := Ev.up0 r.length (fun i k => impl_tidy.l0 k r ((gcdL (r.take i) : Nat) : Int) r (r.length : Int) (i : Int)) (fun _ => tidyL r) ?_ ?_ 0 (Nat.zero_le _)
  · simpa [gcdL, gcdFrom] using key
  · refine Ev.step (fun k => by rw [impl_tidy.l0]) ?_
    rw [List.take_length]
    refine Ev.ifneg (by omega) ?_
    by_cases hg : gcdL r = 0
    · refine Ev.ifpos (by omega) (Ev.pure ?_)
      unfold tidyL
      rw [if_pos hg]
    · have hld := leadL_some hg
      have hgl := gcdL_le hr
      refine Ev.ifneg (by omega) (Ev.bind0 (a := ((leadL r : Nat) : Int)) (by unfold impl_lead.f; rw [firstAt_nz hld]) (Ev.ifpos (by omega) (Ev.ifpos (by omega) ?_)))
      have hlast := impl_tidy_last r hl hr hg
      have ed : divL r = if rd r ((leadL r : Nat) : Int) < 0 then -((gcdL r : Nat) : Int) else ((gcdL r : Nat) : Int) := by
        unfold divL sgL
        rw [rd_nat]
        show (if vec r (leadL r) < 0 then (-1 : Int) else 1) * _ = if vec r (leadL r) < 0 then _ else _
        split <;> omega
      by_cases h0 : rd r ((leadL r : Nat) : Int) < 0
      · refine Ev.ifpos h0 ?_
        refine Ev.step (fun k => by rw [impl_tidy.j1]) ?_
        rw [wrap_in (by omega) (by omega)]
        rw [ed, if_pos h0] at hlast
        exact hlast
      · refine Ev.ifneg h0 ?_
        refine Ev.step (fun k => by rw [impl_tidy.j1]) ?_
        rw [ed, if_neg h0] at hlast
        exact hlast
  · intro i hi ih
    refine Ev.step (fun k => by rw [impl_tidy.l0]) ?_
    refine Ev.ifpos (by omega) (Ev.ifpos (by omega) (Ev.ifpos (by omega) ?_))
    have h1 := impl_gcd_ev ((gcdL (r.take i) : Nat) : Int) r[i] (by rw [Int.natAbs_natCast]; exact gcdTo_le hr i) (hr _ (List.getElem_mem hi))
    rw [Int.natAbs_natCast, gcdTo r i hi] at h1
    rw [rd_get r i hi, wrap_succ (by omega)]
    exact Ev.bind h1 ih

end Go.Proofs.Ytabjcjieniokaaa.Pure
/- Reducing rows as lists: one column, whatever the order of the rows that remain. No condition. -/
namespace Go.Proofs.Ytabjcjieniokaaa.Lin
set_option linter.unusedVariables false
set_option linter.unusedSimpArgs false

def vecO (O : List (Nat × List Int)) : List (Nat × Vec) := O.map fun o => (o.1, vec o.2)
structure InvL (e : Nat → Nat) (n c : Nat) (M : List Vec) (R : List (List Int)) (O : List (Nat × List Int)) : Prop where
  lenR : ∀ r ∈ R, r.length = n
  lenO : ∀ o ∈ O, o.2.length = n
  sml : Sml e n c M (R.map vec) (vecO O)

theorem InvL.red {e : Nat → Nat} {n c : Nat} {M : List Vec} {R : List (List Int)} {O : List (Nat × List Int)} (h : InvL e n c M R O) : Red n c M (R.map vec) (vecO O) := h.sml.red
theorem vecO_mem {O : List (Nat × List Int)} {o : Nat × List Int} (h : o ∈ O) : (o.1, vec o.2) ∈ vecO O := List.mem_map.2 ⟨o, h, rfl⟩
theorem InvL.low {e : Nat → Nat} {n c : Nat} {M : List Vec} {R : List (List Int)} {O : List (Nat × List Int)} (h : InvL e n c M R O) {r : List Int} (hr : r ∈ R) : ∀ j, j < c → vec r j = 0 := h.red.low _ (List.mem_map_of_mem hr)
theorem InvL.lead {e : Nat → Nat} {n c : Nat} {M : List Vec} {R : List (List Int)} {O : List (Nat × List Int)} (h : InvL e n c M R O) {o : Nat × List Int} (ho : o ∈ O) : vec o.2 o.1 ≠ 0 ∧ ∀ j, j < o.1 → vec o.2 j = 0 := h.red.lead _ (vecO_mem ho)
theorem InvL.lt {e : Nat → Nat} {n c : Nat} {M : List Vec} {R : List (List Int)} {O : List (Nat × List Int)} (h : InvL e n c M R O) {o : Nat × List Int} (ho : o ∈ O) : o.1 < c := h.red.lt (vecO_mem ho)
theorem InvL.count {e : Nat → Nat} {n c : Nat} {M : List Vec} {R : List (List Int)} {O : List (Nat × List Int)} (h : InvL e n c M R O) : O.length = (pivs n M c).length := by
  have := h.sml.count
  unfold vecO at this
  rwa [List.length_map] at this
theorem InvL.few {e : Nat → Nat} {n c : Nat} {M : List Vec} {R : List (List Int)} {O : List (Nat × List Int)} (h : InvL e n c M R O) : O.length ≤ c := by
  rw [h.count]; exact pivs_len _ _ _

theorem InvL.skip {e : Nat → Nat} {n c : Nat} {M : List Vec} {R : List (List Int)} {O : List (Nat × List Int)} (h : InvL e n c M R O) (hc : c < n) (h0 : ∀ r ∈ R, vec r c = 0) : InvL e n (c + 1) M R O :=
  ⟨h.lenR, h.lenO, h.sml.skip hc (fun r hr => by
    obtain ⟨q, hq, rfl⟩ := List.mem_map.1 hr
    exact h0 q hq)⟩

theorem InvL.step {e : Nat → Nat} {n c : Nat} {M : List Vec} {R R1 : List (List Int)} {O : List (Nat × List Int)} (h : InvL e n c M R O) (hc : c < n) {p p' : List Int} (hp : p ∈ R) (h0 : vec p c ≠ 0) (hs : Sc (vec p) (vec p')) (hl : p'.length = n) (hq : Prim n (vec p') ∨ ∀ j, vec p' j = 0)
    (i1 : ∀ r ∈ R1, r ∈ R) (i2 : ∀ r ∈ R, r = p ∨ r ∈ R1) : InvL e n (c + 1) M (R1.map (clrL p' c)) (O.map (fun o => (o.1, clrL p' c o.2)) ++ [(c, p')]) := by
  have h0' : vec p' c ≠ 0 := by
    obtain ⟨g, hg, es⟩ := hs
    exact fun e0 => h0 (by rw [es c, e0, Int.mul_zero])
  have hcl : ∀ r : List Int, r.length = n → Clr (vec p) c (vec r) (vec (clrL p' c r)) := fun r hr => (clrL_clr (by rw [hl, hr]) h0').sc hs
  have hlo : ∀ o ∈ vecO (O.map (fun o => (o.1, clrL p' c o.2)) ++ [(c, p')]), (∃ q ∈ O, o.1 = q.1 ∧ o.2 = vec (clrL p' c q.2)) ∨ o = (c, vec p') := fun o ho => by
    unfold vecO at ho
    rw [List.map_append, List.map_map] at ho
    rcases List.mem_append.1 ho with ho | ho
    · obtain ⟨q, hq, rfl⟩ := List.mem_map.1 ho
      exact .inl ⟨q, hq, rfl, rfl⟩
    · exact .inr (List.mem_singleton.1 ho)
  refine ⟨fun r hr => ?_, fun o ho => ?_, ?_⟩
  · obtain ⟨q, hq, rfl⟩ := List.mem_map.1 hr
    rw [clrL_len]; exact h.lenR q (i1 q hq)
  · rcases List.mem_append.1 ho with ho | ho
    · obtain ⟨q, hq, rfl⟩ := List.mem_map.1 ho
      show (clrL p' c q.2).length = n
      rw [clrL_len]; exact h.lenO q hq
    · rw [List.mem_singleton.1 ho]; exact hl
  · refine Sml.step h.sml hc (p := vec p) (p' := vec p') (List.mem_map_of_mem hp) h0 (fun r' hr' => ?_) (fun r hr => ?_) (fun o' ho' => ?_) (fun o ho => ?_) ?_ hs ?_ (fun r' hr' => ?_) (fun o' ho' => ?_)
    · obtain ⟨r1, hr1, rfl⟩ := List.mem_map.1 hr'
      obtain ⟨r, hr, rfl⟩ := List.mem_map.1 hr1
      exact ⟨vec r, List.mem_map_of_mem (i1 r hr), hcl r (h.lenR r (i1 r hr))⟩
    · obtain ⟨q, hq, rfl⟩ := List.mem_map.1 hr
      rcases i2 q hq with rfl | h1
      · exact .inl rfl
      · exact .inr ⟨_, List.mem_map_of_mem (List.mem_map_of_mem h1), hcl q (h.lenR q hq)⟩
    · rcases hlo o' ho' with ⟨q, hq, e1, e2⟩ | e1
      · exact .inl ⟨_, vecO_mem hq, e1, by rw [e2]; exact hcl q.2 (h.lenO q hq)⟩
      · exact .inr e1
    · obtain ⟨q, hq, rfl⟩ := List.mem_map.1 ho
      refine ⟨(q.1, vec (clrL p' c q.2)), ?_, rfl, hcl q.2 (h.lenO q hq)⟩
      exact vecO_mem (o := (q.1, clrL p' c q.2)) (List.mem_append_left _ (List.mem_map.2 ⟨q, hq, rfl⟩))
    · exact vecO_mem (o := (c, p')) (List.mem_append_right _ (List.mem_singleton.2 rfl))
    · unfold vecO
      simp [Function.comp_def]
    · obtain ⟨r1, hr1, rfl⟩ := List.mem_map.1 hr'
      obtain ⟨r, hr, rfl⟩ := List.mem_map.1 hr1
      exact clrL_prim (h.lenR r (i1 r hr)) (h.sml.prim _ (List.mem_map_of_mem (i1 r hr)))
    · rcases hlo o' ho' with ⟨q, hq, e1, e2⟩ | e1
      · rw [e2]
        refine prim_ne (n := q.1) ?_ (clrL_prim (h.lenO q hq) (.inl (h.sml.primO _ (vecO_mem hq))))
        exact (hcl q.2 (h.lenO q hq)).keep h0 (h.lead hq).1 (h.low hp _ (h.lt hq))
      · rw [e1]; exact prim_ne (n := c) h0' hq

theorem InvL.start {e : Nat → Nat} {n : Nat} {m : List (List Int)} (hl : ∀ r ∈ m, r.length = n) (hm : ∀ r ∈ m, ∀ j, (vec r j).natAbs ≤ e j) : InvL e n 0 (m.map vec) (m.map tidyL) [] := by
  refine ⟨fun r hr => ?_, fun o ho => absurd ho (by simp), ?_⟩
  · obtain ⟨q, hq, rfl⟩ := List.mem_map.1 hr
    rw [tidyL_len]; exact hl q hq
  · show Sml e n 0 (m.map vec) ((m.map tidyL).map vec) []
    refine Sml.start (fun r' hr' => ?_) (fun r hr => ?_) (fun r hr => ?_) (fun r' hr' => ?_)
    · obtain ⟨r1, hr1, rfl⟩ := List.mem_map.1 hr'
      obtain ⟨r, hr, rfl⟩ := List.mem_map.1 hr1
      exact ⟨vec r, List.mem_map_of_mem hr, tidyL_sc r⟩
    · obtain ⟨q, hq, rfl⟩ := List.mem_map.1 hr
      exact ⟨vec (tidyL q), List.mem_map_of_mem (List.mem_map_of_mem hq), tidyL_sc q⟩
    · obtain ⟨q, hq, rfl⟩ := List.mem_map.1 hr
      exact hm q hq
    · obtain ⟨r1, hr1, rfl⟩ := List.mem_map.1 hr'
      obtain ⟨r, hr, rfl⟩ := List.mem_map.1 hr1
      exact tidyL_prim (hl r hr)

/-- The columns: s of them, at most 6, whose numbers are at most 2 at first; at most one more, with numbers up to 1000. -/
structure Cols (e : Nat → Nat) (s n : Nat) : Prop where
  six : s ≤ 6
  one : n ≤ s + 1
  small : ∀ k, k < s → e k ≤ 2
  all : ∀ k, e k ≤ 1000

theorem InvL.boundR {e : Nat → Nat} {s n c : Nat} {M : List Vec} {R : List (List Int)} {O : List (Nat × List Int)} (h : InvL e n c M R O) (hE : Cols e s n) (hc : c < n) {r : List Int} (hr : r ∈ R) : ∀ x ∈ r, x.natAbs ≤ 23040000 := by
  have hn := h.lenR r hr
  refine abs_vec (fun j hj => ?_)
  have hf := h.few
  have h1 := hE.one
  have h6 := hE.six
  by_cases h5 : c ≤ 5
  · have := h.sml.boundR (by unfold vecO; rw [List.length_map]; omega) (fun k hk => hE.small k (by omega)) (List.mem_map_of_mem hr) j (by omega)
    have := hE.all j
    omega
  · rcases h.sml.prim _ (List.mem_map_of_mem hr) with hp | h0
    · have hlow := h.low hr
      by_cases e1 : j = c
      · subst e1
        have := prim_one hp (c := j) (fun i hi hne => hlow i (by omega))
        omega
      · rw [hlow j (by omega)]; decide
    · rw [h0 j]; decide
theorem InvL.boundO {e : Nat → Nat} {s n c : Nat} {M : List Vec} {R : List (List Int)} {O : List (Nat × List Int)} (h : InvL e n c M R O) (hE : Cols e s n) (hc : c ≤ s) {o : Nat × List Int} (ho : o ∈ O) : ∀ x ∈ o.2, x.natAbs ≤ 23040000 := by
  have hn := h.lenO o ho
  refine abs_vec (fun j hj => ?_)
  have hf := h.few
  have h6 := hE.six
  have := h.sml.boundO (by unfold vecO; rw [List.length_map]; omega) (fun k hk => hE.small k (by omega)) (vecO_mem ho) j (by omega)
  have := hE.all j
  show (vec o.2 j).natAbs ≤ 23040000
  have h9 : (vec o.2 j).natAbs ≤ 23040 * e j := by assumption
  omega
end Go.Proofs.Ytabjcjieniokaaa.Lin
/- Plain lemmas: the program's reduceAny comes to reduced rows, one for each pivot. Conditions: at most 6 columns of numbers up to 2, at most one more of numbers up to 1000. -/
namespace Go.Proofs.Ytabjcjieniokaaa.Pure
open Go.RowKit Go.Proofs.Ytabjcjieniokaaa.Z Go.Proofs.YtabjcjieniokaaaW.PrintWords Go.Proofs.Ytabjcjieniokaaa.Lin
set_option linter.unusedVariables false
set_option linter.unusedSimpArgs false

theorem elimRow_eq {p r : List Int} {c P Q : Nat} (hl : p.length = r.length) (hp : ∀ x ∈ p, x.natAbs ≤ P) (hr : ∀ x ∈ r, x.natAbs ≤ Q) (hPQ : P * Q ≤ 4611686018427387903) : elimRow p c r = elimL p c r := by
  unfold elimRow elimL
  apply List.map_congr_left
  intro i _
  have h1 := mul_abs (vec_abs hr i) (vec_abs hp c)
  have h2 := mul_abs (vec_abs hp i) (vec_abs hr c)
  rw [Nat.mul_comm] at h1
  show wrap64 (wrap64 (vec r i * vec p c) - wrap64 (vec p i * vec r c)) = _
  generalize vec r i * vec p c = x at *
  generalize vec p i * vec r c = y at *
  rw [wrap_in (n := x) (by omega) (by omega), wrap_in (n := y) (by omega) (by omega), wrap_in (by omega) (by omega)]
theorem elim_abs {p r : List Int} {c P Q : Nat} (hp : ∀ x ∈ p, x.natAbs ≤ P) (hr : ∀ x ∈ r, x.natAbs ≤ Q) (hPQ : P * Q ≤ 4611686018427387903) : ∀ x ∈ elimL p c r, x.natAbs ≤ 9223372036854775807 := fun x hx => by
  have := elimL_abs (c := c) hp hr x hx
  omega

theorem impl_clr_ev {p r : List Int} {c P Q : Nat} (hl : p.length = r.length) (hn : r.length ≤ 1048576) (hp : ∀ x ∈ p, x.natAbs ≤ P) (hr : ∀ x ∈ r, x.natAbs ≤ Q) (hPQ : P * Q ≤ 4611686018427387903) : Ev (fun k => clrO (fun r => impl_tidy.f k r) p c r) (clrL p c r) := by
  have ht := impl_tidy_ev (elimL p c r) (by rw [elimL_len]; exact hn) (elim_abs hp hr hPQ)
  unfold clrL
  by_cases h0 : vec r c = 0
  · rw [if_pos h0]
    refine Ev.congr (f := fun _ => some r) (fun k => ?_) (Ev.now _)
    unfold clrO
    exact if_pos h0
  · rw [if_neg h0]
    refine Ev.congr (f := fun k => (impl_tidy.f k (elimL p c r)).bind fun t => if t.length = r.length then some t else none) (fun k => ?_) (Ev.bind ht (Ev.ifpos (by rw [tidyL_len, elimL_len]) (Ev.now _)))
    unfold clrO
    rw [elimRow_eq hl hp hr hPQ]
    exact if_neg h0

theorem mapO_ev {α β : Type} {f : Nat → α → Option β} {g : α → β} : ∀ l : List α, (∀ x ∈ l, Ev (fun k => f k x) (g x)) → Ev (fun k => mapO (f k) l) (l.map g)
  | [], _ => Ev.now _
  | x :: l, h => by
    refine Ev.congr (f := fun k => (f k x).bind fun y => (mapO (f k) l).bind fun q => some (y :: q)) (fun k => rfl) ?_
    exact Ev.bind (h x (List.mem_cons_self ..)) (Ev.bind (mapO_ev l (fun y hy => h y (List.mem_cons_of_mem _ hy))) (Ev.now _))

theorem leadIs_iff {c : Nat} {r : List Int} (hc : c < r.length) (hlow : ∀ j, j < c → vec r j = 0) : leadIs c r = true ↔ vec r c ≠ 0 := by
  have hge : c ≤ leadL r := by
    refine Classical.byContradiction (fun hn => ?_)
    have h1 : leadL r < r.length := by omega
    have h2 := hlow (leadL r) (by omega)
    rw [vec_get h1] at h2
    exact leadL_at h1 h2
  rw [vec_get hc]
  unfold leadIs
  rw [decide_eq_true_iff]
  have e : r.findIdx (fun n => !decide (n = 0)) = leadL r := rfl
  unfold firstAt
  rw [e]
  constructor
  · intro h
    split at h
    · have : leadL r = c := by omega
      have h3 := leadL_at (r := r) (by omega)
      simpa [this] using h3
    · omega
  · intro h
    have := leadL_is hc hge h
    rw [this, if_pos hc]

section
variable {e : Nat → Nat} {s n : Nat} {M : List Vec} (hE : Cols e s n)
include hE

theorem colO_ev {c : Nat} {R : List (List Int)} {O : List (Nat × List Int)} (h : InvL e n c M R O) (hc : c < n) :
    ∃ R1 O1, Ev (fun k => colO (fun r => impl_tidy.f k r) c (R, O.map (·.2))) (R1, O1.map (·.2)) ∧ InvL e n (c + 1) M R1 O1 := by
  have h6 := hE.six
  have h1s := hE.one
  by_cases hf : firstAt (leadIs c) R < 0
  · refine ⟨R, O, ?_, h.skip hc (fun r hr => ?_)⟩
    · refine Ev.congr (f := fun _ => some (R, O.map (·.2))) (fun k => ?_) (Ev.now _)
      unfold colO
      exact if_pos hf
    · refine Classical.byContradiction (fun h0 => ?_)
      have h1 := (leadIs_iff (by rw [h.lenR r hr]; exact hc) (h.low hr)).2 h0
      have h2 : R.any (leadIs c) = true := List.any_eq_true.2 ⟨r, hr, h1⟩
      rw [← firstAt_any, decide_eq_true_eq] at h2
      omega
  · obtain ⟨kk, hk⟩ : ∃ kk : Nat, firstAt (leadIs c) R = (kk : Int) := ⟨(firstAt (leadIs c) R).toNat, by omega⟩
    have hkl : kk < R.length ∧ leadIs c (R.getD kk []) = true := by
      unfold firstAt at hk
      split at hk
      · rename_i hlt
        have e1 : R.findIdx (leadIs c) = kk := by omega
        subst e1
        refine ⟨hlt, ?_⟩
        rw [List.getD_eq_getElem?_getD, List.getElem?_eq_getElem hlt]
        exact List.findIdx_getElem (w := hlt)
      · omega
    obtain ⟨hkl, hld⟩ := hkl
    obtain ⟨p, hp⟩ : ∃ p, R.getD kk [] = p := ⟨_, rfl⟩
    rw [hp] at hld
    have hpR : p ∈ R := by
      rw [← hp, List.getD_eq_getElem?_getD, List.getElem?_eq_getElem hkl]
      exact List.getElem_mem hkl
    have hpl := h.lenR p hpR
    have hp0 := (leadIs_iff (by rw [hpl]; exact hc) (h.low hpR)).1 hld
    have hpB := h.boundR hE hc hpR
    have hinv := h.step hc hpR hp0 (p' := p) ⟨1, by decide, fun j => (Int.one_mul _).symm⟩ hpl (h.sml.prim _ (List.mem_map_of_mem hpR)) (R1 := R.eraseIdx kk) (fun r hr => List.mem_of_mem_eraseIdx hr) (fun r hr => by
      obtain ⟨i, hi, rfl⟩ := List.mem_iff_getElem.1 hr
      by_cases e1 : i = kk
      · subst e1
        left
        rw [← hp, List.getD_eq_getElem?_getD, List.getElem?_eq_getElem hi]; rfl
      · right
        rw [List.mem_eraseIdx_iff_getElem]
        exact ⟨i, hi, e1, rfl⟩)
    refine ⟨_, _, ?_, hinv⟩
    have hm1 : Ev (fun k => mapO (clrO (fun r => impl_tidy.f k r) p c) (R.eraseIdx kk)) ((R.eraseIdx kk).map (clrL p c)) := mapO_ev (f := fun k => clrO (fun r => impl_tidy.f k r) p c) _ (fun r hr => by
      have hr := List.mem_of_mem_eraseIdx hr
      exact impl_clr_ev (by rw [hpl, h.lenR r hr]) (by rw [h.lenR r hr]; omega) hpB (h.boundR hE hc hr) (by decide))
    have hm2 : Ev (fun k => mapO (clrO (fun r => impl_tidy.f k r) p c) (O.map (·.2))) ((O.map (·.2)).map (clrL p c)) := mapO_ev (f := fun k => clrO (fun r => impl_tidy.f k r) p c) _ (fun r hr => by
      obtain ⟨o, ho, rfl⟩ := List.mem_map.1 hr
      exact impl_clr_ev (by rw [hpl, h.lenO o ho]) (by rw [h.lenO o ho]; omega) hpB (h.boundO hE (by omega) ho) (by decide))
    refine Ev.congr (f := fun k => (mapO (clrO (fun r => impl_tidy.f k r) p c) (R.eraseIdx kk)).bind fun R' => (mapO (clrO (fun r => impl_tidy.f k r) p c) (O.map (·.2))).bind fun O' => some (R', O' ++ [p])) (fun k => ?_) (Ev.bind hm1 (Ev.bind hm2 (Ev.pure ?_)))
    · unfold colO
      rw [hk, Int.toNat_natCast]
      show (if (kk : Int) < 0 then _ else _) = _
      rw [if_neg (by omega)]
      show _ = (mapO (clrO (fun r => impl_tidy.f k r) p c) (R.eraseIdx kk)).bind _
      simp only [hp]
    · rw [List.map_append, List.map_map, List.map_map]
      rfl

theorem colsO_ev : ∀ (d c : Nat) (R : List (List Int)) (O : List (Nat × List Int)), c + d = n → InvL e n c M R O → ∃ R1 O1, Ev (fun k => colsO (fun r => impl_tidy.f k r) d c (R, O.map (·.2))) (O1.map (·.2)) ∧ InvL e n n M R1 O1
  | 0, c, R, O, hd, h => by
    obtain rfl : c = n := by omega
    exact ⟨R, O, Ev.now _, h⟩
  | d + 1, c, R, O, hd, h => by
    obtain ⟨R1, O1, h1, h2⟩ := colO_ev hE h (by omega)
    obtain ⟨R2, O2, h3, h4⟩ := colsO_ev d (c + 1) R1 O1 (by omega) h2
    exact ⟨R2, O2, Ev.congr (f := fun k => (colO (fun r => impl_tidy.f k r) c (R, O.map (·.2))).bind fun s' => colsO (fun r => impl_tidy.f k r) d (c + 1) s') (fun k => rfl) (Ev.bind h1 h3), h4⟩
end

theorem impl_copy_ev (m : List (List Int)) (hm : m.length ≤ 4096) (hr : ∀ r ∈ m, r.length ≤ 4096) : Ev (fun k => impl_copyRows.f k m) m := by
  unfold impl_copyRows.f
  have key := Ev.up m.length (fun i s k => impl_copyRows.l0 k s m (m.length : Int) (i : Int)) (fun _ _ => m) (fun i s => s = m.take i) ?_ ?_ 0 [] (Nat.zero_le _) (by simp)
  · simpa using key
  · rintro s rfl
    refine Ev.step (fun k => by rw [impl_copyRows.l0]) ?_
    exact Ev.ifneg (by omega) (Ev.pure (by rw [List.take_length]))
  · rintro i s hi rfl ih
    refine Ev.step (fun k => by rw [impl_copyRows.l0]) ?_
    have hrd : rd_L1 m (i : Int) = m[i] := getD_get m i _ hi
    rw [hrd, wrap_succ (by omega)]
    refine Ev.ifpos (by omega) (Ev.ifpos (by omega) (Ev.ifpos (by omega) (Ev.bind0 (a := m[i]) (by unfold slices_Clone_Sint.f; rw [if_pos (by have := hr _ (List.getElem_mem hi); omega)]) (Ev.ifpos (by rw [List.length_take]; omega) ?_))))
    exact ih _ (by rw [List.take_succ_eq_append_getElem hi])

theorem impl_reduce_ev {e : Nat → Nat} {s n : Nat} (hE : Cols e s n) (m : List (List Int)) (hm : m.length ≤ 4096) (hl : ∀ r ∈ m, r.length = n) (hb : ∀ r ∈ m, ∀ j, (vec r j).natAbs ≤ e j) :
    ∃ R O, Ev (fun k => impl_reduceAny.f k m (n : Int)) (O.map (·.2)) ∧ InvL e n n (m.map vec) R O := by
  have h6 := hE.six
  have h1s := hE.one
  obtain ⟨R, O, h1, h2⟩ := colsO_ev hE n 0 (m.map tidyL) [] (by omega) (InvL.start hl hb)
  refine ⟨R, O, ?_, h2⟩
  unfold impl_reduceAny.f
  have hlt : ∀ r ∈ m.map tidyL, r.length = n := fun r hr => by
    obtain ⟨q, hq, rfl⟩ := List.mem_map.1 hr
    rw [tidyL_len]; exact hl q hq
  have hhd : m.map tidyL = [] ∨ ((m.map tidyL).headD []).length = n := by
    cases hq : m.map tidyL with
    | nil => exact .inl rfl
    | cons x l => right; rw [hq] at hlt; exact hlt x (List.mem_cons_self ..)
  refine Ev.bind (impl_copy_ev m hm (fun r hr => by rw [hl r hr]; omega)) (Ev.bind (mapO_ev (f := fun k r => impl_tidy.f k r) m (fun r hr => impl_tidy_ev r (by rw [hl r hr]; omega) (fun x hx => ?_))) (Ev.ifpos ?_ ?_))
  · obtain ⟨j, hj, ej⟩ := vec_mem hx
    have h3 := hb r hr j
    have h4 := hE.all j
    rw [ej] at h3
    omega
  · simp only [Bool.and_eq_true, decide_eq_true_eq, Bool.or_eq_true, Int.toNat_natCast]
    rcases hhd with hq | hq
    · rw [hq]
      refine ⟨rfl, by simp, by simp, ⟨by omega, by omega⟩, .inl rfl⟩
    · rw [hq]
      refine ⟨?_, by rw [List.length_map]; exact hm, by omega, ⟨by omega, by omega⟩, .inr (Nat.le_refl _)⟩
      unfold sameLen
      rw [List.all_eq_true]
      intro x hx
      rw [decide_eq_true_eq, hq]
      exact hlt x hx
  · rw [Int.toNat_natCast]
    exact h1
end Go.Proofs.Ytabjcjieniokaaa.Pure
/- Plain lemmas: the reference's l5Reduce comes to reduced rows, those with a pivot first. Conditions: at most 6 columns of numbers up to 2, at most one more of numbers up to 1000. -/
namespace Go.Proofs.Ytabjcjieniokaaa.Pure
open Go.RowKit Go.Proofs.Ytabjcjieniokaaa.Z Go.Proofs.YtabjcjieniokaaaW.PrintWords Go.Proofs.Ytabjcjieniokaaa.Lin
set_option linter.unusedVariables false
set_option linter.unusedSimpArgs false

section
variable {e : Nat → Nat} {s n : Nat} {M : List Vec} (hE : Cols e s n) (hs : s ≤ n)
include hE hs

end

end Go.Proofs.Ytabjcjieniokaaa.Pure
/- Plain lemma: a loop that goes on while the elements are well. No condition. -/
namespace Go.Proofs.Ytabjcjieniokaaa.Pure
open Go.RowKit Go.Proofs.YtabjcjieniokaaaW.PrintWords

theorem all_step {α : Type} (p : α → Bool) (xs : List α) (G : Nat → Nat → Option Bool) (r0 : Bool) (hend : Ev (G xs.length) r0) (hstep : ∀ i (hi : i < xs.length) r, Ev (G (i + 1)) r → Ev (G i) (p xs[i] && r)) : Ev (G 0) (xs.all p && r0) := by
  have key := Ev.up0 xs.length G (fun i => (xs.drop i).all p && r0)
    (by rw [List.drop_of_length_le (Nat.le_refl _)]; simpa using hend)
    (fun i hi ih => by
      rw [drop_get xs i hi, List.all_cons, Bool.and_assoc]
      exact hstep i hi _ ih) 0 (Nat.zero_le _)
  simpa using key

end Go.Proofs.Ytabjcjieniokaaa.Pure
/- Plain lemmas: loops that search. No condition. -/
namespace Go.Proofs.Ytabjcjieniokaaa.Pure
open Go.RowKit Go.Proofs.Ytabjcjieniokaaa.Z Go.Proofs.YtabjcjieniokaaaW.PrintWords

/-- A loop that asks whether one holds. -/
theorem any_loop {α : Type} (p : α → Bool) (xs : List α) (G : Nat → Nat → Option Bool) (hend : Ev (G xs.length) false) (hhit : ∀ i (hi : i < xs.length), p xs[i] = true → Ev (G i) true)
    (hmiss : ∀ i (hi : i < xs.length) r, p xs[i] = false → Ev (G (i + 1)) r → Ev (G i) r) : Ev (G 0) (xs.any p) := by
  have key := Ev.up0 xs.length G (fun i => (xs.drop i).any p)
    (by rw [List.drop_of_length_le (Nat.le_refl _)]; simpa using hend)
    (fun i hi ih => by
      rw [drop_get xs i hi, List.any_cons]
      cases h : p xs[i]
      · simpa using hmiss i hi _ h ih
      · simpa using hhit i hi h) 0 (Nat.zero_le _)
  simpa using key

/-- A loop that asks whether all hold. -/
theorem all_loop {α : Type} (p : α → Bool) (xs : List α) (G : Nat → Nat → Option Bool) (r0 : Bool) (hend : Ev (G xs.length) r0) (hbad : ∀ i (hi : i < xs.length), p xs[i] = false → Ev (G i) false)
    (hgood : ∀ i (hi : i < xs.length) r, p xs[i] = true → Ev (G (i + 1)) r → Ev (G i) r) : Ev (G 0) (xs.all p && r0) := by
  have key := Ev.up0 xs.length G (fun i => (xs.drop i).all p && r0)
    (by rw [List.drop_of_length_le (Nat.le_refl _)]; simpa using hend)
    (fun i hi ih => by
      rw [drop_get xs i hi, List.all_cons]
      cases h : p xs[i]
      · simpa using hbad i hi h
      · simpa using hgood i hi _ h ih) 0 (Nat.zero_le _)
  simpa using key

end Go.Proofs.Ytabjcjieniokaaa.Pure
/- Plain lemma: what the reference's range test answers. No condition. -/
namespace Go.Proofs.Ytabjcjieniokaaa.Pure
open Go.RowKit Go.Proofs.Ytabjcjieniokaaa.Z Go.Proofs.YtabjcjieniokaaaW.PrintWords

end Go.Proofs.Ytabjcjieniokaaa.Pure
/- Plain lemma: what the program's allIn answers. Condition: the list is not longer than a list can be. -/
namespace Go.Proofs.Ytabjcjieniokaaa.Pure
open Go.RowKit Go.Proofs.Ytabjcjieniokaaa.Z Go.Proofs.YtabjcjieniokaaaW.PrintWords

theorem impl_allIn (l : List Int) (a b : Int) (hl : l.length ≤ 9223372036854775807) : Ev (fun k => impl_allIn.f k l a b) (l.all fun n => decide (a ≤ n ∧ n ≤ b)) := by
  unfold impl_allIn.f
  have key := all_loop (fun n : Int => decide (a ≤ n ∧ n ≤ b)) l (fun i k => impl_allIn.l0 k a b l (l.length : Int) (i : Int)) true ?_ ?_ ?_
  · simpa using key
  · refine Ev.step (fun k => by rw [impl_allIn.l0]) ?_
    exact Ev.ifneg (by omega) (Ev.now _)
  · intro i hi h
    refine Ev.step (fun k => by rw [impl_allIn.l0]) ?_
    refine Ev.ifpos (by omega) (Ev.ifpos (by omega) (Ev.ifpos (by omega) ?_))
    rw [rd_get l i hi]
    refine Ev.bind0 (a := false) ?_ (Ev.ifneg (by decide) (Ev.now _))
    simp only [decide_eq_false_iff_not] at h
    unfold impl_InRange.f
    by_cases h1 : a ≤ l[i]
    · rw [if_pos h1]
      simp only [Option.some.injEq, decide_eq_false_iff_not]
      omega
    · rw [if_neg h1]
  · intro i hi r h hr
    refine Ev.step (fun k => by rw [impl_allIn.l0]) ?_
    refine Ev.ifpos (by omega) (Ev.ifpos (by omega) (Ev.ifpos (by omega) ?_))
    rw [rd_get l i hi]
    simp only [decide_eq_true_eq] at h
    refine Ev.bind0 (a := true) ?_ (Ev.ifpos rfl ?_)
    · unfold impl_InRange.f
      rw [if_pos h.1]
      simp [h.2]
    · rw [wrap_succ (by omega)]
      exact hr

end Go.Proofs.Ytabjcjieniokaaa.Pure
/- Plain lemmas: what the reference's and the program's IsMatrix answer. Condition: the list is not longer than lists can be. -/
namespace Go.Proofs.Ytabjcjieniokaaa.Pure
open Go.RowKit Go.Proofs.Ytabjcjieniokaaa.Z Go.Proofs.YtabjcjieniokaaaW.PrintWords
set_option linter.unusedVariables false
set_option linter.unusedSimpArgs false

def isRowOf (n : Int) (l : List Int) : Bool := decide ((l.length : Int) = n) && l.all fun x => decide (-2 ≤ x ∧ x ≤ 2)
def isMatrix (m : List (List Int)) (n : Int) : Bool := decide (1 ≤ n ∧ n ≤ 6) && (decide (m.length ≤ 12) && m.all (isRowOf n))
theorem rdRow (m : List (List Int)) (i : Nat) (h : i < m.length) : rd_L1 m (i : Int) = m[i] := getD_get m i _ h

theorem in_range (n a b : Int) : impl_InRange.f n a b = some (decide (a ≤ n ∧ n ≤ b)) := by
  unfold impl_InRange.f
  by_cases h1 : a ≤ n <;> by_cases h2 : n ≤ b <;> simp [h1, h2] <;> omega

theorem impl_isMatrix (m : List (List Int)) (n : Int) (hm : m.length ≤ 9223372036854775806) : Ev (fun k => impl_IsMatrix.f k m n) (isMatrix m n) := by
  unfold impl_IsMatrix.f isMatrix
  refine Ev.bind0 (in_range _ _ _) ?_
  by_cases h1 : 1 ≤ n ∧ n ≤ 6
  · rw [decide_eq_true h1]
    refine Ev.ifpos rfl ?_
    refine Ev.step (fun k => by rw [impl_IsMatrix.j0]) ?_
    by_cases h2 : m.length ≤ 12
    · rw [decide_eq_true h2]
      refine Ev.ifneg (by rw [decide_eq_true_iff]; omega) ?_
      have key := all_step (isRowOf n) m (fun i k => impl_IsMatrix.l0 k n m (m.length : Int) (i : Int)) true ?_ ?_
      · simpa using key
      · refine Ev.step (fun k => by rw [impl_IsMatrix.l0]) ?_
        exact Ev.ifneg (by omega) (Ev.now _)
      · intro i hi r hr
        refine Ev.step (fun k => by rw [impl_IsMatrix.l0]) ?_
        refine Ev.ifpos (by omega) (Ev.ifpos (by omega) (Ev.ifpos (by omega) ?_))
        rw [rdRow m i hi]
        unfold isRowOf
        by_cases h3 : (m[i].length : Int) = n
        · rw [decide_eq_true h3]
          refine Ev.ifpos h3 (Ev.bind (impl_allIn m[i] (-2) 2 (by omega)) ?_)
          rw [wrap_succ (by omega)]
          cases m[i].all fun x => decide (-2 ≤ x ∧ x ≤ 2)
          · exact Ev.ifneg (by decide) (Ev.now _)
          · refine Ev.ifpos rfl ?_
            simpa using hr
        · rw [decide_eq_false h3]
          exact Ev.ifneg h3 (Ev.now _)
    · rw [decide_eq_false h2]
      exact Ev.ifpos (decide_eq_true (by omega)) (Ev.now _)
  · rw [decide_eq_false h1]
    refine Ev.ifneg (by decide) ?_
    refine Ev.step (fun k => by rw [impl_IsMatrix.j0]) ?_
    exact Ev.ifpos rfl (Ev.now _)

end Go.Proofs.Ytabjcjieniokaaa.Pure
/- Plain lemmas: the rank, by the program and by the reference, is the number of pivots. Condition: a matrix within the bounds. -/
namespace Go.Proofs.Ytabjcjieniokaaa.Pure
open Go.RowKit Go.Proofs.Ytabjcjieniokaaa.Z Go.Proofs.YtabjcjieniokaaaW.PrintWords Go.Proofs.Ytabjcjieniokaaa.Lin
set_option linter.unusedVariables false
set_option linter.unusedSimpArgs false

theorem cols2 {n : Nat} (hn : n ≤ 6) : Cols (fun _ => 2) n n := ⟨hn, by omega, fun _ _ => Nat.le_refl _, fun _ => by decide⟩
theorem isMatrix_some {m : List (List Int)} {a : Int} (h : isMatrix m a = true) : ∃ n : Nat, a = (n : Int) ∧ 1 ≤ n ∧ n ≤ 6 ∧ m.length ≤ 12 ∧ (∀ r ∈ m, r.length = n) ∧ ∀ r ∈ m, ∀ x ∈ r, x.natAbs ≤ 2 := by
  unfold isMatrix at h
  simp only [Bool.and_eq_true, decide_eq_true_eq] at h
  obtain ⟨⟨h1, h2⟩, h3, h4⟩ := h
  rw [List.all_eq_true] at h4
  have h5 : ∀ r ∈ m, (r.length : Int) = a ∧ ∀ x ∈ r, -2 ≤ x ∧ x ≤ 2 := fun r hr => by
    have := h4 r hr
    unfold isRowOf at this
    simp only [Bool.and_eq_true, decide_eq_true_eq, List.all_eq_true] at this
    exact this
  refine ⟨a.toNat, by omega, by omega, by omega, h3, fun r hr => by have := (h5 r hr).1; omega, fun r hr x hx => by have := (h5 r hr).2 x hx; omega⟩

theorem leadL_key {r : List Int} {q : Nat} (hq : q < r.length) (h0 : vec r q ≠ 0) (h1 : ∀ j, j < q → vec r j = 0) : leadL r = q := by
  rw [vec_get hq] at h0
  refine leadL_is hq ?_ h0
  refine Classical.byContradiction (fun hn => ?_)
  have h2 : leadL r < r.length := by omega
  have h3 := h1 (leadL r) (by omega)
  rw [vec_get h2] at h3
  exact leadL_at h2 h3
theorem impl_rows_ev (m : List (List Int)) (a : Int) (hm : isMatrix m a = true) : ∃ (n : Nat) (R : List (List Int)) (O : List (Nat × List Int)), a = (n : Int) ∧ n ≤ 6 ∧ Ev (fun k => impl_ReduceRows.f k m a) (O.map (·.2)) ∧ InvL (fun _ => 2) n n (m.map vec) R O := by
  obtain ⟨n, rfl, hn1, hn, hml, hl, hb⟩ := isMatrix_some hm
  obtain ⟨R, O, h1, h2⟩ := impl_reduce_ev (cols2 hn) m (by omega) hl (fun r hr j => vec_abs (hb r hr) j)
  refine ⟨n, R, O, rfl, hn, ?_, h2⟩
  unfold impl_ReduceRows.f
  refine Ev.bind (impl_isMatrix m n (by omega)) ?_
  rw [hm]
  exact Ev.ifpos rfl (Ev.bind h1 (Ev.now _))
theorem impl_rank_ev (m : List (List Int)) (a : Int) (hm : isMatrix m a = true) : Ev (fun k => impl_RankOf.f k m a) (((pivs a.toNat (m.map vec) a.toNat).length : Nat) : Int) := by
  obtain ⟨n, R, O, rfl, hn, h1, h2⟩ := impl_rows_ev m a hm
  unfold impl_RankOf.f
  refine Ev.bind h1 (Ev.pure ?_)
  rw [List.length_map, Int.toNat_natCast, h2.count]
end Go.Proofs.Ytabjcjieniokaaa.Pure
/- Reduced rows with their values behind them: the row of a column that is told has one quotient, whatever way it was reduced. No condition. -/
namespace Go.Proofs.Ytabjcjieniokaaa.Lin
set_option linter.unusedVariables false
set_option linter.unusedSimpArgs false

/-- A null vector that ends at a column behind all pivots. -/
theorem Red.special {n c : Nat} {m R : List Vec} {O : List (Nat × Vec)} (h : Red n c m R O) {d : Nat} (hd : d < n) (hR : ∀ r ∈ R, ∀ j, j ≤ d → r j = 0) (hO : ∀ o ∈ O, o.1 < d) :
    ∃ x : Vec, Null n m x ∧ x d ≠ 0 ∧ ∀ o ∈ O, o.2 o.1 * x o.1 + o.2 d * x d = 0 := by
  obtain ⟨x, h1, h2, h3⟩ := solve d O (by rw [h.keys]; exact pivs_nodup n m c) (fun o ho => ⟨by have := hO o ho; omega, (h.lead o ho).1⟩)
  have hsup : ∀ j, x j ≠ 0 → j = d ∨ ∃ o ∈ O, o.1 = j := fun j hj => by
    rcases h2 j hj with h4 | h4
    · exact .inl h4
    · obtain ⟨o, ho, e⟩ := List.mem_map.1 h4
      exact .inr ⟨o, ho, e⟩
  refine ⟨x, (h.null x).2 ⟨fun r hr => dotN_zero (fun j _ => ?_), fun o ho => ?_⟩, h1, h3⟩
  · by_cases hx : x j = 0
    · rw [hx, Int.mul_zero]
    · rcases hsup j hx with rfl | ⟨o, ho, rfl⟩
      · rw [hR r hr _ (Nat.le_refl _), Int.zero_mul]
      · rw [hR r hr _ (Nat.le_of_lt (hO o ho)), Int.zero_mul]
  · have hlt := hO o ho
    rw [dotN_two (p := o.1) (q := d) (by omega) hd (by omega) (fun j _ hj1 hj2 => ?_)]
    · exact h3 o ho
    · by_cases hx : x j = 0
      · rw [hx, Int.mul_zero]
      · rcases hsup j hx with e | ⟨q, hq, rfl⟩
        · exact absurd e hj2
        · rw [h.off o ho q hq hj1, Int.zero_mul]

/-- The column q is told: a null vector that is 0 at the values' column is 0 there. -/
def Told (n q : Nat) (m : List Vec) : Prop := ∀ x, Null (n + 1) m x → x n = 0 → x q = 0
theorem Told.bound {n q : Nat} {m : List Vec} (h : Told n q m) (hq : q < n) : ¬ Free (n + 1) m q := by
  rintro ⟨x, h1, h2, h3⟩
  exact h2 (h x h1 (h3 n hq (Nat.lt_succ_self n)))
theorem Told.key {n q c : Nat} {m R : List Vec} {O : List (Nat × Vec)} (h : Told n q m) (hq : q < n) (hc : q < c) (hr : Red (n + 1) c m R O) : ∃ o ∈ O, o.1 = q := by
  have : q ∈ O.map (·.1) := by
    rw [hr.keys]
    unfold pivs
    rw [List.mem_filter, List.mem_range, decide_eq_true_eq]
    exact ⟨hc, h.bound hq⟩
  obtain ⟨o, ho, e⟩ := List.mem_map.1 this
  exact ⟨o, ho, e⟩
/-- Both reductions' rows of the column have one quotient. -/
theorem Told.same {n q c c' : Nat} {m R R' : List Vec} {O O' : List (Nat × Vec)} (h : Told n q m) (hr : Red (n + 1) c m R O) (hr' : Red (n + 1) c' m R' O')
    (hR : ∀ r ∈ R, ∀ j, j ≤ n → r j = 0) (hO : ∀ o ∈ O, o.1 < n) (hR' : ∀ r ∈ R', ∀ j, j ≤ n → r j = 0) (hO' : ∀ o ∈ O', o.1 < n)
    {o o' : Nat × Vec} (ho : o ∈ O) (ho' : o' ∈ O') (e : o.1 = q) (e' : o'.1 = q) : o.2 n * o'.2 q = o'.2 n * o.2 q := by
  obtain ⟨x, x1, x2, x3⟩ := hr.special (Nat.lt_succ_self n) hR hO
  obtain ⟨y, y1, y2, y3⟩ := hr'.special (Nat.lt_succ_self n) hR' hO'
  have hz : y n * x q - x n * y q = 0 := h (fun j => y n * x j - x n * y j) (fun r hr => by
    rw [dotN_combR, x1 r hr, y1 r hr]; simp) (by show y n * x n - x n * y n = 0; rw [Int.mul_comm]; omega)
  have h1 := x3 o ho
  have h2 := y3 o' ho'
  rw [e] at h1
  rw [e'] at h2
  refine Int.eq_of_mul_eq_mul_left (mul_ne x2 y2) ?_
  have g1 : o.2 n * x n = - (o.2 q * x q) := by omega
  have g2 : o'.2 n * y n = - (o'.2 q * y q) := by omega
  have k1 : x n * y n * (o.2 n * o'.2 q) = (o.2 n * x n) * (y n * o'.2 q) := by simp only [Int.mul_assoc, Int.mul_comm, Int.mul_left_comm]
  have k2 : x n * y n * (o'.2 n * o.2 q) = (o'.2 n * y n) * (x n * o.2 q) := by simp only [Int.mul_assoc, Int.mul_comm, Int.mul_left_comm]
  have k3 : o.2 q * x q * (y n * o'.2 q) = (y n * x q) * (o.2 q * o'.2 q) := by simp only [Int.mul_assoc, Int.mul_comm, Int.mul_left_comm]
  have k4 : o'.2 q * y q * (x n * o.2 q) = (x n * y q) * (o.2 q * o'.2 q) := by simp only [Int.mul_assoc, Int.mul_comm, Int.mul_left_comm]
  rw [k1, k2, g1, g2, Int.neg_mul, Int.neg_mul, k3, k4, show y n * x q = x n * y q by omega]
end Go.Proofs.Ytabjcjieniokaaa.Lin
/- Plain lemmas: a system's rows with their values behind them, whether it can be solved. Condition: the lists are not longer than lists can be. -/
namespace Go.Proofs.Ytabjcjieniokaaa.Pure
open Go.RowKit Go.Proofs.Ytabjcjieniokaaa.Z Go.Proofs.YtabjcjieniokaaaW.PrintWords Go.Proofs.Ytabjcjieniokaaa.Lin
set_option linter.unusedVariables false
set_option linter.unusedSimpArgs false

noncomputable def solvB (n : Nat) (M : List Vec) : Bool := @decide (Free (n + 1) M n) (Classical.propDecidable _)
def isSys (m : List (List Int)) (v : List Int) (a : Int) : Bool := isMatrix m a && (decide (v.length = m.length) && v.all (fun x => decide (-1000 ≤ x ∧ x ≤ 1000)))
theorem impl_isSys (m : List (List Int)) (v : List Int) (a : Int) (hm : m.length ≤ 1048576) (hv : v.length ≤ 1048576) : Ev (fun k => impl_IsSystem.f k m v a) (isSys m v a) := by
  unfold impl_IsSystem.f isSys
  refine Ev.bind (impl_isMatrix m a (by omega)) ?_
  cases isMatrix m a with
  | false => exact Ev.ifneg (by decide) (Ev.now _)
  | true =>
    refine Ev.ifpos rfl ?_
    by_cases h : v.length = m.length
    · rw [decide_eq_true h]
      refine Ev.ifpos (by omega) (Ev.bind (impl_allIn v (-1000) 1000 (by omega)) (Ev.pure ?_))
      rw [Bool.true_and, Bool.true_and]
    · rw [decide_eq_false h]
      exact Ev.ifneg (by omega) (Ev.now _)

def ext : List (List Int) → List Int → List (List Int)
  | r :: m, x :: v => (r ++ [x]) :: ext m v
  | _, _ => []
theorem ext_len : ∀ (m : List (List Int)) (v : List Int), v.length = m.length → (ext m v).length = m.length
  | [], _, _ => rfl
  | r :: m, [], h => by simp at h
  | r :: m, x :: v, h => by rw [ext, List.length_cons, List.length_cons, ext_len m v (by simpa using h)]
theorem ext_at : ∀ (m : List (List Int)) (v : List Int) (h : v.length = m.length) (i : Nat) (hi : i < m.length) (h2 : i < (ext m v).length), (ext m v)[i] = m[i] ++ [v[i]'(by omega)]
  | [], _, _, _, hi, _ => absurd hi (Nat.not_lt_zero _)
  | r :: m, [], h, _, _, _ => by simp at h
  | r :: m, x :: v, h, 0, _, _ => rfl
  | r :: m, x :: v, h, i + 1, hi, h2 => by
    simp only [ext, List.getElem_cons_succ]
    exact ext_at m v (by simpa using h) i (by simpa using hi) (by simpa [ext] using h2)
def eV (n : Nat) (j : Nat) : Nat := if j < n then 2 else 1000
theorem colsV {n : Nat} (hn : n ≤ 6) : Cols (eV n) n (n + 1) := ⟨hn, Nat.le_refl _, fun k hk => by unfold eV; rw [if_pos hk]; exact Nat.le_refl _, fun k => by unfold eV; split <;> decide⟩

theorem isSys_some {m : List (List Int)} {v : List Int} {a : Int} (h : isSys m v a = true) : ∃ n : Nat, a = (n : Int) ∧ 1 ≤ n ∧ n ≤ 6 ∧ m.length ≤ 12 ∧ v.length = m.length ∧ (∀ r ∈ m, r.length = n) ∧ (∀ r ∈ ext m v, r.length = n + 1) ∧ ∀ r ∈ ext m v, ∀ j, (vec r j).natAbs ≤ eV n j := by
  unfold isSys at h
  simp only [Bool.and_eq_true, decide_eq_true_eq] at h
  obtain ⟨h1, h2, h3⟩ := h
  rw [List.all_eq_true] at h3
  obtain ⟨n, e, g1, g2, g3, g4, g5⟩ := isMatrix_some h1
  have hr : ∀ r ∈ ext m v, ∃ r0 x, r0 ∈ m ∧ x ∈ v ∧ r = r0 ++ [x] := fun r hr => by
    obtain ⟨i, hi, rfl⟩ := List.mem_iff_getElem.1 hr
    have hl := ext_len m v h2
    rw [ext_at m v h2 i (by omega) hi]
    exact ⟨_, _, List.getElem_mem _, List.getElem_mem _, rfl⟩
  refine ⟨n, e, g1, g2, g3, h2, g4, fun r h => ?_, fun r h j => ?_⟩
  · obtain ⟨r0, x, hr0, _, rfl⟩ := hr r h
    rw [List.length_append, List.length_singleton, g4 r0 hr0]
  · obtain ⟨r0, x, hr0, hx, rfl⟩ := hr r h
    have hl0 := g4 r0 hr0
    unfold eV
    by_cases hj : j < n
    · rw [if_pos hj, vec_get (by rw [List.length_append]; omega), List.getElem_append_left (by omega)]
      exact g5 r0 hr0 _ (List.getElem_mem _)
    · rw [if_neg hj]
      by_cases hj2 : j = n
      · have h4 := h3 x hx
        rw [decide_eq_true_eq] at h4
        rw [vec_get (by rw [List.length_append, List.length_singleton]; omega), List.getElem_append_right (by omega)]
        have e3 : ([x] : List Int)[j - r0.length]'(by simp; omega) = x := by simp
        rw [e3]
        omega
      · rw [vec_out (by rw [List.length_append, List.length_singleton]; omega)]
        decide

theorem solvB_iff {n : Nat} {M : List Vec} : solvB n M = true ↔ Free (n + 1) M n := by unfold solvB; exact @decide_eq_true_iff _ (Classical.propDecidable _)
/-- The program's goes on to the end. -/
theorem free_keys {n : Nat} {M : List Vec} {R : List (List Int)} {O : List (Nat × List Int)} (h : InvL (eV n) (n + 1) (n + 1) M R O) : (∀ o ∈ O, o.1 ≠ n) ↔ Free (n + 1) M n := by
  have hk := h.red.keys
  have hmem : ∀ q, q ∈ O.map (·.1) ↔ q < n + 1 ∧ ¬ Free (n + 1) M q := fun q => by
    have e1 : (vecO O).map (·.1) = O.map (·.1) := by unfold vecO; simp [Function.comp_def]
    rw [← e1, hk]
    unfold pivs
    rw [List.mem_filter, List.mem_range, decide_eq_true_eq]
  constructor
  · intro h0
    refine Classical.byContradiction (fun hf => ?_)
    obtain ⟨o, ho, e⟩ := List.mem_map.1 ((hmem n).2 ⟨Nat.lt_succ_self n, hf⟩)
    exact h0 o ho e
  · intro hf o ho e
    exact ((hmem n).1 (List.mem_map.2 ⟨o, ho, e⟩)).2 hf

theorem impl_solved_ev (m : List (List Int)) (v : List Int) (a : Int) (hm : m.length ≤ 1048576) (hv : v.length ≤ 1048576) (h : isSys m v a = true) : ∃ (n : Nat) (R : List (List Int)) (O : List (Nat × List Int)), a = (n : Int) ∧ n ≤ 6 ∧ InvL (eV n) (n + 1) (n + 1) ((ext m v).map vec) R O ∧ Ev (fun k => impl_solved.f k m v a) (if solvB n ((ext m v).map vec) = true then (O.map (·.2), true) else ([], false)) := by
  obtain ⟨n, rfl, hn1, hn, hml, hvl, hlm, hl, hb⟩ := isSys_some h
  have hel := ext_len m v hvl
  obtain ⟨R, O, h1, h2⟩ := impl_reduce_ev (colsV hn) (ext m v) (by omega) hl hb
  refine ⟨n, R, O, rfl, hn, h2, ?_⟩
  have hOl : O.length ≤ 7 := by have := h2.few; omega
  unfold impl_solved.f
  refine Ev.bind (impl_isSys m v n hm hv) ?_
  rw [h]
  refine Ev.ifpos rfl ?_
  have hlead : ∀ o ∈ O, leadL o.2 = o.1 := fun o ho => leadL_key (by rw [h2.lenO o ho]; exact h2.lt ho) (h2.lead ho).1 (h2.lead ho).2
  have hlast : Ev (fun k => impl_solved.l1 k (n : Int) (O.map (·.2)) (O.map (·.2)) (((O.map (·.2)).length : Nat) : Int) 0) (if solvB n ((ext m v).map vec) = true then (O.map (·.2), true) else ([], false)) := by
    have key : ∀ (S P : List (Nat × List Int)), O = P ++ S → (∀ o ∈ P, o.1 ≠ n) → Ev (fun k => impl_solved.l1 k (n : Int) (O.map (·.2)) (O.map (·.2)) (((O.map (·.2)).length : Nat) : Int) (P.length : Int)) (if solvB n ((ext m v).map vec) = true then (O.map (·.2), true) else ([], false)) := by
      intro S
      induction S with
      | nil =>
        intro P hO hP
        rw [List.append_nil] at hO
        rw [if_pos (solvB_iff.2 ((free_keys h2).1 (by rw [hO]; exact hP)))]
        refine Ev.step (fun k => by rw [impl_solved.l1]) ?_
        exact Ev.ifneg (by rw [hO]; simp) (Ev.now _)
      | cons o S ih =>
        intro P hO hP
        have hoO : o ∈ O := by rw [hO]; simp
        have hPl : P.length < (O.map (·.2)).length := by rw [hO]; simp
        have hPl2 : P.length ≤ 7 := by rw [List.length_map] at hPl; omega
        have hat : rd_L1 (O.map (·.2)) (P.length : Int) = o.2 := by
          rw [show rd_L1 (O.map (·.2)) (P.length : Int) = (O.map (·.2))[P.length] from getD_get _ _ _ hPl]
          simp [hO]
        have hld := hlead o hoO
        have hlt := h2.lt hoO
        have hol := h2.lenO o hoO
        refine Ev.step (fun k => by rw [impl_solved.l1]) ?_
        rw [hat, wrap_succ (by omega)]
        refine Ev.ifpos (by omega) (Ev.ifpos (by omega) (Ev.ifpos (by omega) (Ev.bind0 (a := ((o.1 : Nat) : Int)) (by unfold impl_lead.f; rw [firstAt_nz (by omega), hld]) ?_)))
        by_cases e : o.1 = n
        · have hns : solvB n ((ext m v).map vec) = false := Bool.eq_false_iff.2 (fun hs => (free_keys h2).2 (solvB_iff.1 hs) o hoO e)
          rw [hns, if_neg (by decide)]
          exact Ev.ifpos (by omega) (Ev.now _)
        · refine Ev.ifneg (by omega) ?_
          have := ih (P ++ [o]) (by rw [hO, List.append_assoc]; rfl) (fun q hq => (List.mem_append.1 hq).elim (hP q) (fun hq => by rw [List.mem_singleton.1 hq]; exact e))
          rw [List.length_append, List.length_singleton] at this
          exact this
    exact key O [] rfl (fun o ho => absurd ho (by simp))
  have key := Ev.up m.length (fun i s k => impl_solved.l0 k v (n : Int) s m (m.length : Int) (i : Int)) (fun _ _ => if solvB n ((ext m v).map vec) = true then (O.map (·.2), true) else ([], false)) (fun i s => s = (ext m v).take i) ?_ ?_ 0 [] (Nat.zero_le _) (by simp)
  · simpa using key
  · rintro s rfl
    refine Ev.step (fun k => by rw [impl_solved.l0]) ?_
    rw [List.take_of_length_le (by omega), wrap_succ (i := n) (by omega)]
    refine Ev.ifneg (by omega) ?_
    refine Ev.bind h1 ?_
    exact hlast
  · rintro i s hi rfl ih
    refine Ev.step (fun k => by rw [impl_solved.l0]) ?_
    have hrd : rd_L1 m (i : Int) = m[i] := getD_get m i _ hi
    have hri := hlm _ (List.getElem_mem hi)
    rw [hrd, rd_get v i (by omega), wrap_succ (by omega)]
    refine Ev.ifpos (by omega) (Ev.ifpos (by omega) (Ev.ifpos (by omega) (Ev.bind0 (a := m[i]) (by unfold slices_Clone_Sint.f; rw [if_pos (by omega)]) (Ev.ifpos (by omega) (Ev.bind0 (a := [v[i]]) rfl (Ev.ifpos (by simp; omega) (Ev.bind0 (a := [m[i] ++ [v[i]]]) rfl (Ev.ifpos (by simp; omega) (ih _ ?_)))))))))
    rw [List.take_succ_eq_append_getElem (by omega : i < (ext m v).length), ext_at m v hvl i hi]
/-- Rows with a pivot ahead of the values' column are small. -/
theorem small_of {n c : Nat} {M : List Vec} {R : List (List Int)} {O : List (Nat × List Int)} (h : InvL (eV n) (n + 1) c M R O) (ht : O.length ≤ 6) (he : ∀ k, k < n → eV n k ≤ 2) (hlt : ∀ o ∈ O, o.1 < n) {o : Nat × List Int} (ho : o ∈ O) : ∀ j, j < n + 1 → (vec o.2 j).natAbs ≤ 23040 * eV n j := by
  intro j hj
  have evl : (vecO O).length = O.length := by unfold vecO; simp
  have evk : (vecO O).map (·.1) = O.map (·.1) := by unfold vecO; simp [Function.comp_def]
  obtain ⟨A, hI, hA, _, hmO⟩ := h.sml.made
  obtain ⟨g, u, hg, e2⟩ := hmO _ (vecO_mem ho)
  have hn : ((vecO O).map (·.1)).Nodup := by rw [h.red.keys]; exact pivs_nodup _ _ _
  have hkn : ∀ k ∈ (vecO O).map (·.1), k < n := fun k hk => by
    rw [evk] at hk
    obtain ⟨p, hp, rfl⟩ := List.mem_map.1 hk
    exact hlt p hp
  have := smallO (n := n + 1) hI (by simp) hn (by omega) (fun k hk => he k (hkn k hk)) hA (q := o.1) (List.mem_map_of_mem (vecO_mem ho)) hg e2 (fun k hk hne => by
    obtain ⟨q, hq, rfl⟩ := List.mem_map.1 hk
    exact h.red.off _ (vecO_mem ho) q hq hne) (h.lead ho).1 (h.sml.primO _ (vecO_mem ho)) j hj
  refine Nat.le_trans this ?_
  rw [← Nat.mul_assoc]
  exact Nat.mul_le_mul_right _ (powO (by omega))
end Go.Proofs.Ytabjcjieniokaaa.Pure
/- Plain lemmas: fractions, of the reference and of the program: what is reduced, added, multiplied. Condition: the numbers fit. -/
namespace Go.Proofs.Ytabjcjieniokaaa.Pure
open Go.RowKit Go.Proofs.Ytabjcjieniokaaa.Z Go.Proofs.YtabjcjieniokaaaW.PrintWords Go.Proofs.Ytabjcjieniokaaa.Lin
set_option linter.unusedVariables false
set_option linter.unusedSimpArgs false

/-- A fraction that is valid. -/
def Fr (n d : Int) : Prop := n.natAbs ≤ 1000000000 ∧ 1 ≤ d ∧ d ≤ 1000000000 ∧ Nat.gcd n.natAbs d.natAbs = 1
theorem Fr.zero : Fr 0 1 := ⟨by decide, by decide, by decide, by decide⟩
theorem Fr.one : Fr 1 1 := ⟨by decide, by decide, by decide, by decide⟩

theorem gcd_one (n : Nat) : (((n : Nat) : Int) == 1) = decide (n = 1) := by
  by_cases h : n = 1
  · rw [decide_eq_true h, h]; rfl
  · rw [decide_eq_false h]; exact beq_false_of_ne (by omega)
theorem impl_isRatio {n d : Int} (h : Fr n d) : Ev (fun k => impl_IsRatio.f k n d) true := by
  obtain ⟨h1, h2, h3, h4⟩ := h
  unfold impl_IsRatio.f
  refine Ev.bind0 (in_range _ _ _) ?_
  rw [decide_eq_true (by omega)]
  refine Ev.ifpos rfl (Ev.bind0 (in_range _ _ _) ?_)
  rw [decide_eq_true (by omega)]
  exact Ev.ifpos rfl (Ev.bind (impl_gcd_ev n d (by omega) (by omega)) (Ev.pure (by rw [gcd_one, decide_eq_true h4])))

theorem gcd_times {m N D : Int} (h : Nat.gcd N.natAbs D.natAbs = 1) : Nat.gcd (m * N).natAbs (m * D).natAbs = m.natAbs := by
  rw [Int.natAbs_mul, Int.natAbs_mul, Nat.gcd_mul_left, h, Nat.mul_one]
theorem tdiv_times {m N : Int} (h : m ≠ 0) : Int.tdiv (m * N) m = N := Int.mul_tdiv_cancel_left N h
theorem sg_div {m N : Int} (h : m ≠ 0) : Int.tdiv (m * N) ((m.natAbs : Nat) : Int) = if m < 0 then -N else N := by
  by_cases h0 : m < 0
  · rw [if_pos h0, show m * N = ((m.natAbs : Nat) : Int) * (-N) by rw [show ((m.natAbs : Nat) : Int) = -m by omega, Int.neg_mul_neg]]
    exact tdiv_times (by omega)
  · rw [if_neg h0]
    have e : ((m.natAbs : Nat) : Int) = m := by omega
    rw [e]
    exact tdiv_times h

theorem impl_make {n d m N D : Int} (h : Fr N D) (hm : m ≠ 0) (hn : n = m * N) (hd : d = m * D) (h1 : n.natAbs ≤ 9223372036854775807) (h2 : d.natAbs ≤ 9223372036854775807) : Ev (fun k => impl_reduced.f k n d) (N, D, true) := by
  have hD := h.2
  have hN := h.1
  have hg := impl_gcd_ev n d h1 h2
  rw [hn, hd, gcd_times h.2.2.2, ← hn, ← hd] at hg
  have hm2 : m.natAbs ≤ 9223372036854775807 := by
    rw [hd, Int.natAbs_mul] at h2
    exact Nat.le_trans (Nat.le_mul_of_pos_right _ (by omega)) h2
  unfold impl_reduced.f
  refine Ev.bind hg ?_
  by_cases h0 : m < 0
  · have hneg : d < 0 := by rw [hd]; exact Int.mul_neg_of_neg_of_pos h0 (by omega)
    rw [if_pos hneg, wrap_in (n := -((m.natAbs : Nat) : Int)) (by omega) (by omega), show -((m.natAbs : Nat) : Int) = m by omega]
    unfold redO
    rw [hn, hd, tdiv_times hm, tdiv_times hm, wrap_in (n := N) (by omega) (by omega), wrap_in (n := D) (by omega) (by omega)]
    exact Ev.ifneg hm (Ev.bind (impl_isRatio h) (Ev.ifpos rfl (Ev.now _)))
  · have hpos : 0 < d := by rw [hd]; exact Int.mul_pos (by omega) (by omega)
    rw [if_neg (show ¬ d < 0 by omega), show ((m.natAbs : Nat) : Int) = m by omega]
    unfold redO
    rw [hn, hd, tdiv_times hm, tdiv_times hm, wrap_in (n := N) (by omega) (by omega), wrap_in (n := D) (by omega) (by omega)]
    exact Ev.ifneg hm (Ev.bind (impl_isRatio h) (Ev.ifpos rfl (Ev.now _)))

/-- Every quotient is one fraction. -/
theorem rat_of {n d : Int} (hd : d ≠ 0) (h1 : n.natAbs ≤ 1000000000) (h2 : d.natAbs ≤ 1000000000) : ∃ N D m : Int, Fr N D ∧ m ≠ 0 ∧ n = m * N ∧ d = m * D := by
  have hg : 0 < Nat.gcd n.natAbs d.natAbs := Nat.gcd_pos_of_pos_right _ (by omega)
  obtain ⟨N, hN⟩ : ((Nat.gcd n.natAbs d.natAbs : Nat) : Int) ∣ n := by
    rw [← Int.natAbs_dvd_natAbs, Int.natAbs_natCast]; exact Nat.gcd_dvd_left _ _
  obtain ⟨D, hD⟩ : ((Nat.gcd n.natAbs d.natAbs : Nat) : Int) ∣ d := by
    rw [← Int.natAbs_dvd_natAbs, Int.natAbs_natCast]; exact Nat.gcd_dvd_right _ _
  obtain ⟨g, hgg⟩ : ∃ g, Nat.gcd n.natAbs d.natAbs = g := ⟨_, rfl⟩
  rw [hgg] at hg hN hD
  have e1 : n.natAbs = g * N.natAbs := by rw [hN, Int.natAbs_mul, Int.natAbs_natCast]
  have e2 : d.natAbs = g * D.natAbs := by rw [hD, Int.natAbs_mul, Int.natAbs_natCast]
  have hco : Nat.gcd N.natAbs D.natAbs = 1 := by
    have h3 := hgg
    rw [e1, e2, Nat.gcd_mul_left] at h3
    exact Nat.eq_of_mul_eq_mul_left hg (by rw [h3, Nat.mul_one])
  have hD0 : D ≠ 0 := fun e => hd (by rw [hD, e, Int.mul_zero])
  have l1 : N.natAbs ≤ n.natAbs := by rw [e1]; exact Nat.le_mul_of_pos_left _ hg
  have l2 : D.natAbs ≤ d.natAbs := by rw [e2]; exact Nat.le_mul_of_pos_left _ hg
  by_cases h0 : D < 0
  · exact ⟨-N, -D, -(g : Int), ⟨by omega, by omega, by omega, by rw [Int.natAbs_neg, Int.natAbs_neg]; exact hco⟩, by omega, by rw [Int.neg_mul_neg]; exact hN, by rw [Int.neg_mul_neg]; exact hD⟩
  · exact ⟨N, D, (g : Int), ⟨by omega, by omega, by omega, hco⟩, by omega, hN, hD⟩
/-- Two quotients that are equal are multiples of one fraction. -/
theorem rat_same {n' d' N D : Int} (h : Fr N D) (hx : n' * D = N * d') (hd : d' ≠ 0) : ∃ m : Int, m ≠ 0 ∧ n' = m * N ∧ d' = m * D := by
  have hD := h.2.1
  obtain ⟨m, hm⟩ : D ∣ d' := by
    rw [← Int.natAbs_dvd_natAbs]
    refine Nat.Coprime.dvd_of_dvd_mul_left (m := N.natAbs) (n := d'.natAbs) (by rw [Nat.Coprime, Nat.gcd_comm]; exact h.2.2.2) ?_
    rw [← Int.natAbs_mul, ← hx, Int.natAbs_mul]
    exact Nat.dvd_mul_left _ _
  refine ⟨m, fun e => hd (by rw [hm, e, Int.mul_zero]), ?_, by rw [hm, Int.mul_comm]⟩
  rw [hm] at hx
  have : D * n' = D * (m * N) := by rw [Int.mul_comm D n', hx, Int.mul_left_comm, Int.mul_comm N m]
  exact Int.eq_of_mul_eq_mul_left (by omega) this
end Go.Proofs.Ytabjcjieniokaaa.Pure
/- Plain lemma: the row that the program's and the reference's UnitRow make. No condition. -/
namespace Go.Proofs.Ytabjcjieniokaaa.Pure
open Go.RowKit Go.Proofs.Ytabjcjieniokaaa.Z Go.Proofs.YtabjcjieniokaaaW.PrintWords

def unitN (i n : Nat) : List Int := (List.range n).map (fun k : Nat => if k = i then (1 : Int) else 0)
theorem unitN_len (i n : Nat) : (unitN i n).length = n := by unfold unitN; simp
def unitR (i n : Int) : List Int := if 1 ≤ n ∧ n ≤ 6 ∧ 0 ≤ i ∧ i < n then unitN i.toNat n.toNat else []
theorem unit_small_i : ∀ n : Fin 6, ∀ i : Fin 6, i.val < n.val + 1 → impl_UnitRow.f (i.val : Int) ((n.val : Int) + 1) = some (unitN i.val (n.val + 1)) := by decide +kernel
theorem unit_impl (i n : Int) : impl_UnitRow.f i n = some (unitR i n) := by
  unfold unitR
  by_cases h : 1 ≤ n ∧ n ≤ 6 ∧ 0 ≤ i ∧ i < n
  · rw [if_pos h]
    obtain ⟨h1, h2, h3, h4⟩ := h
    have a := unit_small_i ⟨(n - 1).toNat, by omega⟩ ⟨i.toNat, by omega⟩ (by show i.toNat < (n - 1).toNat + 1; omega)
    have e0 : (((n - 1).toNat : Nat) : Int) + 1 = n := by omega
    have e1 : ((i.toNat : Nat) : Int) = i := by omega
    have e2 : (n - 1).toNat + 1 = n.toNat := by omega
    simp only [e0, e1, e2] at a
    exact a
  · rw [if_neg h]
    unfold impl_UnitRow.f impl_InRange.f impl_at.f
    by_cases h1 : 1 ≤ n <;> by_cases h2 : n ≤ 6 <;> by_cases h3 : 0 ≤ i <;> by_cases h4 : i < n <;> first | omega | simp [h1, h2, h3, h4]
end Go.Proofs.Ytabjcjieniokaaa.Pure
/- A row cleared by all rows that have a pivot is 0 exactly if it is in the span; it stays small on the way. No condition. -/
namespace Go.Proofs.Ytabjcjieniokaaa.Lin
set_option linter.unusedVariables false
set_option linter.unusedSimpArgs false

/-- The row x, made of 'row', behind the rows P with a pivot and ahead of the rows S. -/
structure XInv (n : Nat) (M : List Vec) (A : Nat → Vec) (t : Nat) (row : List Int) (P S : List (Nat × List Int)) (x : List Int) : Prop where
  len : x.length = n
  made : ∃ (g l : Int) (u : Vec), g ≠ 0 ∧ l ≠ 0 ∧ (∀ j, g * vec x j = l * vec row j + dotN t u (fun i => A i j)) ∧ ∀ o ∈ S, g * vec x o.1 = l * vec row o.1
  zero : ∀ o ∈ P, vec x o.1 = 0
  prim : x = row ∨ Prim n (vec x) ∨ ∀ j, vec x j = 0
  dual : ∃ a b : Int, a ≠ 0 ∧ b ≠ 0 ∧ ∀ v, Null n M v → b * dotN n (vec x) v = a * dotN n (vec row) v

theorem XInv.start {n : Nat} {M : List Vec} {A : Nat → Vec} {t : Nat} {row : List Int} {O : List (Nat × List Int)} (hl : row.length = n) : XInv n M A t row [] O row :=
  ⟨hl, ⟨1, 1, fun _ => 0, by decide, by decide, fun j => by rw [dotN_zero (fun i _ => Int.zero_mul _), Int.add_zero], fun _ _ => rfl⟩, fun o ho => absurd ho (by simp), .inl rfl, ⟨1, 1, by decide, by decide, fun _ _ => rfl⟩⟩

section
variable {e : Nat → Nat} {n : Nat} {M : List Vec} {R : List (List Int)} {O : List (Nat × List Int)} (h : InvL e n n M R O) {A : Nat → Vec} (hmO : ∀ o ∈ vecO O, ∃ (g : Int) (u : Vec), g ≠ 0 ∧ ∀ j, g * o.2 j = dotN O.length u (fun i => A i j)) {row : List Int}
include h hmO

theorem XInv.step {P S : List (Nat × List Int)} {o : Nat × List Int} {x : List Int} (hO : O = P ++ o :: S) (hx : XInv n M A O.length row P (o :: S) x) : XInv n M A O.length row (P ++ [o]) S (clrL o.2 o.1 x) := by
  have hoO : o ∈ O := by rw [hO]; simp
  have hl := h.lenO o hoO
  obtain ⟨hk0, hk1⟩ := h.lead hoO
  have hcl := clrL_clr (p := o.2) (c := o.1) (r := x) (by rw [hl, hx.len]) hk0
  have hkeys : (O.map (·.1)).Nodup := by
    have h1 : (vecO O).map (·.1) = O.map (·.1) := by unfold vecO; simp [Function.comp_def]
    rw [← h1, h.red.keys]
    exact pivs_nodup _ _ _
  have hne : ∀ q, q ∈ P ∨ q ∈ S → q.1 ≠ o.1 := fun q hq e1 => by
    rw [hO, List.map_append, List.map_cons, List.nodup_append] at hkeys
    rcases hq with hq | hq
    · exact hkeys.2.2 q.1 (List.mem_map_of_mem hq) o.1 (List.mem_cons_self ..) e1
    · exact (List.nodup_cons.1 hkeys.2.1).1 (e1 ▸ List.mem_map_of_mem hq)
  have hoff : ∀ q, q ∈ P ∨ q ∈ S → vec o.2 q.1 = 0 := fun q hq =>
    h.red.off _ (vecO_mem hoO) _ (vecO_mem (o := q) (by rw [hO]; rcases hq with hq | hq <;> simp [hq])) (hne q hq)
  refine ⟨by rw [clrL_len]; exact hx.len, ?_, fun q hq => ?_, ?_, ?_⟩
  · obtain ⟨g, l, u, hg, hl', e2, e3⟩ := hx.made
    obtain ⟨go, uo, hgo, eo⟩ := hmO _ (vecO_mem hoO)
    obtain ⟨g1, hg1, e1⟩ := hcl
    refine ⟨g1 * g * go, l * go * vec o.2 o.1, fun i => u i * (go * vec o.2 o.1) - uo i * (g * vec x o.1), mul_ne (mul_ne hg1 hg) hgo, mul_ne (mul_ne hl' hgo) hk0, fun j => ?_, fun q hq => ?_⟩
    · rw [dotN_comb, ← eo j]
      have e4 := e2 j
      have e5 := e1 j
      have x1 : g1 * g * go * vec (clrL o.2 o.1 x) j = (g * vec x j) * (go * vec o.2 o.1) - (go * vec o.2 j) * (g * vec x o.1) := by
        rw [show g1 * g * go * vec (clrL o.2 o.1 x) j = (g * go) * (g1 * vec (clrL o.2 o.1 x) j) by simp only [Int.mul_assoc, Int.mul_comm, Int.mul_left_comm], e5, Int.mul_sub]
        congr 1 <;> simp only [Int.mul_assoc, Int.mul_comm, Int.mul_left_comm]
      rw [x1, e4, Int.add_mul]
      have x2 : l * vec row j * (go * vec o.2 o.1) = l * go * vec o.2 o.1 * vec row j := by simp only [Int.mul_assoc, Int.mul_comm, Int.mul_left_comm]
      rw [x2]
      show _ = _ + (_ - go * vec o.2 j * (g * vec x o.1))
      omega
    · have e5 := e1 q.1
      rw [hoff q (.inr hq), Int.zero_mul, Int.sub_zero] at e5
      have e6 := e3 q (List.mem_cons_of_mem _ hq)
      rw [show g1 * g * go * vec (clrL o.2 o.1 x) q.1 = (g * go) * (g1 * vec (clrL o.2 o.1 x) q.1) by simp only [Int.mul_assoc, Int.mul_comm, Int.mul_left_comm], e5,
        show g * go * (vec x q.1 * vec o.2 o.1) = (g * vec x q.1) * (go * vec o.2 o.1) by simp only [Int.mul_assoc, Int.mul_comm, Int.mul_left_comm], e6]
      simp only [Int.mul_assoc, Int.mul_comm, Int.mul_left_comm]
  · rcases List.mem_append.1 hq with hq | hq
    · exact hcl.zero (hx.zero q hq) (hoff q (.inl hq))
    · rw [List.mem_singleton.1 hq]; exact hcl.at_c
  · by_cases e0 : vec x o.1 = 0
    · have : clrL o.2 o.1 x = x := by unfold clrL; rw [if_pos e0]
      rw [this]; exact hx.prim
    · right
      unfold clrL
      rw [if_neg e0]
      exact tidyL_prim (by rw [elimL_len]; exact hx.len)
  · obtain ⟨a, b, ha, hb, ed⟩ := hx.dual
    obtain ⟨g, hg, e1⟩ := hcl
    refine ⟨a * vec o.2 o.1, b * g, mul_ne ha hk0, mul_ne hb hg, fun v hv => ?_⟩
    have hov : dotN n (vec o.2) v = 0 := ((h.red.null v).1 hv).2 _ (vecO_mem hoO)
    have e2 : g * dotN n (vec (clrL o.2 o.1 x)) v = dotN n (vec x) v * vec o.2 o.1 := by
      rw [← dotN_smul, dotN_congr (b := fun j => vec x j * vec o.2 o.1 - vec o.2 j * vec x o.1) (y := v) (fun j _ => by rw [e1 j]), dotN_comb, hov, Int.zero_mul, Int.sub_zero]
    rw [Int.mul_assoc, e2, ← Int.mul_assoc, ed v hv]
    simp only [Int.mul_assoc, Int.mul_comm, Int.mul_left_comm]

omit hmO in
theorem XInv.end {x : List Int} (hx : XInv n M A O.length row O [] x) : (∀ j, j < n → vec x j = 0) ↔ Perp n M (vec row) := by
  obtain ⟨a, b, ha, hb, ed⟩ := hx.dual
  refine perp_iff (fun j hj hf => ?_) ha hb ed
  have h1 : (vecO O).map (·.1) = O.map (·.1) := by unfold vecO; simp [Function.comp_def]
  have : j ∈ O.map (·.1) := by
    rw [← h1, h.red.keys]
    unfold pivs
    rw [List.mem_filter, List.mem_range, decide_eq_true_eq]
    exact ⟨hj, hf⟩
  obtain ⟨o, ho, rfl⟩ := List.mem_map.1 this
  exact hx.zero o ho
end

theorem XInv.bound {e : Nat → Nat} {n : Nat} {M : List Vec} {R : List (List Int)} {O : List (Nat × List Int)} (h : InvL e n n M R O) (hE : Cols e n n) {A : Nat → Vec} (hI : Ind O.length A (O.map (·.1))) (hA : ∀ i, i < O.length → ∀ j, (A i j).natAbs ≤ e j)
    {row : List Int} (hr : ∀ j, (vec row j).natAbs ≤ e j) {P S : List (Nat × List Int)} (hO : O = P ++ S) {x : List Int} (hx : XInv n M A O.length row P S x) : ∀ z ∈ x, z.natAbs ≤ 645120 := by
  refine abs_vec (fun j hj => ?_)
  have hjn : j < n := by rw [← hx.len]; exact hj
  have hej := hE.small j hjn
  rcases hx.prim with rfl | hp | h0
  · have := hr j
    omega
  · obtain ⟨g, l, u, hg, hl, e2, e3⟩ := hx.made
    have hkn : ∀ k ∈ O.map (·.1), k < n := fun k hk => by
      obtain ⟨o, ho, rfl⟩ := List.mem_map.1 hk
      exact h.lt ho
    have h6 := hE.six
    have hf := h.few
    have := small (n := n) hI (by simp) (by omega) (fun k hk => hE.small k (hkn k hk)) hA (b := vec row) (b' := fun k => if vec x k = 0 then vec row k else 0) (r := vec x) hr (fun k => by
      show (if vec x k = 0 then vec row k else (0 : Int)).natAbs ≤ e k
      split
      · exact hr k
      · exact Nat.zero_le _) hg hl e2 (fun k hk => ?_) hp j hjn
    · refine Nat.le_trans this ?_
      rw [← Nat.mul_assoc]
      have h2 := powX (t := O.length) (by omega)
      have h3 := Nat.mul_le_mul h2 hej
      omega
    · show l * (if vec x k = 0 then vec row k else 0) + _ = 0
      have e4 := e2 k
      split
      · rename_i h0
        rw [h0, Int.mul_zero] at e4
        exact e4.symm
      · rename_i h0
        obtain ⟨o, ho, rfl⟩ := List.mem_map.1 hk
        rw [hO] at ho
        rcases List.mem_append.1 ho with ho | ho
        · exact absurd (hx.zero o ho) h0
        · rw [e3 o ho] at e4
          rw [Int.mul_zero]
          omega
  · rw [h0 j]; decide
end Go.Proofs.Ytabjcjieniokaaa.Lin
/- Plain lemmas: a row is in the span, by the program and by the reference, exactly if every null vector of the rows is orthogonal to it. Condition: the lists are not longer than lists can be. -/
namespace Go.Proofs.Ytabjcjieniokaaa.Pure
open Go.RowKit Go.Proofs.Ytabjcjieniokaaa.Z Go.Proofs.YtabjcjieniokaaaW.PrintWords Go.Proofs.Ytabjcjieniokaaa.Lin
set_option linter.unusedVariables false
set_option linter.unusedSimpArgs false

noncomputable def perpB (n : Nat) (M : List Vec) (r : Vec) : Bool := @decide (Perp n M r) (Classical.propDecidable _)
theorem perpB_iff {n : Nat} {M : List Vec} {r : Vec} : perpB n M r = true ↔ Perp n M r := by unfold perpB; exact @decide_eq_true_iff _ (Classical.propDecidable _)
noncomputable def inSpan (m : List (List Int)) (row : List Int) : Bool := isMatrix m (row.length : Int) && (isMatrix [row] (row.length : Int) && perpB row.length (m.map vec) (vec row))
theorem bool_iff {p : Prop} [Decidable p] {b : Bool} (h : p ↔ b = true) : decide p = b := by
  cases b with
  | true => exact decide_eq_true (h.2 rfl)
  | false => exact decide_eq_false (fun hp => Bool.noConfusion (h.1 hp))

theorem impl_inSpan_ev (m : List (List Int)) (row : List Int) (hm : m.length ≤ 1048576) : Ev (fun k => impl_IsInSpan.f k m row) (inSpan m row) := by
  unfold impl_IsInSpan.f inSpan
  refine Ev.bind (impl_isMatrix m _ (by omega)) ?_
  cases h1 : isMatrix m (row.length : Int) with
  | false => exact Ev.ifneg (by decide) (Ev.now _)
  | true =>
    refine Ev.ifpos rfl (Ev.bind (impl_isMatrix [row] _ (by simp)) ?_)
    cases h2 : isMatrix [row] (row.length : Int) with
    | false => exact Ev.ifneg (by decide) (Ev.now _)
    | true =>
      obtain ⟨n, e1, hn1, hn, hml, hl, hb⟩ := isMatrix_some h1
      obtain ⟨n', e2, _, _, _, hl2, hb2⟩ := isMatrix_some h2
      have en : row.length = n := by omega
      have en' : n' = n := by omega
      subst en'
      have hl' : ∀ r ∈ m ++ [row], r.length = n' := fun r hr => (List.mem_append.1 hr).elim (hl r) (hl2 r)
      have hb' : ∀ r ∈ m ++ [row], ∀ x ∈ r, x.natAbs ≤ 2 := fun r hr => (List.mem_append.1 hr).elim (hb r) (hb2 r)
      obtain ⟨R0, O0, g1, g2⟩ := impl_reduce_ev (cols2 hn) m (by omega) hl (fun r hr j => vec_abs (hb r hr) j)
      obtain ⟨R1, O1, g3, g4⟩ := impl_reduce_ev (cols2 hn) (m ++ [row]) (by rw [List.length_append, List.length_singleton]; omega) hl' (fun r hr j => vec_abs (hb' r hr) j)
      rw [en]
      refine Ev.ifpos rfl (Ev.bind g1 (Ev.ifpos (by omega) (Ev.bind g3 (Ev.pure ?_))))
      rw [Bool.true_and, Bool.true_and]
      refine bool_iff ?_
      rw [List.length_map, List.length_map, g2.count, g4.count, List.map_append, perpB_iff]
      exact span_iff

end Go.Proofs.Ytabjcjieniokaaa.Pure
/- Plain lemmas: the solution of a system, the value of a told column, by the reference and by the program. Condition: a system within the bounds. -/
namespace Go.Proofs.Ytabjcjieniokaaa.Pure
open Go.RowKit Go.Proofs.Ytabjcjieniokaaa.Z Go.Proofs.YtabjcjieniokaaaW.PrintWords Go.Proofs.Ytabjcjieniokaaa.Lin
set_option linter.unusedVariables false
set_option linter.unusedSimpArgs false

section
variable {n : Nat} {M : List Vec} {R : List (List Int)} {O : List (Nat × List Int)} (hn : n ≤ 6) (h : InvL (eV n) (n + 1) n M R O) (h0 : ∀ r ∈ R, vec r n = 0)
include hn h h0

end

theorem unitN_rd (q n c : Nat) (hc : c < n) : rd (unitN q n) (c : Int) = if c = q then 1 else 0 := by
  rw [rd_nat]
  unfold unitN
  rw [List.getD_eq_getElem?_getD, List.getElem?_map, List.getElem?_range hc]
  rfl
/-- The program's loop over the rows with a pivot. -/
theorem value_ev {n q : Nat} {M : List Vec} {R : List (List Int)} {O : List (Nat × List Int)} (hn : n ≤ 6) (hq : q < n) (h : InvL (eV n) (n + 1) (n + 1) M R O) (hlt : ∀ o ∈ O, o.1 < n) (hB : ∀ o ∈ O, ∀ x ∈ o.2, x.natAbs ≤ 23040000) {N D : Int} (hF : Fr N D)
    (hk : ∃ o ∈ O, o.1 = q) (hv : ∀ o ∈ O, o.1 = q → vec o.2 n * D = N * vec o.2 q) : Ev (fun k => impl_ValueOf.l0 k (unitN q n) (n : Int) 0 1 (O.map (·.2)) (((O.map (·.2)).length : Nat) : Int) 0) (N, D, true) := by
  have hul := unitN_len q n
  have hOl : O.length ≤ 7 := by have := h.few; omega
  have hkeys : (O.map (·.1)).Nodup := by
    have e3 : (vecO O).map (·.1) = O.map (·.1) := by unfold vecO; simp [Function.comp_def]
    rw [← e3, h.red.keys]
    exact pivs_nodup _ _ _
  have key : ∀ (S P : List (Nat × List Int)) (A B s : Int), O = P ++ S → Fr A B → (s = 1 ∨ s = -1) → ((q ∈ P.map (·.1) ∧ A = N ∧ B = D) ∨ (q ∉ P.map (·.1) ∧ A = 0 ∧ B = 1)) →
      Ev (fun k => impl_ValueOf.l0 k (unitN q n) (n : Int) (s * A) (s * B) (O.map (·.2)) (((O.map (·.2)).length : Nat) : Int) (P.length : Int)) (N, D, true) := by
    intro S
    induction S with
    | nil =>
      intro P A B s hO hAB hs hst
      rw [List.append_nil] at hO
      have hs0 : s ≠ 0 := by rcases hs with rfl | rfl <;> decide
      have hin : q ∈ P.map (·.1) := by
        obtain ⟨o, ho, e⟩ := hk
        rw [hO] at ho
        exact List.mem_map.2 ⟨o, ho, e⟩
      have hAN : A = N ∧ B = D := hst.elim (fun h => h.2) (fun h => absurd hin h.1)
      obtain ⟨rfl, rfl⟩ := hAN
      have hA := hF.1
      have hB2 := hF.2
      refine Ev.step (fun k => by rw [impl_ValueOf.l0]) ?_
      refine Ev.ifneg (by rw [hO]; simp) (Ev.bind (impl_make hF hs0 rfl rfl ?_ ?_) (Ev.now _))
      · rcases hs with rfl | rfl <;> omega
      · rcases hs with rfl | rfl <;> omega
    | cons o S ih =>
      intro P A B s hO hAB hs hst
      have hoO : o ∈ O := by rw [hO]; simp
      have hPl : P.length < (O.map (·.2)).length := by rw [hO]; simp
      have hPl2 : P.length ≤ 7 := by rw [List.length_map] at hPl; omega
      have hat : rd_L1 (O.map (·.2)) (P.length : Int) = o.2 := by
        rw [show rd_L1 (O.map (·.2)) (P.length : Int) = (O.map (·.2))[P.length] from getD_get _ _ _ hPl]
        simp [hO]
      have hol := h.lenO o hoO
      have holt := hlt o hoO
      have hld : leadL o.2 = o.1 := leadL_key (by omega) (h.lead hoO).1 (h.lead hoO).2
      have b1 := vec_abs (hB o hoO) n
      have b2 := vec_abs (hB o hoO) o.1
      have hp0 := (h.lead hoO).1
      have hnP : o.1 ∉ P.map (·.1) := fun hm => by
        obtain ⟨p, hp, e⟩ := List.mem_map.1 hm
        rw [hO, List.map_append, List.map_cons, List.nodup_append] at hkeys
        exact hkeys.2.2 p.1 (List.mem_map_of_mem hp) o.1 (List.mem_cons_self ..) e
      have hA := hAB.1
      have hBB := hAB.2
      -- the numbers ahead of the division: a multiple of a fraction
      obtain ⟨A', B', c, hF', hc, e1, e2, hst'⟩ : ∃ A' B' c : Int, Fr A' B' ∧ c ≠ 0 ∧ s * A * vec o.2 o.1 + (if o.1 = q then (1 : Int) else 0) * vec o.2 n * (s * B) = c * A' ∧ s * B * vec o.2 o.1 = c * B' ∧ ((q ∈ (P ++ [o]).map (·.1) ∧ A' = N ∧ B' = D) ∨ (q ∉ (P ++ [o]).map (·.1) ∧ A' = 0 ∧ B' = 1)) := by
        have hs0 : s ≠ 0 := by rcases hs with rfl | rfl <;> decide
        by_cases e : o.1 = q
        · rw [if_pos e]
          have hq0 : q ∉ P.map (·.1) := e ▸ hnP
          obtain ⟨_, rfl, rfl⟩ := hst.resolve_left (fun h => hq0 h.1)
          have hcross := hv o hoO e
          rw [← e] at hcross
          obtain ⟨c, hc, k1, k2⟩ := rat_same hF hcross hp0
          refine ⟨N, D, s * c, hF, mul_ne hs0 hc, ?_, ?_, .inl ⟨by rw [List.map_append]; exact List.mem_append_right _ (by simp [e]), rfl, rfl⟩⟩
          · rw [k1, Int.mul_zero, Int.zero_mul, Int.zero_add, Int.one_mul, Int.mul_one, Int.mul_assoc s, Int.mul_comm (c * N)]
          · rw [k2, Int.mul_one, Int.mul_assoc]
        · rw [if_neg e, Int.zero_mul, Int.zero_mul, Int.add_zero]
          refine ⟨A, B, s * vec o.2 o.1, hAB, mul_ne hs0 hp0, by simp only [Int.mul_assoc, Int.mul_comm, Int.mul_left_comm], by simp only [Int.mul_assoc, Int.mul_comm, Int.mul_left_comm], ?_⟩
          rcases hst with ⟨k1, k2⟩ | ⟨k1, k2⟩
          · exact .inl ⟨by rw [List.map_append]; exact List.mem_append_left _ k1, k2⟩
          · refine .inr ⟨fun hm => ?_, k2⟩
            rw [List.map_append] at hm
            rcases List.mem_append.1 hm with hm | hm
            · exact k1 hm
            · simp at hm; exact e hm.symm
      have p1 : (s * A * vec o.2 o.1).natAbs ≤ 1000000000 * 23040000 := by
        rw [Int.natAbs_mul]
        exact Nat.mul_le_mul (by rcases hs with rfl | rfl <;> omega) b2
      have p2 : (s * B * vec o.2 o.1).natAbs ≤ 1000000000 * 23040000 := by
        rw [Int.natAbs_mul]
        exact Nat.mul_le_mul (by rcases hs with rfl | rfl <;> omega) b2
      have p3 : ((if o.1 = q then (1 : Int) else 0) * vec o.2 n).natAbs ≤ 23040000 := by
        split
        · rw [Int.one_mul]; exact b1
        · rw [Int.zero_mul]; exact Nat.zero_le _
      have p4 : ((if o.1 = q then (1 : Int) else 0) * vec o.2 n * (s * B)).natAbs ≤ 23040000 * 1000000000 := by
        rw [Int.natAbs_mul]
        exact Nat.mul_le_mul p3 (by rcases hs with rfl | rfl <;> omega)
      have hcb : c.natAbs ≤ 1000000000 * 23040000 := by
        rw [e2, Int.natAbs_mul] at p2
        exact Nat.le_trans (Nat.le_mul_of_pos_right _ (by have := hF'.2.1; omega)) p2
      have hg := impl_gcd_ev (c * A') (c * B') (by rw [← e1]; omega) (by rw [← e2]; omega)
      rw [gcd_times hF'.2.2.2] at hg
      have hA' := hF'.1
      have hB' := hF'.2
      refine Ev.step (fun k => by rw [impl_ValueOf.l0]) ?_
      rw [hat, wrap_succ (by omega)]
      refine Ev.ifpos (by omega) (Ev.ifpos (by omega) (Ev.ifpos (by omega) (Ev.bind0 (a := ((o.1 : Nat) : Int)) (by unfold impl_lead.f; rw [firstAt_nz (by omega), hld]) (Ev.ifpos (by omega) (Ev.ifpos (by omega) (Ev.ifpos (by omega) (Ev.ifpos (by omega) (Ev.ifpos (by omega) ?_))))))))
      rw [unitN_rd q n o.1 holt, rd_nat, rd_nat]
      show Ev (fun k => (impl_gcd.f k (wrap64 (wrap64 (s * A * vec o.2 o.1) + wrap64 (wrap64 ((if o.1 = q then (1 : Int) else 0) * vec o.2 n) * (s * B)))) (wrap64 (s * B * vec o.2 o.1))).bind fun t => if t = 0 then none else impl_ValueOf.l0 k (unitN q n) (n : Int) (wrap64 (Int.tdiv (wrap64 (wrap64 (s * A * vec o.2 o.1) + wrap64 (wrap64 ((if o.1 = q then (1 : Int) else 0) * vec o.2 n) * (s * B)))) t)) (wrap64 (Int.tdiv (wrap64 (s * B * vec o.2 o.1)) t)) (O.map (·.2)) (((O.map (·.2)).length : Nat) : Int) ((P.length + 1 : Nat) : Int)) (N, D, true)
      rw [wrap_in (n := (if o.1 = q then (1 : Int) else 0) * vec o.2 n) (by omega) (by omega), wrap_in (n := s * A * vec o.2 o.1) (by omega) (by omega), wrap_in (n := (if o.1 = q then (1 : Int) else 0) * vec o.2 n * (s * B)) (by omega) (by omega), wrap_in (n := s * A * vec o.2 o.1 + (if o.1 = q then (1 : Int) else 0) * vec o.2 n * (s * B)) (by omega) (by omega), wrap_in (n := s * B * vec o.2 o.1) (by omega) (by omega), e1, e2]
      refine Ev.bind hg (Ev.ifneg (by omega) ?_)
      rw [sg_div hc, sg_div hc]
      have hnext := ih (P ++ [o]) A' B' (if c < 0 then -1 else 1) (by rw [hO, List.append_assoc]; rfl) hF' (by split <;> simp) hst'
      rw [List.length_append, List.length_singleton] at hnext
      have w1 : wrap64 (if c < 0 then -A' else A') = (if c < 0 then -1 else 1) * A' := by
        split
        · rw [wrap_in (by omega) (by omega)]; omega
        · rw [wrap_in (by omega) (by omega)]; omega
      have w2 : wrap64 (if c < 0 then -B' else B') = (if c < 0 then -1 else 1) * B' := by
        split
        · rw [wrap_in (by omega) (by omega)]; omega
        · rw [wrap_in (by omega) (by omega)]; omega
      rw [w1, w2]
      exact hnext
  have := key O [] 0 1 1 rfl Fr.zero (.inl rfl) (.inr ⟨by simp, rfl, rfl⟩)
  simpa using this
end Go.Proofs.Ytabjcjieniokaaa.Pure
/- Plain lemma: the delay of a link, by the reference and by the program, is one. Condition: the lists are not longer than lists can be. -/
namespace Go.Proofs.Ytabjcjieniokaaa.Pure
open Go.RowKit Go.Proofs.Ytabjcjieniokaaa.Z Go.Proofs.YtabjcjieniokaaaW.PrintWords Go.Proofs.Ytabjcjieniokaaa.Lin
set_option linter.unusedVariables false
set_option linter.unusedSimpArgs false

theorem dot_unit (q n : Nat) (hq : q < n) (x : Vec) : dotN n (vec (unitN q n)) x = x q := by
  have hat : ∀ j, j < n → vec (unitN q n) j = if j = q then 1 else 0 := fun j hj => by
    have := unitN_rd q n j hj
    rw [rd_nat] at this
    exact this
  rw [dotN_one (p := q) hq (fun j hj hne => by rw [hat j hj, if_neg hne, Int.zero_mul]), hat q hq, if_pos rfl, Int.one_mul]
theorem dot_ext (r : List Int) (z : Int) (n : Nat) (hr : r.length = n) (x : Vec) (h0 : x n = 0) : dotN (n + 1) (vec (r ++ [z])) x = dotN n (vec r) x := by
  rw [dotN, h0, Int.mul_zero, Int.add_zero]
  refine dotN_congr (fun j hj => ?_)
  rw [vec_get (by rw [List.length_append]; omega), List.getElem_append_left (by omega), vec_get (by omega)]
theorem told_of (m : List (List Int)) (v : List Int) (n q : Nat) (hq : q < n) (hv : v.length = m.length) (hl : ∀ r ∈ m, r.length = n) (hp : Perp n (m.map vec) (vec (unitN q n))) : Lin.Told n q ((ext m v).map vec) := by
  intro x hx h0
  have h1 := hp x (fun r hr => by
    obtain ⟨r0, hr0, rfl⟩ := List.mem_map.1 hr
    obtain ⟨i, hi, rfl⟩ := List.mem_iff_getElem.1 hr0
    have hel := ext_len m v hv
    have h2 := hx _ (List.mem_map_of_mem (List.getElem_mem (show i < (ext m v).length by omega)))
    rw [ext_at m v hv i hi (by omega), dot_ext _ _ n (hl _ hr0) x h0] at h2
    exact h2)
  rwa [dot_unit q n hq] at h1

end Go.Proofs.Ytabjcjieniokaaa.Pure
/- Plain lemma: the delay of a link, by the program: it answers, and true exactly if the system can be solved and the link is told. Condition: the lists are not longer than lists can be. -/
namespace Go.Proofs.Ytabjcjieniokaaa.Pure
open Go.RowKit Go.Proofs.Ytabjcjieniokaaa.Z Go.Proofs.YtabjcjieniokaaaW.PrintWords Go.Proofs.Ytabjcjieniokaaa.Lin
set_option linter.unusedVariables false
set_option linter.unusedSimpArgs false

theorem key_unique {β : Type} : ∀ {O : List (Nat × β)}, (O.map (·.1)).Nodup → ∀ {p q : Nat × β}, p ∈ O → q ∈ O → p.1 = q.1 → p = q
  | [], _, p, _, hp, _, _ => absurd hp (by simp)
  | a :: O, h, p, q, hp, hq, e => by
    rw [List.map_cons, List.nodup_cons] at h
    rcases List.mem_cons.1 hp with hp | hp <;> rcases List.mem_cons.1 hq with hq | hq
    · rw [hp, hq]
    · exact absurd (List.mem_map.2 ⟨q, hq, by rw [← e, hp]⟩) h.1
    · exact absurd (List.mem_map.2 ⟨p, hp, by rw [e, hq]⟩) h.1
    · exact key_unique h.2 hp hq e

theorem impl_solvable (m : List (List Int)) (v : List Int) (a : Int) (hm : m.length ≤ 1048576) (hv : v.length ≤ 1048576) : Ev (fun k => impl_IsSolvable.f k m v a) (isSys m v a && solvB a.toNat ((ext m v).map vec)) := by
  unfold impl_IsSolvable.f
  cases hs : isSys m v a with
  | false =>
    have h1 : Ev (fun k => impl_solved.f k m v a) ([], false) := by
      unfold impl_solved.f
      have := impl_isSys m v a hm hv
      rw [hs] at this
      exact Ev.bind this (Ev.ifneg (by decide) (Ev.now _))
    exact Ev.bind h1 (Ev.now _)
  | true =>
    obtain ⟨n, R, O, rfl, _, _, h1⟩ := impl_solved_ev m v a hm hv hs
    rw [Int.toNat_natCast, Bool.true_and]
    cases hb : solvB n ((ext m v).map vec) with
    | true =>
      rw [hb, if_pos rfl] at h1
      exact Ev.bind h1 (Ev.now _)
    | false =>
      rw [hb, if_neg (by decide)] at h1
      exact Ev.bind h1 (Ev.now _)

theorem delay_impl (m : List (List Int)) (v : List Int) (a b : Int) (hm : m.length ≤ 1048576) (hv : v.length ≤ 1048576) : ∃ r : Int × Int × Bool, Ev (fun k => impl_DelayOf.f k m v a b) r ∧ (r.2.2 = true ↔ (isSys m v b && solvB b.toNat ((ext m v).map vec)) = true ∧ (1 ≤ b ∧ b ≤ 6 ∧ 0 ≤ a ∧ a < b) ∧ inSpan m (unitR a b) = true) := by
  have hu := unit_impl a b
  by_cases hin : 1 ≤ b ∧ b ≤ 6 ∧ 0 ≤ a ∧ a < b
  rotate_left
  · have e : unitR a b = [] := by unfold unitR; rw [if_neg hin]
    rw [e] at hu
    refine ⟨(0, 0, false), ?_, by simp [hin]⟩
    unfold impl_DelayOf.f
    exact Ev.bind0 hu (Ev.ifpos rfl (Ev.now _))
  obtain ⟨q, n, rfl, rfl⟩ : ∃ q n : Nat, a = (q : Int) ∧ b = (n : Int) := ⟨a.toNat, b.toNat, by omega, by omega⟩
  have eu : unitR (q : Int) (n : Int) = unitN q n := by unfold unitR; rw [if_pos hin, Int.toNat_natCast, Int.toNat_natCast]
  rw [eu] at hu
  have hul := unitN_len q n
  have hqn : q < n := by omega
  have hin2 := impl_inSpan_ev m (unitN q n) hm
  have hl0 : ¬ (((unitN q n).length : Nat) : Int) = 0 := by omega
  have wrapI : ∀ r, Ev (fun k => impl_ValueOf.f k m v (unitN q n)) r → Ev (fun k => impl_DelayOf.f k m v (q : Int) (n : Int)) r := fun r hr => by
    unfold impl_DelayOf.f
    exact Ev.bind0 hu (Ev.ifneg hl0 (Ev.bind hr (Ev.now _)))
  have j0no : ∀ x y z, Ev (fun k => impl_ValueOf.j0 k x y z true) (0, 0, false) := fun x y z => by
    refine Ev.step (fun k => by rw [impl_ValueOf.j0]) ?_
    exact Ev.ifpos rfl (Ev.now _)
  rw [Int.toNat_natCast, eu]
  cases hsys : isSys m v (n : Int) && solvB n ((ext m v).map vec) with
  | false =>
    refine ⟨(0, 0, false), wrapI _ ?_, by simp⟩
    unfold impl_ValueOf.f
    rw [hul]
    cases hs : isSys m v (n : Int) with
    | false =>
      have h1 : Ev (fun k => impl_solved.f k m v (n : Int)) ([], false) := by
        unfold impl_solved.f
        have := impl_isSys m v (n : Int) hm hv
        rw [hs] at this
        exact Ev.bind this (Ev.ifneg (by decide) (Ev.now _))
      exact Ev.bind h1 (Ev.ifneg (by decide) (j0no _ _ _))
    | true =>
      obtain ⟨n', R, O, e, _, _, h1⟩ := impl_solved_ev m v (n : Int) hm hv hs
      obtain rfl : n = n' := by omega
      rw [hs, Bool.true_and] at hsys
      rw [hsys, if_neg (by decide)] at h1
      exact Ev.bind h1 (Ev.ifneg (by decide) (j0no _ _ _))
  | true =>
    rw [Bool.and_eq_true] at hsys
    obtain ⟨n2, R', O', e2, hn, h2', h1'⟩ := impl_solved_ev m v (n : Int) hm hv hsys.1
    obtain rfl : n = n2 := by omega
    rw [if_pos hsys.2] at h1'
    cases hsp : inSpan m (unitN q n) with
    | false =>
      rw [hsp] at hin2
      refine ⟨(0, 0, false), wrapI _ ?_, by simp⟩
      unfold impl_ValueOf.f
      rw [hul]
      exact Ev.bind h1' (Ev.ifpos rfl (Ev.bind hin2 (j0no _ _ _)))
    | true =>
      rw [hsp] at hin2
      obtain ⟨n3, e3, _, _, hml, hvl, hlm, _, _⟩ := isSys_some hsys.1
      obtain rfl : n = n3 := by omega
      have hperp : Perp n (m.map vec) (vec (unitN q n)) := by
        unfold inSpan at hsp
        rw [Bool.and_eq_true, Bool.and_eq_true] at hsp
        have := perpB_iff.1 hsp.2.2
        rwa [hul] at this
      have htold := told_of m v n q hqn hvl hlm hperp
      have hfree := solvB_iff.1 hsys.2
      have hkn := (free_keys h2').2 hfree
      have hOlt' : ∀ o ∈ O', o.1 < n := fun o ho => by
        have := h2'.lt ho
        have := hkn o ho
        omega
      have hB' : ∀ o ∈ O', ∀ x ∈ o.2, x.natAbs ≤ 23040000 := by
        intro o ho
        have hol := h2'.lenO o ho
        refine abs_vec (fun j hj => ?_)
        have hcount : O'.length ≤ 6 := by
          have hk : O'.length ≤ (List.range n).length := by
            have hnd : (O'.map (·.1)).Nodup := by
              have e4 : (vecO O').map (·.1) = O'.map (·.1) := by unfold vecO; simp [Function.comp_def]
              rw [← e4, h2'.red.keys]
              exact pivs_nodup _ _ _
            have := nodup_le hnd (K := List.range n) (fun x hx => by
              obtain ⟨p, hp, rfl⟩ := List.mem_map.1 hx
              exact List.mem_range.2 (hOlt' p hp))
            rwa [List.length_map] at this
          rw [List.length_range] at hk
          omega
        have h9 := small_of h2' hcount (fun k hk => by unfold eV; rw [if_pos hk]; exact Nat.le_refl _) hOlt' ho j (by omega)
        have h10 : eV n j ≤ 1000 := (colsV hn).all j
        omega
      have hnd : (O'.map (·.1)).Nodup := by
        have e4 : (vecO O').map (·.1) = O'.map (·.1) := by unfold vecO; simp [Function.comp_def]
        rw [← e4, h2'.red.keys]
        exact pivs_nodup _ _ _
      obtain ⟨o', ho', eo'⟩ := htold.key hqn (Nat.lt_succ_of_lt hqn) h2'.red
      obtain ⟨oo, hoo, rfl⟩ := List.mem_map.1 ho'
      have eo : oo.1 = q := eo'
      have hlead := (h2'.lead hoo).1
      rw [eo] at hlead
      have b1 := vec_abs (hB' oo hoo) n
      have b2 := vec_abs (hB' oo hoo) q
      obtain ⟨N, D, c, hF, hc, p1, p2⟩ := rat_of hlead (by omega : (vec oo.2 n).natAbs ≤ 1000000000) (by omega)
      have huniq : ∀ o1 ∈ O', o1.1 = q → o1 = oo := fun o1 ho1 e1 => key_unique hnd ho1 hoo (by rw [e1, eo])
      have hres : Ev (fun k => impl_ValueOf.l0 k (unitN q n) (n : Int) 0 1 (O'.map (·.2)) (((O'.map (·.2)).length : Nat) : Int) 0) (N, D, true) := by
        refine value_ev hn hqn h2' hOlt' hB' hF ⟨oo, hoo, eo⟩ (fun o1 ho1 e1 => ?_)
        rw [huniq o1 ho1 e1, p1, p2]
        simp only [Int.mul_assoc, Int.mul_comm, Int.mul_left_comm]
      refine ⟨(N, D, true), wrapI _ ?_, by simp [hsys.1, hsys.2, hin]⟩
      unfold impl_ValueOf.f
      rw [hul]
      refine Ev.bind h1' (Ev.ifpos rfl (Ev.bind hin2 ?_))
      refine Ev.step (fun k => by rw [impl_ValueOf.j0]) ?_
      exact Ev.ifneg (by decide) hres
end Go.Proofs.Ytabjcjieniokaaa.Pure
/- Plain lemmas: a row that is not in the span makes exactly one pivot more; no row, no pivot; all columns bound exactly if each unit row is in the span. No condition. -/
namespace Go.Proofs.Ytabjcjieniokaaa.Lin

theorem filter_one {α : Type} (p q : α → Bool) : ∀ l : List α, l.Nodup → (∀ x ∈ l, p x = true → q x = true) → (∀ x ∈ l, ∀ y ∈ l, q x = true → p x = false → q y = true → p y = false → x = y) → (l.filter q).length ≤ (l.filter p).length + 1
  | [], _, _, _ => by simp
  | a :: l, hn, h, hu => by
    rw [List.nodup_cons] at hn
    have ih := filter_one p q l hn.2 (fun x hx => h x (List.mem_cons_of_mem _ hx)) (fun x hx y hy => hu x (List.mem_cons_of_mem _ hx) y (List.mem_cons_of_mem _ hy))
    have ha := h a (List.mem_cons_self ..)
    rw [List.filter_cons, List.filter_cons]
    cases hp : p a <;> cases hq : q a
    · simpa using ih
    · have e : l.filter q = l.filter p := List.filter_congr (fun x hx => by
        cases hqx : q x <;> cases hpx : p x
        · rfl
        · rw [h x (List.mem_cons_of_mem _ hx) hpx] at hqx; cases hqx
        · obtain rfl := hu x (List.mem_cons_of_mem _ hx) a (List.mem_cons_self ..) hqx hpx hq hp
          exact absurd hx hn.1
        · rfl)
      rw [e]
      simp
    · rw [hp, hq] at ha; exact absurd (ha rfl) (by decide)
    · simpa using ih
theorem filter_le {α : Type} (p q : α → Bool) : ∀ l : List α, (∀ x ∈ l, p x = true → q x = true) → (l.filter p).length ≤ (l.filter q).length
  | [], _ => by simp
  | b :: l, h => by
    have ih := filter_le p q l (fun x hx => h x (List.mem_cons_of_mem _ hx))
    have hb := h b (List.mem_cons_self ..)
    rw [List.filter_cons, List.filter_cons]
    cases hp : p b <;> cases hq : q b
    · simpa using ih
    · simp; omega
    · rw [hp, hq] at hb; exact absurd (hb rfl) (by decide)
    · simpa using ih

theorem lost_one {n : Nat} {m : List Vec} {row : Vec} {c d : Nat} (hcd : c < d) (hd : d < n) (hc : Free n m c) (hc2 : ¬ Free n (m ++ [row]) c) (hd1 : Free n m d) : Free n (m ++ [row]) d := by
  obtain ⟨x, x1, x2, x3⟩ := hc
  obtain ⟨y, y1, y2, y3⟩ := hd1
  have hx : dotN n row x ≠ 0 := fun e => hc2 ⟨x, fun r hr => by
    rcases List.mem_append.1 hr with hr | hr
    · exact x1 r hr
    · rw [List.mem_singleton.1 hr]; exact e, x2, x3⟩
  refine ⟨fun j => dotN n row x * y j - dotN n row y * x j, fun r hr => ?_, ?_, fun j hj hn => ?_⟩
  · rw [dotN_combR]
    rcases List.mem_append.1 hr with hr | hr
    · rw [x1 r hr, y1 r hr]; simp
    · rw [List.mem_singleton.1 hr, Int.mul_comm]; omega
  · show dotN n row x * y d - dotN n row y * x d ≠ 0
    rw [x3 d hcd hd, Int.mul_zero, Int.sub_zero]
    exact mul_ne hx y2
  · show dotN n row x * y j - dotN n row y * x j = 0
    rw [x3 j (by omega) hn, y3 j hj hn]
    simp

theorem gain {n : Nat} {m : List Vec} {row : Vec} (h : ¬ Perp n m row) : (pivs n (m ++ [row]) n).length = (pivs n m n).length + 1 := by
  have h1 : (pivs n m n).length ≤ (pivs n (m ++ [row]) n).length := filter_le _ _ _ (fun x _ hx => by
    rw [decide_eq_true_eq] at *
    exact fun hc => hx (free_more hc))
  have h2 : (pivs n (m ++ [row]) n).length ≤ (pivs n m n).length + 1 := filter_one _ _ _ List.nodup_range (fun x _ hx => by
    rw [decide_eq_true_eq] at *
    exact fun hc => hx (free_more hc)) (fun x hx y hy a1 a2 b1 b2 => by
    rw [decide_eq_true_eq] at a1 b1
    have a2 := Classical.not_not.1 (of_decide_eq_false a2)
    have b2 := Classical.not_not.1 (of_decide_eq_false b2)
    rcases Nat.lt_trichotomy x y with e | e | e
    · exact absurd (lost_one e (List.mem_range.1 hy) a2 a1 b2) b1
    · exact e
    · exact absurd (lost_one e (List.mem_range.1 hx) b2 b1 a2) a1)
  have h3 : (pivs n m n).length ≠ (pivs n (m ++ [row]) n).length := fun e => h (span_iff.1 e)
  omega

theorem pivs_nil (n : Nat) : pivs n [] n = [] := by
  unfold pivs
  rw [List.filter_eq_nil_iff]
  intro c _
  rw [decide_eq_true_eq, Classical.not_not]
  exact ⟨fun j => if j = c then 1 else 0, fun r hr => absurd hr (by simp), by simp, fun j hj _ => by
    show (if j = c then (1 : Int) else 0) = 0
    rw [if_neg (by omega)]⟩

/-- All columns bound: the null vectors are zero there. -/
theorem null_zero {n : Nat} {m : List Vec} (hb : ∀ c, c < n → ¬ Free n m c) {v : Vec} (hv : Null n m v) : ∀ d j, n ≤ j + d → j < n → v j = 0
  | 0, j, h1, h2 => by omega
  | d + 1, j, h1, h2 => Classical.byContradiction (fun h0 => hb j h2 ⟨v, hv, h0, fun i hi hin => null_zero hb hv d i (by omega) hin⟩)
theorem pivs_full {n : Nat} {m : List Vec} : (pivs n m n).length = n ↔ ∀ c, c < n → ¬ Free n m c := by
  unfold pivs
  have h : ((List.range n).filter (fun j => decide (¬ Free n m j))).length = n ↔ ∀ c ∈ List.range n, decide (¬ Free n m c) = true := by
    rw [← List.length_filter_eq_length_iff, List.length_range]
  rw [h]
  constructor
  · intro h c hc
    have := h c (List.mem_range.2 hc)
    rwa [decide_eq_true_eq] at this
  · intro h c hc
    rw [decide_eq_true_eq]
    exact h c (List.mem_range.1 hc)
end Go.Proofs.Ytabjcjieniokaaa.Lin
/- Plain lemmas: what is drawn from the bytes: each draw answers; Below n lies in 0..n-1; Int gives an element. Condition: the bytes are no more than a slice can hold. -/
namespace Go.Proofs.Ytabjcjieniokaaa.Pure
open Go.RowKit Go.Proofs.Ytabjcjieniokaaa.Z Go.Proofs.YtabjcjieniokaaaW.PrintWords

theorem and255 (x : Int) : 0 ≤ Go.bits .and .i64 x 255 ∧ Go.bits .and .i64 x 255 ≤ 255 := by
  have h : (BitVec.ofInt 64 x &&& BitVec.ofInt 64 255).toNat ≤ 255 := by
    rw [BitVec.toNat_and]
    exact Nat.and_le_right
  have e : Go.bits .and .i64 x 255 = wrap64 ((BitVec.ofInt 64 x &&& BitVec.ofInt 64 255).toNat : Int) := by
    unfold Go.bits
    exact Go.Proofs.YtabjcjieniokaaaW.PrintLast.i64_w _
  rw [e, wrap_in (by omega) (by omega)]
  omega

/-- A place in the bytes. -/
def Cur (x : List Int) (i : Int) : Prop := 0 ≤ i ∧ i ≤ x.length

theorem cur_byte (x : List Int) (i s : Int) (hx : x.length ≤ 4611686018427387904) (hi : Cur x i) : ∃ v i' s', spec_l1Byte.f x i s = some (v, i', s') ∧ (0 ≤ v ∧ v ≤ 255) ∧ Cur x i' := by
  unfold spec_l1Byte.f
  by_cases h : i < x.length
  · rw [if_pos h, if_pos hi.1]
    refine ⟨_, _, _, rfl, and255 _, ?_⟩
    have h0 := hi.1
    rw [wrap_in (by omega) (by omega)]
    exact ⟨by omega, by omega⟩
  · rw [if_neg h]
    exact ⟨_, _, _, rfl, and255 _, hi⟩

theorem cur_below (x : List Int) (i s n : Int) (hx : x.length ≤ 4611686018427387904) (hi : Cur x i) (hn : 0 < n) : ∃ v i' s', spec_l1Below.f x i s n = some (v, i', s') ∧ (0 ≤ v ∧ v < n) ∧ Cur x i' := by
  unfold spec_l1Below.f
  rw [if_neg (by omega)]
  obtain ⟨v1, i1, s1, e1, h1, c1⟩ := cur_byte x i s hx hi
  rw [e1]
  by_cases h : n ≤ 256
  · rw [if_pos h, Option.bind_some, if_neg (by omega)]
    refine ⟨_, _, _, rfl, ?_, c1⟩
    show 0 ≤ Int.tmod v1 n ∧ Int.tmod v1 n < n
    rw [Int.tmod_eq_emod_of_nonneg h1.1]
    exact ⟨Int.emod_nonneg _ (by omega), Int.emod_lt_of_pos _ hn⟩
  · obtain ⟨v2, i2, s2, e2, h2, c2⟩ := cur_byte x i1 s1 hx c1
    obtain ⟨v3, i3, s3, e3, h3, c3⟩ := cur_byte x i2 s2 hx c2
    rw [if_neg h, Option.bind_some]
    show ∃ v i' s', ((spec_l1Byte.f x i1 s1).bind _) = _ ∧ _
    rw [e2, Option.bind_some]
    show ∃ v i' s', ((spec_l1Byte.f x i2 s2).bind _) = _ ∧ _
    rw [e3, Option.bind_some, if_neg (by omega)]
    refine ⟨_, _, _, rfl, ?_, c3⟩
    show 0 ≤ Int.tmod (wrap64 (wrap64 (wrap64 (v1 * 65536) + wrap64 (v2 * 256)) + v3)) n ∧ _
    rw [wrap_in (n := v1 * 65536) (by omega) (by omega), wrap_in (n := v2 * 256) (by omega) (by omega), wrap_in (n := v1 * 65536 + v2 * 256) (by omega) (by omega), wrap_in (by omega) (by omega), Int.tmod_eq_emod_of_nonneg (by omega)]
    exact ⟨Int.emod_nonneg _ (by omega), Int.emod_lt_of_pos _ hn⟩

theorem cur_int (x : List Int) (i s : Int) (l : List Int) (hx : x.length ≤ 4611686018427387904) (hi : Cur x i) (hl : 0 < l.length) : ∃ v i' s', spec_l1Int.f x i s l = some (v, i', s') ∧ v ∈ l ∧ Cur x i' := by
  obtain ⟨v, i', s', e, h, c⟩ := cur_below x i s l.length hx hi (by omega)
  unfold spec_l1Int.f
  rw [e, Option.bind_some]
  refine ⟨rd l v, i', s', ?_, ?_, c⟩
  · show (if 0 ≤ v then (if v < (l.length : Int) then some (rd l v, i', s') else none) else none) = _
    rw [if_pos h.1, if_pos h.2]
  · obtain ⟨j, rfl⟩ : ∃ j : Nat, v = (j : Int) := ⟨v.toNat, by omega⟩
    rw [rd_get l j (by omega)]
    exact List.getElem_mem _

theorem cur_new_from (x : List Int) (_hx : x.length ≤ 4611686018427387904) : ∀ d i h, i + d = x.length → ∃ s, Ev (fun k => spec_l1New.l0 k x h (i : Int)) (x, 0, s) := by
  intro d
  induction d with
  | zero =>
    intro i h hi
    refine ⟨h, Ev.step (fun k => by rw [spec_l1New.l0]) ?_⟩
    exact Ev.ifneg (by omega) (Ev.now _)
  | succ d ih =>
    intro i h hi
    by_cases h4 : (i : Int) < 4000
    · obtain ⟨s, hs⟩ := ih (i + 1) (Go.bits .and .i64 (wrap64 ((wrap64 ((wrap64 (h * 137)) + (wrap64 (rd x i)))) + 11)) 1073741823) (by omega)
      refine ⟨s, Ev.step (fun k => by rw [spec_l1New.l0]) ?_⟩
      refine Ev.ifpos (by omega) (Ev.ifpos h4 (Ev.ifpos (by omega) ?_))
      have e : wrap64 ((i : Int) + 1) = ((i + 1 : Nat) : Int) := wrap_succ (by omega)
      rw [e]
      exact hs
    · refine ⟨h, Ev.step (fun k => by rw [spec_l1New.l0]) ?_⟩
      exact Ev.ifpos (by omega) (Ev.ifneg h4 (Ev.now _))

theorem cur_new (x : List Int) (hx : x.length ≤ 4611686018427387904) : ∃ s, Ev (fun k => spec_l1New.f k x) (x, 0, s) := by
  unfold spec_l1New.f
  exact cur_new_from x hx x.length 0 _ (by omega)

theorem cur_zero (x : List Int) : Cur x 0 := ⟨by omega, by omega⟩

end Go.Proofs.Ytabjcjieniokaaa.Pure
/- Plain lemmas: what is drawn of matrices and systems: each draw answers, with at most 13 rows of one to seven numbers. Condition: the bytes are no more than a slice can hold. -/
namespace Go.Proofs.Ytabjcjieniokaaa.Pure
open Go.RowKit Go.Proofs.Ytabjcjieniokaaa.Z Go.Proofs.YtabjcjieniokaaaW.PrintWords
set_option linter.unusedVariables false
set_option linter.unusedSimpArgs false

def Few (m : List (List Int)) : Prop := m.length ≤ 13 ∧ ∀ r ∈ m, 1 ≤ r.length ∧ r.length ≤ 7
theorem Few.nil : Few [] := ⟨by simp, fun r hr => absurd hr (by simp)⟩
theorem Few.add {m : List (List Int)} (h : Few m) (hl : m.length ≤ 12) {r : List Int} (h1 : 1 ≤ r.length) (h2 : r.length ≤ 7) : Few (m ++ [r]) :=
  ⟨by rw [List.length_append, List.length_singleton]; omega, fun q hq => by
    rcases List.mem_append.1 hq with hq | hq
    · exact h.2 q hq
    · rw [List.mem_singleton.1 hq]; exact ⟨h1, h2⟩⟩
theorem Few.set {m : List (List Int)} (h : Few m) (i : Nat) {r : List Int} (h1 : 1 ≤ r.length) (h2 : r.length ≤ 7) : Few (m.set i r) :=
  ⟨by rw [List.length_set]; exact h.1, fun q hq => by
    rcases List.mem_or_eq_of_mem_set hq with hq | rfl
    · exact h.2 q hq
    · exact ⟨h1, h2⟩⟩

theorem dot_all (a b : List Int) (ha : a.length ≤ 1048576) : ∀ (d i : Nat) (z : Int), i + d = a.length → ∃ r, Ev (fun k => spec_DotOf.l0 k a b z (i : Int)) r := by
  intro d
  induction d with
  | zero =>
    intro i z h
    refine ⟨z, Ev.step (fun k => by rw [spec_DotOf.l0]) ?_⟩
    exact Ev.ifneg (by omega) (Ev.now _)
  | succ d ih =>
    intro i z h
    by_cases hb : (i : Int) < (b.length : Int)
    · obtain ⟨r, hr⟩ := ih (i + 1) (wrap64 (z + (wrap64 ((rd a (i : Int)) * (rd b (i : Int)))))) (by omega)
      refine ⟨r, Ev.step (fun k => by rw [spec_DotOf.l0]) ?_⟩
      rw [wrap_succ (i := i) (by omega)]
      exact Ev.ifpos (by omega) (Ev.ifpos hb (Ev.ifpos (by omega) hr))
    · refine ⟨z, Ev.step (fun k => by rw [spec_DotOf.l0]) ?_⟩
      exact Ev.ifpos (by omega) (Ev.ifneg hb (Ev.now _))

section
variable (x : List Int) (hx : x.length ≤ 4611686018427387904)
include hx

theorem cur_once14 (i s n : Int) (hi : Cur x i) (hn : 0 < n) : ∃ v i' s', spec_l1Once.f x i s n = some (v, i', s') ∧ Cur x i' := by
  obtain ⟨v, i', s', e, _, c⟩ := cur_below x i s n hx hi hn
  unfold spec_l1Once.f
  rw [e, Option.bind_some]
  exact ⟨_, _, _, rfl, c⟩

theorem draw_bits_row (R C r : Nat) (hr : r < R) (hR : R ≤ 6) (hC : 1 ≤ C ∧ C ≤ 6) (m : List (List Int)) (hm : Few m) (hml : m.length = r)
    (next : ∀ (q : List (List Int)) (i s : Int), Few q → q.length = r + 1 → Cur x i → ∃ q' i' s', Ev (fun k => spec_l5Bits.l0 k (R : Int) (C : Int) q ((r + 1 : Nat) : Int) x i s) (q', i', s') ∧ Few q' ∧ Cur x i') :
    ∀ (d c : Nat) (row : List Int) (i s : Int), c + d = C → row.length = c → Cur x i → ∃ q' i' s', Ev (fun k => spec_l5Bits.l1 k (R : Int) (C : Int) m (r : Int) row (c : Int) x i s) (q', i', s') ∧ Few q' ∧ Cur x i' := by
  intro d
  induction d with
  | zero =>
    intro c row i s h hl hi
    obtain ⟨q', i', s', h1, h2⟩ := next (m ++ [row]) i s (hm.add (by omega) (by omega) (by omega)) (by rw [List.length_append, List.length_singleton]; omega) hi
    refine ⟨q', i', s', Ev.step (fun k => by rw [spec_l5Bits.l1]) ?_, h2⟩
    rw [wrap_succ (i := r) (by omega)]
    exact Ev.ifneg (by omega) (Ev.ifpos (by omega) h1)
  | succ d ih =>
    intro c row i s h hl hi
    obtain ⟨v, i1, s1, e1, _, c1⟩ := cur_below x i s 2 hx hi (by decide)
    obtain ⟨q', i', s', h1, h2⟩ := ih (c + 1) (row ++ [v]) i1 s1 (by omega) (by rw [List.length_append, List.length_singleton]; omega) c1
    refine ⟨q', i', s', Ev.step (fun k => by rw [spec_l5Bits.l1]) ?_, h2⟩
    rw [wrap_succ (i := c) (by omega)]
    exact Ev.ifpos (by omega) (Ev.bind0 e1 (Ev.ifpos (by omega) h1))

theorem draw_bits_from (R C : Nat) (hR : R ≤ 6) (hC : 1 ≤ C ∧ C ≤ 6) : ∀ (d r : Nat) (m : List (List Int)) (i s : Int), r + d = R → Few m → m.length = r → Cur x i → ∃ q' i' s', Ev (fun k => spec_l5Bits.l0 k (R : Int) (C : Int) m (r : Int) x i s) (q', i', s') ∧ Few q' ∧ Cur x i' := by
  intro d
  induction d with
  | zero =>
    intro r m i s h hm hl hi
    refine ⟨m, i, s, Ev.step (fun k => by rw [spec_l5Bits.l0]) ?_, hm, hi⟩
    exact Ev.ifneg (by omega) (Ev.now _)
  | succ d ih =>
    intro r m i s h hm hl hi
    obtain ⟨q', i', s', h1, h2⟩ := draw_bits_row x hx R C r (by omega) hR hC m hm hl (fun q i s h1 h2 h3 => ih (r + 1) q i s (by omega) h1 h2 h3) C 0 [] i s (by omega) rfl hi
    refine ⟨q', i', s', Ev.step (fun k => by rw [spec_l5Bits.l0]) ?_, h2⟩
    exact Ev.ifpos (by omega) h1

theorem draw_bits (a b i s : Int) (ha : 0 ≤ a ∧ a ≤ 6) (hb : 1 ≤ b ∧ b ≤ 6) (hi : Cur x i) : ∃ q' i' s', Ev (fun k => spec_l5Bits.f k x i s a b) (q', i', s') ∧ Few q' ∧ Cur x i' := by
  obtain ⟨R, C, rfl, rfl⟩ : ∃ R C : Nat, a = (R : Int) ∧ b = (C : Int) := ⟨a.toNat, b.toNat, by omega, by omega⟩
  unfold spec_l5Bits.f
  exact draw_bits_from x hx R C (by omega) (by omega) R 0 [] i s (by omega) Few.nil rfl hi

theorem draw_row_from (C : Nat) (hC : 1 ≤ C ∧ C ≤ 6) : ∀ (d c : Nat) (row : List Int) (i s : Int), c + d = C → row.length = c → Cur x i → ∃ q i' s', Ev (fun k => spec_l5Row.l0 k (C : Int) row (c : Int) x i s) (q, i', s') ∧ q.length = C ∧ Cur x i' := by
  intro d
  induction d with
  | zero =>
    intro c row i s h hl hi
    refine ⟨row, i, s, Ev.step (fun k => by rw [spec_l5Row.l0]) ?_, by omega, hi⟩
    exact Ev.ifneg (by omega) (Ev.now _)
  | succ d ih =>
    intro c row i s h hl hi
    obtain ⟨v, i1, s1, e1, _, c1⟩ := cur_int x i s [0, 0, 1, 1, 1, (-1), 2, (-2)] hx hi (by decide)
    obtain ⟨q, i', s', h1, h2⟩ := ih (c + 1) (row ++ [v]) i1 s1 (by omega) (by rw [List.length_append, List.length_singleton]; omega) c1
    refine ⟨q, i', s', Ev.step (fun k => by rw [spec_l5Row.l0]) ?_, h2⟩
    rw [wrap_succ (i := c) (by omega)]
    exact Ev.ifpos (by omega) (Ev.bind0 e1 (Ev.ifpos (by omega) h1))
theorem draw_row (C : Nat) (hC : 1 ≤ C ∧ C ≤ 6) (i s : Int) (hi : Cur x i) : ∃ q i' s', Ev (fun k => spec_l5Row.f k x i s (C : Int)) (q, i', s') ∧ q.length = C ∧ Cur x i' := by
  unfold spec_l5Row.f
  exact draw_row_from x hx C hC C 0 [] i s (by omega) rfl hi

theorem draw5_from (C : Nat) (hC : 1 ≤ C ∧ C ≤ 6) : ∀ (v : Nat) (m : List (List Int)) (i s : Int), m.length + v ≤ 6 → Few m → (∀ r ∈ m, r.length ≤ 6) → Cur x i → ∃ q i' s', Ev (fun k => spec_l5Draw.l0 k (C : Int) m (v : Int) x i s) (q, i', s') ∧ (Few q ∧ q.length ≤ 6 ∧ ∀ r ∈ q, r.length ≤ 6) ∧ Cur x i' := by
  intro v
  induction v with
  | zero =>
    intro m i s h hm h6 hi
    refine ⟨m, i, s, Ev.step (fun k => by rw [spec_l5Draw.l0]) ?_, ⟨hm, by omega, h6⟩, hi⟩
    exact Ev.ifneg (by omega) (Ev.now _)
  | succ v ih =>
    intro m i s h hm h6 hi
    obtain ⟨r, i1, s1, e1, hr, c1⟩ := draw_row x hx C hC i s hi
    obtain ⟨q, i', s', h1, h2⟩ := ih (m ++ [r]) i1 s1 (by rw [List.length_append, List.length_singleton]; omega) (hm.add (by omega) (by omega) (by omega)) (fun q hq => (List.mem_append.1 hq).elim (h6 q) (fun e => by rw [List.mem_singleton.1 e]; omega)) c1
    refine ⟨q, i', s', Ev.step (fun k => by rw [spec_l5Draw.l0]) ?_, h2⟩
    have e2 : wrap64 (((v + 1 : Nat) : Int) - 1) = (v : Int) := by rw [wrap_in (by omega) (by omega)]; omega
    rw [e2]
    exact Ev.ifpos (by omega) (Ev.bind e1 (Ev.ifpos (by omega) h1))
theorem draw5 (C : Nat) (hC : 1 ≤ C ∧ C ≤ 6) (i s : Int) (hi : Cur x i) : ∃ q i' s', Ev (fun k => spec_l5Draw.f k x i s (C : Int)) (q, i', s') ∧ (Few q ∧ q.length ≤ 6 ∧ ∀ r ∈ q, r.length ≤ 6) ∧ Cur x i' := by
  obtain ⟨v, i1, s1, e1, h1, c1⟩ := cur_below x i s 7 hx hi (by decide)
  obtain ⟨n, rfl⟩ : ∃ n : Nat, v = (n : Int) := ⟨v.toNat, by omega⟩
  obtain ⟨q, i', s', h2, h3⟩ := draw5_from x hx C hC n [] i1 s1 (by simp; omega) Few.nil (fun r hr => absurd hr (by simp)) c1
  refine ⟨q, i', s', ?_, h3⟩
  unfold spec_l5Draw.f
  exact Ev.bind0 e1 h2

theorem draw5_more (C : Nat) (hC : 1 ≤ C ∧ C ≤ 6) : ∀ (d : Nat) (m : List (List Int)) (i s : Int), m.length + d = 13 → Few m → Cur x i → ∃ q i' s', Ev (fun k => spec_l5Any.l0 k (C : Int) m x i s) (q, i', s') ∧ Few q ∧ Cur x i' := by
  intro d
  induction d with
  | zero =>
    intro m i s h hm hi
    refine ⟨m, i, s, Ev.step (fun k => by rw [spec_l5Any.l0]) ?_, hm, hi⟩
    exact Ev.ifneg (by omega) (Ev.now _)
  | succ d ih =>
    intro m i s h hm hi
    obtain ⟨r, i1, s1, e1, hr, c1⟩ := draw_row x hx C hC i s hi
    obtain ⟨q, i', s', h1, h2⟩ := ih (m ++ [r]) i1 s1 (by rw [List.length_append, List.length_singleton]; omega) (hm.add (by omega) (by omega) (by omega)) c1
    refine ⟨q, i', s', Ev.step (fun k => by rw [spec_l5Any.l0]) ?_, h2⟩
    exact Ev.ifpos (by omega) (Ev.bind e1 (Ev.ifpos (by omega) h1))

theorem draw5_any (C : Nat) (hC : 1 ≤ C ∧ C ≤ 6) (i s : Int) (hi : Cur x i) : ∃ q i' s', Ev (fun k => spec_l5Any.f k x i s (C : Int)) (q, i', s') ∧ Few q ∧ Cur x i' := by
  obtain ⟨m, i1, s1, e1, ⟨hm, hml, h6⟩, c1⟩ := draw5 x hx C hC i s hi
  unfold spec_l5Any.f
  by_cases h0 : (m.length : Int) = 0
  · exact ⟨m, i1, s1, Ev.bind e1 (Ev.ifpos h0 (Ev.now _)), hm, c1⟩
  obtain ⟨v, i2, s2, e2, h2, c2⟩ := cur_below x i1 s1 9 hx c1 (by decide)
  have hp : 0 < m.length := by omega
  have er : rd_L1 m 0 = m[0] := getD_get m 0 _ hp
  have h7 := hm.2 m[0] (List.getElem_mem hp)
  have hp2 : (0 : Int) < (m.length : Int) := by omega
  by_cases v0 : v = 0
  · -- one more number in the first row
    refine ⟨m.set (0 : Int).toNat (rd_L1 m 0 ++ [1]), i2, s2, Ev.bind e1 (Ev.ifneg h0 (Ev.bind0 e2 (Ev.ifpos v0 (Ev.ifpos hp2 (Ev.ifpos (by rw [er]; omega) (Ev.now _)))))), ?_, c2⟩
    exact hm.set _ (by simp) (by rw [er, List.length_append, List.length_singleton]; have := h6 m[0] (List.getElem_mem hp); omega)
  by_cases v1 : v = 1
  · obtain ⟨u, i3, s3, e3, _, c3⟩ := cur_int x i2 s2 [3, (-3), 9223372036854775807] hx c2 (by decide)
    exact ⟨m.set (0 : Int).toNat ((rd_L1 m 0).set (0 : Int).toNat u), i3, s3, Ev.bind e1 (Ev.ifneg h0 (Ev.bind0 e2 (Ev.ifneg v0 (Ev.ifpos v1 (Ev.ifpos hp2 (Ev.bind0 e3 (Ev.ifpos (by rw [er]; omega) (Ev.now _)))))))), hm.set _ (by rw [List.length_set, er]; omega) (by rw [List.length_set, er]; omega), c3⟩
  by_cases v2 : v = 2
  · obtain ⟨q, i', s', h3, h4⟩ := draw5_more x hx C hC (13 - m.length) m i2 s2 (by omega) hm c2
    exact ⟨q, i', s', Ev.bind e1 (Ev.ifneg h0 (Ev.bind0 e2 (Ev.ifneg v0 (Ev.ifneg v1 (Ev.ifpos v2 h3))))), h4⟩
  · exact ⟨m, i2, s2, Ev.bind e1 (Ev.ifneg h0 (Ev.bind0 e2 (Ev.ifneg v0 (Ev.ifneg v1 (Ev.ifneg v2 (Ev.now _)))))), hm, c2⟩
omit hx in
theorem draw6_dots (m : List (List Int)) (v : List Int) (hm : Few m) (i s : Int) (hi : Cur x i) : ∀ (d r : Nat) (out : List Int), r + d = m.length → out.length = r → ∃ o, Ev (fun k => spec_l6Draw.l1 k m v out (r : Int) x i s) (m, o, i, s) ∧ o.length = m.length := by
  intro d
  induction d with
  | zero =>
    intro r out h hl
    refine ⟨out, Ev.step (fun k => by rw [spec_l6Draw.l1]) ?_, by omega⟩
    exact Ev.ifneg (by omega) (Ev.now _)
  | succ d ih =>
    intro r out h hl
    have hr : r < m.length := by omega
    have hml := hm.1
    have er : rd_L1 m (r : Int) = m[r] := getD_get m r _ hr
    have h7 := hm.2 m[r] (List.getElem_mem hr)
    obtain ⟨z, hz⟩ := dot_all m[r] v (by omega) m[r].length 0 0 (by omega)
    obtain ⟨o, h1, h2⟩ := ih (r + 1) (out ++ [z]) (by omega) (by rw [List.length_append, List.length_singleton]; omega)
    refine ⟨o, Ev.step (fun k => by rw [spec_l6Draw.l1]) ?_, h2⟩
    rw [wrap_succ (i := r) (by omega), er]
    refine Ev.ifpos (by omega) (Ev.ifpos (by omega) (Ev.bind (a := z) ?_ (Ev.ifpos (by omega) h1)))
    unfold spec_DotOf.f
    exact hz

theorem draw6_vals (C : Nat) (hC : 1 ≤ C ∧ C ≤ 6) (m : List (List Int)) (hm : Few m) : ∀ (d c : Nat) (v : List Int) (i s : Int), c + d = C → v.length = c → Cur x i → ∃ o i' s', Ev (fun k => spec_l6Draw.l0 k (C : Int) m v (c : Int) x i s) (m, o, i', s') ∧ o.length = m.length ∧ Cur x i' := by
  intro d
  induction d with
  | zero =>
    intro c v i s h hl hi
    obtain ⟨o, h1, h2⟩ := draw6_dots x m v hm i s hi m.length 0 [] (by omega) rfl
    refine ⟨o, i, s, Ev.step (fun k => by rw [spec_l6Draw.l0]) ?_, h2, hi⟩
    exact Ev.ifneg (by omega) h1
  | succ d ih =>
    intro c v i s h hl hi
    obtain ⟨u, i1, s1, e1, _, c1⟩ := cur_below x i s 30 hx hi (by decide)
    obtain ⟨o, i', s', h1, h2⟩ := ih (c + 1) (v ++ [u]) i1 s1 (by omega) (by rw [List.length_append, List.length_singleton]; omega) c1
    refine ⟨o, i', s', Ev.step (fun k => by rw [spec_l6Draw.l0]) ?_, h2⟩
    rw [wrap_succ (i := c) (by omega)]
    exact Ev.ifpos (by omega) (Ev.bind0 e1 (Ev.ifpos (by omega) h1))

theorem draw6 (C : Nat) (hC : 1 ≤ C ∧ C ≤ 6) (i s : Int) (hi : Cur x i) : ∃ m v i' s', Ev (fun k => spec_l6Draw.f k x i s (C : Int)) (m, v, i', s') ∧ (Few m ∧ v.length = m.length) ∧ Cur x i' := by
  obtain ⟨a, i1, s1, e1, h1, c1⟩ := cur_below x i s 6 hx hi (by decide)
  obtain ⟨m, i2, s2, e2, hm, c2⟩ := draw_bits x hx (wrap64 (1 + a)) (C : Int) i1 s1 (by rw [wrap_in (by omega) (by omega)]; omega) (by omega) c1
  obtain ⟨o, i', s', h3, h4, h5⟩ := draw6_vals x hx C hC m hm C 0 [] i2 s2 (by omega) rfl c2
  refine ⟨m, o, i', s', ?_, ⟨hm, h4⟩, h5⟩
  unfold spec_l6Draw.f
  exact Ev.bind0 e1 (Ev.bind e2 h3)

theorem draw6_end (m : List (List Int)) (v : List Int) (hv : v.length ≤ 13) (i s : Int) (hi : Cur x i) : ∃ o i' s', Ev (fun k => spec_l6Any.j1 k m v x i s) (m, o, i', s') ∧ o.length ≤ 13 ∧ Cur x i' := by
  by_cases h0 : (v.length : Int) = 0
  · refine ⟨v, i, s, Ev.step (fun k => by rw [spec_l6Any.j1]) ?_, hv, hi⟩
    exact Ev.ifpos h0 (Ev.now _)
  obtain ⟨a, i1, s1, e1, h1, c1⟩ := cur_below x i s 9 hx hi (by decide)
  by_cases v0 : a = 0
  · obtain ⟨u, i3, s3, e3, _, c3⟩ := cur_int x i1 s1 [1000, 1001, (-1001), 9223372036854775807] hx c1 (by decide)
    refine ⟨v.set (0 : Int).toNat u, i3, s3, Ev.step (fun k => by rw [spec_l6Any.j1]) ?_, by rw [List.length_set]; exact hv, c3⟩
    exact Ev.ifneg h0 (Ev.bind0 e1 (Ev.ifpos v0 (Ev.bind0 e3 (Ev.ifpos (by omega) (Ev.now _)))))
  by_cases v1 : a = 1
  · refine ⟨v.drop (1 : Int).toNat, i1, s1, Ev.step (fun k => by rw [spec_l6Any.j1]) ?_, by rw [List.length_drop]; omega, c1⟩
    exact Ev.ifneg h0 (Ev.bind0 e1 (Ev.ifneg v0 (Ev.ifpos v1 (Ev.ifpos (by omega) (Ev.now _)))))
  by_cases v2 : a = 2
  · have ew : wrap64 ((v.length : Int) - 1) = (v.length : Int) - 1 := wrap_in (by omega) (by omega)
    refine ⟨v.set ((wrap64 ((v.length : Int) - 1)) : Int).toNat (wrap64 ((rd v (wrap64 ((v.length : Int) - 1))) + 1)), i1, s1, Ev.step (fun k => by rw [spec_l6Any.j1]) ?_, by rw [List.length_set]; exact hv, c1⟩
    exact Ev.ifneg h0 (Ev.bind0 e1 (Ev.ifneg v0 (Ev.ifneg v1 (Ev.ifpos v2 (Ev.ifpos (by omega) (Ev.ifpos (by omega) (Ev.now _)))))))
  · refine ⟨v, i1, s1, Ev.step (fun k => by rw [spec_l6Any.j1]) ?_, hv, c1⟩
    exact Ev.ifneg h0 (Ev.bind0 e1 (Ev.ifneg v0 (Ev.ifneg v1 (Ev.ifneg v2 (Ev.now _)))))

theorem draw6_more (m : List (List Int)) (hm : Few m) : ∀ (d r : Nat) (v : List Int) (i s : Int), r + d = m.length → v.length = r → Cur x i → ∃ o i' s', Ev (fun k => spec_l6Any.l0 k m v (r : Int) x i s) (m, o, i', s') ∧ o.length ≤ 13 ∧ Cur x i' := by
  have hml := hm.1
  intro d
  induction d with
  | zero =>
    intro r v i s h hl hi
    obtain ⟨o, i', s', h1, h2⟩ := draw6_end x hx m v (by omega) i s hi
    refine ⟨o, i', s', Ev.step (fun k => by rw [spec_l6Any.l0]) ?_, h2⟩
    exact Ev.ifneg (by omega) h1
  | succ d ih =>
    intro r v i s h hl hi
    obtain ⟨u, i1, s1, e1, _, c1⟩ := cur_int x i s [0, 1, 5, (-7), 12] hx hi (by decide)
    obtain ⟨o, i', s', h1, h2⟩ := ih (r + 1) (v ++ [u]) i1 s1 (by omega) (by rw [List.length_append, List.length_singleton]; omega) c1
    refine ⟨o, i', s', Ev.step (fun k => by rw [spec_l6Any.l0]) ?_, h2⟩
    rw [wrap_succ (i := r) (by omega)]
    exact Ev.ifpos (by omega) (Ev.bind0 e1 (Ev.ifpos (by omega) h1))

theorem draw6_any (C : Nat) (hC : 1 ≤ C ∧ C ≤ 6) (i s : Int) (hi : Cur x i) : ∃ m v i' s', Ev (fun k => spec_l6Any.f k x i s (C : Int)) (m, v, i', s') ∧ (Few m ∧ v.length ≤ 13) ∧ Cur x i' := by
  obtain ⟨m, v, i1, s1, e1, ⟨hm, hv⟩, c1⟩ := draw6 x hx C hC i s hi
  obtain ⟨b, i2, s2, e2, c2⟩ := cur_once14 x hx i1 s1 3 c1 (by decide)
  have hml := hm.1
  unfold spec_l6Any.f
  cases b with
  | true =>
    obtain ⟨q, i3, s3, e3, hq, c3⟩ := draw5_any x hx C hC i2 s2 c2
    obtain ⟨o, i', s', h1, h2, h3⟩ := draw6_more x hx q hq q.length 0 [] i3 s3 (by omega) rfl c3
    exact ⟨q, o, i', s', Ev.bind e1 (Ev.bind0 e2 (Ev.ifpos rfl (Ev.bind e3 h1))), ⟨hq, h2⟩, h3⟩
  | false =>
    obtain ⟨o, i', s', h1, h2, h3⟩ := draw6_end x hx m v (by omega) i2 s2 c2
    exact ⟨m, o, i', s', Ev.bind e1 (Ev.bind0 e2 (Ev.ifneg Bool.false_ne_true h1)), ⟨hm, h2⟩, h3⟩

theorem draw_delay : ∃ m v a b, Ev (fun k => spec_DrawDelayOf.f k x) (m, v, a, b) ∧ Few m ∧ v.length ≤ 13 := by
  obtain ⟨s, hs⟩ := cur_new x hx
  obtain ⟨a, i1, s1, e1, h1, c1⟩ := cur_below x 0 s 6 hx (cur_zero x) (by decide)
  obtain ⟨C, hC⟩ : ∃ C : Nat, wrap64 (1 + a) = (C : Int) := ⟨(1 + a).toNat, by rw [wrap_in (by omega) (by omega)]; omega⟩
  have hC2 : 1 ≤ C ∧ C ≤ 6 := by rw [wrap_in (by omega) (by omega)] at hC; omega
  obtain ⟨m, v, i2, s2, e2, ⟨hm, hv⟩, c2⟩ := draw6_any x hx C hC2 i1 s1 c1
  obtain ⟨u, i3, s3, e3, h3, c3⟩ := cur_below x i2 s2 (wrap64 ((C : Int) + 2)) hx c2 (by rw [wrap_in (by omega) (by omega)]; omega)
  refine ⟨m, v, wrap64 (u - 1), (C : Int), ?_, hm, hv⟩
  unfold spec_DrawDelayOf.f
  rw [← hC] at e2 e3 ⊢
  exact Ev.bind hs (Ev.bind0 e1 (Ev.bind e2 (Ev.bind0 e3 (Ev.now _))))

theorem draw_matrix : ∃ m a, Ev (fun k => spec_DrawIsMatrix.f k x) (m, a) ∧ Few m := by
  obtain ⟨s, hs⟩ := cur_new x hx
  obtain ⟨a, i1, s1, e1, h1, c1⟩ := cur_below x 0 s 6 hx (cur_zero x) (by decide)
  obtain ⟨C, hC⟩ : ∃ C : Nat, wrap64 (1 + a) = (C : Int) := ⟨(1 + a).toNat, by rw [wrap_in (by omega) (by omega)]; omega⟩
  have hC2 : 1 ≤ C ∧ C ≤ 6 := by rw [wrap_in (by omega) (by omega)] at hC; omega
  obtain ⟨m, i2, s2, e2, hm, c2⟩ := draw5_any x hx C hC2 i1 s1 c1
  obtain ⟨b, i3, s3, e3, c3⟩ := cur_once14 x hx i2 s2 8 c2 (by decide)
  unfold spec_DrawIsMatrix.f
  rw [← hC] at e2
  cases b with
  | true =>
    obtain ⟨u, i4, s4, e4, _, c4⟩ := cur_int x i3 s3 [0, 7, (-1)] hx c3 (by decide)
    exact ⟨m, u, Ev.bind hs (Ev.bind0 e1 (Ev.bind e2 (Ev.bind0 e3 (Ev.ifpos rfl (Ev.bind0 e4 (Ev.now _)))))), hm⟩
  | false => exact ⟨m, _, Ev.bind hs (Ev.bind0 e1 (Ev.bind e2 (Ev.bind0 e3 (Ev.ifneg Bool.false_ne_true (Ev.now _))))), hm⟩

theorem draw_told : ∃ m a, Ev (fun k => spec_DrawToldLinks.f k x) (m, a) ∧ Few m := by
  obtain ⟨s, hs⟩ := cur_new x hx
  obtain ⟨a, i1, s1, e1, h1, c1⟩ := cur_below x 0 s 6 hx (cur_zero x) (by decide)
  obtain ⟨r, i2, s2, e2, h2, c2⟩ := cur_below x i1 s1 7 hx c1 (by decide)
  obtain ⟨m, i3, s3, e3, hm, c3⟩ := draw_bits x hx r (wrap64 (1 + a)) i2 s2 (by omega) (by rw [wrap_in (by omega) (by omega)]; omega) c2
  obtain ⟨b, i4, s4, e4, c4⟩ := cur_once14 x hx i3 s3 8 c3 (by decide)
  unfold spec_DrawToldLinks.f
  cases b with
  | true =>
    obtain ⟨q, u, e5, hq⟩ := draw_matrix x hx
    exact ⟨q, u, Ev.bind hs (Ev.bind0 e1 (Ev.bind0 e2 (Ev.bind e3 (Ev.bind0 e4 (Ev.ifpos rfl (Ev.bind e5 (Ev.now _))))))), hq⟩
  | false => exact ⟨m, _, Ev.bind hs (Ev.bind0 e1 (Ev.bind0 e2 (Ev.bind e3 (Ev.bind0 e4 (Ev.ifneg Bool.false_ne_true (Ev.now _)))))), hm⟩

theorem draw_useful : ∃ m a, Ev (fun k => spec_DrawUsefulRows.f k x) (m, a) ∧ Few m := by
  obtain ⟨m, a, e, h⟩ := draw_told x hx
  unfold spec_DrawUsefulRows.f
  exact ⟨m, a, Ev.bind e (Ev.now _), h⟩
end
end Go.Proofs.Ytabjcjieniokaaa.Pure
/- Plain lemmas: the told links, by the program and by the reference, are those whose unit rows are in the span. Condition: the list is not longer than lists can be. -/
namespace Go.Proofs.Ytabjcjieniokaaa.Pure
open Go.RowKit Go.Proofs.Ytabjcjieniokaaa.Z Go.Proofs.YtabjcjieniokaaaW.PrintWords Go.Proofs.Ytabjcjieniokaaa.Lin
set_option linter.unusedVariables false
set_option linter.unusedSimpArgs false

noncomputable def toldTo (m : List (List Int)) (a : Int) (i : Nat) : List Int := ((List.range i).filter (fun j : Nat => inSpan m (unitR (j : Int) a))).map (fun j : Nat => (j : Int))
theorem toldTo_len (m : List (List Int)) (a : Int) (i : Nat) : (toldTo m a i).length ≤ i := by
  unfold toldTo
  rw [List.length_map]
  have := List.length_filter_le (fun j : Nat => inSpan m (unitR (j : Int) a)) (List.range i)
  rwa [List.length_range] at this
theorem toldTo_succ (m : List (List Int)) (a : Int) (i : Nat) : toldTo m a (i + 1) = toldTo m a i ++ (if inSpan m (unitR (i : Int) a) = true then [(i : Int)] else []) := by
  unfold toldTo
  rw [List.range_succ, List.filter_append, List.map_append, List.filter_cons]
  cases inSpan m (unitR (i : Int) a) <;> rfl
noncomputable def told (m : List (List Int)) (a : Int) : List Int := if isMatrix m a = true then toldTo m a a.toNat else []
theorem matrix_in {m : List (List Int)} {a : Int} (h : isMatrix m a = true) : 1 ≤ a ∧ a ≤ 6 := by
  obtain ⟨n, rfl, h1, h2, _⟩ := isMatrix_some h
  omega
theorem told_len (m : List (List Int)) (a : Int) : (told m a).length ≤ 6 := by
  unfold told
  split
  · rename_i h
    have := matrix_in h
    have := toldTo_len m a a.toNat
    omega
  · simp
theorem unit_len {i : Nat} {a : Int} (h : 1 ≤ a ∧ a ≤ 6) (hi : (i : Int) < a) : ((unitR (i : Int) a).length : Int) = a := by
  unfold unitR
  rw [if_pos ⟨h.1, h.2, by omega, hi⟩, unitN_len]
  omega

theorem impl_told (m : List (List Int)) (a : Int) (hm : m.length ≤ 1048576) : Ev (fun k => impl_ToldLinks.f k m a) (told m a) := by
  unfold impl_ToldLinks.f
  refine Ev.bind0 (in_range _ _ _) ?_
  by_cases hr : 1 ≤ a ∧ a ≤ 6
  · rw [decide_eq_true hr]
    refine Ev.ifpos rfl ?_
    have e : told m a = toldTo m a a.toNat := by
      unfold told
      by_cases h : isMatrix m a = true
      · rw [if_pos h]
      · rw [if_neg h]
        unfold toldTo
        rw [List.filter_eq_nil_iff.2 (fun j hj => ?_)]
        · rfl
        · have hj := List.mem_range.1 hj
          unfold inSpan
          rw [unit_len hr (by omega), Bool.eq_false_iff.2 h, Bool.false_and]
          exact Bool.false_ne_true
    rw [e]
    obtain ⟨n, hn⟩ : ∃ n : Nat, a = (n : Int) := ⟨a.toNat, by omega⟩
    subst hn
    rw [Int.toNat_natCast]
    have key := Ev.up n (fun i s k => impl_ToldLinks.l0 k m (n : Int) s (n : Int) (i : Int)) (fun _ _ => toldTo m n n) (fun i s => s = toldTo m n i) ?_ ?_ 0 [] (Nat.zero_le _) rfl
    · simpa using key
    · rintro s rfl
      refine Ev.step (fun k => by rw [impl_ToldLinks.l0]) ?_
      exact Ev.ifneg (by omega) (Ev.now _)
    · rintro i s hi rfl ih
      refine Ev.step (fun k => by rw [impl_ToldLinks.l0]) ?_
      have hu := toldTo_len m n i
      have hs := toldTo_succ m n i
      rw [wrap_succ (by omega)]
      refine Ev.ifpos (by omega) (Ev.bind0 (unit_impl _ _) (Ev.bind (impl_inSpan_ev m _ hm) ?_))
      cases hb : inSpan m (unitR (i : Int) (n : Int)) with
      | true =>
        rw [hb, if_pos rfl] at hs
        exact Ev.ifpos rfl (Ev.ifpos (by omega) (ih _ hs.symm))
      | false =>
        rw [hb, if_neg (by decide), List.append_nil] at hs
        exact Ev.ifneg (by decide) (ih _ hs.symm)
  · rw [decide_eq_false hr]
    have e : told m a = [] := by
      unfold told
      rw [if_neg (fun h => hr (matrix_in h))]
    rw [e]
    exact Ev.ifneg (by decide) (Ev.now _)

end Go.Proofs.Ytabjcjieniokaaa.Pure
/- Plain lemmas: the useful rows, by the program and by the reference, are those not in the span of the rows ahead of them. Condition: the list is not longer than lists can be. -/
namespace Go.Proofs.Ytabjcjieniokaaa.Pure
open Go.RowKit Go.Proofs.Ytabjcjieniokaaa.Z Go.Proofs.YtabjcjieniokaaaW.PrintWords Go.Proofs.Ytabjcjieniokaaa.Lin
set_option linter.unusedVariables false
set_option linter.unusedSimpArgs false

noncomputable def usefulTo (m : List (List Int)) (i : Nat) : List Int := ((List.range i).filter (fun j : Nat => !inSpan (m.take j) (m.getD j []))).map (fun j : Nat => (j : Int))
theorem usefulTo_len (m : List (List Int)) (i : Nat) : (usefulTo m i).length ≤ i := by
  unfold usefulTo
  rw [List.length_map]
  have := List.length_filter_le (fun j : Nat => !inSpan (m.take j) (m.getD j [])) (List.range i)
  rwa [List.length_range] at this
theorem usefulTo_succ (m : List (List Int)) (i : Nat) : usefulTo m (i + 1) = usefulTo m i ++ (if inSpan (m.take i) (m.getD i []) = true then [] else [(i : Int)]) := by
  unfold usefulTo
  rw [List.range_succ, List.filter_append, List.map_append, List.filter_cons]
  cases inSpan (m.take i) (m.getD i []) <;> rfl
noncomputable def useful (m : List (List Int)) (a : Int) : List Int := if isMatrix m a = true then usefulTo m m.length else []
theorem impl_useful (m : List (List Int)) (a : Int) (hm : m.length ≤ 1048576) : Ev (fun k => impl_UsefulRows.f k m a) (useful m a) := by
  unfold impl_UsefulRows.f useful
  refine Ev.bind (impl_isMatrix m a (by omega)) ?_
  by_cases h : isMatrix m a = true
  · rw [if_pos h, h]
    refine Ev.ifpos rfl ?_
    have key := Ev.up m.length (fun i s k => impl_UsefulRows.l0 k m s m (m.length : Int) (i : Int)) (fun _ _ => usefulTo m m.length) (fun i s => s = usefulTo m i) ?_ ?_ 0 [] (Nat.zero_le _) rfl
    · simpa using key
    · rintro s rfl
      refine Ev.step (fun k => by rw [impl_UsefulRows.l0]) ?_
      exact Ev.ifneg (by omega) (Ev.now _)
    · rintro i s hi rfl ih
      refine Ev.step (fun k => by rw [impl_UsefulRows.l0]) ?_
      have hrd : rd_L1 m (i : Int) = m.getD i [] := by unfold rd_L1; rw [Int.toNat_natCast]
      have hu := usefulTo_len m i
      have hs := usefulTo_succ m i
      rw [hrd, wrap_succ (by omega), Int.toNat_natCast]
      refine Ev.ifpos (by omega) (Ev.ifpos (by omega) (Ev.ifpos (by omega) (Ev.ifpos (by omega) (Ev.bind (impl_inSpan_ev (m.take i) (m.getD i []) (by rw [List.length_take]; omega)) ?_))))
      cases hb : inSpan (m.take i) (m.getD i []) with
      | true =>
        rw [hb, if_pos rfl, List.append_nil] at hs
        exact Ev.ifpos rfl (ih _ hs.symm)
      | false =>
        rw [hb, if_neg (by decide)] at hs
        exact Ev.ifneg (by decide) (Ev.ifpos (by omega) (ih _ hs.symm))
  · rw [if_neg h]
    exact Ev.ifneg h (Ev.now _)

end Go.Proofs.Ytabjcjieniokaaa.Pure
/- Plain lemma: the columns that go with one, as the reference and the program list them. Condition: the rows are not longer than the law's can be. -/
namespace Go.Proofs.Ytabjcjieniokaaa.Pure
open Go.RowKit Go.Proofs.Ytabjcjieniokaaa.Z Go.Proofs.YtabjcjieniokaaaW.PrintWords

/-- The columns that go with one. -/
def twinsF (m : List (List Int)) (link : Int) : List Int := if m = [] then [] else if 0 ≤ link ∧ link < ((rd_L1 m 0).length : Int) then (if m.any (otherLen (rd_L1 m 0).length) = true then [] else twinsUpto m link (rd_L1 m 0).length) else []

theorem tw_len0 (m : List (List Int)) (hm : ∀ x ∈ m, x.length ≤ 1048576) : (rd_L1 m 0).length ≤ 1048576 := by
  cases m with
  | nil => unfold rd_L1; simp
  | cons x l => exact hm x List.mem_cons_self
theorem impl_twins (m : List (List Int)) (link : Int) (hm : ∀ x ∈ m, x.length ≤ 1048576) : impl_TwinsOf.f m link = some (twinsF m link) := by
  unfold impl_TwinsOf.f twinsF
  by_cases h1 : m = []
  · rw [if_pos h1, if_pos h1]
  · rw [if_neg h1, if_neg h1]
    by_cases h2 : 0 ≤ link ∧ link < ((rd_L1 m 0).length : Int)
    · rw [if_pos h2, if_pos h2]
      by_cases h3 : m.any (otherLen (rd_L1 m 0).length) = true
      · rw [if_pos h3, if_pos h3]
      · rw [if_neg h3, if_neg h3, if_pos (tw_len0 m hm)]
    · rw [if_neg h2, if_neg h2]

theorem unlike_not (c link : Int) (row : List Int) : (!(unlike c link row)) = (rd row c == rd row link) := by
  unfold unlike
  cases h : (rd row c == rd row link) <;> simp [bne, h]
theorem all_unlike (c link : Int) (m : List (List Int)) : m.all (fun row => !(unlike c link row)) = !(m.any (unlike c link)) := by
  induction m with
  | nil => rfl
  | cons x l ih => rw [List.all_cons, List.any_cons, ih]; cases unlike c link x <;> rfl

section
variable (m : List (List Int)) (link : Int) (n : Nat) (hlen : m.length ≤ 1048576) (hn : n ≤ 1048576) (hall : ∀ x ∈ m, x.length = n) (h0 : 0 ≤ link) (h1 : link < (n : Int))
include hlen hn hall h0 h1
end

end Go.Proofs.Ytabjcjieniokaaa.Pure
/- Plain lemma: the laws' search in a list of numbers. Condition: the list is not longer than a list can be. -/
namespace Go.Proofs.Ytabjcjieniokaaa.Pure
open Go.RowKit Go.Proofs.Ytabjcjieniokaaa.Z Go.Proofs.YtabjcjieniokaaaW.PrintWords

theorem laws_has (l : List Int) (x : Int) (hl : l.length ≤ 9223372036854775806) : Ev (fun k => laws_contains.f k l x) (l.any fun y => decide (y = x)) := by
  unfold laws_contains.f
  refine any_loop (fun y => decide (y = x)) l (fun i k => laws_contains.l0 k l x (i : Int)) ?_ ?_ ?_
  · refine Ev.step (fun k => by rw [laws_contains.l0]) ?_
    exact Ev.ifneg (by omega) (Ev.now _)
  · intro i hi h
    refine Ev.step (fun k => by rw [laws_contains.l0]) ?_
    refine Ev.ifpos (by omega) (Ev.ifpos (by omega) ?_)
    rw [rd_get l i hi]
    exact Ev.ifpos (of_decide_eq_true h) (Ev.now _)
  · intro i hi r h hr
    refine Ev.step (fun k => by rw [laws_contains.l0]) ?_
    refine Ev.ifpos (by omega) (Ev.ifpos (by omega) ?_)
    rw [rd_get l i hi, wrap_succ (by omega)]
    exact Ev.ifneg (of_decide_eq_false h) hr

end Go.Proofs.Ytabjcjieniokaaa.Pure
namespace Go.Proofs.Ytabjcjieniokaaa.Pure
open Go.RowKit Go.Proofs.Ytabjcjieniokaaa.Z Go.Proofs.YtabjcjieniokaaaW.PrintWords Go.Proofs.Ytabjcjieniokaaa.Lin
set_option linter.unusedVariables false
set_option linter.unusedSimpArgs false

theorem toldTo_mem (m : List (List Int)) (b : Int) (i : Nat) (y : Int) : y ∈ toldTo m b i ↔ ∃ j : Nat, j < i ∧ y = (j : Int) ∧ inSpan m (unitR (j : Int) b) = true := by
  unfold toldTo
  rw [List.mem_map]
  constructor
  · rintro ⟨j, hj, rfl⟩
    rw [List.mem_filter, List.mem_range] at hj
    exact ⟨j, hj.1, rfl, hj.2⟩
  · rintro ⟨j, hj, rfl, h⟩
    exact ⟨j, List.mem_filter.2 ⟨List.mem_range.2 hj, h⟩, rfl⟩
theorem told_mem (m : List (List Int)) (a b : Int) : a ∈ told m b ↔ (1 ≤ b ∧ b ≤ 6 ∧ 0 ≤ a ∧ a < b) ∧ inSpan m (unitR a b) = true := by
  unfold told
  constructor
  · intro h
    by_cases hm : isMatrix m b = true
    · rw [if_pos hm, toldTo_mem] at h
      obtain ⟨j, hj, rfl, hs⟩ := h
      have := matrix_in hm
      exact ⟨by omega, hs⟩
    · rw [if_neg hm] at h
      exact absurd h (by simp)
  · rintro ⟨h, hs⟩
    have hm : isMatrix m b = true := by
      have hl := unit_len (i := a.toNat) (a := b) ⟨h.1, h.2.1⟩ (by omega)
      rw [show ((a.toNat : Nat) : Int) = a by omega] at hl
      unfold inSpan at hs
      rw [hl, Bool.and_eq_true] at hs
      exact hs.1
    rw [if_pos hm, toldTo_mem]
    exact ⟨a.toNat, by omega, by omega, by rw [show ((a.toNat : Nat) : Int) = a by omega]; exact hs⟩

/-- A unit row in the span: no other column goes with its column. -/
theorem no_twin (m : List (List Int)) (b : Int) (t : Int) (h : (1 ≤ b ∧ b ≤ 6 ∧ 0 ≤ t ∧ t < b) ∧ inSpan m (unitR t b) = true) : twinsF m t = [] := by
  obtain ⟨hr, hs⟩ := h
  unfold twinsF
  by_cases h1 : m = []
  · rw [if_pos h1]
  rw [if_neg h1]
  by_cases h2 : 0 ≤ t ∧ t < ((rd_L1 m 0).length : Int)
  rotate_left
  · rw [if_neg h2]
  rw [if_pos h2]
  by_cases h3 : m.any (otherLen (rd_L1 m 0).length) = true
  · rw [if_pos h3]
  rw [if_neg h3]
  obtain ⟨q, n, rfl, rfl⟩ : ∃ q n : Nat, t = (q : Int) ∧ b = (n : Int) := ⟨t.toNat, b.toNat, by omega, by omega⟩
  have eu : unitR (q : Int) (n : Int) = unitN q n := by unfold unitR; rw [if_pos hr, Int.toNat_natCast, Int.toNat_natCast]
  have hul := unitN_len q n
  rw [eu] at hs
  unfold inSpan at hs
  rw [Bool.and_eq_true, Bool.and_eq_true, hul] at hs
  have hperp := perpB_iff.1 hs.2.2
  obtain ⟨n1, e1, _, _, _, hl, _⟩ := isMatrix_some hs.1
  obtain rfl : n = n1 := by omega
  have hpos : 0 < m.length := List.length_pos_iff.2 h1
  have hrd : rd_L1 m 0 = m[0] := getD_get m 0 _ hpos
  have hl0 := hl m[0] (List.getElem_mem hpos)
  rw [hrd, hl0]
  have hqn : q < n := by omega
  unfold twinsUpto
  rw [List.filter_eq_nil_iff.2 (fun c hc htw => ?_)]
  · rfl
  have hc := List.mem_range.1 hc
  unfold twinAt at htw
  rw [Bool.and_eq_true, decide_eq_true_eq] at htw
  have hne : c ≠ q := fun e => htw.1 (by rw [e])
  have hsame : ∀ r ∈ m, vec r c = vec r q := fun r hrm => by
    have h4 := htw.2
    rw [← all_unlike, List.all_eq_true] at h4
    have h5 := h4 r hrm
    rw [unlike_not, rd_nat, rd_nat, beq_iff_eq] at h5
    exact h5
  have hnull : Null n (m.map vec) (fun j => if j = q then 1 else if j = c then -1 else 0) := fun r hr0 => by
    obtain ⟨r0, hr1, rfl⟩ := List.mem_map.1 hr0
    rw [dotN_two hqn hc (fun e => hne e.symm) (fun j hj h1 h2 => by rw [if_neg h1, if_neg h2, Int.mul_zero]), if_pos rfl, if_neg hne, if_pos rfl, hsame r0 hr1]
    omega
  have h6 := hperp _ hnull
  rw [dot_unit q n hqn, if_pos rfl] at h6
  exact absurd h6 (by decide)

/-- Matrices within a matrix. -/
theorem isMatrix_sub {m p : List (List Int)} {a : Int} (h : isMatrix m a = true) (hl : p.length ≤ m.length) (hs : ∀ r ∈ p, r ∈ m) : isMatrix p a = true := by
  unfold isMatrix at h ⊢
  rw [Bool.and_eq_true, Bool.and_eq_true, decide_eq_true_eq, decide_eq_true_eq, List.all_eq_true] at h ⊢
  exact ⟨h.1, by omega, fun r hr => h.2.2 r (hs r hr)⟩

theorem useful_rank (m : List (List Int)) (n : Nat) (h : isMatrix m (n : Int) = true) : ∀ i, i ≤ m.length → (usefulTo m i).length = (pivs n ((m.take i).map vec) n).length
  | 0, _ => by
    rw [List.take_zero, List.map_nil, pivs_nil]
    rfl
  | i + 1, hi => by
    have ih := useful_rank m n h i (by omega)
    have hil : i < m.length := by omega
    have hmem : m[i] ∈ m := List.getElem_mem hil
    obtain ⟨n1, e1, _, _, _, hl, _⟩ := isMatrix_some h
    obtain rfl : n = n1 := by omega
    have hrl := hl m[i] hmem
    have e2 : m.getD i [] = m[i] := by rw [List.getD_eq_getElem?_getD, List.getElem?_eq_getElem hil]; rfl
    have e3 : m.take (i + 1) = m.take i ++ [m[i]] := List.take_succ_eq_append_getElem hil
    have hm1 := isMatrix_sub (p := m.take i) h (by rw [List.length_take]; omega) (fun r hr => List.mem_of_mem_take hr)
    have hm2 := isMatrix_sub (p := [m[i]]) h (by simp; omega) (fun r hr => by rw [List.mem_singleton.1 hr]; exact hmem)
    have hin : inSpan (m.take i) m[i] = perpB n ((m.take i).map vec) (vec m[i]) := by
      unfold inSpan
      rw [hrl, hm1, hm2, Bool.true_and, Bool.true_and]
    rw [usefulTo_succ, e2, e3, List.map_append, List.map_cons, List.map_nil, List.length_append, hin, ih]
    cases hb : perpB n ((m.take i).map vec) (vec m[i]) with
    | true =>
      rw [if_pos rfl]
      have := span_iff.2 (perpB_iff.1 hb)
      simpa using this
    | false =>
      rw [if_neg (by decide)]
      have := gain (n := n) (m := (m.take i).map vec) (row := vec m[i]) (fun hp => by rw [perpB_iff.2 hp] at hb; cases hb)
      rw [this]
      rfl

theorem unit_isMatrix (n q : Nat) (hn : 1 ≤ n ∧ n ≤ 6) : isMatrix [unitN q n] (n : Int) = true := by
  unfold isMatrix
  rw [Bool.and_eq_true, Bool.and_eq_true, decide_eq_true_eq, decide_eq_true_eq, List.all_eq_true]
  refine ⟨by omega, by simp, fun r hr => ?_⟩
  rw [List.mem_singleton.1 hr]
  unfold isRowOf
  rw [Bool.and_eq_true, decide_eq_true_eq, List.all_eq_true]
  refine ⟨by rw [unitN_len], fun x hx => ?_⟩
  unfold unitN at hx
  obtain ⟨j, _, rfl⟩ := List.mem_map.1 hx
  rw [decide_eq_true_eq]
  split <;> omega

theorem told_full (m : List (List Int)) (n : Nat) (h : isMatrix m (n : Int) = true) : (told m (n : Int)).length = n ↔ (pivs n (m.map vec) n).length = n := by
  have hr := matrix_in h
  have hin : ∀ j, j < n → (inSpan m (unitR (j : Int) (n : Int)) = true ↔ Perp n (m.map vec) (vec (unitN j n))) := fun j hj => by
    have eu : unitR (j : Int) (n : Int) = unitN j n := by unfold unitR; rw [if_pos ⟨by omega, by omega, by omega, by omega⟩, Int.toNat_natCast, Int.toNat_natCast]
    rw [eu]
    unfold inSpan
    rw [unitN_len, h, unit_isMatrix n j (by omega), Bool.true_and, Bool.true_and]
    exact perpB_iff
  rw [pivs_full]
  unfold told
  rw [if_pos h, Int.toNat_natCast]
  unfold toldTo
  rw [List.length_map]
  have hf : ((List.range n).filter (fun j : Nat => inSpan m (unitR (j : Int) (n : Int)))).length = n ↔ ∀ c ∈ List.range n, inSpan m (unitR (c : Int) (n : Int)) = true := by
    rw [← List.length_filter_eq_length_iff, List.length_range]
  rw [hf]
  constructor
  · rintro ha c hc ⟨x, x1, x2, _⟩
    have := (hin c hc).1 (ha c (List.mem_range.2 hc)) x x1
    rw [dot_unit c n hc] at this
    exact x2 this
  · intro hb c hc
    have hc := List.mem_range.1 hc
    refine (hin c hc).2 (fun v hv => ?_)
    rw [dot_unit c n hc]
    exact null_zero hb hv n c (by omega) hc

noncomputable def missing (m : List (List Int)) (a : Int) : Int := if isMatrix m a = true then wrap64 (a - (((pivs a.toNat (m.map vec) a.toNat).length : Nat) : Int)) else -1
theorem impl_missing (m : List (List Int)) (a : Int) (hm : m.length ≤ 1048576) : Ev (fun k => impl_MissingFor.f k m a) (missing m a) := by
  unfold impl_MissingFor.f missing
  refine Ev.bind (impl_isMatrix m a (by omega)) ?_
  by_cases h : isMatrix m a = true
  · rw [if_pos h, h]
    exact Ev.ifpos rfl (Ev.bind (impl_rank_ev m a h) (Ev.now _))
  · rw [if_neg h]
    exact Ev.ifneg h (Ev.now _)

/-- The rows' part of the law. -/
theorem told_rows (m : List (List Int)) (a : Int) (hm : m.length ≤ 13) : Ev (fun k => (impl_UsefulRows.f k m a).bind fun t465 => ((impl_IsMatrix.f k m a).bind fun t468 => (if t468 = true then ((impl_RankOf.f k m a).bind fun t470 => (if (t465.length : Int) = t470 then ((impl_MissingFor.f k m a).bind fun t471 => (if (wrap64 (t471 + (t465.length : Int))) = a then ((impl_MissingFor.f k m a).bind fun t472 => ((impl_ToldLinks.f k m a).bind fun t473 => (some ((t472 == 0) == ((t473.length : Int) == a))))) else (some false))) else (some false))) else (if (t465.length : Int) = 0 then ((impl_MissingFor.f k m a).bind fun t469 => (some (t469 == (-1)))) else (some false))))) true := by
  have hu := impl_useful m a (by omega)
  have hi := impl_isMatrix m a (by omega)
  have hms := impl_missing m a (by omega)
  have htl := impl_told m a (by omega)
  by_cases h : isMatrix m a = true
  · have hrk := impl_rank_ev m a h
    obtain ⟨n, rfl, hn1, hn, _⟩ := isMatrix_some h
    rw [Int.toNat_natCast] at hrk
    have e1 : (useful m (n : Int)).length = (pivs n (m.map vec) n).length := by
      unfold useful
      rw [if_pos h, useful_rank m n h m.length (Nat.le_refl _), List.take_length]
    have hp := pivs_len n (m.map vec) n
    have e2 : missing m (n : Int) = (n : Int) - (((pivs n (m.map vec) n).length : Nat) : Int) := by
      unfold missing
      rw [if_pos h, Int.toNat_natCast, wrap_in (by omega) (by omega)]
    have htf := told_full m n h
    rw [h] at hi
    refine Ev.bind hu (Ev.bind hi (Ev.ifpos rfl (Ev.bind hrk (Ev.ifpos (by rw [e1]) (Ev.bind hms (Ev.ifpos ?_ (Ev.bind hms (Ev.bind htl (Ev.pure ?_)))))))))
    · rw [e1, e2, wrap_in (by omega) (by omega)]
      omega
    · rw [e2]
      have b1 : ((n : Int) - (((pivs n (m.map vec) n).length : Nat) : Int) == 0) = decide ((pivs n (m.map vec) n).length = n) := by
        rw [Bool.eq_iff_iff, beq_iff_eq, decide_eq_true_eq]
        omega
      have b2 : (((told m (n : Int)).length : Int) == (n : Int)) = decide ((pivs n (m.map vec) n).length = n) := by
        rw [Bool.eq_iff_iff, beq_iff_eq, decide_eq_true_eq, ← htf]
        omega
      rw [b1, b2]
      simp
  · have e0 : useful m a = [] := by unfold useful; rw [if_neg h]
    have e3 : missing m a = -1 := by unfold missing; rw [if_neg h]
    rw [e0] at hu
    rw [e3] at hms
    exact Ev.bind hu (Ev.bind hi (Ev.ifneg h (Ev.ifpos rfl (Ev.bind hms (Ev.pure rfl)))))

theorem told_rounds (x : List Int) (hx : x.length ≤ 4611686018427387904) (m : List (List Int)) (hm : Few m) (b : Int) : ∀ d i, i + d = (told m b).length → Ev (fun k => laws_FnTold.l0 k x m (told m b) (i : Int)) true := by
  have hl6 := told_len m b
  intro d
  induction d with
  | zero =>
    intro i h
    obtain ⟨q, a, e1, hq⟩ := draw_useful x hx
    have hql := hq.1
    refine Ev.step (fun k => by rw [laws_FnTold.l0]) ?_
    exact Ev.ifneg (by omega) (Ev.bind e1 (told_rows q a (by omega)))
  | succ d ih =>
    intro i h
    have hi : i < (told m b).length := by omega
    have hmem := List.getElem_mem hi
    have ht := no_twin m b _ ((told_mem m _ b).1 hmem)
    have htw := impl_twins m ((told m b)[i]) (fun r hr => by have := (hm.2 r hr).2; omega)
    rw [ht] at htw
    have h1 := ih (i + 1) (by omega)
    refine Ev.step (fun k => by rw [laws_FnTold.l0]) ?_
    rw [wrap_succ (i := i) (by omega), rd_get _ i hi]
    exact Ev.ifpos (by omega) (Ev.ifpos (by omega) (Ev.bind0 htw (Ev.ifneg (by simp) h1)))

theorem FnTold : laws_FnTold.Pure := by
  intro x h1 h2 _
  refine Ev.rounds ?_
  have hx : x.length ≤ 4611686018427387904 := by omega
  unfold laws_FnTold.f
  refine Ev.bind0 (a := decide ((x.length : Int) > 1048576)) rfl ?_
  by_cases hbig : (x.length : Int) > 1048576
  · rw [decide_eq_true hbig]
    exact Ev.ifpos rfl (Ev.now _)
  rw [decide_eq_false hbig]
  obtain ⟨m, v, a, b, e1, hm, hv⟩ := draw_delay x hx
  have hml := hm.1
  obtain ⟨r, hr, hok⟩ := delay_impl m v a b (by omega) (by omega)
  have htl := impl_told m b (by omega)
  have hl6 := told_len m b
  have hc := laws_has (told m b) a (by omega)
  have hsv := impl_solvable m v b (by omega) (by omega)
  have hgo : Ev (fun k => laws_FnTold.j0 k x m (told m b) false) true := by
    refine Ev.step (fun k => by rw [laws_FnTold.j0]) ?_
    exact Ev.ifneg (by decide) (told_rounds x hx m hm b (told m b).length 0 (by omega))
  have hany : ((told m b).any fun y => decide (y = a)) = true ↔ a ∈ told m b := by
    rw [List.any_eq_true]
    exact ⟨fun ⟨y, hy, e⟩ => by rw [← of_decide_eq_true e]; exact hy, fun h => ⟨a, h, decide_eq_true rfl⟩⟩
  rw [told_mem] at hany
  refine Ev.ifneg (by decide) (Ev.bind e1 (Ev.bind htl (Ev.bind hr (Ev.bind hc ?_))))
  cases hb : (told m b).any fun y => decide (y = a) with
  | true =>
    rw [hb] at hany
    have hb2 := hany.1 rfl
    refine Ev.ifpos rfl (Ev.bind hsv ?_)
    have e : (r.2.2 != (isSys m v b && solvB b.toNat ((ext m v).map vec))) = false := by
      rw [bne_eq_false_iff_eq, Bool.eq_iff_iff, hok]
      exact ⟨fun h => h.1, fun h => ⟨h, hb2⟩⟩
    rw [e]
    exact hgo
  | false =>
    rw [hb] at hany
    refine Ev.ifneg (by decide) ?_
    have e : (r.2.2 != false) = false := by
      rw [bne_eq_false_iff_eq, Bool.eq_false_iff]
      intro h
      have := hany.2 (hok.1 h).2
      cases this
    rw [e]
    exact hgo
end Go.Proofs.Ytabjcjieniokaaa.Pure
