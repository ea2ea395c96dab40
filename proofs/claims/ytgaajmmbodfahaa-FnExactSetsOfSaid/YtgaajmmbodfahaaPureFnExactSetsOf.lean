/- The statement: for every number of columns and every size, the program's SetsOf answers as the reference's does, and the rows of its answer share no memory with one another or with another answer. No condition. -/
import Derived.Test.YtgaajmmbodfahaaWWords
import Derived.Test.YtgaajmmbodfahaaWLast
import Derived.Test.YtgaajmmbodfahaaWMore
import Derived.Test.YtgaajmmbodfahaaZ3
import Derived.Test.YtgaajmmbodfahaaZ5
import Derived.Test.YtgaajmmbodfahaaZ6
import Derived.Test.YtgaajmmbodfahaaZ7
import Derived.Test.YtgaajmmbodfahaaZ4
import Derived.Test.YtgaajmmbodfahaaZDefFnExactSetsOf
/- Plain lemmas for what the printed functions come to: loops that go up, indices that do not wrap, reads. No condition. -/
namespace Go.Proofs.Ytgaajmmbodfahaa.Pure
open Go.RowKit Go.Proofs.YtgaajmmbodfahaaW.PrintWords Go.Proofs.YtgaajmmbodfahaaW.PrintLast Go.Proofs.YtgaajmmbodfahaaW.PrintMore

/-- A loop that goes up to n: at each index it comes to R, if it does so one index further. -/
theorem Ev.up {σ ρ : Type} (n : Nat) (G : Nat → σ → Nat → Option ρ) (R : Nat → σ → ρ) (Inv : Nat → σ → Prop) (hend : ∀ s, Inv n s → Ev (G n s) (R n s))
    (hstep : ∀ i s, i < n → Inv i s → (∀ s', Inv (i + 1) s' → Ev (G (i + 1) s') (R (i + 1) s')) → Ev (G i s) (R i s)) : ∀ i s, i ≤ n → Inv i s → Ev (G i s) (R i s) := by
  have key : ∀ d i s, i + d = n → Inv i s → Ev (G i s) (R i s) := by
    intro d
    induction d with
    | zero => intro i s h hi; obtain rfl : i = n := by omega
              exact hend s hi
    | succ d ih => intro i s h hi; exact hstep i s (by omega) hi (fun s' hs' => ih (i + 1) s' (by omega) hs')
  intro i s h hi
  exact key (n - i) i s (by omega) hi

/-- The same without a state. -/
theorem Ev.up0 {ρ : Type} (n : Nat) (G : Nat → Nat → Option ρ) (R : Nat → ρ) (hend : Ev (G n) (R n)) (hstep : ∀ i, i < n → Ev (G (i + 1)) (R (i + 1)) → Ev (G i) (R i)) : ∀ i, i ≤ n → Ev (G i) (R i) := by
  intro i h
  exact Ev.up n (fun i (_ : Unit) => G i) (fun i _ => R i) (fun _ _ => True) (fun _ _ => hend) (fun i s hi _ hn => hstep i hi (hn () trivial)) i () h trivial

theorem Ev.det {α : Type} {g : Nat → Option α} {r q : α} (h : Ev g r) (h' : Ev g q) : r = q := by
  obtain ⟨K, h⟩ := h
  obtain ⟨K', h'⟩ := h'
  have a := h (max K K') (by omega)
  have b := h' (max K K') (by omega)
  rw [a] at b
  exact Option.some.inj b

theorem Ev.const {α : Type} {g : Nat → Option α} {r : α} (h : ∀ k, g k = some r) : Ev g r := ⟨0, fun k _ => h k⟩

theorem Ev.ifpos {α : Type} {c : Prop} [Decidable c] {g f : Nat → Option α} {r : α} (hc : c) (h : Ev g r) : Ev (fun k => if c then g k else f k) r := Ev.congr (fun k => by rw [if_pos hc]) h
theorem Ev.ifneg {α : Type} {c : Prop} [Decidable c] {g f : Nat → Option α} {r : α} (hc : ¬ c) (h : Ev f r) : Ev (fun k => if c then g k else f k) r := Ev.congr (fun k => by rw [if_neg hc]) h
theorem Ev.pure {α : Type} {a r : α} (h : a = r) : Ev (fun _ => some a) r := by subst h; exact Ev.now _

/-- A call that needs no rounds. -/
theorem Ev.bind0 {α β : Type} {g : Option α} {f : Nat → α → Option β} {a : α} {r : β} (h : g = some a) (k : Ev (fun n => f n a) r) : Ev (fun n => g.bind (f n)) r :=
  Ev.congr (fun n => by rw [h]; rfl) k

theorem wrap_in {n : Int} (h0 : -9223372036854775808 ≤ n) (h1 : n ≤ 9223372036854775807) : wrap64 n = n := by unfold wrap64; omega
theorem wrap_succ {i : Nat} (h : i < 9223372036854775807) : wrap64 ((i : Int) + 1) = ((i + 1 : Nat) : Int) := by unfold wrap64; omega

theorem rd_nat (xs : List Int) (i : Nat) : rd xs (i : Int) = xs.getD i 0 := by unfold rd; rw [Int.toNat_natCast]
theorem rd_get (xs : List Int) (i : Nat) (h : i < xs.length) : rd xs (i : Int) = xs[i] := by rw [rd_nat, List.getD_eq_getElem?_getD, List.getElem?_eq_getElem h]; rfl
theorem getD_get {α : Type} (xs : List α) (i : Nat) (z : α) (h : i < xs.length) : xs.getD (i : Int).toNat z = xs[i] := by rw [Int.toNat_natCast, List.getD_eq_getElem?_getD, List.getElem?_eq_getElem h]; rfl

theorem drop_get {α : Type} (xs : List α) (i : Nat) (h : i < xs.length) : xs.drop i = xs[i] :: xs.drop (i + 1) := List.drop_eq_getElem_cons h

theorem take_set_self {α : Type} (s : List α) (i : Nat) (a : α) : (s.set i a).take i = s.take i := by
  apply List.ext_getElem?
  intro j
  by_cases h : j < i
  · rw [List.getElem?_take, List.getElem?_take, if_pos h, if_pos h, List.getElem?_set_ne (by omega)]
  · rw [List.getElem?_take, List.getElem?_take, if_neg h, if_neg h]

/-- A loop that copies, element by element. -/
theorem copy_loop {α β : Type} (l : List α) (f : α → β) (G : Nat → List β → Nat → Option (List β)) (hend : ∀ s : List β, Ev (G l.length s) s)
    (hstep : ∀ i (hi : i < l.length) (s r : List β), s.length = l.length → Ev (G (i + 1) (s.set i (f l[i]))) r → Ev (G i s) r) (s : List β) (hs : s.length = l.length) : Ev (G 0 s) (l.map f) := by
  have key := Ev.up l.length G (fun i s => s.take i ++ (l.map f).drop i) (fun _ s => s.length = l.length)
    (fun s hs => by
      have e : s.take l.length ++ (l.map f).drop l.length = s := by rw [List.take_of_length_le (by omega), List.drop_of_length_le (by simp), List.append_nil]
      simp only [e]
      exact hend s)
    (fun i s hi hs ih => by
      have h1 := ih (s.set i (f l[i])) (by simpa using hs)
      have e : (s.set i (f l[i])).take (i + 1) ++ (l.map f).drop (i + 1) = s.take i ++ (l.map f).drop i := by
        rw [List.take_succ_eq_append_getElem (by simp; omega), List.drop_eq_getElem_cons (l := l.map f) (i := i) (by simpa using hi), take_set_self]
        simp
      simp only [e] at h1
      exact hstep i hi s _ hs h1) 0 s (Nat.zero_le _) hs
  simpa using key

/-- A loop that takes off what the elements weigh. -/
theorem sz_loop {α : Type} (l : List α) (sm : α → Prop) (G : Nat → Int → Nat → Option Int) (hend : ∀ s : Int, Ev (G l.length s) s)
    (hstep : ∀ i (hi : i < l.length) (s : Int), 0 ≤ s → s ≤ 1048576 → Ev (G i s) (-1) ∨ ∃ q : Int, 0 ≤ q ∧ q ≤ s ∧ sm l[i] ∧ ∀ r, Ev (G (i + 1) q) r → Ev (G i s) r) (s : Int) (h0 : 0 ≤ s) (h1 : s ≤ 1048576) :
    ∃ r : Int, Ev (G 0 s) r ∧ (0 ≤ r → r ≤ s ∧ ∀ x ∈ l, sm x) := by
  have key : ∀ d i (s : Int), i + d = l.length → 0 ≤ s → s ≤ 1048576 → ∃ r : Int, Ev (G i s) r ∧ (0 ≤ r → r ≤ s ∧ ∀ x ∈ l.drop i, sm x) := by
    intro d
    induction d with
    | zero =>
      intro i s hi h0 h1
      obtain rfl : i = l.length := by omega
      exact ⟨s, hend s, fun _ => ⟨Int.le_refl _, by simp⟩⟩
    | succ d ih =>
      intro i s hi h0 h1
      have hlt : i < l.length := by omega
      rcases hstep i hlt s h0 h1 with h | ⟨q, hq0, hq1, hsm, hnext⟩
      · exact ⟨-1, h, fun h => by omega⟩
      · obtain ⟨r, hr, hr2⟩ := ih (i + 1) q (by omega) hq0 (by omega)
        refine ⟨r, hnext r hr, fun h => ⟨by have := (hr2 h).1; omega, ?_⟩⟩
        rw [drop_get l i hlt]
        intro x hx
        rcases List.mem_cons.1 hx with rfl | hx
        · exact hsm
        · exact (hr2 h).2 x hx
  simpa using key l.length 0 s (by omega) h0 h1

/-- What a mark leaves: element i holds the numbers from m + c * i on. -/
def marked {α : Type} (c : Nat) (mk : Int → α) (m : Int) (n : Nat) : List α := (List.range n).map fun i => mk (m + ((c * i : Nat) : Int))
theorem marked_length {α : Type} (c : Nat) (mk : Int → α) (m : Int) (n : Nat) : (marked c mk m n).length = n := by simp [marked]
theorem marked_get {α : Type} (c : Nat) (mk : Int → α) (m : Int) (n i : Nat) (h : i < (marked c mk m n).length) : (marked c mk m n)[i] = mk (m + ((c * i : Nat) : Int)) := by simp [marked]
theorem marked_succ {α : Type} (c : Nat) (mk : Int → α) (m : Int) (n : Nat) : marked c mk m (n + 1) = mk m :: marked c mk (m + (c : Int)) n := by
  unfold marked
  rw [List.range_succ_eq_map, List.map_cons, List.map_map]
  congr 1
  · simp
  · apply List.map_congr_left
    intro i _
    show mk _ = mk _
    congr 1
    rw [Nat.mul_succ]
    omega

theorem mark_loop {α : Type} (c : Nat) (mk : Int → α) (n : Nat) (G : Nat → List α → Int → Nat → Option (Int × List α)) (hend : ∀ (s : List α) (m : Int), s.length = n → Ev (G n s m) (m, s))
    (hstep : ∀ i (s : List α) (m : Int) r, i < n → s.length = n → 0 ≤ m → m ≤ 4611686018427387904 → Ev (G (i + 1) (s.set i (mk m)) (m + (c : Int))) r → Ev (G i s m) r)
    (s : List α) (m : Int) (hs : s.length = n) (h0 : 0 ≤ m) (h1 : m + ((c * n : Nat) : Int) ≤ 4611686018427387904) : Ev (G 0 s m) (m + ((c * n : Nat) : Int), marked c mk m n) := by
  have key : ∀ d i (s : List α) (m : Int), i + d = n → s.length = n → 0 ≤ m → m + ((c * d : Nat) : Int) ≤ 4611686018427387904 → Ev (G i s m) (m + ((c * d : Nat) : Int), s.take i ++ marked c mk m d) := by
    intro d
    induction d with
    | zero =>
      intro i s m hi hs h0 h1
      obtain rfl : i = n := by omega
      have e : s.take i ++ marked c mk m 0 = s := by rw [List.take_of_length_le (by omega)]; simp [marked]
      rw [e]
      simpa using hend s m hs
    | succ d ih =>
      intro i s m hi hs h0 h1
      rw [Nat.mul_succ] at h1
      have h2 := ih (i + 1) (s.set i (mk m)) (m + (c : Int)) (by omega) (by simpa using hs) (by omega) (by omega)
      have e : (s.set i (mk m)).take (i + 1) ++ marked c mk (m + (c : Int)) d = s.take i ++ marked c mk m (d + 1) := by
        rw [List.take_succ_eq_append_getElem (by simp; omega), marked_succ, take_set_self]
        simp
      rw [e] at h2
      have e2 : m + (c : Int) + ((c * d : Nat) : Int) = m + ((c * (d + 1) : Nat) : Int) := by rw [Nat.mul_succ]; omega
      rw [e2] at h2
      exact hstep i s m _ (by omega) hs h0 (by omega) h2
  have := key n 0 s m (by omega) hs h0 h1
  simpa using this

theorem held_loop (c : Nat) (n : Nat) (m0 : Int) (G : Nat → Int → Nat → Option Int) (hend : ∀ m : Int, Ev (G n m) m)
    (hstep : ∀ i r, i < n → Ev (G (i + 1) (m0 + ((c * i : Nat) : Int) + (c : Int))) r → Ev (G i (m0 + ((c * i : Nat) : Int))) r) : Ev (G 0 m0) (m0 + ((c * n : Nat) : Int)) := by
  have key := Ev.up0 n (fun i => G i (m0 + ((c * i : Nat) : Int))) (fun _ => m0 + ((c * n : Nat) : Int)) (hend _)
    (fun i hi ih => hstep i _ hi (by
      have e : m0 + ((c * i : Nat) : Int) + (c : Int) = m0 + ((c * (i + 1) : Nat) : Int) := by rw [Nat.mul_succ]; omega
      rw [e]
      exact ih)) 0 (Nat.zero_le _)
  simpa using key

end Go.Proofs.Ytgaajmmbodfahaa.Pure
/- Plain lemmas on the laws' own helpers: copies, comparisons, sizes, marks. No condition. -/
namespace Go.Proofs.Ytgaajmmbodfahaa.Pure
open Go.RowKit Go.Proofs.Ytgaajmmbodfahaa.Z Go.Proofs.YtgaajmmbodfahaaW.PrintWords
set_option linter.unusedSimpArgs false
set_option linter.unusedVariables false
def smL {α : Type} (sm : α → Prop) (l : List α) : Prop := l.length ≤ 1048576 ∧ ∀ x ∈ l, sm x
def okLen {α : Type} (l : List α) : Prop := l.length ≤ maxLen
theorem mark_IntS (l : List Int) (m : Int) (h0 : 0 ≤ m) (h1 : m + ((1 * l.length : Nat) : Int) ≤ 4611686018427387904) : Ev (fun k => laws_markIntS.f k l m) (m + ((1 * l.length : Nat) : Int), marked 1 (fun m => m) m l.length) := by
  unfold laws_markIntS.f
  refine mark_loop 1 (fun m => m) l.length (fun i s m k => laws_markIntS.l0 k s m (i : Int)) ?_ ?_ l m rfl h0 h1
  · intro s m hs
    refine Ev.step (fun k => by rw [laws_markIntS.l0]) ?_
    exact Ev.ifneg (by omega) (Ev.now _)
  · intro i s m r hi hs h0 h1 hr
    refine Ev.step (fun k => by rw [laws_markIntS.l0]) ?_
    refine Ev.ifpos (by omega) (Ev.ifpos (by omega) ?_)
    rw [wrap_succ (by omega), wrap_in (by omega) (by omega), Int.toNat_natCast]
    exact hr
theorem eq_IntS (l : List Int) (h : l.length ≤ maxLen) : Ev (fun k => laws_eqIntS.f k l l) true := by
  unfold maxLen at h
  unfold laws_eqIntS.f
  refine Ev.ifpos rfl ?_
  exact Ev.up0 l.length (fun i k => laws_eqIntS.l0 k l l (i : Int)) (fun _ => true)
    (Ev.step (fun k => by rw [laws_eqIntS.l0]) (Ev.ifneg (by omega) (Ev.now _)))
    (fun i hi ih => by
      refine Ev.step (fun k => by rw [laws_eqIntS.l0]) ?_
      refine Ev.ifpos (by omega) (Ev.ifpos (by omega) (Ev.ifpos (by omega) ?_))
      refine Ev.ifpos rfl ?_
      rw [wrap_succ (by omega)]
      exact ih) 0 (Nat.zero_le _)
theorem rd_L1_get (xs : List (List Int)) (i : Nat) (h : i < xs.length) : rd_L1 xs (i : Int) = xs[i] := getD_get xs i _ h
theorem eq_IntSS (l : List (List Int)) (h : (smL (smL (fun _ => True))) l) : Ev (fun k => laws_eqIntSS.f k l l) true := by
  have hl := h.1
  unfold laws_eqIntSS.f
  refine Ev.ifpos rfl ?_
  exact Ev.up0 l.length (fun i k => laws_eqIntSS.l0 k l l (i : Int)) (fun _ => true)
    (Ev.step (fun k => by rw [laws_eqIntSS.l0]) (Ev.ifneg (by omega) (Ev.now _)))
    (fun i hi ih => by
      refine Ev.step (fun k => by rw [laws_eqIntSS.l0]) ?_
      refine Ev.ifpos (by omega) (Ev.ifpos (by omega) (Ev.ifpos (by omega) ?_))
      rw [rd_L1_get l i hi]
      refine Ev.bind (eq_IntS l[i] (by have := (h.2 _ (List.getElem_mem hi)).1; unfold maxLen; omega)) (Ev.ifpos rfl ?_)
      rw [wrap_succ (by omega)]
      exact ih) 0 (Nat.zero_le _)
theorem held_IntS (n : Nat) (m : Int) (h0 : 0 ≤ m) (h1 : m + ((1 * n : Nat) : Int) ≤ 4611686018427387904) : Ev (fun k => laws_heldIntS.f k (marked 1 (fun m => m) m n) m) (m + ((1 * n : Nat) : Int)) := by
  unfold laws_heldIntS.f
  have hn := marked_length 1 (fun m => m) m n
  refine held_loop 1 n m (fun i q k => laws_heldIntS.l0 k (marked 1 (fun m => m) m n) q (i : Int)) ?_ ?_
  · intro q
    refine Ev.step (fun k => by rw [laws_heldIntS.l0]) ?_
    exact Ev.ifneg (by omega) (Ev.now _)
  · intro i r hi hr
    refine Ev.step (fun k => by rw [laws_heldIntS.l0]) ?_
    have hle : ((1 * i : Nat) : Int) + 1 ≤ ((1 * n : Nat) : Int) := by omega
    refine Ev.ifpos (by omega) (Ev.ifpos (by omega) ?_)
    rw [rd_get _ i (by omega), marked_get]
    have w0 : wrap64 (m + ((1 * i : Nat) : Int) + 1) = m + ((1 * i : Nat) : Int) + 1 := wrap_in (by omega) (by omega)
    simp only [w0]
    refine Ev.ifpos (by first | trivial | rfl) ?_
    rw [wrap_succ (by omega)]
    exact hr
end Go.Proofs.Ytgaajmmbodfahaa.Pure
/- Plain lemma: the sets of columns, as the reference and the program list them: the 28 cases are reckoned. No condition. -/
namespace Go.Proofs.Ytgaajmmbodfahaa.Pure
open Go.RowKit Go.Proofs.Ytgaajmmbodfahaa.Z Go.Proofs.YtgaajmmbodfahaaW.PrintWords

def setsOf (c s : Int) : List (List Int) := if 0 ≤ c ∧ c ≤ 6 ∧ 0 ≤ s ∧ s ≤ c then setsTo s.toNat c.toNat [] 0 else []
theorem impl_setsOf (c s : Int) : impl_SetsOf.f c s = some (setsOf c s) := rfl

set_option maxRecDepth 100000 in
theorem sets_table : ((List.range 7).all fun c => (List.range (c + 1)).all fun s => decide (spec_SetsOf.f 900 (c : Int) (s : Int) = some (setsTo s c [] 0)) && (decide ((setsTo s c [] 0).length ≤ 64) && (setsTo s c [] 0).all fun r => decide (r.length ≤ 6))) = true := by decide +kernel

theorem sets_at (c s : Nat) (hc : c ≤ 6) (hs : s ≤ c) : spec_SetsOf.f 900 (c : Int) (s : Int) = some (setsTo s c [] 0) ∧ (setsTo s c [] 0).length ≤ 64 ∧ ∀ r ∈ setsTo s c [] 0, r.length ≤ 6 := by
  have h := sets_table
  rw [List.all_eq_true] at h
  have h := h c (List.mem_range.2 (by omega))
  rw [List.all_eq_true] at h
  have h := h s (List.mem_range.2 (by omega))
  rw [Bool.and_eq_true, Bool.and_eq_true, List.all_eq_true] at h
  exact ⟨of_decide_eq_true h.1, of_decide_eq_true h.2.1, fun r hr => of_decide_eq_true (h.2.2 r hr)⟩

theorem setsOf_small (c s : Int) : (setsOf c s).length ≤ 64 ∧ ∀ r ∈ setsOf c s, r.length ≤ 6 := by
  unfold setsOf
  by_cases h : 0 ≤ c ∧ c ≤ 6 ∧ 0 ≤ s ∧ s ≤ c
  · rw [if_pos h]
    exact (sets_at c.toNat s.toNat (by omega) (by omega)).2
  · rw [if_neg h]
    exact ⟨by simp, fun r hr => by cases hr⟩

theorem sets_l1In (x a b : Int) : spec_l1In.f x a b = some (decide (a ≤ x ∧ x ≤ b)) := by
  unfold spec_l1In.f
  by_cases q : x ≥ a
  · rw [if_pos q]
    congr 1
    apply decide_eq_decide.2
    omega
  · rw [if_neg q, decide_eq_false (by omega)]

theorem spec_setsOf (c s : Int) : Ev (fun k => spec_SetsOf.f k c s) (setsOf c s) := by
  by_cases h : 0 ≤ c ∧ c ≤ 6 ∧ 0 ≤ s ∧ s ≤ c
  · unfold setsOf
    rw [if_pos h]
    have h2 := (sets_at c.toNat s.toNat (by omega) (by omega)).1
    rw [show ((c.toNat : Nat) : Int) = c by omega, show ((s.toNat : Nat) : Int) = s by omega] at h2
    exact Ev.of (spec_SetsOf.mono c s) h2
  · have e : setsOf c s = [] := by unfold setsOf; rw [if_neg h]
    rw [e]
    unfold spec_SetsOf.f
    refine Ev.bind0 rfl (Ev.bind0 (sets_l1In _ _ _) ?_)
    by_cases h1 : 0 ≤ c ∧ c ≤ 6
    · rw [decide_eq_true h1]
      refine Ev.ifpos rfl (Ev.bind0 (sets_l1In _ _ _) ?_)
      rw [decide_eq_false (fun q => h ⟨h1.1, h1.2, q.1, q.2⟩)]
      refine Ev.step (fun k => by rw [spec_SetsOf.j0]) ?_
      exact Ev.ifpos rfl (Ev.now _)
    · rw [decide_eq_false h1]
      refine Ev.ifneg (by decide) ?_
      refine Ev.step (fun k => by rw [spec_SetsOf.j0]) ?_
      exact Ev.ifpos rfl (Ev.now _)

end Go.Proofs.Ytgaajmmbodfahaa.Pure
/- Plain lemmas: marks of numbers; the middle of a list. Condition: the numbers fit. -/
namespace Go.Proofs.Ytgaajmmbodfahaa.Pure
open Go.RowKit Go.Proofs.Ytgaajmmbodfahaa.Z Go.Proofs.YtgaajmmbodfahaaW.PrintWords

theorem pm_IntS (l : List Int) (m : Int) (h0 : 0 ≤ m) (h1 : m + ((1 * l.length : Nat) : Int) ≤ 4611686018427387904) : Ev (fun k => laws_markIntS.f k l m) (m + ((1 * l.length : Nat) : Int), marked 1 (fun m => m) m l.length) := by
  unfold laws_markIntS.f
  refine mark_loop 1 (fun m => m) l.length (fun i s m k => laws_markIntS.l0 k s m (i : Int)) ?_ ?_ l m rfl h0 h1
  · intro s m hs
    refine Ev.step (fun k => by rw [laws_markIntS.l0]) ?_
    exact Ev.ifneg (by omega) (Ev.now _)
  · intro i s m r hi hs h0 h1 hr
    refine Ev.step (fun k => by rw [laws_markIntS.l0]) ?_
    refine Ev.ifpos (by omega) (Ev.ifpos (by omega) ?_)
    rw [wrap_succ (by omega), wrap_in (by omega) (by omega), Int.toNat_natCast]
    exact hr

theorem getD_mid {α : Type} (a : List α) (x z : α) (b : List α) : (a ++ x :: b).getD ((a.length : Int)).toNat z = x := by
  rw [Int.toNat_natCast, List.getD_eq_getElem?_getD, List.getElem?_append_right (Nat.le_refl _), Nat.sub_self]
  rfl
theorem set_mid {α : Type} (a : List α) (x y : α) (b : List α) : (a ++ x :: b).set ((a.length : Int)).toNat y = (a ++ [y]) ++ b := by
  rw [Int.toNat_natCast, List.set_append_right _ _ (Nat.le_refl _), Nat.sub_self, List.set_cons_zero, List.append_assoc]
  rfl

end Go.Proofs.Ytgaajmmbodfahaa.Pure
/- Plain lemmas: marks of rows of rows. Condition: the numbers fit. -/
namespace Go.Proofs.Ytgaajmmbodfahaa.Pure
open Go.RowKit Go.Proofs.Ytgaajmmbodfahaa.Z Go.Proofs.YtgaajmmbodfahaaW.PrintWords

/-- How many numbers there are in all rows. -/
def tot : List (List Int) → Nat
  | [] => 0
  | r :: rs => r.length + tot rs
/-- What the marks leave. -/
def markSS : Int → List (List Int) → List (List Int)
  | _, [] => []
  | m, r :: rs => marked 1 (fun m => m) m r.length :: markSS (m + (r.length : Int)) rs
theorem markSS_length : ∀ (m : Int) (l : List (List Int)), (markSS m l).length = l.length
  | _, [] => rfl
  | m, r :: rs => by rw [markSS, List.length_cons, markSS_length, List.length_cons]

theorem mark_SS_from : ∀ (l done : List (List Int)) (m : Int), 0 ≤ m → m + (tot l : Int) ≤ 4611686018427387904 → done.length + l.length ≤ 4611686018427387904 → Ev (fun k => laws_markIntSS.l0 k (done ++ l) m (done.length : Int)) (m + (tot l : Int), done ++ markSS m l)
  | [], done, m, h0, h1, h2 => by
    rw [List.append_nil, markSS, List.append_nil, tot]
    refine Ev.step (fun k => by rw [laws_markIntSS.l0]) ?_
    exact Ev.ifneg (by omega) (Ev.pure (by simp))
  | r :: rs, done, m, h0, h1, h2 => by
    rw [tot] at h1
    rw [List.length_cons] at h2
    have hl : (done ++ r :: rs).length = done.length + rs.length + 1 := by simp; omega
    refine Ev.step (fun k => by rw [laws_markIntSS.l0]) ?_
    refine Ev.ifpos (by omega) (Ev.ifpos (by omega) ?_)
    rw [getD_mid]
    refine Ev.bind (pm_IntS r m h0 (by omega)) ?_
    rw [set_mid, wrap_succ (by omega)]
    have ih := mark_SS_from rs (done ++ [marked 1 (fun m => m) m r.length]) (m + (r.length : Int)) (by omega) (by omega) (by rw [List.length_append, List.length_singleton]; omega)
    rw [List.length_append, List.length_singleton] at ih
    rw [markSS, tot]
    have e1 : m + ((1 * r.length : Nat) : Int) = m + (r.length : Int) := by omega
    have e2 : m + (r.length : Int) + (tot rs : Int) = m + ((r.length + tot rs : Nat) : Int) := by omega
    rw [e2] at ih
    simp only [List.append_assoc, List.singleton_append] at ih
    simp only [e1]
    rw [List.append_assoc, List.singleton_append]
    exact ih

theorem mark_IntSS (l : List (List Int)) (m : Int) (h0 : 0 ≤ m) (h1 : m + (tot l : Int) ≤ 4611686018427387904) (h2 : l.length ≤ 4611686018427387904) : Ev (fun k => laws_markIntSS.f k l m) (m + (tot l : Int), markSS m l) := by
  unfold laws_markIntSS.f
  have := mark_SS_from l [] m h0 h1 (by simpa using h2)
  simpa using this

theorem tot_le (n : Nat) : ∀ l : List (List Int), (∀ r ∈ l, r.length ≤ n) → tot l ≤ n * l.length
  | [], _ => Nat.zero_le _
  | r :: rs, h => by
    have := tot_le n rs (fun x hx => h x (List.mem_cons_of_mem _ hx))
    have := h r (List.mem_cons_self ..)
    rw [tot, List.length_cons, Nat.mul_succ]
    omega

end Go.Proofs.Ytgaajmmbodfahaa.Pure
/- Plain lemma: what holds the marks of numbers. Condition: the numbers fit. -/
namespace Go.Proofs.Ytgaajmmbodfahaa.Pure
open Go.RowKit Go.Proofs.Ytgaajmmbodfahaa.Z Go.Proofs.YtgaajmmbodfahaaW.PrintWords

theorem ph_IntS (n : Nat) (m : Int) (h0 : 0 ≤ m) (h1 : m + ((1 * n : Nat) : Int) ≤ 4611686018427387904) : Ev (fun k => laws_heldIntS.f k (marked 1 (fun m => m) m n) m) (m + ((1 * n : Nat) : Int)) := by
  unfold laws_heldIntS.f
  have hn := marked_length 1 (fun m => m) m n
  refine held_loop 1 n m (fun i q k => laws_heldIntS.l0 k (marked 1 (fun m => m) m n) q (i : Int)) ?_ ?_
  · intro q
    refine Ev.step (fun k => by rw [laws_heldIntS.l0]) ?_
    exact Ev.ifneg (by omega) (Ev.now _)
  · intro i r hi hr
    refine Ev.step (fun k => by rw [laws_heldIntS.l0]) ?_
    have hle : ((1 * i : Nat) : Int) + 1 ≤ ((1 * n : Nat) : Int) := by omega
    refine Ev.ifpos (by omega) (Ev.ifpos (by omega) ?_)
    rw [rd_get _ i (by omega), marked_get]
    have w0 : wrap64 (m + ((1 * i : Nat) : Int) + 1) = m + ((1 * i : Nat) : Int) + 1 := wrap_in (by omega) (by omega)
    simp only [w0]
    refine Ev.ifpos (by first | trivial | rfl) ?_
    rw [wrap_succ (by omega)]
    exact hr

end Go.Proofs.Ytgaajmmbodfahaa.Pure
/- Plain lemma: what holds the marks of rows of rows. Condition: the numbers fit. -/
namespace Go.Proofs.Ytgaajmmbodfahaa.Pure
open Go.RowKit Go.Proofs.Ytgaajmmbodfahaa.Z Go.Proofs.YtgaajmmbodfahaaW.PrintWords

theorem held_SS_from : ∀ (l done : List (List Int)) (m : Int), 0 ≤ m → m + (tot l : Int) ≤ 4611686018427387904 → done.length + l.length ≤ 4611686018427387904 → Ev (fun k => laws_heldIntSS.l0 k (done ++ markSS m l) m (done.length : Int)) (m + (tot l : Int))
  | [], done, m, h0, h1, h2 => by
    rw [markSS, List.append_nil, tot]
    refine Ev.step (fun k => by rw [laws_heldIntSS.l0]) ?_
    exact Ev.ifneg (by omega) (Ev.pure (by simp))
  | r :: rs, done, m, h0, h1, h2 => by
    rw [tot] at h1
    rw [List.length_cons] at h2
    rw [markSS, tot]
    have hl : (done ++ marked 1 (fun m => m) m r.length :: markSS (m + (r.length : Int)) rs).length = done.length + rs.length + 1 := by simp [markSS_length]; omega
    refine Ev.step (fun k => by rw [laws_heldIntSS.l0]) ?_
    refine Ev.ifpos (by omega) (Ev.ifpos (by omega) ?_)
    rw [show rd_L1 (done ++ marked 1 (fun m => m) m r.length :: markSS (m + (r.length : Int)) rs) (done.length : Int) = marked 1 (fun m => m) m r.length from getD_mid _ _ _ _]
    refine Ev.bind (ph_IntS r.length m h0 (by omega)) (Ev.ifneg (by omega) ?_)
    rw [wrap_succ (by omega)]
    have ih := held_SS_from rs (done ++ [marked 1 (fun m => m) m r.length]) (m + (r.length : Int)) (by omega) (by omega) (by rw [List.length_append, List.length_singleton]; omega)
    rw [List.length_append, List.length_singleton, List.append_assoc, List.singleton_append] at ih
    have e1 : m + ((1 * r.length : Nat) : Int) = m + (r.length : Int) := by omega
    have e2 : m + (r.length : Int) + (tot rs : Int) = m + ((r.length + tot rs : Nat) : Int) := by omega
    rw [e2] at ih
    rw [e1]
    exact ih

theorem held_IntSS (l : List (List Int)) (m : Int) (h0 : 0 ≤ m) (h1 : m + (tot l : Int) ≤ 4611686018427387904) (h2 : l.length ≤ 4611686018427387904) : Ev (fun k => laws_heldIntSS.f k (markSS m l) m) (m + (tot l : Int)) := by
  unfold laws_heldIntSS.f
  have := held_SS_from l [] m h0 h1 (by simpa using h2)
  simpa using this

end Go.Proofs.Ytgaajmmbodfahaa.Pure
namespace Go.Proofs.Ytgaajmmbodfahaa.Pure
open Go.RowKit Go.Proofs.Ytgaajmmbodfahaa.Z Go.Proofs.YtgaajmmbodfahaaW.PrintWords

theorem FnExactSetsOf : laws_FnExactSetsOf.Pure := by
  intro c s _ _
  refine Ev.rounds ?_
  unfold laws_FnExactSetsOf.f
  have h1 := spec_setsOf c s
  have h2 := impl_setsOf c s
  obtain ⟨hl, hr⟩ := setsOf_small c s
  generalize setsOf c s = m at h1 h2 hl hr
  have hi := eq_IntSS m ⟨by omega, fun r h => ⟨by have := hr r h; omega, fun _ _ => trivial⟩⟩
  have ht := tot_le 6 m hr
  have hm := mark_IntSS m 1 (by omega) (by omega) (by omega)
  have hh := held_IntSS m 1 (by omega) (by omega) (by omega)
  refine Ev.bind h1 (Ev.bind0 h2 (Ev.bind hi (Ev.ifpos rfl (Ev.bind hm (Ev.bind hh (Ev.ifneg (by omega) (Ev.ifpos rfl ?_)))))))
  exact Ev.bind0 h2 (Ev.bind hi (Ev.ifpos rfl (Ev.bind hh (Ev.ifneg (by omega) (Ev.ifpos rfl (Ev.now _))))))

end Go.Proofs.Ytgaajmmbodfahaa.Pure
