/- The statement: for every matrix and every column, the program's TwinsOf answers as the reference's does, leaves the matrix as it was, and its answer shares no memory with the matrix or with another answer. No condition. -/
import Derived.Test.YtgaajmmbodfahaaWWords
import Derived.Test.YtgaajmmbodfahaaWLast
import Derived.Test.YtgaajmmbodfahaaWMore
import Derived.Test.YtgaajmmbodfahaaZ1
import Derived.Test.YtgaajmmbodfahaaZ2
import Derived.Test.YtgaajmmbodfahaaZ3
import Derived.Test.YtgaajmmbodfahaaZ4
import Derived.Test.YtgaajmmbodfahaaZ6
import Derived.Test.YtgaajmmbodfahaaZ5
import Derived.Test.YtgaajmmbodfahaaZDefFnExactTwinsOf
/- Plain lemmas for what the printed functions come to: loops that go up, indices that do not wrap, reads. No condition. -/
namespace Go.Proofs.Ytgaajmmbodfahaa.Pure
open Go.RowKit Go.Proofs.YtgaajmmbodfahaaW.PrintWords Go.Proofs.YtgaajmmbodfahaaW.PrintLast Go.Proofs.YtgaajmmbodfahaaW.PrintMore

/-- A loop that goes up to n: at each index it comes to R, if it does so one index further. -/
theorem Ev.up {σ ρ : Type} (n : Nat) (G : Nat → σ → Nat → Option ρ) (R : Nat → σ → ρ) (Inv : Nat → σ → Prop) (hend : ∀ s, Inv n s → Ev (G n s) (R n s))
    (hstep : ∀ i s, i < n → Inv i s → (∀ s', Inv (i + 1) s' → Ev (G (i + 1) s') (R (i + 1) s')) → Ev (G i s) (R i s)) : ∀ i s, i ≤ n → Inv i s → Ev (G i s) (R i s) := by
  have key : ∀ d i s, i + d = n → Inv i s → Ev (G i s) (R i s) := by
    intro d
    induction d with
    | zero => intro i s h hi; obtain rfl : i = n := by omega
              exact hend s hi
    | succ d ih => intro i s h hi; exact hstep i s (by omega) hi (fun s' hs' => ih (i + 1) s' (by omega) hs')
  intro i s h hi
  exact key (n - i) i s (by omega) hi

/-- The same without a state. -/
theorem Ev.up0 {ρ : Type} (n : Nat) (G : Nat → Nat → Option ρ) (R : Nat → ρ) (hend : Ev (G n) (R n)) (hstep : ∀ i, i < n → Ev (G (i + 1)) (R (i + 1)) → Ev (G i) (R i)) : ∀ i, i ≤ n → Ev (G i) (R i) := by
  intro i h
  exact Ev.up n (fun i (_ : Unit) => G i) (fun i _ => R i) (fun _ _ => True) (fun _ _ => hend) (fun i s hi _ hn => hstep i hi (hn () trivial)) i () h trivial

theorem Ev.det {α : Type} {g : Nat → Option α} {r q : α} (h : Ev g r) (h' : Ev g q) : r = q := by
  obtain ⟨K, h⟩ := h
  obtain ⟨K', h'⟩ := h'
  have a := h (max K K') (by omega)
  have b := h' (max K K') (by omega)
  rw [a] at b
  exact Option.some.inj b

theorem Ev.const {α : Type} {g : Nat → Option α} {r : α} (h : ∀ k, g k = some r) : Ev g r := ⟨0, fun k _ => h k⟩

theorem Ev.ifpos {α : Type} {c : Prop} [Decidable c] {g f : Nat → Option α} {r : α} (hc : c) (h : Ev g r) : Ev (fun k => if c then g k else f k) r := Ev.congr (fun k => by rw [if_pos hc]) h
theorem Ev.ifneg {α : Type} {c : Prop} [Decidable c] {g f : Nat → Option α} {r : α} (hc : ¬ c) (h : Ev f r) : Ev (fun k => if c then g k else f k) r := Ev.congr (fun k => by rw [if_neg hc]) h
theorem Ev.pure {α : Type} {a r : α} (h : a = r) : Ev (fun _ => some a) r := by subst h; exact Ev.now _

/-- A call that needs no rounds. -/
theorem Ev.bind0 {α β : Type} {g : Option α} {f : Nat → α → Option β} {a : α} {r : β} (h : g = some a) (k : Ev (fun n => f n a) r) : Ev (fun n => g.bind (f n)) r :=
  Ev.congr (fun n => by rw [h]; rfl) k

theorem wrap_in {n : Int} (h0 : -9223372036854775808 ≤ n) (h1 : n ≤ 9223372036854775807) : wrap64 n = n := by unfold wrap64; omega
theorem wrap_succ {i : Nat} (h : i < 9223372036854775807) : wrap64 ((i : Int) + 1) = ((i + 1 : Nat) : Int) := by unfold wrap64; omega

theorem rd_nat (xs : List Int) (i : Nat) : rd xs (i : Int) = xs.getD i 0 := by unfold rd; rw [Int.toNat_natCast]
theorem rd_get (xs : List Int) (i : Nat) (h : i < xs.length) : rd xs (i : Int) = xs[i] := by rw [rd_nat, List.getD_eq_getElem?_getD, List.getElem?_eq_getElem h]; rfl
theorem getD_get {α : Type} (xs : List α) (i : Nat) (z : α) (h : i < xs.length) : xs.getD (i : Int).toNat z = xs[i] := by rw [Int.toNat_natCast, List.getD_eq_getElem?_getD, List.getElem?_eq_getElem h]; rfl

theorem drop_get {α : Type} (xs : List α) (i : Nat) (h : i < xs.length) : xs.drop i = xs[i] :: xs.drop (i + 1) := List.drop_eq_getElem_cons h

theorem take_set_self {α : Type} (s : List α) (i : Nat) (a : α) : (s.set i a).take i = s.take i := by
  apply List.ext_getElem?
  intro j
  by_cases h : j < i
  · rw [List.getElem?_take, List.getElem?_take, if_pos h, if_pos h, List.getElem?_set_ne (by omega)]
  · rw [List.getElem?_take, List.getElem?_take, if_neg h, if_neg h]

/-- A loop that copies, element by element. -/
theorem copy_loop {α β : Type} (l : List α) (f : α → β) (G : Nat → List β → Nat → Option (List β)) (hend : ∀ s : List β, Ev (G l.length s) s)
    (hstep : ∀ i (hi : i < l.length) (s r : List β), s.length = l.length → Ev (G (i + 1) (s.set i (f l[i]))) r → Ev (G i s) r) (s : List β) (hs : s.length = l.length) : Ev (G 0 s) (l.map f) := by
  have key := Ev.up l.length G (fun i s => s.take i ++ (l.map f).drop i) (fun _ s => s.length = l.length)
    (fun s hs => by
      have e : s.take l.length ++ (l.map f).drop l.length = s := by rw [List.take_of_length_le (by omega), List.drop_of_length_le (by simp), List.append_nil]
      simp only [e]
      exact hend s)
    (fun i s hi hs ih => by
      have h1 := ih (s.set i (f l[i])) (by simpa using hs)
      have e : (s.set i (f l[i])).take (i + 1) ++ (l.map f).drop (i + 1) = s.take i ++ (l.map f).drop i := by
        rw [List.take_succ_eq_append_getElem (by simp; omega), List.drop_eq_getElem_cons (l := l.map f) (i := i) (by simpa using hi), take_set_self]
        simp
      simp only [e] at h1
      exact hstep i hi s _ hs h1) 0 s (Nat.zero_le _) hs
  simpa using key

/-- A loop that takes off what the elements weigh. -/
theorem sz_loop {α : Type} (l : List α) (sm : α → Prop) (G : Nat → Int → Nat → Option Int) (hend : ∀ s : Int, Ev (G l.length s) s)
    (hstep : ∀ i (hi : i < l.length) (s : Int), 0 ≤ s → s ≤ 1048576 → Ev (G i s) (-1) ∨ ∃ q : Int, 0 ≤ q ∧ q ≤ s ∧ sm l[i] ∧ ∀ r, Ev (G (i + 1) q) r → Ev (G i s) r) (s : Int) (h0 : 0 ≤ s) (h1 : s ≤ 1048576) :
    ∃ r : Int, Ev (G 0 s) r ∧ (0 ≤ r → r ≤ s ∧ ∀ x ∈ l, sm x) := by
  have key : ∀ d i (s : Int), i + d = l.length → 0 ≤ s → s ≤ 1048576 → ∃ r : Int, Ev (G i s) r ∧ (0 ≤ r → r ≤ s ∧ ∀ x ∈ l.drop i, sm x) := by
    intro d
    induction d with
    | zero =>
      intro i s hi h0 h1
      obtain rfl : i = l.length := by omega
      exact ⟨s, hend s, fun _ => ⟨Int.le_refl _, by simp⟩⟩
    | succ d ih =>
      intro i s hi h0 h1
      have hlt : i < l.length := by omega
      rcases hstep i hlt s h0 h1 with h | ⟨q, hq0, hq1, hsm, hnext⟩
      · exact ⟨-1, h, fun h => by omega⟩
      · obtain ⟨r, hr, hr2⟩ := ih (i + 1) q (by omega) hq0 (by omega)
        refine ⟨r, hnext r hr, fun h => ⟨by have := (hr2 h).1; omega, ?_⟩⟩
        rw [drop_get l i hlt]
        intro x hx
        rcases List.mem_cons.1 hx with rfl | hx
        · exact hsm
        · exact (hr2 h).2 x hx
  simpa using key l.length 0 s (by omega) h0 h1

/-- What a mark leaves: element i holds the numbers from m + c * i on. -/
def marked {α : Type} (c : Nat) (mk : Int → α) (m : Int) (n : Nat) : List α := (List.range n).map fun i => mk (m + ((c * i : Nat) : Int))
theorem marked_length {α : Type} (c : Nat) (mk : Int → α) (m : Int) (n : Nat) : (marked c mk m n).length = n := by simp [marked]
theorem marked_get {α : Type} (c : Nat) (mk : Int → α) (m : Int) (n i : Nat) (h : i < (marked c mk m n).length) : (marked c mk m n)[i] = mk (m + ((c * i : Nat) : Int)) := by simp [marked]
theorem marked_succ {α : Type} (c : Nat) (mk : Int → α) (m : Int) (n : Nat) : marked c mk m (n + 1) = mk m :: marked c mk (m + (c : Int)) n := by
  unfold marked
  rw [List.range_succ_eq_map, List.map_cons, List.map_map]
  congr 1
  · simp
  · apply List.map_congr_left
    intro i _
    show mk _ = mk _
    congr 1
    rw [Nat.mul_succ]
    omega

theorem mark_loop {α : Type} (c : Nat) (mk : Int → α) (n : Nat) (G : Nat → List α → Int → Nat → Option (Int × List α)) (hend : ∀ (s : List α) (m : Int), s.length = n → Ev (G n s m) (m, s))
    (hstep : ∀ i (s : List α) (m : Int) r, i < n → s.length = n → 0 ≤ m → m ≤ 4611686018427387904 → Ev (G (i + 1) (s.set i (mk m)) (m + (c : Int))) r → Ev (G i s m) r)
    (s : List α) (m : Int) (hs : s.length = n) (h0 : 0 ≤ m) (h1 : m + ((c * n : Nat) : Int) ≤ 4611686018427387904) : Ev (G 0 s m) (m + ((c * n : Nat) : Int), marked c mk m n) := by
  have key : ∀ d i (s : List α) (m : Int), i + d = n → s.length = n → 0 ≤ m → m + ((c * d : Nat) : Int) ≤ 4611686018427387904 → Ev (G i s m) (m + ((c * d : Nat) : Int), s.take i ++ marked c mk m d) := by
    intro d
    induction d with
    | zero =>
      intro i s m hi hs h0 h1
      obtain rfl : i = n := by omega
      have e : s.take i ++ marked c mk m 0 = s := by rw [List.take_of_length_le (by omega)]; simp [marked]
      rw [e]
      simpa using hend s m hs
    | succ d ih =>
      intro i s m hi hs h0 h1
      rw [Nat.mul_succ] at h1
      have h2 := ih (i + 1) (s.set i (mk m)) (m + (c : Int)) (by omega) (by simpa using hs) (by omega) (by omega)
      have e : (s.set i (mk m)).take (i + 1) ++ marked c mk (m + (c : Int)) d = s.take i ++ marked c mk m (d + 1) := by
        rw [List.take_succ_eq_append_getElem (by simp; omega), marked_succ, take_set_self]
        simp
      rw [e] at h2
      have e2 : m + (c : Int) + ((c * d : Nat) : Int) = m + ((c * (d + 1) : Nat) : Int) := by rw [Nat.mul_succ]; omega
      rw [e2] at h2
      exact hstep i s m _ (by omega) hs h0 (by omega) h2
  have := key n 0 s m (by omega) hs h0 h1
  simpa using this

theorem held_loop (c : Nat) (n : Nat) (m0 : Int) (G : Nat → Int → Nat → Option Int) (hend : ∀ m : Int, Ev (G n m) m)
    (hstep : ∀ i r, i < n → Ev (G (i + 1) (m0 + ((c * i : Nat) : Int) + (c : Int))) r → Ev (G i (m0 + ((c * i : Nat) : Int))) r) : Ev (G 0 m0) (m0 + ((c * n : Nat) : Int)) := by
  have key := Ev.up0 n (fun i => G i (m0 + ((c * i : Nat) : Int))) (fun _ => m0 + ((c * n : Nat) : Int)) (hend _)
    (fun i hi ih => hstep i _ hi (by
      have e : m0 + ((c * i : Nat) : Int) + (c : Int) = m0 + ((c * (i + 1) : Nat) : Int) := by rw [Nat.mul_succ]; omega
      rw [e]
      exact ih)) 0 (Nat.zero_le _)
  simpa using key

end Go.Proofs.Ytgaajmmbodfahaa.Pure
/- Plain lemmas on the laws' own helpers: copies, comparisons, sizes, marks. No condition. -/
namespace Go.Proofs.Ytgaajmmbodfahaa.Pure
open Go.RowKit Go.Proofs.Ytgaajmmbodfahaa.Z Go.Proofs.YtgaajmmbodfahaaW.PrintWords
set_option linter.unusedSimpArgs false
set_option linter.unusedVariables false
def smL {α : Type} (sm : α → Prop) (l : List α) : Prop := l.length ≤ 1048576 ∧ ∀ x ∈ l, sm x
def okLen {α : Type} (l : List α) : Prop := l.length ≤ maxLen
theorem mark_IntS (l : List Int) (m : Int) (h0 : 0 ≤ m) (h1 : m + ((1 * l.length : Nat) : Int) ≤ 4611686018427387904) : Ev (fun k => laws_markIntS.f k l m) (m + ((1 * l.length : Nat) : Int), marked 1 (fun m => m) m l.length) := by
  unfold laws_markIntS.f
  refine mark_loop 1 (fun m => m) l.length (fun i s m k => laws_markIntS.l0 k s m (i : Int)) ?_ ?_ l m rfl h0 h1
  · intro s m hs
    refine Ev.step (fun k => by rw [laws_markIntS.l0]) ?_
    exact Ev.ifneg (by omega) (Ev.now _)
  · intro i s m r hi hs h0 h1 hr
    refine Ev.step (fun k => by rw [laws_markIntS.l0]) ?_
    refine Ev.ifpos (by omega) (Ev.ifpos (by omega) ?_)
    rw [wrap_succ (by omega), wrap_in (by omega) (by omega), Int.toNat_natCast]
    exact hr
theorem eq_IntS (l : List Int) (h : l.length ≤ maxLen) : Ev (fun k => laws_eqIntS.f k l l) true := by
  unfold maxLen at h
  unfold laws_eqIntS.f
  refine Ev.ifpos rfl ?_
  exact Ev.up0 l.length (fun i k => laws_eqIntS.l0 k l l (i : Int)) (fun _ => true)
    (Ev.step (fun k => by rw [laws_eqIntS.l0]) (Ev.ifneg (by omega) (Ev.now _)))
    (fun i hi ih => by
      refine Ev.step (fun k => by rw [laws_eqIntS.l0]) ?_
      refine Ev.ifpos (by omega) (Ev.ifpos (by omega) (Ev.ifpos (by omega) ?_))
      refine Ev.ifpos rfl ?_
      rw [wrap_succ (by omega)]
      exact ih) 0 (Nat.zero_le _)
theorem rd_L1_get (xs : List (List Int)) (i : Nat) (h : i < xs.length) : rd_L1 xs (i : Int) = xs[i] := getD_get xs i _ h
theorem eq_IntSS (l : List (List Int)) (h : (smL (smL (fun _ => True))) l) : Ev (fun k => laws_eqIntSS.f k l l) true := by
  have hl := h.1
  unfold laws_eqIntSS.f
  refine Ev.ifpos rfl ?_
  exact Ev.up0 l.length (fun i k => laws_eqIntSS.l0 k l l (i : Int)) (fun _ => true)
    (Ev.step (fun k => by rw [laws_eqIntSS.l0]) (Ev.ifneg (by omega) (Ev.now _)))
    (fun i hi ih => by
      refine Ev.step (fun k => by rw [laws_eqIntSS.l0]) ?_
      refine Ev.ifpos (by omega) (Ev.ifpos (by omega) (Ev.ifpos (by omega) ?_))
      rw [rd_L1_get l i hi]
      refine Ev.bind (eq_IntS l[i] (by have := (h.2 _ (List.getElem_mem hi)).1; unfold maxLen; omega)) (Ev.ifpos rfl ?_)
      rw [wrap_succ (by omega)]
      exact ih) 0 (Nat.zero_le _)
theorem sz_IntS (l : List Int) (hl : l.length ≤ maxLen) (s : Int) (h0 : 0 ≤ s) (h1 : s ≤ 1048576) : ∃ r : Int, laws_szIntS.f l s = some r ∧ (0 ≤ r → r ≤ s ∧ (smL (fun _ => True)) l) := by
  unfold maxLen at hl
  unfold laws_szIntS.f
  rw [wrap_in (by omega) (by omega)]
  by_cases h : s - (l.length : Int) < 0
  · exact ⟨-1, by rw [if_pos h], fun h => by omega⟩
  · exact ⟨s - (l.length : Int), by rw [if_neg h], fun _ => ⟨by omega, by omega, fun _ _ => trivial⟩⟩
theorem sz_IntSS (l : List (List Int)) (hl : l.length ≤ maxLen) (hx : ∀ x ∈ l, okLen x) (s : Int) (h0 : 0 ≤ s) (h1 : s ≤ 1048576) : ∃ r : Int, Ev (fun k => laws_szIntSS.f k l s) r ∧ (0 ≤ r → r ≤ s ∧ (smL (smL (fun _ => True))) l) := by
  unfold maxLen at hl
  unfold laws_szIntSS.f
  rw [wrap_in (by omega) (by omega)]
  by_cases h : s - (l.length : Int) < 0
  · exact ⟨-1, Ev.ifpos h (Ev.now _), fun h => by omega⟩
  · have key := sz_loop l (smL (fun _ => True)) (fun i s k => laws_szIntSS.l0 k l s (i : Int)) ?_ ?_ (s - (l.length : Int)) (by omega) (by omega)
    · obtain ⟨r, hr, hr2⟩ := key
      exact ⟨r, Ev.ifneg h hr, fun h => ⟨by have := (hr2 h).1; omega, by omega, (hr2 h).2⟩⟩
    · intro s
      refine Ev.step (fun k => by rw [laws_szIntSS.l0]) ?_
      exact Ev.ifneg (by omega) (Ev.now _)
    · intro i hi s h0 h1
      obtain ⟨q, hq, hq2⟩ := sz_IntS l[i] (hx _ (List.getElem_mem hi)) s h0 h1
      by_cases hneg : q < 0
      · refine .inl (Ev.step (fun k => by rw [laws_szIntSS.l0]) ?_)
        refine Ev.ifpos (by omega) (Ev.ifpos (by omega) ?_)
        rw [rd_L1_get l i hi]
        exact Ev.bind0 hq (Ev.ifpos hneg (Ev.now _))
      · refine .inr ⟨q, by omega, (hq2 (by omega)).1, (hq2 (by omega)).2, fun r hr => ?_⟩
        refine Ev.step (fun k => by rw [laws_szIntSS.l0]) ?_
        refine Ev.ifpos (by omega) (Ev.ifpos (by omega) ?_)
        rw [rd_L1_get l i hi]
        refine Ev.bind0 hq (Ev.ifneg hneg ?_)
        rw [wrap_succ (by omega)]
        exact hr
theorem to_IntS (l : List Int) (h : (smL (fun _ => True)) l) : Ev (fun k => laws_toIntS.f k l) (l) := by
  unfold laws_toIntS.f
  have hl := h.1
  refine Ev.ifpos (by omega) (Ev.ifpos (by omega) ?_)
  rw [Int.toNat_natCast]
  have key := copy_loop l id (fun i s k => laws_toIntS.l0 k l s (i : Int)) ?_ ?_ (List.replicate l.length 0) (by simp)
  · rw [List.map_id] at key; exact key
  · intro s
    refine Ev.step (fun k => by rw [laws_toIntS.l0]) ?_
    exact Ev.ifneg (by omega) (Ev.now _)
  · intro i hi s r hs hr
    refine Ev.step (fun k => by rw [laws_toIntS.l0]) ?_
    refine Ev.ifpos (by omega) (Ev.ifpos (by omega) ?_)
    refine Ev.ifpos (by omega) ?_
    rw [rd_get l i hi, wrap_succ (by omega), Int.toNat_natCast]
    exact hr
theorem to_IntSS (l : List (List Int)) (h : (smL (smL (fun _ => True))) l) : Ev (fun k => laws_toIntSS.f k l) (l) := by
  unfold laws_toIntSS.f
  have hl := h.1
  refine Ev.ifpos (by omega) (Ev.ifpos (by omega) ?_)
  rw [Int.toNat_natCast]
  have key := copy_loop l id (fun i s k => laws_toIntSS.l0 k l s (i : Int)) ?_ ?_ (List.replicate l.length []) (by simp)
  · rw [List.map_id] at key; exact key
  · intro s
    refine Ev.step (fun k => by rw [laws_toIntSS.l0]) ?_
    exact Ev.ifneg (by omega) (Ev.now _)
  · intro i hi s r hs hr
    refine Ev.step (fun k => by rw [laws_toIntSS.l0]) ?_
    refine Ev.ifpos (by omega) (Ev.ifpos (by omega) ?_)
    rw [rd_L1_get l i hi]
    refine Ev.bind (to_IntS l[i] (h.2 _ (List.getElem_mem hi))) ?_
    refine Ev.ifpos (by omega) ?_
    rw [wrap_succ (by omega), Int.toNat_natCast]
    exact hr
theorem held_IntS (n : Nat) (m : Int) (h0 : 0 ≤ m) (h1 : m + ((1 * n : Nat) : Int) ≤ 4611686018427387904) : Ev (fun k => laws_heldIntS.f k (marked 1 (fun m => m) m n) m) (m + ((1 * n : Nat) : Int)) := by
  unfold laws_heldIntS.f
  have hn := marked_length 1 (fun m => m) m n
  refine held_loop 1 n m (fun i q k => laws_heldIntS.l0 k (marked 1 (fun m => m) m n) q (i : Int)) ?_ ?_
  · intro q
    refine Ev.step (fun k => by rw [laws_heldIntS.l0]) ?_
    exact Ev.ifneg (by omega) (Ev.now _)
  · intro i r hi hr
    refine Ev.step (fun k => by rw [laws_heldIntS.l0]) ?_
    have hle : ((1 * i : Nat) : Int) + 1 ≤ ((1 * n : Nat) : Int) := by omega
    refine Ev.ifpos (by omega) (Ev.ifpos (by omega) ?_)
    rw [rd_get _ i (by omega), marked_get]
    have w0 : wrap64 (m + ((1 * i : Nat) : Int) + 1) = m + ((1 * i : Nat) : Int) + 1 := wrap_in (by omega) (by omega)
    simp only [w0]
    refine Ev.ifpos (by first | trivial | rfl) ?_
    rw [wrap_succ (by omega)]
    exact hr
end Go.Proofs.Ytgaajmmbodfahaa.Pure
/- Plain lemma: the columns that go with one, as the reference and the program list them. Condition: the rows are not longer than the law's can be. -/
namespace Go.Proofs.Ytgaajmmbodfahaa.Pure
open Go.RowKit Go.Proofs.Ytgaajmmbodfahaa.Z Go.Proofs.YtgaajmmbodfahaaW.PrintWords

/-- The columns that go with one. -/
def twinsF (m : List (List Int)) (link : Int) : List Int := if m = [] then [] else if 0 ≤ link ∧ link < ((rd_L1 m 0).length : Int) then (if m.any (otherLen (rd_L1 m 0).length) = true then [] else twinsUpto m link (rd_L1 m 0).length) else []

theorem tw_len0 (m : List (List Int)) (hm : ∀ x ∈ m, x.length ≤ 1048576) : (rd_L1 m 0).length ≤ 1048576 := by
  cases m with
  | nil => unfold rd_L1; simp
  | cons x l => exact hm x List.mem_cons_self
theorem twinsF_len (m : List (List Int)) (link : Int) (hm : ∀ x ∈ m, x.length ≤ 1048576) : (twinsF m link).length ≤ 1048576 := by
  unfold twinsF
  repeat (first | (split) | exact Nat.zero_le _)
  all_goals first | exact Nat.zero_le _ | exact Nat.le_trans (twinsUpto_len _ _ _) (tw_len0 m hm)
theorem impl_twins (m : List (List Int)) (link : Int) (hm : ∀ x ∈ m, x.length ≤ 1048576) : impl_TwinsOf.f m link = some (twinsF m link) := by
  unfold impl_TwinsOf.f twinsF
  by_cases h1 : m = []
  · rw [if_pos h1, if_pos h1]
  · rw [if_neg h1, if_neg h1]
    by_cases h2 : 0 ≤ link ∧ link < ((rd_L1 m 0).length : Int)
    · rw [if_pos h2, if_pos h2]
      by_cases h3 : m.any (otherLen (rd_L1 m 0).length) = true
      · rw [if_pos h3, if_pos h3]
      · rw [if_neg h3, if_neg h3, if_pos (tw_len0 m hm)]
    · rw [if_neg h2, if_neg h2]

theorem unlike_not (c link : Int) (row : List Int) : (!(unlike c link row)) = (rd row c == rd row link) := by
  unfold unlike
  cases h : (rd row c == rd row link) <;> simp [bne, h]
theorem all_unlike (c link : Int) (m : List (List Int)) : m.all (fun row => !(unlike c link row)) = !(m.any (unlike c link)) := by
  induction m with
  | nil => rfl
  | cons x l ih => rw [List.all_cons, List.any_cons, ih]; cases unlike c link x <;> rfl

section
variable (m : List (List Int)) (link : Int) (n : Nat) (hlen : m.length ≤ 1048576) (hn : n ≤ 1048576) (hall : ∀ x ∈ m, x.length = n) (h0 : 0 ≤ link) (h1 : link < (n : Int))
include hlen hn hall h0 h1
theorem tw_l2 (c : Nat) (hc : c < n) (out r : List Int) (ho : out.length ≤ 1048576) : ∀ (d i : Nat) (b : Bool), i + d = m.length → Ev (fun k => spec_TwinsOf.l1 k m link (if (b && (m.drop i).all (fun row => !(unlike (c : Int) link row))) = true then out ++ [(c : Int)] else out) ((c + 1 : Nat) : Int)) r → Ev (fun k => spec_TwinsOf.l2 k m link out (c : Int) b (i : Int)) r := by
  intro d
  induction d with
  | zero =>
    intro i b h hr
    rw [List.drop_of_length_le (by omega), List.all_nil, Bool.and_true] at hr
    refine Ev.step (fun k => by rw [spec_TwinsOf.l2]) ?_
    refine Ev.ifneg (by omega) ?_
    cases b with
    | true =>
      refine Ev.ifpos rfl (Ev.ifpos (by omega) ?_)
      rw [wrap_succ (by omega)]
      exact hr
    | false =>
      refine Ev.ifneg (by decide) ?_
      rw [wrap_succ (by omega)]
      exact hr
  | succ d ih =>
    intro i b h hr
    refine Ev.step (fun k => by rw [spec_TwinsOf.l2]) ?_
    refine Ev.ifpos (by omega) ?_
    cases b with
    | false =>
      refine Ev.ifneg (by decide) ?_
      rw [wrap_succ (by omega)]
      exact hr
    | true =>
      have hi : i < m.length := by omega
      have hx := hall m[i] (List.getElem_mem hi)
      have hrd : rd_L1 m (i : Int) = m[i] := getD_get m i _ hi
      rw [drop_get m i hi, List.all_cons, Bool.true_and, unlike_not] at hr
      refine Ev.ifpos rfl (Ev.ifpos (by omega) (Ev.ifpos (by omega) (Ev.ifpos (by rw [hrd, hx]; omega) (Ev.ifpos h0 (Ev.ifpos (by rw [hrd, hx]; exact h1) ?_)))))
      rw [wrap_succ (by omega), hrd]
      exact ih (i + 1) _ (by omega) hr
theorem tw_l1 (hpos : 0 < m.length) : ∀ (d c : Nat), c + d = n → Ev (fun k => spec_TwinsOf.l1 k m link (twinsUpto m link c) (c : Int)) (twinsUpto m link n) := by
  have hrd : rd_L1 m 0 = m[0] := getD_get m 0 _ hpos
  have hx := hall m[0] (List.getElem_mem hpos)
  intro d
  induction d with
  | zero =>
    intro c h
    obtain rfl : c = n := by omega
    refine Ev.step (fun k => by rw [spec_TwinsOf.l1]) ?_
    exact Ev.ifpos (by omega) (Ev.ifneg (by rw [hrd, hx]; omega) (Ev.now _))
  | succ d ih =>
    intro c h
    have h2 := ih (c + 1) (by omega)
    refine Ev.step (fun k => by rw [spec_TwinsOf.l1]) ?_
    refine Ev.ifpos (by omega) (Ev.ifpos (by rw [hrd, hx]; omega) ?_)
    refine tw_l2 m link n hlen hn hall h0 h1 c (by omega) (twinsUpto m link c) _ (by have := twinsUpto_len m link c; omega) m.length 0 _ (by omega) ?_
    rw [List.drop_zero, all_unlike]
    have e : (if (((c : Int) != link) && !(m.any (unlike (c : Int) link))) = true then twinsUpto m link c ++ [(c : Int)] else twinsUpto m link c) = twinsUpto m link (c + 1) := by
      rw [twinsUpto_succ]
      have e2 : twinAt m link c = (((c : Int) != link) && !(m.any (unlike (c : Int) link))) := by
        unfold twinAt
        congr 1
        by_cases hcl : (c : Int) = link
        · rw [decide_eq_false (by simpa using hcl), hcl]; simp
        · rw [decide_eq_true (by simpa using hcl)]; exact (bne_iff_ne.2 hcl).symm
      rw [e2]
      split <;> simp
    rw [e]
    exact h2
end

theorem spec_twins (m : List (List Int)) (link : Int) (hlen : m.length ≤ 1048576) (hm : ∀ x ∈ m, x.length ≤ 1048576) : Ev (fun k => spec_TwinsOf.f k m link) (twinsF m link) := by
  unfold spec_TwinsOf.f twinsF
  refine Ev.bind0 rfl ?_
  by_cases e : m = []
  · subst e
    rw [if_pos rfl]
    refine Ev.ifpos rfl ?_
    refine Ev.step (fun k => by rw [spec_TwinsOf.j0]) ?_
    exact Ev.ifpos rfl (Ev.now _)
  have hpos : 0 < m.length := List.length_pos_iff.2 e
  rw [if_neg e]
  refine Ev.ifneg (by omega) (Ev.ifpos (by omega) ?_)
  have hrd : rd_L1 m 0 = m[0] := getD_get m 0 _ hpos
  have hn := tw_len0 m hm
  generalize hnn : (rd_L1 m 0).length = n at *
  have hin : spec_l1In.f link 0 (wrap64 ((n : Int) - 1)) = some (decide (0 ≤ link ∧ link < (n : Int))) := by
    rw [wrap_in (by omega) (by omega)]
    unfold spec_l1In.f
    by_cases q : link ≥ 0
    · rw [if_pos q]
      congr 1
      apply decide_eq_decide.2
      omega
    · rw [if_neg q, decide_eq_false (by omega)]
  refine Ev.bind0 hin ?_
  by_cases hk : 0 ≤ link ∧ link < (n : Int)
  rotate_left
  · rw [decide_eq_false hk, if_neg hk]
    refine Ev.step (fun k => by rw [spec_TwinsOf.j0]) ?_
    exact Ev.ifpos rfl (Ev.now _)
  rw [decide_eq_true hk, if_pos hk]
  refine Ev.step (fun k => by rw [spec_TwinsOf.j0]) ?_
  refine Ev.ifneg (by decide) ?_
  -- the lengths
  have key : ∀ d i, i + d = m.length → (∀ j, (hj : j < m.length) → j < i → m[j].length = n) → Ev (fun k => spec_TwinsOf.l0 k m link [] (i : Int)) (if (m.drop i).any (otherLen n) = true then [] else twinsUpto m link n) := by
    intro d
    induction d with
    | zero =>
      intro i h hb
      rw [List.drop_of_length_le (by omega), List.any_nil, if_neg (by decide)]
      refine Ev.step (fun k => by rw [spec_TwinsOf.l0]) ?_
      refine Ev.ifneg (by omega) ?_
      have hall : ∀ x ∈ m, x.length = n := fun x hx => by
        obtain ⟨j, hj, rfl⟩ := List.getElem_of_mem hx
        exact hb j hj (by omega)
      exact tw_l1 m link n hlen hn hall hk.1 hk.2 hpos n 0 (by omega)
    | succ d ih =>
      intro i h hb
      have hi : i < m.length := by omega
      have hri : rd_L1 m (i : Int) = m[i] := getD_get m i _ hi
      rw [drop_get m i hi, List.any_cons]
      refine Ev.step (fun k => by rw [spec_TwinsOf.l0]) ?_
      refine Ev.ifpos (by omega) (Ev.ifpos (by omega) (Ev.ifpos (by omega) ?_))
      rw [hri, hnn]
      by_cases hq : m[i].length = n
      · refine Ev.ifpos (by omega) ?_
        rw [wrap_succ (by omega)]
        have e3 : otherLen n m[i] = false := by unfold otherLen; rw [hq]; simp
        rw [e3, Bool.false_or]
        exact ih (i + 1) (by omega) (fun j hj hji => by
          by_cases hji2 : j = i
          · subst hji2; exact hq
          · exact hb j hj (by omega))
      · have e3 : otherLen n m[i] = true := by unfold otherLen; exact bne_iff_ne.2 (by omega)
        rw [e3, Bool.true_or, if_pos rfl]
        exact Ev.ifneg (by omega) (Ev.now _)
  have := key m.length 0 (by omega) (fun j _ h => absurd h (by omega))
  rw [List.drop_zero] at this
  exact this

end Go.Proofs.Ytgaajmmbodfahaa.Pure
/- Plain lemmas: marks of numbers; the middle of a list. Condition: the numbers fit. -/
namespace Go.Proofs.Ytgaajmmbodfahaa.Pure
open Go.RowKit Go.Proofs.Ytgaajmmbodfahaa.Z Go.Proofs.YtgaajmmbodfahaaW.PrintWords

theorem pm_IntS (l : List Int) (m : Int) (h0 : 0 ≤ m) (h1 : m + ((1 * l.length : Nat) : Int) ≤ 4611686018427387904) : Ev (fun k => laws_markIntS.f k l m) (m + ((1 * l.length : Nat) : Int), marked 1 (fun m => m) m l.length) := by
  unfold laws_markIntS.f
  refine mark_loop 1 (fun m => m) l.length (fun i s m k => laws_markIntS.l0 k s m (i : Int)) ?_ ?_ l m rfl h0 h1
  · intro s m hs
    refine Ev.step (fun k => by rw [laws_markIntS.l0]) ?_
    exact Ev.ifneg (by omega) (Ev.now _)
  · intro i s m r hi hs h0 h1 hr
    refine Ev.step (fun k => by rw [laws_markIntS.l0]) ?_
    refine Ev.ifpos (by omega) (Ev.ifpos (by omega) ?_)
    rw [wrap_succ (by omega), wrap_in (by omega) (by omega), Int.toNat_natCast]
    exact hr

theorem getD_mid {α : Type} (a : List α) (x z : α) (b : List α) : (a ++ x :: b).getD ((a.length : Int)).toNat z = x := by
  rw [Int.toNat_natCast, List.getD_eq_getElem?_getD, List.getElem?_append_right (Nat.le_refl _), Nat.sub_self]
  rfl
theorem set_mid {α : Type} (a : List α) (x y : α) (b : List α) : (a ++ x :: b).set ((a.length : Int)).toNat y = (a ++ [y]) ++ b := by
  rw [Int.toNat_natCast, List.set_append_right _ _ (Nat.le_refl _), Nat.sub_self, List.set_cons_zero, List.append_assoc]
  rfl

end Go.Proofs.Ytgaajmmbodfahaa.Pure
/- Plain lemmas: marks of rows of rows. Condition: the numbers fit. -/
namespace Go.Proofs.Ytgaajmmbodfahaa.Pure
open Go.RowKit Go.Proofs.Ytgaajmmbodfahaa.Z Go.Proofs.YtgaajmmbodfahaaW.PrintWords

/-- How many numbers there are in all rows. -/
def tot : List (List Int) → Nat
  | [] => 0
  | r :: rs => r.length + tot rs
/-- What the marks leave. -/
def markSS : Int → List (List Int) → List (List Int)
  | _, [] => []
  | m, r :: rs => marked 1 (fun m => m) m r.length :: markSS (m + (r.length : Int)) rs
theorem markSS_length : ∀ (m : Int) (l : List (List Int)), (markSS m l).length = l.length
  | _, [] => rfl
  | m, r :: rs => by rw [markSS, List.length_cons, markSS_length, List.length_cons]

theorem mark_SS_from : ∀ (l done : List (List Int)) (m : Int), 0 ≤ m → m + (tot l : Int) ≤ 4611686018427387904 → done.length + l.length ≤ 4611686018427387904 → Ev (fun k => laws_markIntSS.l0 k (done ++ l) m (done.length : Int)) (m + (tot l : Int), done ++ markSS m l)
  | [], done, m, h0, h1, h2 => by
    rw [List.append_nil, markSS, List.append_nil, tot]
    refine Ev.step (fun k => by rw [laws_markIntSS.l0]) ?_
    exact Ev.ifneg (by omega) (Ev.pure (by simp))
  | r :: rs, done, m, h0, h1, h2 => by
    rw [tot] at h1
    rw [List.length_cons] at h2
    have hl : (done ++ r :: rs).length = done.length + rs.length + 1 := by simp; omega
    refine Ev.step (fun k => by rw [laws_markIntSS.l0]) ?_
    refine Ev.ifpos (by omega) (Ev.ifpos (by omega) ?_)
    rw [getD_mid]
    refine Ev.bind (pm_IntS r m h0 (by omega)) ?_
    rw [set_mid, wrap_succ (by omega)]
    have ih := mark_SS_from rs (done ++ [marked 1 (fun m => m) m r.length]) (m + (r.length : Int)) (by omega) (by omega) (by rw [List.length_append, List.length_singleton]; omega)
    rw [List.length_append, List.length_singleton] at ih
    rw [markSS, tot]
    have e1 : m + ((1 * r.length : Nat) : Int) = m + (r.length : Int) := by omega
    have e2 : m + (r.length : Int) + (tot rs : Int) = m + ((r.length + tot rs : Nat) : Int) := by omega
    rw [e2] at ih
    simp only [List.append_assoc, List.singleton_append] at ih
    simp only [e1]
    rw [List.append_assoc, List.singleton_append]
    exact ih

theorem mark_IntSS (l : List (List Int)) (m : Int) (h0 : 0 ≤ m) (h1 : m + (tot l : Int) ≤ 4611686018427387904) (h2 : l.length ≤ 4611686018427387904) : Ev (fun k => laws_markIntSS.f k l m) (m + (tot l : Int), markSS m l) := by
  unfold laws_markIntSS.f
  have := mark_SS_from l [] m h0 h1 (by simpa using h2)
  simpa using this

theorem tot_le (n : Nat) : ∀ l : List (List Int), (∀ r ∈ l, r.length ≤ n) → tot l ≤ n * l.length
  | [], _ => Nat.zero_le _
  | r :: rs, h => by
    have := tot_le n rs (fun x hx => h x (List.mem_cons_of_mem _ hx))
    have := h r (List.mem_cons_self ..)
    rw [tot, List.length_cons, Nat.mul_succ]
    omega

end Go.Proofs.Ytgaajmmbodfahaa.Pure
namespace Go.Proofs.Ytgaajmmbodfahaa.Pure
open Go.RowKit Go.Proofs.Ytgaajmmbodfahaa.Z Go.Proofs.YtgaajmmbodfahaaW.PrintWords

theorem FnExactTwinsOf : laws_FnExactTwinsOf.Pure := by
  intro q a hl _
  refine Ev.rounds ?_
  unfold laws_FnExactTwinsOf.f
  obtain ⟨s, hs, hs2⟩ := sz_IntSS q hl.1 (fun x hx => (hl.2 x hx).1) 1048576 (by omega) (by omega)
  by_cases hn : s < 0
  · exact Ev.bind hs (Ev.ifpos hn (Ev.now _))
  have hsm := (hs2 (by omega)).2
  have ht := to_IntSS q hsm
  have he := eq_IntSS q hsm
  have hlen := hsm.1
  have hp : ∀ x ∈ q, x.length ≤ 1048576 := fun x hx => (hsm.2 x hx).1
  have h1 := spec_twins q a hlen hp
  have h2 := impl_twins q a hp
  have hrl := twinsF_len q a hp
  generalize twinsF q a = m at h1 h2 hrl
  have hi := eq_IntS m (by unfold maxLen; omega)
  have ht1 := tot_le 1048576 q hp
  have hb1 : tot q ≤ 1048576 * 1048576 := Nat.le_trans ht1 (Nat.mul_le_mul_left _ hlen)
  have hmp := mark_IntSS q 1 (by omega) (by omega) (by omega)
  have hmi := mark_IntS m 1 (by omega) (by omega)
  have hh := held_IntS m.length 1 (by omega) (by omega)
  refine Ev.bind hs (Ev.ifneg hn (Ev.bind ht (Ev.bind h1 (Ev.bind ht (Ev.bind0 h2 (Ev.bind hi (Ev.ifpos rfl (Ev.bind ht (Ev.bind he (Ev.ifpos rfl (Ev.bind hmp (Ev.ifneg (by omega) (Ev.bind hi (Ev.ifpos rfl ?_))))))))))))))
  exact Ev.bind hmi (Ev.bind hh (Ev.ifneg (by omega) (Ev.ifpos rfl (Ev.bind ht (Ev.bind0 h2 (Ev.bind hi (Ev.ifpos rfl (Ev.bind hh (Ev.ifneg (by omega) (Ev.ifpos rfl (Ev.now _)))))))))))

end Go.Proofs.Ytgaajmmbodfahaa.Pure
