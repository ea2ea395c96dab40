/- The statement: for all links, the program's HasCircle answers as the reference's does, and leaves the links as they were. No condition. -/
import Derived.Test.YtcdlhjfiboomkaaWWords
import Derived.Test.YtcdlhjfiboomkaaWLast
import Derived.Test.YtcdlhjfiboomkaaWMore
import Derived.Test.YtcdlhjfiboomkaaZ1
import Derived.Test.YtcdlhjfiboomkaaZ2
import Derived.Test.YtcdlhjfiboomkaaZ4
import Derived.Test.YtcdlhjfiboomkaaZFirst
import Derived.Test.YtcdlhjfiboomkaaZ3
import Derived.Test.YtcdlhjfiboomkaaZDefFnExactHasCircle
/- Plain lemmas for what the printed functions come to: loops that go up, indices that do not wrap, reads. No condition. -/
namespace Go.Proofs.Ytcdlhjfiboomkaa.Pure
open Go.RowKit Go.Proofs.YtcdlhjfiboomkaaW.PrintWords Go.Proofs.YtcdlhjfiboomkaaW.PrintLast Go.Proofs.YtcdlhjfiboomkaaW.PrintMore

/-- A loop that goes up to n: at each index it comes to R, if it does so one index further. -/
theorem Ev.up {σ ρ : Type} (n : Nat) (G : Nat → σ → Nat → Option ρ) (R : Nat → σ → ρ) (Inv : Nat → σ → Prop) (hend : ∀ s, Inv n s → Ev (G n s) (R n s))
    (hstep : ∀ i s, i < n → Inv i s → (∀ s', Inv (i + 1) s' → Ev (G (i + 1) s') (R (i + 1) s')) → Ev (G i s) (R i s)) : ∀ i s, i ≤ n → Inv i s → Ev (G i s) (R i s) := by
  have key : ∀ d i s, i + d = n → Inv i s → Ev (G i s) (R i s) := by
    intro d
    induction d with
    | zero => intro i s h hi; obtain rfl : i = n := by omega
              exact hend s hi
    | succ d ih => intro i s h hi; exact hstep i s (by omega) hi (fun s' hs' => ih (i + 1) s' (by omega) hs')
  intro i s h hi
  exact key (n - i) i s (by omega) hi

/-- The same without a state. -/
theorem Ev.up0 {ρ : Type} (n : Nat) (G : Nat → Nat → Option ρ) (R : Nat → ρ) (hend : Ev (G n) (R n)) (hstep : ∀ i, i < n → Ev (G (i + 1)) (R (i + 1)) → Ev (G i) (R i)) : ∀ i, i ≤ n → Ev (G i) (R i) := by
  intro i h
  exact Ev.up n (fun i (_ : Unit) => G i) (fun i _ => R i) (fun _ _ => True) (fun _ _ => hend) (fun i s hi _ hn => hstep i hi (hn () trivial)) i () h trivial

theorem Ev.det {α : Type} {g : Nat → Option α} {r q : α} (h : Ev g r) (h' : Ev g q) : r = q := by
  obtain ⟨K, h⟩ := h
  obtain ⟨K', h'⟩ := h'
  have a := h (max K K') (by omega)
  have b := h' (max K K') (by omega)
  rw [a] at b
  exact Option.some.inj b

theorem Ev.const {α : Type} {g : Nat → Option α} {r : α} (h : ∀ k, g k = some r) : Ev g r := ⟨0, fun k _ => h k⟩

theorem Ev.ifpos {α : Type} {c : Prop} [Decidable c] {g f : Nat → Option α} {r : α} (hc : c) (h : Ev g r) : Ev (fun k => if c then g k else f k) r := Ev.congr (fun k => by rw [if_pos hc]) h
theorem Ev.ifneg {α : Type} {c : Prop} [Decidable c] {g f : Nat → Option α} {r : α} (hc : ¬ c) (h : Ev f r) : Ev (fun k => if c then g k else f k) r := Ev.congr (fun k => by rw [if_neg hc]) h
theorem Ev.pure {α : Type} {a r : α} (h : a = r) : Ev (fun _ => some a) r := by subst h; exact Ev.now _

/-- A call that needs no rounds. -/
theorem Ev.bind0 {α β : Type} {g : Option α} {f : Nat → α → Option β} {a : α} {r : β} (h : g = some a) (k : Ev (fun n => f n a) r) : Ev (fun n => g.bind (f n)) r :=
  Ev.congr (fun n => by rw [h]; rfl) k

theorem wrap_in {n : Int} (h0 : -9223372036854775808 ≤ n) (h1 : n ≤ 9223372036854775807) : wrap64 n = n := by unfold wrap64; omega
theorem wrap_succ {i : Nat} (h : i < 9223372036854775807) : wrap64 ((i : Int) + 1) = ((i + 1 : Nat) : Int) := by unfold wrap64; omega

theorem rd_nat (xs : List Int) (i : Nat) : rd xs (i : Int) = xs.getD i 0 := by unfold rd; rw [Int.toNat_natCast]
theorem rd_get (xs : List Int) (i : Nat) (h : i < xs.length) : rd xs (i : Int) = xs[i] := by rw [rd_nat, List.getD_eq_getElem?_getD, List.getElem?_eq_getElem h]; rfl
theorem getD_get {α : Type} (xs : List α) (i : Nat) (z : α) (h : i < xs.length) : xs.getD (i : Int).toNat z = xs[i] := by rw [Int.toNat_natCast, List.getD_eq_getElem?_getD, List.getElem?_eq_getElem h]; rfl

theorem drop_get {α : Type} (xs : List α) (i : Nat) (h : i < xs.length) : xs.drop i = xs[i] :: xs.drop (i + 1) := List.drop_eq_getElem_cons h

theorem take_set_self {α : Type} (s : List α) (i : Nat) (a : α) : (s.set i a).take i = s.take i := by
  apply List.ext_getElem?
  intro j
  by_cases h : j < i
  · rw [List.getElem?_take, List.getElem?_take, if_pos h, if_pos h, List.getElem?_set_ne (by omega)]
  · rw [List.getElem?_take, List.getElem?_take, if_neg h, if_neg h]

/-- A loop that copies, element by element. -/
theorem copy_loop {α β : Type} (l : List α) (f : α → β) (G : Nat → List β → Nat → Option (List β)) (hend : ∀ s : List β, Ev (G l.length s) s)
    (hstep : ∀ i (hi : i < l.length) (s r : List β), s.length = l.length → Ev (G (i + 1) (s.set i (f l[i]))) r → Ev (G i s) r) (s : List β) (hs : s.length = l.length) : Ev (G 0 s) (l.map f) := by
  have key := Ev.up l.length G (fun i s => s.take i ++ (l.map f).drop i) (fun _ s => s.length = l.length)
    (fun s hs => by
      have e : s.take l.length ++ (l.map f).drop l.length = s := by rw [List.take_of_length_le (by omega), List.drop_of_length_le (by simp), List.append_nil]
      simp only [e]
      exact hend s)
    (fun i s hi hs ih => by
      have h1 := ih (s.set i (f l[i])) (by simpa using hs)
      have e : (s.set i (f l[i])).take (i + 1) ++ (l.map f).drop (i + 1) = s.take i ++ (l.map f).drop i := by
        rw [List.take_succ_eq_append_getElem (by simp; omega), List.drop_eq_getElem_cons (l := l.map f) (i := i) (by simpa using hi), take_set_self]
        simp
      simp only [e] at h1
      exact hstep i hi s _ hs h1) 0 s (Nat.zero_le _) hs
  simpa using key

/-- A loop that takes off what the elements weigh. -/
theorem sz_loop {α : Type} (l : List α) (sm : α → Prop) (G : Nat → Int → Nat → Option Int) (hend : ∀ s : Int, Ev (G l.length s) s)
    (hstep : ∀ i (hi : i < l.length) (s : Int), 0 ≤ s → s ≤ 1048576 → Ev (G i s) (-1) ∨ ∃ q : Int, 0 ≤ q ∧ q ≤ s ∧ sm l[i] ∧ ∀ r, Ev (G (i + 1) q) r → Ev (G i s) r) (s : Int) (h0 : 0 ≤ s) (h1 : s ≤ 1048576) :
    ∃ r : Int, Ev (G 0 s) r ∧ (0 ≤ r → r ≤ s ∧ ∀ x ∈ l, sm x) := by
  have key : ∀ d i (s : Int), i + d = l.length → 0 ≤ s → s ≤ 1048576 → ∃ r : Int, Ev (G i s) r ∧ (0 ≤ r → r ≤ s ∧ ∀ x ∈ l.drop i, sm x) := by
    intro d
    induction d with
    | zero =>
      intro i s hi h0 h1
      obtain rfl : i = l.length := by omega
      exact ⟨s, hend s, fun _ => ⟨Int.le_refl _, by simp⟩⟩
    | succ d ih =>
      intro i s hi h0 h1
      have hlt : i < l.length := by omega
      rcases hstep i hlt s h0 h1 with h | ⟨q, hq0, hq1, hsm, hnext⟩
      · exact ⟨-1, h, fun h => by omega⟩
      · obtain ⟨r, hr, hr2⟩ := ih (i + 1) q (by omega) hq0 (by omega)
        refine ⟨r, hnext r hr, fun h => ⟨by have := (hr2 h).1; omega, ?_⟩⟩
        rw [drop_get l i hlt]
        intro x hx
        rcases List.mem_cons.1 hx with rfl | hx
        · exact hsm
        · exact (hr2 h).2 x hx
  simpa using key l.length 0 s (by omega) h0 h1

/-- What a mark leaves: element i holds the numbers from m + c * i on. -/
def marked {α : Type} (c : Nat) (mk : Int → α) (m : Int) (n : Nat) : List α := (List.range n).map fun i => mk (m + ((c * i : Nat) : Int))
theorem marked_length {α : Type} (c : Nat) (mk : Int → α) (m : Int) (n : Nat) : (marked c mk m n).length = n := by simp [marked]
theorem marked_get {α : Type} (c : Nat) (mk : Int → α) (m : Int) (n i : Nat) (h : i < (marked c mk m n).length) : (marked c mk m n)[i] = mk (m + ((c * i : Nat) : Int)) := by simp [marked]
theorem marked_succ {α : Type} (c : Nat) (mk : Int → α) (m : Int) (n : Nat) : marked c mk m (n + 1) = mk m :: marked c mk (m + (c : Int)) n := by
  unfold marked
  rw [List.range_succ_eq_map, List.map_cons, List.map_map]
  congr 1
  · simp
  · apply List.map_congr_left
    intro i _
    show mk _ = mk _
    congr 1
    rw [Nat.mul_succ]
    omega

theorem mark_loop {α : Type} (c : Nat) (mk : Int → α) (n : Nat) (G : Nat → List α → Int → Nat → Option (Int × List α)) (hend : ∀ (s : List α) (m : Int), s.length = n → Ev (G n s m) (m, s))
    (hstep : ∀ i (s : List α) (m : Int) r, i < n → s.length = n → 0 ≤ m → m ≤ 4611686018427387904 → Ev (G (i + 1) (s.set i (mk m)) (m + (c : Int))) r → Ev (G i s m) r)
    (s : List α) (m : Int) (hs : s.length = n) (h0 : 0 ≤ m) (h1 : m + ((c * n : Nat) : Int) ≤ 4611686018427387904) : Ev (G 0 s m) (m + ((c * n : Nat) : Int), marked c mk m n) := by
  have key : ∀ d i (s : List α) (m : Int), i + d = n → s.length = n → 0 ≤ m → m + ((c * d : Nat) : Int) ≤ 4611686018427387904 → Ev (G i s m) (m + ((c * d : Nat) : Int), s.take i ++ marked c mk m d) := by
    intro d
    induction d with
    | zero =>
      intro i s m hi hs h0 h1
      obtain rfl : i = n := by omega
      have e : s.take i ++ marked c mk m 0 = s := by rw [List.take_of_length_le (by omega)]; simp [marked]
      rw [e]
      simpa using hend s m hs
    | succ d ih =>
      intro i s m hi hs h0 h1
      rw [Nat.mul_succ] at h1
      have h2 := ih (i + 1) (s.set i (mk m)) (m + (c : Int)) (by omega) (by simpa using hs) (by omega) (by omega)
      have e : (s.set i (mk m)).take (i + 1) ++ marked c mk (m + (c : Int)) d = s.take i ++ marked c mk m (d + 1) := by
        rw [List.take_succ_eq_append_getElem (by simp; omega), marked_succ, take_set_self]
        simp
      rw [e] at h2
      have e2 : m + (c : Int) + ((c * d : Nat) : Int) = m + ((c * (d + 1) : Nat) : Int) := by rw [Nat.mul_succ]; omega
      rw [e2] at h2
      exact hstep i s m _ (by omega) hs h0 (by omega) h2
  have := key n 0 s m (by omega) hs h0 h1
  simpa using this

theorem held_loop (c : Nat) (n : Nat) (m0 : Int) (G : Nat → Int → Nat → Option Int) (hend : ∀ m : Int, Ev (G n m) m)
    (hstep : ∀ i r, i < n → Ev (G (i + 1) (m0 + ((c * i : Nat) : Int) + (c : Int))) r → Ev (G i (m0 + ((c * i : Nat) : Int))) r) : Ev (G 0 m0) (m0 + ((c * n : Nat) : Int)) := by
  have key := Ev.up0 n (fun i => G i (m0 + ((c * i : Nat) : Int))) (fun _ => m0 + ((c * n : Nat) : Int)) (hend _)
    (fun i hi ih => hstep i _ hi (by
      have e : m0 + ((c * i : Nat) : Int) + (c : Int) = m0 + ((c * (i + 1) : Nat) : Int) := by rw [Nat.mul_succ]; omega
      rw [e]
      exact ih)) 0 (Nat.zero_le _)
  simpa using key

end Go.Proofs.Ytcdlhjfiboomkaa.Pure
/- Plain lemmas on the laws' own helpers: copies, comparisons, sizes, marks. No condition. -/
namespace Go.Proofs.Ytcdlhjfiboomkaa.Pure
open Go.RowKit Go.Proofs.Ytcdlhjfiboomkaa.Z Go.Proofs.YtcdlhjfiboomkaaW.PrintWords
set_option linter.unusedSimpArgs false
set_option linter.unusedVariables false
def smL {α : Type} (sm : α → Prop) (l : List α) : Prop := l.length ≤ 1048576 ∧ ∀ x ∈ l, sm x
def okLen {α : Type} (l : List α) : Prop := l.length ≤ maxLen
def smS67 (x : S67) : Prop := (fun _ => True) x.f0 ∧ (fun _ => True) x.f1
theorem sz_LinkS (l : List S67) (hl : l.length ≤ maxLen) (s : Int) (h0 : 0 ≤ s) (h1 : s ≤ 1048576) : ∃ r : Int, laws_szLinkS.f l s = some r ∧ (0 ≤ r → r ≤ s ∧ (smL smS67) l) := by
  unfold maxLen at hl
  unfold laws_szLinkS.f
  rw [wrap_in (by omega) (by omega)]
  by_cases h : s - (l.length : Int) < 0
  · exact ⟨-1, by rw [if_pos h], fun h => by omega⟩
  · exact ⟨s - (l.length : Int), by rw [if_neg h], fun _ => ⟨by omega, by omega, fun _ _ => ⟨trivial, trivial⟩⟩⟩
def c67_64 (x : S67) : S64 := ⟨x.f0, x.f1⟩
theorem to_Link (x : S67) : laws_toLink.f x.f0 x.f1 = some ((c67_64 x).f0, (c67_64 x).f1) := rfl
theorem rd_T67_get (xs : List S67) (i : Nat) (h : i < xs.length) : rd_T67 xs (i : Int) = xs[i] := getD_get xs i _ h
theorem to_LinkS (l : List S67) (h : (smL smS67) l) : Ev (fun k => laws_toLinkS.f k l) (l.map c67_64) := by
  unfold laws_toLinkS.f
  have hl := h.1
  refine Ev.ifpos (by omega) (Ev.ifpos (by omega) ?_)
  rw [Int.toNat_natCast]
  have key := copy_loop l c67_64 (fun i s k => laws_toLinkS.l0 k l s (i : Int)) ?_ ?_ (List.replicate l.length z64) (by simp)
  · exact key
  · intro s
    refine Ev.step (fun k => by rw [laws_toLinkS.l0]) ?_
    exact Ev.ifneg (by omega) (Ev.now _)
  · intro i hi s r hs hr
    refine Ev.step (fun k => by rw [laws_toLinkS.l0]) ?_
    refine Ev.ifpos (by omega) (Ev.ifpos (by omega) ?_)
    rw [rd_T67_get l i hi]
    refine Ev.bind0 (to_Link l[i]) ?_
    refine Ev.ifpos (by omega) ?_
    rw [wrap_succ (by omega), Int.toNat_natCast]
    exact hr
theorem eq_Link (x : S64) : laws_eqLink.f x.f0 x.f1 x.f0 x.f1 = some true := by
  unfold laws_eqLink.f
  simp
theorem rd_T64_get (xs : List S64) (i : Nat) (h : i < xs.length) : rd_T64 xs (i : Int) = xs[i] := getD_get xs i _ h
theorem eq_LinkS (l : List S64) (h : l.length ≤ maxLen) : Ev (fun k => laws_eqLinkS.f k l l) true := by
  unfold maxLen at h
  unfold laws_eqLinkS.f
  refine Ev.ifpos rfl ?_
  exact Ev.up0 l.length (fun i k => laws_eqLinkS.l0 k l l (i : Int)) (fun _ => true)
    (Ev.step (fun k => by rw [laws_eqLinkS.l0]) (Ev.ifneg (by omega) (Ev.now _)))
    (fun i hi ih => by
      refine Ev.step (fun k => by rw [laws_eqLinkS.l0]) ?_
      refine Ev.ifpos (by omega) (Ev.ifpos (by omega) (Ev.ifpos (by omega) ?_))
      rw [rd_T64_get l i hi]
      refine Ev.bind0 (eq_Link l[i]) (Ev.ifpos rfl ?_)
      rw [wrap_succ (by omega)]
      exact ih) 0 (Nat.zero_le _)
end Go.Proofs.Ytcdlhjfiboomkaa.Pure
/- Plain lemmas: loops that search. No condition. -/
namespace Go.Proofs.Ytcdlhjfiboomkaa.Pure
open Go.RowKit Go.Proofs.Ytcdlhjfiboomkaa.Z Go.Proofs.YtcdlhjfiboomkaaW.PrintWords

theorem firstAt_cons {α : Type} (p : α → Bool) (x : α) (xs : List α) : firstAt p (x :: xs) = if p x = true then 0 else if firstAt p xs < 0 then -1 else firstAt p xs + 1 := by
  unfold firstAt
  rw [List.findIdx_cons]
  cases h : p x
  · simp only [cond_false, List.length_cons, Bool.false_eq_true, if_false]
    by_cases h2 : xs.findIdx p < xs.length
    · rw [if_pos (by omega), if_pos h2, if_neg (by omega)]
      omega
    · rw [if_neg (by omega), if_neg h2]
      simp
  · simp

/-- A loop that searches from the front comes to the first place. -/
theorem first_loop {α : Type} (p : α → Bool) (xs : List α) (G : Nat → Nat → Option Int) (hend : Ev (G xs.length) (-1)) (hhit : ∀ i (hi : i < xs.length), p xs[i] = true → Ev (G i) (i : Int))
    (hmiss : ∀ i (hi : i < xs.length) r, p xs[i] = false → Ev (G (i + 1)) r → Ev (G i) r) : Ev (G 0) (firstAt p xs) := by
  have key := Ev.up0 xs.length G (fun i => if firstAt p (xs.drop i) < 0 then -1 else firstAt p (xs.drop i) + (i : Int))
    (by rw [List.drop_of_length_le (Nat.le_refl _)]; simpa [firstAt] using hend)
    (fun i hi ih => by
      rw [drop_get xs i hi, firstAt_cons]
      cases h : p xs[i]
      · simp only [Bool.false_eq_true, if_false]
        refine hmiss i hi _ h ?_
        by_cases h2 : firstAt p (xs.drop (i + 1)) < 0
        · rw [if_pos h2, if_pos (by omega)]
          rwa [if_pos h2] at ih
        · rw [if_neg h2, if_neg (by omega)]
          rw [if_neg h2] at ih
          have e : firstAt p (xs.drop (i + 1)) + ((i + 1 : Nat) : Int) = firstAt p (xs.drop (i + 1)) + 1 + (i : Int) := by omega
          rwa [e] at ih
      · simp only [if_true]
        rw [if_neg (by omega)]
        have := hhit i hi h
        simpa using this) 0 (Nat.zero_le _)
  rw [List.drop_zero] at key
  by_cases h : firstAt p xs < 0
  · have e : firstAt p xs = -1 := by
      unfold firstAt at h ⊢
      split at h
      · omega
      · rename_i h2; rw [if_neg h2]
    rw [if_pos h] at key
    rw [e]
    exact key
  · rw [if_neg h] at key
    simpa using key

/-- A loop that asks whether one holds. -/
theorem any_loop {α : Type} (p : α → Bool) (xs : List α) (G : Nat → Nat → Option Bool) (hend : Ev (G xs.length) false) (hhit : ∀ i (hi : i < xs.length), p xs[i] = true → Ev (G i) true)
    (hmiss : ∀ i (hi : i < xs.length) r, p xs[i] = false → Ev (G (i + 1)) r → Ev (G i) r) : Ev (G 0) (xs.any p) := by
  have key := Ev.up0 xs.length G (fun i => (xs.drop i).any p)
    (by rw [List.drop_of_length_le (Nat.le_refl _)]; simpa using hend)
    (fun i hi ih => by
      rw [drop_get xs i hi, List.any_cons]
      cases h : p xs[i]
      · simpa using hmiss i hi _ h ih
      · simpa using hhit i hi h) 0 (Nat.zero_le _)
  simpa using key

/-- A loop that asks whether all hold. -/
theorem all_loop {α : Type} (p : α → Bool) (xs : List α) (G : Nat → Nat → Option Bool) (r0 : Bool) (hend : Ev (G xs.length) r0) (hbad : ∀ i (hi : i < xs.length), p xs[i] = false → Ev (G i) false)
    (hgood : ∀ i (hi : i < xs.length) r, p xs[i] = true → Ev (G (i + 1)) r → Ev (G i) r) : Ev (G 0) (xs.all p && r0) := by
  have key := Ev.up0 xs.length G (fun i => (xs.drop i).all p && r0)
    (by rw [List.drop_of_length_le (Nat.le_refl _)]; simpa using hend)
    (fun i hi ih => by
      rw [drop_get xs i hi, List.all_cons]
      cases h : p xs[i]
      · simpa using hbad i hi h
      · simpa using hgood i hi _ h ih) 0 (Nat.zero_le _)
  simpa using key

end Go.Proofs.Ytcdlhjfiboomkaa.Pure
/- Plain lemma: the reference's search in a list of numbers. Condition: the list is not longer than a list can be. -/
namespace Go.Proofs.Ytcdlhjfiboomkaa.Pure
open Go.RowKit Go.Proofs.Ytcdlhjfiboomkaa.Z Go.Proofs.YtcdlhjfiboomkaaW.PrintWords

theorem spec_has (l : List Int) (x : Int) (hl : l.length ≤ 9223372036854775806) : Ev (fun k => spec_l7Has.f k l x) (l.any fun y => decide (y = x)) := by
  unfold spec_l7Has.f
  refine any_loop (fun y => decide (y = x)) l (fun i k => spec_l7Has.l0 k l x (i : Int)) ?_ ?_ ?_
  · refine Ev.step (fun k => by rw [spec_l7Has.l0]) ?_
    exact Ev.ifneg (by omega) (Ev.now _)
  · intro i hi h
    refine Ev.step (fun k => by rw [spec_l7Has.l0]) ?_
    refine Ev.ifpos (by omega) (Ev.ifpos (by omega) ?_)
    rw [rd_get l i hi]
    exact Ev.ifpos (of_decide_eq_true h) (Ev.now _)
  · intro i hi r h hr
    refine Ev.step (fun k => by rw [spec_l7Has.l0]) ?_
    refine Ev.ifpos (by omega) (Ev.ifpos (by omega) ?_)
    rw [rd_get l i hi, wrap_succ (by omega)]
    exact Ev.ifneg (of_decide_eq_false h) hr

end Go.Proofs.Ytcdlhjfiboomkaa.Pure
/- Plain lemma: whether links close a circle, as the reference (a search from each link's end) and the program (roots that are joined) tell it. Condition: the links are not more than the law's can be, the nodes fit. -/
namespace Go.Proofs.Ytcdlhjfiboomkaa.Pure
open Go.RowKit Go.Proofs.Ytcdlhjfiboomkaa.Z Go.Proofs.YtcdlhjfiboomkaaW.PrintWords

abbrev Ck := S64
/-- The root of each node behind a link. -/
def joinR (f : Int → Int) (x : Ck) : Int → Int := fun n => if f n = f x.f0 then f x.f1 else f n
def circB : (Int → Int) → List Ck → Bool
  | _, [] => false
  | f, x :: l => if f x.f0 = f x.f1 then true else circB (joinR f x) l

/-! ### the program -/
theorem walk_root (M : Int → Option Int) : ∀ k n r, walkUp M k n = some r → M r = none ∨ M r = some r
  | 0, _, _, h => by cases h
  | k + 1, n, r, h => by
    rw [walkUp] at h
    cases hm : M n with
    | none => rw [hm] at h; obtain rfl := Option.some.inj h; exact .inl hm
    | some u =>
      rw [hm] at h
      dsimp only at h
      by_cases hu : u = n
      · rw [if_pos hu] at h; obtain rfl := Option.some.inj h; exact .inr (by rw [hm, hu])
      · rw [if_neg hu] at h; exact walk_root M k u r h
theorem walk_at_root (M : Int → Option Int) (n : Int) (h : M n = none ∨ M n = some n) (k : Nat) : walkUp M (k + 1) n = some n := by
  rw [walkUp]
  rcases h with h | h <;> rw [h]
  dsimp only
  rw [if_pos rfl]
theorem walk_join (M : Int → Option Int) (a b : Int) (hab : a ≠ b) (ha : M a = none ∨ M a = some a) (hb : M b = none ∨ M b = some b) : ∀ k n r, walkUp M k n = some r → walkUp (setAt M a b) (k + 1) n = some (if r = a then b else r)
  | 0, _, _, h => by cases h
  | k + 1, n, r, h => by
    have hb2 : setAt M a b b = M b := by unfold setAt; rw [if_neg (fun e => hab e.symm)]
    by_cases hn : n = a
    · subst hn
      rw [walk_at_root M n ha k] at h
      obtain rfl := Option.some.inj h
      rw [if_pos rfl, walkUp, show setAt M n b n = some b by unfold setAt; rw [if_pos rfl]]
      dsimp only
      rw [if_neg (fun e => hab e.symm)]
      exact walk_at_root _ b (by rw [hb2]; exact hb) k
    · have hn2 : setAt M a b n = M n := by unfold setAt; rw [if_neg hn]
      rw [walkUp] at h
      rw [walkUp, hn2]
      cases hm : M n with
      | none =>
        rw [hm] at h
        obtain rfl := Option.some.inj h
        dsimp only
        rw [if_neg hn]
      | some u =>
        rw [hm] at h
        dsimp only at h ⊢
        by_cases hu : u = n
        · rw [if_pos hu] at h ⊢
          obtain rfl := Option.some.inj h
          rw [if_neg hn]
        · rw [if_neg hu] at h ⊢
          exact walk_join M a b hab ha hb k u r h
theorem circ_impl : ∀ (l : List Ck) (M : Int → Option Int) (f : Int → Int) (K : Nat), (∀ n k, K ≤ k → walkUp M k n = some (f n)) → ∀ k, K + l.length ≤ k → circO k M l = some (circB f l)
  | [], _, _, _, _, _, _ => rfl
  | x :: l, M, f, K, h, k, hk => by
    rw [List.length_cons] at hk
    rw [circO, circB, h x.f0 k (by omega)]
    dsimp only [Option.bind_some]
    rw [h x.f1 k (by omega)]
    dsimp only [Option.bind_some]
    by_cases e : f x.f0 = f x.f1
    · rw [if_pos e, if_pos e]
    · rw [if_neg e, if_neg e]
      refine circ_impl l _ _ (K + 1) (fun n k hk => ?_) k (by omega)
      cases k with
      | zero => omega
      | succ k =>
        have := walk_join M (f x.f0) (f x.f1) e (walk_root M K x.f0 _ (h _ K (Nat.le_refl _))) (walk_root M K x.f1 _ (h _ K (Nat.le_refl _))) k n _ (h n k (by omega))
        rw [this]
        rfl
theorem impl_hasCircle (l : List Ck) (hw : ∀ x ∈ l, fits64 x.f0 = true ∧ fits64 x.f1 = true) : Ev (fun k => impl_HasCircle.f k l) (circB (fun n => n) l) := by
  refine ⟨1 + l.length, fun k hk => ?_⟩
  show (if (l.all fun x => fits64 x.f0 && fits64 x.f1) = true then circO k (fun _ => none) l else none) = _
  rw [if_pos (List.all_eq_true.2 fun x hx => by rw [(hw x hx).1, (hw x hx).2]; rfl)]
  exact circ_impl l _ _ 1 (fun n k hk => by
    cases k with
    | zero => omega
    | succ k => exact walk_at_root _ n (.inl rfl) k) k hk

/-! ### the roots -/
def roots (l : List Ck) : Int → Int := l.foldl joinR (fun n => n)
theorem join_keeps (l : List Ck) : ∀ (f : Int → Int) (p q : Int), f p = f q → l.foldl joinR f p = l.foldl joinR f q := by
  induction l with
  | nil => intro f p q h; exact h
  | cons x l ih => intro f p q h; exact ih _ p q (by unfold joinR; rw [h])
theorem join_ends (l : List Ck) : ∀ (f : Int → Int) (x : Ck), x ∈ l → l.foldl joinR f x.f0 = l.foldl joinR f x.f1 := by
  induction l with
  | nil => intro f x hx; cases hx
  | cons y l ih =>
    intro f x hx
    rcases List.mem_cons.1 hx with rfl | hx
    · refine join_keeps l _ _ _ ?_
      unfold joinR
      rw [if_pos rfl]
      split <;> rfl
    · exact ih _ x hx
theorem join_closed (S : Int → Prop) (l : List Ck) : ∀ (f : Int → Int), (∀ n, S n ↔ S (f n)) → (∀ x ∈ l, S x.f0 ↔ S x.f1) → ∀ n, S n ↔ S (l.foldl joinR f n) := by
  induction l with
  | nil => intro f h _ n; exact h n
  | cons x l ih =>
    intro f h hl
    refine ih _ (fun n => ?_) (fun y hy => hl y (List.mem_cons_of_mem _ hy))
    unfold joinR
    by_cases e : f n = f x.f0
    · rw [if_pos e]
      exact ((h n).trans (by rw [e])).trans (((h x.f0).symm.trans (hl x List.mem_cons_self)).trans (h x.f1))
    · rw [if_neg e]
      exact h n

/-! ### the search -/
def addOne (u : Int) (near : List Int) (x : Ck) : List Int := if x.f0 = u ∧ ¬ x.f1 ∈ near then near ++ [x.f1] else near
def addTwo (u : Int) (near : List Int) (x : Ck) : List Int := if x.f1 = u ∧ ¬ x.f0 ∈ near then near ++ [x.f0] else near
def addL (u : Int) (near : List Int) (x : Ck) : List Int := addTwo u (addOne u near x) x

theorem has_mem (l : List Int) (x : Int) (hl : l.length ≤ 9223372036854775806) : Ev (fun k => spec_l7Has.f k l x) (decide (x ∈ l)) := by
  have h := spec_has l x hl
  have e : (l.any fun y => decide (y = x)) = decide (x ∈ l) := by
    by_cases hx : x ∈ l
    · rw [decide_eq_true hx, List.any_eq_true]
      exact ⟨x, hx, decide_eq_true rfl⟩
    · rw [decide_eq_false hx, List.any_eq_false]
      exact fun y hy => by
        have : y ≠ x := fun e => hx (e ▸ hy)
        simpa using this
  rwa [e] at h
theorem app_get {near : List Int} {x5 : Nat} {u y : Int} (h : near[x5]? = some u) : (near ++ [y])[x5]? = some u := by
  obtain ⟨hl, e⟩ := List.getElem?_eq_some_iff.1 h
  rw [List.getElem?_append_left hl]
  exact h
theorem get_rd {near : List Int} {x5 : Nat} {u : Int} (h : near[x5]? = some u) : x5 < near.length ∧ rd near (x5 : Int) = u := by
  obtain ⟨hl, e⟩ := List.getElem?_eq_some_iff.1 h
  exact ⟨hl, by rw [rd_get near x5 hl]; exact e⟩

theorem addL_grow (u : Int) (near : List Int) (x : Ck) : ∃ q, addL u near x = near ++ q ∧ q.length ≤ 2 := by
  unfold addL addTwo addOne
  by_cases h1 : x.f0 = u ∧ ¬ x.f1 ∈ near
  · rw [if_pos h1]
    split
    · exact ⟨[x.f1, x.f0], by simp, by simp⟩
    · exact ⟨[x.f1], rfl, by simp⟩
  · rw [if_neg h1]
    split
    · exact ⟨[x.f0], rfl, by simp⟩
    · exact ⟨[], by simp, by simp⟩

section
variable (l : List Ck) (hl : l.length ≤ 1048576) (i : Nat) (hi : i < l.length)
include hl hi
theorem cir_j3 (u : Int) (x5 : Nat) (r : Bool) (j : Nat) (hj : j < i) (near : List Int) (hn : near.length ≤ 1073741824) (hu : near[x5]? = some u) (hx : j < l.length) (c : Bool) (hc : c = decide (l[j].f0 = u ∧ ¬ l[j].f1 ∈ near))
    (hr : Ev (fun k => spec_HasCircle.l2 k l (i : Int) (addL u near l[j]) (x5 : Int) ((j + 1 : Nat) : Int)) r) : Ev (fun k => spec_HasCircle.j3 k l (i : Int) near (x5 : Int) (j : Int) c) r := by
  obtain ⟨h5, h5u⟩ := get_rd hu
  have hrd : rd_T64 l (j : Int) = l[j] := getD_get l j _ hx
  refine Ev.step (fun k => by rw [spec_HasCircle.j3]) ?_
  by_cases h1 : l[j].f0 = u ∧ ¬ l[j].f1 ∈ near
  · rw [decide_eq_true h1] at hc
    subst hc
    have e1 : addOne u near l[j] = near ++ [l[j].f1] := by unfold addOne; rw [if_pos h1]
    have hu2 : (near ++ [l[j].f1])[x5]? = some u := app_get hu
    obtain ⟨h52, h5u2⟩ := get_rd hu2
    refine Ev.ifpos rfl (Ev.ifpos (by omega) (Ev.ifpos (by omega) (Ev.ifpos (by omega) ?_)))
    rw [hrd]
    refine Ev.bind0 rfl (Ev.ifpos (by omega) (Ev.ifpos (by omega) ?_))
    rw [h5u2]
    unfold addL at hr
    rw [e1] at hr
    by_cases h2 : l[j].f1 = u
    · refine Ev.ifpos h2 (Ev.bind (has_mem _ _ (by rw [List.length_append, List.length_singleton]; omega)) ?_)
      by_cases h3 : l[j].f0 ∈ near ++ [l[j].f1]
      · rw [decide_eq_true h3]
        refine Ev.ifpos rfl ?_
        rw [wrap_succ (by omega)]
        rwa [show addTwo u (near ++ [l[j].f1]) l[j] = near ++ [l[j].f1] by unfold addTwo; rw [if_neg (fun q => q.2 h3)]] at hr
      · rw [decide_eq_false h3]
        refine Ev.ifneg (by decide) (Ev.ifpos (by rw [List.length_append, List.length_singleton]; omega) ?_)
        rw [wrap_succ (by omega)]
        rwa [show addTwo u (near ++ [l[j].f1]) l[j] = near ++ [l[j].f1] ++ [l[j].f0] by unfold addTwo; rw [if_pos ⟨h2, h3⟩]] at hr
    · refine Ev.ifneg h2 ?_
      rw [wrap_succ (by omega)]
      rwa [show addTwo u (near ++ [l[j].f1]) l[j] = near ++ [l[j].f1] by unfold addTwo; rw [if_neg (fun q => h2 q.1)]] at hr
  · rw [decide_eq_false h1] at hc
    subst hc
    have e1 : addOne u near l[j] = near := by unfold addOne; rw [if_neg h1]
    refine Ev.ifneg (by decide) (Ev.ifpos (by omega) (Ev.ifpos (by omega) (Ev.ifpos (by omega) (Ev.ifpos (by omega) ?_))))
    rw [hrd, h5u]
    unfold addL at hr
    rw [e1] at hr
    by_cases h2 : l[j].f1 = u
    · refine Ev.ifpos h2 (Ev.bind (has_mem _ _ (by omega)) ?_)
      by_cases h3 : l[j].f0 ∈ near
      · rw [decide_eq_true h3]
        refine Ev.ifpos rfl ?_
        rw [wrap_succ (by omega)]
        rwa [show addTwo u near l[j] = near by unfold addTwo; rw [if_neg (fun q => q.2 h3)]] at hr
      · rw [decide_eq_false h3]
        refine Ev.ifneg (by decide) (Ev.ifpos (by omega) ?_)
        rw [wrap_succ (by omega)]
        rwa [show addTwo u near l[j] = near ++ [l[j].f0] by unfold addTwo; rw [if_pos ⟨h2, h3⟩]] at hr
    · refine Ev.ifneg h2 ?_
      rw [wrap_succ (by omega)]
      rwa [show addTwo u near l[j] = near by unfold addTwo; rw [if_neg (fun q => h2 q.1)]] at hr

theorem cir_l2 (u : Int) (x5 : Nat) (r : Bool) : ∀ (d j : Nat) (near : List Int), j + d = i → near[x5]? = some u → near.length + 2 * d ≤ 1073741824 →
    Ev (fun k => spec_HasCircle.l1 k l (i : Int) (((l.take i).drop j).foldl (addL u) near) ((x5 + 1 : Nat) : Int)) r → Ev (fun k => spec_HasCircle.l2 k l (i : Int) near (x5 : Int) (j : Int)) r := by
  intro d
  induction d with
  | zero =>
    intro j near h hu hn hr
    rw [List.drop_of_length_le (by rw [List.length_take]; omega)] at hr
    obtain ⟨h5, _⟩ := get_rd hu
    refine Ev.step (fun k => by rw [spec_HasCircle.l2]) ?_
    refine Ev.ifneg (by omega) ?_
    rw [wrap_succ (by omega)]
    exact hr
  | succ d ih =>
    intro j near h hu hn hr
    have hj : j < l.length := by omega
    have hjt : j < (l.take i).length := by rw [List.length_take]; omega
    obtain ⟨h5, h5u⟩ := get_rd hu
    have hrd : rd_T64 l (j : Int) = l[j] := getD_get l j _ hj
    rw [drop_get _ j hjt, List.foldl_cons, List.getElem_take] at hr
    obtain ⟨q, hq, hq2⟩ := addL_grow u near l[j]
    have hu2 : (addL u near l[j])[x5]? = some u := by rw [hq, List.getElem?_append_left h5]; exact hu
    have hl2 : (addL u near l[j]).length ≤ near.length + 2 := by rw [hq, List.length_append]; omega
    have hr2 := ih (j + 1) _ (by omega) hu2 (by omega) hr
    refine Ev.step (fun k => by rw [spec_HasCircle.l2]) ?_
    refine Ev.ifpos (by omega) (Ev.ifpos (by omega) (Ev.ifpos (by omega) (Ev.ifpos (by omega) (Ev.ifpos (by omega) ?_))))
    rw [hrd, h5u]
    by_cases h1 : l[j].f0 = u
    · refine Ev.ifpos h1 (Ev.bind (has_mem _ _ (by omega)) ?_)
      exact cir_j3 l hl i hi u x5 r j (by omega) near (by omega) hu hj _ (by by_cases q : l[j].f1 ∈ near <;> simp [h1, q]) hr2
    · refine Ev.ifneg h1 ?_
      exact cir_j3 l hl i hi u x5 r j (by omega) near (by omega) hu hj _ (by simp [h1]) hr2
end

theorem nodup_le : ∀ (l m : List Int), l.Nodup → (∀ x ∈ l, x ∈ m) → l.length ≤ m.length
  | [], _, _, _ => Nat.zero_le _
  | x :: l, m, hn, hs => by
    have hx := hs x List.mem_cons_self
    have h2 := nodup_le l (m.erase x) (List.nodup_cons.1 hn).2 (fun y hy => (List.mem_erase_of_ne (fun e => (List.nodup_cons.1 hn).1 (by rw [← e]; exact hy))).2 (hs y (List.mem_cons_of_mem _ hy)))
    rw [List.length_erase_of_mem hx] at h2
    have := List.length_pos_of_mem hx
    rw [List.length_cons]
    omega

def nodesOf (l : List Ck) : List Int := l.map (fun x => x.f0) ++ l.map (fun x => x.f1)
/-- What is known of the list of near nodes. -/
structure Near (ps : List Ck) (A : Int) (near : List Int) : Prop where
  nodup : near.Nodup
  sub : ∀ y ∈ near, y = A ∨ y ∈ nodesOf ps
  start : A ∈ near
  sound : ∀ y ∈ near, roots ps y = roots ps A
theorem Near.snoc {ps : List Ck} {A : Int} {near : List Int} (h : Near ps A near) {y : Int} (hy : ¬ y ∈ near) (hs : y ∈ nodesOf ps) (hr : roots ps y = roots ps A) : Near ps A (near ++ [y]) where
  nodup := by
    rw [List.nodup_append]
    refine ⟨h.nodup, by simp, fun a ha b hb e => ?_⟩
    obtain rfl := List.mem_singleton.1 hb
    exact hy (e ▸ ha)
  sub := fun z hz => (List.mem_append.1 hz).elim (h.sub z) (fun q => by obtain rfl := List.mem_singleton.1 q; exact .inr hs)
  start := List.mem_append_left _ h.start
  sound := fun z hz => (List.mem_append.1 hz).elim (h.sound z) (fun q => by obtain rfl := List.mem_singleton.1 q; exact hr)
theorem Near.add {ps : List Ck} {A u : Int} {near : List Int} (h : Near ps A near) (hu : u ∈ near) {x : Ck} (hx : x ∈ ps) : Near ps A (addL u near x) ∧ (∀ y ∈ near, y ∈ addL u near x) ∧ (x.f0 = u → x.f1 ∈ addL u near x) ∧ (x.f1 = u → x.f0 ∈ addL u near x) := by
  have e := join_ends ps (fun n => n) x hx
  have m0 : x.f0 ∈ nodesOf ps := List.mem_append_left _ (List.mem_map.2 ⟨x, hx, rfl⟩)
  have m1 : x.f1 ∈ nodesOf ps := List.mem_append_right _ (List.mem_map.2 ⟨x, hx, rfl⟩)
  have s1 : Near ps A (addOne u near x) ∧ (∀ y ∈ near, y ∈ addOne u near x) ∧ (x.f0 = u → x.f1 ∈ addOne u near x) := by
    unfold addOne
    by_cases q : x.f0 = u ∧ ¬ x.f1 ∈ near
    · rw [if_pos q]
      exact ⟨h.snoc q.2 m1 (e.symm.trans (by rw [q.1]; exact h.sound u hu)), fun y hy => List.mem_append_left _ hy, fun _ => List.mem_append_right _ (List.mem_singleton.2 rfl)⟩
    · rw [if_neg q]
      exact ⟨h, fun y hy => hy, fun h0 => Classical.byContradiction fun h1 => q ⟨h0, h1⟩⟩
  obtain ⟨n1, k1, c1⟩ := s1
  unfold addL
  have hu1 := k1 u hu
  generalize addOne u near x = nr at n1 k1 c1 hu1
  unfold addTwo
  by_cases q : x.f1 = u ∧ ¬ x.f0 ∈ nr
  · rw [if_pos q]
    exact ⟨n1.snoc q.2 m0 (e.trans (by rw [q.1]; exact n1.sound u hu1)), fun y hy => List.mem_append_left _ (k1 y hy), fun h0 => List.mem_append_left _ (c1 h0), fun _ => List.mem_append_right _ (List.mem_singleton.2 rfl)⟩
  · rw [if_neg q]
    exact ⟨n1, k1, c1, fun h0 => Classical.byContradiction fun h1 => q ⟨h0, h1⟩⟩
theorem Near.fold {ps : List Ck} {A u : Int} : ∀ (qs : List Ck) (near : List Int), Near ps A near → u ∈ near → (∀ x ∈ qs, x ∈ ps) → Near ps A (qs.foldl (addL u) near) ∧ (∃ t, qs.foldl (addL u) near = near ++ t) ∧ ∀ x ∈ qs, (x.f0 = u → x.f1 ∈ qs.foldl (addL u) near) ∧ (x.f1 = u → x.f0 ∈ qs.foldl (addL u) near)
  | [], near, h, _, _ => ⟨h, ⟨[], by simp⟩, fun x hx => by cases hx⟩
  | x :: qs, near, h, hu, hq => by
    obtain ⟨a1, a2, a3, a4⟩ := h.add hu (hq x List.mem_cons_self)
    obtain ⟨b1, ⟨t, ht⟩, b3⟩ := Near.fold qs (addL u near x) a1 (a2 u hu) (fun y hy => hq y (List.mem_cons_of_mem _ hy))
    have grow : ∃ q, addL u near x = near ++ q := by
      unfold addL addTwo addOne
      by_cases h1 : x.f0 = u ∧ ¬ x.f1 ∈ near
      · rw [if_pos h1]
        split
        · exact ⟨[x.f1, x.f0], by simp⟩
        · exact ⟨[x.f1], rfl⟩
      · rw [if_neg h1]
        split
        · exact ⟨[x.f0], rfl⟩
        · exact ⟨[], by simp⟩
    obtain ⟨q, hq2⟩ := grow
    rw [List.foldl_cons]
    refine ⟨b1, ⟨q ++ t, by rw [ht, hq2, List.append_assoc]⟩, fun y hy => ?_⟩
    rcases List.mem_cons.1 hy with rfl | hy
    · exact ⟨fun h0 => by rw [ht]; exact List.mem_append_left _ (a3 h0), fun h0 => by rw [ht]; exact List.mem_append_left _ (a4 h0)⟩
    · exact b3 y hy

section
variable (l : List Ck) (hl : l.length ≤ 1048576) (i : Nat) (hi : i < l.length)
include hl hi
theorem cir_l1 (r : Bool) (hr : Ev (fun k => if decide (roots (l.take i) l[i].f1 = roots (l.take i) l[i].f0) = true then some true else spec_HasCircle.l0 k l ((i + 1 : Nat) : Int)) r) : ∀ (d x5 : Nat) (near : List Int), x5 + d = 2 * i + 1 → Near (l.take i) l[i].f0 near → x5 ≤ near.length →
    (∀ j, j < x5 → ∀ u, near[j]? = some u → ∀ x ∈ l.take i, (x.f0 = u → x.f1 ∈ near) ∧ (x.f1 = u → x.f0 ∈ near)) → Ev (fun k => spec_HasCircle.l1 k l (i : Int) near (x5 : Int)) r := by
  have hrd : rd_T64 l (i : Int) = l[i] := getD_get l i _ hi
  have fin : ∀ (x5 : Nat) (near : List Int), Near (l.take i) l[i].f0 near → x5 = near.length → near.length ≤ 2 * i + 1 → (∀ j, j < x5 → ∀ u, near[j]? = some u → ∀ x ∈ l.take i, (x.f0 = u → x.f1 ∈ near) ∧ (x.f1 = u → x.f0 ∈ near)) → Ev (fun k => spec_HasCircle.l1 k l (i : Int) near (x5 : Int)) r := by
    intro x5 near h h5 hb hc
    subst h5
    have e : decide (l[i].f1 ∈ near) = decide (roots (l.take i) l[i].f1 = roots (l.take i) l[i].f0) := by
      apply decide_eq_decide.2
      refine ⟨h.sound _, fun q => ?_⟩
      have cl : ∀ x ∈ l.take i, x.f0 ∈ near ↔ x.f1 ∈ near := fun x hx => by
        refine ⟨fun m => ?_, fun m => ?_⟩
        · obtain ⟨j, hj, e⟩ := List.getElem_of_mem m
          exact (hc j hj _ (List.getElem?_eq_getElem hj) x hx).1 e.symm
        · obtain ⟨j, hj, e⟩ := List.getElem_of_mem m
          exact (hc j hj _ (List.getElem?_eq_getElem hj) x hx).2 e.symm
      have k := join_closed (fun n => n ∈ near) (l.take i) (fun n => n) (fun _ => Iff.rfl) cl
      have q' : (l.take i).foldl joinR (fun n => n) l[i].f1 = (l.take i).foldl joinR (fun n => n) l[i].f0 := q
      exact (k l[i].f1).2 (by show (l.take i).foldl joinR (fun n => n) l[i].f1 ∈ near; rw [q']; exact (k l[i].f0).1 h.start)
    refine Ev.step (fun k => by rw [spec_HasCircle.l1]) ?_
    refine Ev.ifneg (by omega) (Ev.ifpos (by omega) (Ev.ifpos (by omega) ?_))
    rw [hrd]
    refine Ev.bind (has_mem _ _ (by omega)) ?_
    rw [wrap_succ (by omega), e]
    exact hr
  have bound : ∀ near, Near (l.take i) l[i].f0 near → near.length ≤ 2 * i + 1 := fun near h => by
    have := nodup_le near (l[i].f0 :: nodesOf (l.take i)) h.nodup (fun y hy => List.mem_cons.2 (h.sub y hy))
    simp [nodesOf] at this
    omega
  intro d
  induction d with
  | zero =>
    intro x5 near h hn h5 hc
    have := bound near hn
    exact fin x5 near hn (by omega) this hc
  | succ d ih =>
    intro x5 near h hn h5 hc
    have hb := bound near hn
    by_cases h6 : x5 = near.length
    · exact fin x5 near hn h6 hb hc
    · have h7 : x5 < near.length := by omega
      have hu : near[x5]? = some near[x5] := List.getElem?_eq_getElem h7
      obtain ⟨f1, ⟨t, ft⟩, f3⟩ := Near.fold (u := near[x5]) (l.take i) near hn (List.getElem_mem h7) (fun _ h => h)
      refine Ev.step (fun k => by rw [spec_HasCircle.l1]) ?_
      refine Ev.ifpos (by omega) ?_
      refine cir_l2 l hl i hi near[x5] x5 r i 0 near (by omega) hu (by omega) ?_
      rw [List.drop_zero]
      refine ih (x5 + 1) _ (by omega) f1 (by rw [ft, List.length_append]; omega) (fun j hj u hju x hx => ?_)
      by_cases e : j = x5
      · subst e
        rw [ft, List.getElem?_append_left h7, hu] at hju
        obtain rfl := Option.some.inj hju
        exact f3 x hx
      · have hj2 : j < near.length := by omega
        rw [ft, List.getElem?_append_left hj2] at hju
        have := hc j (by omega) u hju x hx
        rw [ft]
        exact ⟨fun q => List.mem_append_left _ (this.1 q), fun q => List.mem_append_left _ (this.2 q)⟩
end

theorem spec_hasCircle (l : List Ck) (hl : l.length ≤ 1048576) : Ev (fun k => spec_HasCircle.f k l) (circB (fun n => n) l) := by
  unfold spec_HasCircle.f
  have key : ∀ d i, i + d = l.length → Ev (fun k => spec_HasCircle.l0 k l (i : Int)) (circB (roots (l.take i)) (l.drop i)) := by
    intro d
    induction d with
    | zero =>
      intro i h
      rw [List.drop_of_length_le (by omega), circB]
      refine Ev.step (fun k => by rw [spec_HasCircle.l0]) ?_
      exact Ev.ifneg (by omega) (Ev.now _)
    | succ d ih =>
      intro i h
      have hi : i < l.length := by omega
      have hrd : rd_T64 l (i : Int) = l[i] := getD_get l i _ hi
      have h2 := ih (i + 1) (by omega)
      have e2 : roots (l.take (i + 1)) = joinR (roots (l.take i)) l[i] := by
        unfold roots
        rw [List.take_succ_eq_append_getElem hi, List.foldl_append]
        rfl
      rw [e2] at h2
      rw [drop_get l i hi, circB]
      refine Ev.step (fun k => by rw [spec_HasCircle.l0]) ?_
      refine Ev.ifpos (by omega) (Ev.ifpos (by omega) ?_)
      rw [hrd]
      refine cir_l1 l hl i hi _ ?_ (2 * i + 1) 0 [l[i].f0] (by omega) ⟨by simp, fun y hy => .inl (List.mem_singleton.1 hy), List.mem_singleton.2 rfl, fun y hy => by rw [List.mem_singleton.1 hy]⟩ (by simp) (fun j hj => absurd hj (Nat.not_lt_zero _))
      by_cases e : roots (l.take i) l[i].f0 = roots (l.take i) l[i].f1
      · rw [if_pos e]
        exact Ev.ifpos (decide_eq_true e.symm) (Ev.now _)
      · rw [if_neg e]
        exact Ev.ifneg (by rw [decide_eq_false (fun q => e q.symm)]; decide) h2
  have := key l.length 0 (by omega)
  rw [List.take_zero, List.drop_zero] at this
  exact this

end Go.Proofs.Ytcdlhjfiboomkaa.Pure
namespace Go.Proofs.Ytcdlhjfiboomkaa.Pure
open Go.RowKit Go.Proofs.Ytcdlhjfiboomkaa.Z Go.Proofs.YtcdlhjfiboomkaaW.PrintWords

theorem FnExactHasCircle : laws_FnExactHasCircle.Pure := by
  intro l hok
  refine Ev.rounds ?_
  unfold laws_FnExactHasCircle.f
  obtain ⟨s, hs, hs2⟩ := sz_LinkS l hok.1 1048576 (by omega) (by omega)
  by_cases hn : s < 0
  · exact Ev.bind0 hs (Ev.ifpos hn (Ev.now _))
  have hsm := (hs2 (by omega)).2
  have ht := to_LinkS l hsm
  have hlen : (l.map c67_64).length ≤ 1048576 := by simpa using hsm.1
  have hw : ∀ x ∈ l.map c67_64, fits64 x.f0 = true ∧ fits64 x.f1 = true := fun x hx => by
    obtain ⟨y, hy, rfl⟩ := List.mem_map.1 hx
    exact hok.2 y hy
  generalize l.map c67_64 = q at *
  have h1 := spec_hasCircle q hlen
  have h2 := impl_hasCircle q hw
  have he := eq_LinkS q (by unfold maxLen; omega)
  refine Ev.bind0 hs (Ev.ifneg hn (Ev.bind ht (Ev.bind h1 (Ev.bind ht (Ev.bind h2 ?_)))))
  exact Ev.ifneg (by simp) (Ev.bind ht (Ev.bind he (Ev.ifpos rfl (Ev.now _))))

end Go.Proofs.Ytcdlhjfiboomkaa.Pure
