/- The statement: for all replies and two addresses, the program's SurelyApart answers as the reference's does, and leaves the replies as they were. No condition. -/
import Derived.Test.YtfmldgpebnnbbaaWWords
import Derived.Test.YtfmldgpebnnbbaaWLast
import Derived.Test.YtfmldgpebnnbbaaWMore
import Derived.Test.YtfmldgpebnnbbaaZ3
import Derived.Test.YtfmldgpebnnbbaaZFirst
import Derived.Test.YtfmldgpebnnbbaaZ4
import Derived.Test.YtfmldgpebnnbbaaZ2
import Derived.Test.YtfmldgpebnnbbaaZ5
import Derived.Test.YtfmldgpebnnbbaaZ7
import Derived.Test.YtfmldgpebnnbbaaZDefFnExactSurelyApart
import Derived.Test.YtfmldgpebnnbbaaZ6
import Derived.Test.YtfmldgpebnnbbaaZ8
/- Plain lemmas for what the printed functions come to: loops that go up, indices that do not wrap, reads. No condition. -/
namespace Go.Proofs.Ytfmldgpebnnbbaa.Pure
open Go.RowKit Go.Proofs.YtfmldgpebnnbbaaW.PrintWords Go.Proofs.YtfmldgpebnnbbaaW.PrintLast Go.Proofs.YtfmldgpebnnbbaaW.PrintMore

/-- A loop that goes up to n: at each index it comes to R, if it does so one index further. -/
theorem Ev.up {σ ρ : Type} (n : Nat) (G : Nat → σ → Nat → Option ρ) (R : Nat → σ → ρ) (Inv : Nat → σ → Prop) (hend : ∀ s, Inv n s → Ev (G n s) (R n s))
    (hstep : ∀ i s, i < n → Inv i s → (∀ s', Inv (i + 1) s' → Ev (G (i + 1) s') (R (i + 1) s')) → Ev (G i s) (R i s)) : ∀ i s, i ≤ n → Inv i s → Ev (G i s) (R i s) := by
  have key : ∀ d i s, i + d = n → Inv i s → Ev (G i s) (R i s) := by
    intro d
    induction d with
    | zero => intro i s h hi; obtain rfl : i = n := by omega
              exact hend s hi
    | succ d ih => intro i s h hi; exact hstep i s (by omega) hi (fun s' hs' => ih (i + 1) s' (by omega) hs')
  intro i s h hi
  exact key (n - i) i s (by omega) hi

/-- The same without a state. -/
theorem Ev.up0 {ρ : Type} (n : Nat) (G : Nat → Nat → Option ρ) (R : Nat → ρ) (hend : Ev (G n) (R n)) (hstep : ∀ i, i < n → Ev (G (i + 1)) (R (i + 1)) → Ev (G i) (R i)) : ∀ i, i ≤ n → Ev (G i) (R i) := by
  intro i h
  exact Ev.up n (fun i (_ : Unit) => G i) (fun i _ => R i) (fun _ _ => True) (fun _ _ => hend) (fun i s hi _ hn => hstep i hi (hn () trivial)) i () h trivial

theorem Ev.det {α : Type} {g : Nat → Option α} {r q : α} (h : Ev g r) (h' : Ev g q) : r = q := by
  obtain ⟨K, h⟩ := h
  obtain ⟨K', h'⟩ := h'
  have a := h (max K K') (by omega)
  have b := h' (max K K') (by omega)
  rw [a] at b
  exact Option.some.inj b

theorem Ev.const {α : Type} {g : Nat → Option α} {r : α} (h : ∀ k, g k = some r) : Ev g r := ⟨0, fun k _ => h k⟩

theorem Ev.ifpos {α : Type} {c : Prop} [Decidable c] {g f : Nat → Option α} {r : α} (hc : c) (h : Ev g r) : Ev (fun k => if c then g k else f k) r := Ev.congr (fun k => by rw [if_pos hc]) h
theorem Ev.ifneg {α : Type} {c : Prop} [Decidable c] {g f : Nat → Option α} {r : α} (hc : ¬ c) (h : Ev f r) : Ev (fun k => if c then g k else f k) r := Ev.congr (fun k => by rw [if_neg hc]) h
theorem Ev.pure {α : Type} {a r : α} (h : a = r) : Ev (fun _ => some a) r := by subst h; exact Ev.now _

/-- A call that needs no rounds. -/
theorem Ev.bind0 {α β : Type} {g : Option α} {f : Nat → α → Option β} {a : α} {r : β} (h : g = some a) (k : Ev (fun n => f n a) r) : Ev (fun n => g.bind (f n)) r :=
  Ev.congr (fun n => by rw [h]; rfl) k

theorem wrap_in {n : Int} (h0 : -9223372036854775808 ≤ n) (h1 : n ≤ 9223372036854775807) : wrap64 n = n := by unfold wrap64; omega
theorem wrap_succ {i : Nat} (h : i < 9223372036854775807) : wrap64 ((i : Int) + 1) = ((i + 1 : Nat) : Int) := by unfold wrap64; omega

theorem rd_nat (xs : List Int) (i : Nat) : rd xs (i : Int) = xs.getD i 0 := by unfold rd; rw [Int.toNat_natCast]
theorem rd_get (xs : List Int) (i : Nat) (h : i < xs.length) : rd xs (i : Int) = xs[i] := by rw [rd_nat, List.getD_eq_getElem?_getD, List.getElem?_eq_getElem h]; rfl
theorem getD_get {α : Type} (xs : List α) (i : Nat) (z : α) (h : i < xs.length) : xs.getD (i : Int).toNat z = xs[i] := by rw [Int.toNat_natCast, List.getD_eq_getElem?_getD, List.getElem?_eq_getElem h]; rfl

theorem drop_get {α : Type} (xs : List α) (i : Nat) (h : i < xs.length) : xs.drop i = xs[i] :: xs.drop (i + 1) := List.drop_eq_getElem_cons h

theorem take_set_self {α : Type} (s : List α) (i : Nat) (a : α) : (s.set i a).take i = s.take i := by
  apply List.ext_getElem?
  intro j
  by_cases h : j < i
  · rw [List.getElem?_take, List.getElem?_take, if_pos h, if_pos h, List.getElem?_set_ne (by omega)]
  · rw [List.getElem?_take, List.getElem?_take, if_neg h, if_neg h]

/-- A loop that copies, element by element. -/
theorem copy_loop {α β : Type} (l : List α) (f : α → β) (G : Nat → List β → Nat → Option (List β)) (hend : ∀ s : List β, Ev (G l.length s) s)
    (hstep : ∀ i (hi : i < l.length) (s r : List β), s.length = l.length → Ev (G (i + 1) (s.set i (f l[i]))) r → Ev (G i s) r) (s : List β) (hs : s.length = l.length) : Ev (G 0 s) (l.map f) := by
  have key := Ev.up l.length G (fun i s => s.take i ++ (l.map f).drop i) (fun _ s => s.length = l.length)
    (fun s hs => by
      have e : s.take l.length ++ (l.map f).drop l.length = s := by rw [List.take_of_length_le (by omega), List.drop_of_length_le (by simp), List.append_nil]
      simp only [e]
      exact hend s)
    (fun i s hi hs ih => by
      have h1 := ih (s.set i (f l[i])) (by simpa using hs)
      have e : (s.set i (f l[i])).take (i + 1) ++ (l.map f).drop (i + 1) = s.take i ++ (l.map f).drop i := by
        rw [List.take_succ_eq_append_getElem (by simp; omega), List.drop_eq_getElem_cons (l := l.map f) (i := i) (by simpa using hi), take_set_self]
        simp
      simp only [e] at h1
      exact hstep i hi s _ hs h1) 0 s (Nat.zero_le _) hs
  simpa using key

/-- A loop that takes off what the elements weigh. -/
theorem sz_loop {α : Type} (l : List α) (sm : α → Prop) (G : Nat → Int → Nat → Option Int) (hend : ∀ s : Int, Ev (G l.length s) s)
    (hstep : ∀ i (hi : i < l.length) (s : Int), 0 ≤ s → s ≤ 1048576 → Ev (G i s) (-1) ∨ ∃ q : Int, 0 ≤ q ∧ q ≤ s ∧ sm l[i] ∧ ∀ r, Ev (G (i + 1) q) r → Ev (G i s) r) (s : Int) (h0 : 0 ≤ s) (h1 : s ≤ 1048576) :
    ∃ r : Int, Ev (G 0 s) r ∧ (0 ≤ r → r ≤ s ∧ ∀ x ∈ l, sm x) := by
  have key : ∀ d i (s : Int), i + d = l.length → 0 ≤ s → s ≤ 1048576 → ∃ r : Int, Ev (G i s) r ∧ (0 ≤ r → r ≤ s ∧ ∀ x ∈ l.drop i, sm x) := by
    intro d
    induction d with
    | zero =>
      intro i s hi h0 h1
      obtain rfl : i = l.length := by omega
      exact ⟨s, hend s, fun _ => ⟨Int.le_refl _, by simp⟩⟩
    | succ d ih =>
      intro i s hi h0 h1
      have hlt : i < l.length := by omega
      rcases hstep i hlt s h0 h1 with h | ⟨q, hq0, hq1, hsm, hnext⟩
      · exact ⟨-1, h, fun h => by omega⟩
      · obtain ⟨r, hr, hr2⟩ := ih (i + 1) q (by omega) hq0 (by omega)
        refine ⟨r, hnext r hr, fun h => ⟨by have := (hr2 h).1; omega, ?_⟩⟩
        rw [drop_get l i hlt]
        intro x hx
        rcases List.mem_cons.1 hx with rfl | hx
        · exact hsm
        · exact (hr2 h).2 x hx
  simpa using key l.length 0 s (by omega) h0 h1

/-- What a mark leaves: element i holds the numbers from m + c * i on. -/
def marked {α : Type} (c : Nat) (mk : Int → α) (m : Int) (n : Nat) : List α := (List.range n).map fun i => mk (m + ((c * i : Nat) : Int))
theorem marked_length {α : Type} (c : Nat) (mk : Int → α) (m : Int) (n : Nat) : (marked c mk m n).length = n := by simp [marked]
theorem marked_get {α : Type} (c : Nat) (mk : Int → α) (m : Int) (n i : Nat) (h : i < (marked c mk m n).length) : (marked c mk m n)[i] = mk (m + ((c * i : Nat) : Int)) := by simp [marked]
theorem marked_succ {α : Type} (c : Nat) (mk : Int → α) (m : Int) (n : Nat) : marked c mk m (n + 1) = mk m :: marked c mk (m + (c : Int)) n := by
  unfold marked
  rw [List.range_succ_eq_map, List.map_cons, List.map_map]
  congr 1
  · simp
  · apply List.map_congr_left
    intro i _
    show mk _ = mk _
    congr 1
    rw [Nat.mul_succ]
    omega

theorem mark_loop {α : Type} (c : Nat) (mk : Int → α) (n : Nat) (G : Nat → List α → Int → Nat → Option (Int × List α)) (hend : ∀ (s : List α) (m : Int), s.length = n → Ev (G n s m) (m, s))
    (hstep : ∀ i (s : List α) (m : Int) r, i < n → s.length = n → 0 ≤ m → m ≤ 4611686018427387904 → Ev (G (i + 1) (s.set i (mk m)) (m + (c : Int))) r → Ev (G i s m) r)
    (s : List α) (m : Int) (hs : s.length = n) (h0 : 0 ≤ m) (h1 : m + ((c * n : Nat) : Int) ≤ 4611686018427387904) : Ev (G 0 s m) (m + ((c * n : Nat) : Int), marked c mk m n) := by
  have key : ∀ d i (s : List α) (m : Int), i + d = n → s.length = n → 0 ≤ m → m + ((c * d : Nat) : Int) ≤ 4611686018427387904 → Ev (G i s m) (m + ((c * d : Nat) : Int), s.take i ++ marked c mk m d) := by
    intro d
    induction d with
    | zero =>
      intro i s m hi hs h0 h1
      obtain rfl : i = n := by omega
      have e : s.take i ++ marked c mk m 0 = s := by rw [List.take_of_length_le (by omega)]; simp [marked]
      rw [e]
      simpa using hend s m hs
    | succ d ih =>
      intro i s m hi hs h0 h1
      rw [Nat.mul_succ] at h1
      have h2 := ih (i + 1) (s.set i (mk m)) (m + (c : Int)) (by omega) (by simpa using hs) (by omega) (by omega)
      have e : (s.set i (mk m)).take (i + 1) ++ marked c mk (m + (c : Int)) d = s.take i ++ marked c mk m (d + 1) := by
        rw [List.take_succ_eq_append_getElem (by simp; omega), marked_succ, take_set_self]
        simp
      rw [e] at h2
      have e2 : m + (c : Int) + ((c * d : Nat) : Int) = m + ((c * (d + 1) : Nat) : Int) := by rw [Nat.mul_succ]; omega
      rw [e2] at h2
      exact hstep i s m _ (by omega) hs h0 (by omega) h2
  have := key n 0 s m (by omega) hs h0 h1
  simpa using this

theorem held_loop (c : Nat) (n : Nat) (m0 : Int) (G : Nat → Int → Nat → Option Int) (hend : ∀ m : Int, Ev (G n m) m)
    (hstep : ∀ i r, i < n → Ev (G (i + 1) (m0 + ((c * i : Nat) : Int) + (c : Int))) r → Ev (G i (m0 + ((c * i : Nat) : Int))) r) : Ev (G 0 m0) (m0 + ((c * n : Nat) : Int)) := by
  have key := Ev.up0 n (fun i => G i (m0 + ((c * i : Nat) : Int))) (fun _ => m0 + ((c * n : Nat) : Int)) (hend _)
    (fun i hi ih => hstep i _ hi (by
      have e : m0 + ((c * i : Nat) : Int) + (c : Int) = m0 + ((c * (i + 1) : Nat) : Int) := by rw [Nat.mul_succ]; omega
      rw [e]
      exact ih)) 0 (Nat.zero_le _)
  simpa using key

end Go.Proofs.Ytfmldgpebnnbbaa.Pure
/- Plain lemmas on the laws' own helpers: copies, comparisons, sizes, marks. No condition. -/
namespace Go.Proofs.Ytfmldgpebnnbbaa.Pure
open Go.RowKit Go.Proofs.Ytfmldgpebnnbbaa.Z Go.Proofs.YtfmldgpebnnbbaaW.PrintWords
set_option linter.unusedSimpArgs false
set_option linter.unusedVariables false
def smL {α : Type} (sm : α → Prop) (l : List α) : Prop := l.length ≤ 1048576 ∧ ∀ x ∈ l, sm x
def okLen {α : Type} (l : List α) : Prop := l.length ≤ maxLen
def smS98 (x : S98) : Prop := (fun _ => True) x.f0 ∧ (fun _ => True) x.f1 ∧ (fun _ => True) x.f2
theorem sz_ReplyS (l : List S98) (hl : l.length ≤ maxLen) (s : Int) (h0 : 0 ≤ s) (h1 : s ≤ 1048576) : ∃ r : Int, laws_szReplyS.f l s = some r ∧ (0 ≤ r → r ≤ s ∧ (smL smS98) l) := by
  unfold maxLen at hl
  unfold laws_szReplyS.f
  rw [wrap_in (by omega) (by omega)]
  by_cases h : s - (l.length : Int) < 0
  · exact ⟨-1, by rw [if_pos h], fun h => by omega⟩
  · exact ⟨s - (l.length : Int), by rw [if_neg h], fun _ => ⟨by omega, by omega, fun _ _ => ⟨trivial, trivial, trivial⟩⟩⟩
def c98_96 (x : S98) : S96 := ⟨x.f0, x.f1, x.f2⟩
theorem to_Reply (x : S98) : laws_toReply.f x.f0 x.f1 x.f2 = some ((c98_96 x).f0, (c98_96 x).f1, (c98_96 x).f2) := rfl
theorem rd_T98_get (xs : List S98) (i : Nat) (h : i < xs.length) : rd_T98 xs (i : Int) = xs[i] := getD_get xs i _ h
theorem to_ReplyS (l : List S98) (h : (smL smS98) l) : Ev (fun k => laws_toReplyS.f k l) (l.map c98_96) := by
  unfold laws_toReplyS.f
  have hl := h.1
  refine Ev.ifpos (by omega) (Ev.ifpos (by omega) ?_)
  rw [Int.toNat_natCast]
  have key := copy_loop l c98_96 (fun i s k => laws_toReplyS.l0 k l s (i : Int)) ?_ ?_ (List.replicate l.length z96) (by simp)
  · exact key
  · intro s
    refine Ev.step (fun k => by rw [laws_toReplyS.l0]) ?_
    exact Ev.ifneg (by omega) (Ev.now _)
  · intro i hi s r hs hr
    refine Ev.step (fun k => by rw [laws_toReplyS.l0]) ?_
    refine Ev.ifpos (by omega) (Ev.ifpos (by omega) ?_)
    rw [rd_T98_get l i hi]
    refine Ev.bind0 (to_Reply l[i]) ?_
    refine Ev.ifpos (by omega) ?_
    rw [wrap_succ (by omega), Int.toNat_natCast]
    exact hr
theorem eq_Reply (x : S96) : laws_eqReply.f x.f0 x.f1 x.f2 x.f0 x.f1 x.f2 = some true := by
  unfold laws_eqReply.f
  simp
theorem rd_T96_get (xs : List S96) (i : Nat) (h : i < xs.length) : rd_T96 xs (i : Int) = xs[i] := getD_get xs i _ h
theorem eq_ReplyS (l : List S96) (h : l.length ≤ maxLen) : Ev (fun k => laws_eqReplyS.f k l l) true := by
  unfold maxLen at h
  unfold laws_eqReplyS.f
  refine Ev.ifpos rfl ?_
  exact Ev.up0 l.length (fun i k => laws_eqReplyS.l0 k l l (i : Int)) (fun _ => true)
    (Ev.step (fun k => by rw [laws_eqReplyS.l0]) (Ev.ifneg (by omega) (Ev.now _)))
    (fun i hi ih => by
      refine Ev.step (fun k => by rw [laws_eqReplyS.l0]) ?_
      refine Ev.ifpos (by omega) (Ev.ifpos (by omega) (Ev.ifpos (by omega) ?_))
      rw [rd_T96_get l i hi]
      refine Ev.bind0 (eq_Reply l[i]) (Ev.ifpos rfl ?_)
      rw [wrap_succ (by omega)]
      exact ih) 0 (Nat.zero_le _)
end Go.Proofs.Ytfmldgpebnnbbaa.Pure
/- Plain lemma: a loop that goes on while the elements are well. No condition. -/
namespace Go.Proofs.Ytfmldgpebnnbbaa.Pure
open Go.RowKit Go.Proofs.YtfmldgpebnnbbaaW.PrintWords

theorem all_step {α : Type} (p : α → Bool) (xs : List α) (G : Nat → Nat → Option Bool) (r0 : Bool) (hend : Ev (G xs.length) r0) (hstep : ∀ i (hi : i < xs.length) r, Ev (G (i + 1)) r → Ev (G i) (p xs[i] && r)) : Ev (G 0) (xs.all p && r0) := by
  have key := Ev.up0 xs.length G (fun i => (xs.drop i).all p && r0)
    (by rw [List.drop_of_length_le (Nat.le_refl _)]; simpa using hend)
    (fun i hi ih => by
      rw [drop_get xs i hi, List.all_cons, Bool.and_assoc]
      exact hstep i hi _ ih) 0 (Nat.zero_le _)
  simpa using key

/-- The same over the places. -/
theorem all_places (n : Nat) (p : Nat → Bool) (G : Nat → Nat → Option Bool) (r0 : Bool) (hend : Ev (G n) r0) (hstep : ∀ i, i < n → ∀ r, Ev (G (i + 1)) r → Ev (G i) (p i && r)) : Ev (G 0) ((List.range n).all p && r0) := by
  refine all_step p (List.range n) G r0 (by rw [List.length_range]; exact hend) (fun i hi r hr => ?_)
  rw [List.getElem_range]
  exact hstep i (by simpa using hi) r hr

end Go.Proofs.Ytfmldgpebnnbbaa.Pure
/- Plain lemmas: loops that search. No condition. -/
namespace Go.Proofs.Ytfmldgpebnnbbaa.Pure
open Go.RowKit Go.Proofs.Ytfmldgpebnnbbaa.Z Go.Proofs.YtfmldgpebnnbbaaW.PrintWords

theorem firstAt_cons {α : Type} (p : α → Bool) (x : α) (xs : List α) : firstAt p (x :: xs) = if p x = true then 0 else if firstAt p xs < 0 then -1 else firstAt p xs + 1 := by
  unfold firstAt
  rw [List.findIdx_cons]
  cases h : p x
  · simp only [cond_false, List.length_cons, Bool.false_eq_true, if_false]
    by_cases h2 : xs.findIdx p < xs.length
    · rw [if_pos (by omega), if_pos h2, if_neg (by omega)]
      omega
    · rw [if_neg (by omega), if_neg h2]
      simp
  · simp

/-- A loop that searches from the front comes to the first place. -/
theorem first_loop {α : Type} (p : α → Bool) (xs : List α) (G : Nat → Nat → Option Int) (hend : Ev (G xs.length) (-1)) (hhit : ∀ i (hi : i < xs.length), p xs[i] = true → Ev (G i) (i : Int))
    (hmiss : ∀ i (hi : i < xs.length) r, p xs[i] = false → Ev (G (i + 1)) r → Ev (G i) r) : Ev (G 0) (firstAt p xs) := by
  have key := Ev.up0 xs.length G (fun i => if firstAt p (xs.drop i) < 0 then -1 else firstAt p (xs.drop i) + (i : Int))
    (by rw [List.drop_of_length_le (Nat.le_refl _)]; simpa [firstAt] using hend)
    (fun i hi ih => by
      rw [drop_get xs i hi, firstAt_cons]
      cases h : p xs[i]
      · simp only [Bool.false_eq_true, if_false]
        refine hmiss i hi _ h ?_
        by_cases h2 : firstAt p (xs.drop (i + 1)) < 0
        · rw [if_pos h2, if_pos (by omega)]
          rwa [if_pos h2] at ih
        · rw [if_neg h2, if_neg (by omega)]
          rw [if_neg h2] at ih
          have e : firstAt p (xs.drop (i + 1)) + ((i + 1 : Nat) : Int) = firstAt p (xs.drop (i + 1)) + 1 + (i : Int) := by omega
          rwa [e] at ih
      · simp only [if_true]
        rw [if_neg (by omega)]
        have := hhit i hi h
        simpa using this) 0 (Nat.zero_le _)
  rw [List.drop_zero] at key
  by_cases h : firstAt p xs < 0
  · have e : firstAt p xs = -1 := by
      unfold firstAt at h ⊢
      split at h
      · omega
      · rename_i h2; rw [if_neg h2]
    rw [if_pos h] at key
    rw [e]
    exact key
  · rw [if_neg h] at key
    simpa using key

/-- A loop that asks whether one holds. -/
theorem any_loop {α : Type} (p : α → Bool) (xs : List α) (G : Nat → Nat → Option Bool) (hend : Ev (G xs.length) false) (hhit : ∀ i (hi : i < xs.length), p xs[i] = true → Ev (G i) true)
    (hmiss : ∀ i (hi : i < xs.length) r, p xs[i] = false → Ev (G (i + 1)) r → Ev (G i) r) : Ev (G 0) (xs.any p) := by
  have key := Ev.up0 xs.length G (fun i => (xs.drop i).any p)
    (by rw [List.drop_of_length_le (Nat.le_refl _)]; simpa using hend)
    (fun i hi ih => by
      rw [drop_get xs i hi, List.any_cons]
      cases h : p xs[i]
      · simpa using hmiss i hi _ h ih
      · simpa using hhit i hi h) 0 (Nat.zero_le _)
  simpa using key

/-- A loop that asks whether all hold. -/
theorem all_loop {α : Type} (p : α → Bool) (xs : List α) (G : Nat → Nat → Option Bool) (r0 : Bool) (hend : Ev (G xs.length) r0) (hbad : ∀ i (hi : i < xs.length), p xs[i] = false → Ev (G i) false)
    (hgood : ∀ i (hi : i < xs.length) r, p xs[i] = true → Ev (G (i + 1)) r → Ev (G i) r) : Ev (G 0) (xs.all p && r0) := by
  have key := Ev.up0 xs.length G (fun i => (xs.drop i).all p && r0)
    (by rw [List.drop_of_length_le (Nat.le_refl _)]; simpa using hend)
    (fun i hi ih => by
      rw [drop_get xs i hi, List.all_cons]
      cases h : p xs[i]
      · simpa using hbad i hi h
      · simpa using hgood i hi _ h ih) 0 (Nat.zero_le _)
  simpa using key

end Go.Proofs.Ytfmldgpebnnbbaa.Pure
/- Plain lemma: the reference's search in a list of numbers. Condition: the list is not longer than a list can be. -/
namespace Go.Proofs.Ytfmldgpebnnbbaa.Pure
open Go.RowKit Go.Proofs.Ytfmldgpebnnbbaa.Z Go.Proofs.YtfmldgpebnnbbaaW.PrintWords

theorem spec_has (l : List Int) (x : Int) (hl : l.length ≤ 9223372036854775806) : Ev (fun k => spec_l7Has.f k l x) (l.any fun y => decide (y = x)) := by
  unfold spec_l7Has.f
  refine any_loop (fun y => decide (y = x)) l (fun i k => spec_l7Has.l0 k l x (i : Int)) ?_ ?_ ?_
  · refine Ev.step (fun k => by rw [spec_l7Has.l0]) ?_
    exact Ev.ifneg (by omega) (Ev.now _)
  · intro i hi h
    refine Ev.step (fun k => by rw [spec_l7Has.l0]) ?_
    refine Ev.ifpos (by omega) (Ev.ifpos (by omega) ?_)
    rw [rd_get l i hi]
    exact Ev.ifpos (of_decide_eq_true h) (Ev.now _)
  · intro i hi r h hr
    refine Ev.step (fun k => by rw [spec_l7Has.l0]) ?_
    refine Ev.ifpos (by omega) (Ev.ifpos (by omega) ?_)
    rw [rd_get l i hi, wrap_succ (by omega)]
    exact Ev.ifneg (of_decide_eq_false h) hr

end Go.Proofs.Ytfmldgpebnnbbaa.Pure
/- Plain lemma: the standard search in a list of numbers. Condition: the list is not longer than a list can be. -/
namespace Go.Proofs.Ytfmldgpebnnbbaa.Pure
open Go.RowKit Go.Proofs.Ytfmldgpebnnbbaa.Z Go.Proofs.YtfmldgpebnnbbaaW.PrintWords

theorem impl_index (l : List Int) (x : Int) (hl : l.length ≤ 9223372036854775806) : Ev (fun k => slices_Index_Sint.f k l x) (firstAt (fun y => decide (y = x)) l) := by
  unfold slices_Index_Sint.f
  refine first_loop (fun y => decide (y = x)) l (fun i k => slices_Index_Sint.l0 k l x (l.length : Int) (i : Int)) ?_ ?_ ?_
  · refine Ev.step (fun k => by rw [slices_Index_Sint.l0]) ?_
    exact Ev.ifneg (by omega) (Ev.now _)
  · intro i hi h
    refine Ev.step (fun k => by rw [slices_Index_Sint.l0]) ?_
    refine Ev.ifpos (by omega) (Ev.ifpos (by omega) (Ev.ifpos (by omega) ?_))
    rw [rd_get l i hi]
    exact Ev.ifpos (of_decide_eq_true h).symm (Ev.now _)
  · intro i hi r h hr
    refine Ev.step (fun k => by rw [slices_Index_Sint.l0]) ?_
    refine Ev.ifpos (by omega) (Ev.ifpos (by omega) (Ev.ifpos (by omega) ?_))
    rw [rd_get l i hi, wrap_succ (by omega)]
    exact Ev.ifneg (fun e => of_decide_eq_false h e.symm) hr

theorem impl_has (l : List Int) (x : Int) (hl : l.length ≤ 9223372036854775806) : Ev (fun k => slices_Contains_Sint.f k l x) (l.any fun y => decide (y = x)) := by
  unfold slices_Contains_Sint.f
  refine Ev.bind (impl_index l x hl) (Ev.pure ?_)
  exact firstAt_any _ _

end Go.Proofs.Ytfmldgpebnnbbaa.Pure
/- Plain lemma: what the reference's range test answers. No condition. -/
namespace Go.Proofs.Ytfmldgpebnnbbaa.Pure
open Go.RowKit Go.Proofs.Ytfmldgpebnnbbaa.Z Go.Proofs.YtfmldgpebnnbbaaW.PrintWords

theorem spec_in (n a b : Int) : spec_l1In.f n a b = some (decide (a ≤ n ∧ n ≤ b)) := by
  unfold spec_l1In.f
  by_cases h : a ≤ n <;> simp [h]

end Go.Proofs.Ytfmldgpebnnbbaa.Pure
/- Plain lemma: what the reference's AreReplies answers. Condition: the list is not longer than a list can be. -/
namespace Go.Proofs.Ytfmldgpebnnbbaa.Pure
open Go.RowKit Go.Proofs.Ytfmldgpebnnbbaa.Z Go.Proofs.YtfmldgpebnnbbaaW.PrintWords

abbrev Rp := S96
theorem rdRp (xs : List Rp) (i : Nat) (h : i < xs.length) : rd_T96 xs (i : Int) = xs[i] := getD_get xs i _ h

theorem spec_stamp (n : Int) : spec_l9Stamp.f n = some (decide (0 ≤ n ∧ n ≤ 100000)) := by
  unfold spec_l9Stamp.f
  rw [spec_in]
  rfl

theorem spec_replies_in (l : List Rp) (i : Nat) (hi : i < l.length) (hl : l.length ≤ 9223372036854775806) (r : Bool) (hr : Ev (fun k => spec_AreReplies.l0 k l ((i + 1 : Nat) : Int)) r) :
    Ev (fun k => spec_AreReplies.l1 k l (i : Int) 0) (!((l.take i).any (sameTime l[i].f1)) && r) := by
  have htl : (l.take i).length = i := by rw [List.length_take]; omega
  have key := all_loop (fun y => !(sameTime l[i].f1 y)) (l.take i) (fun j k => spec_AreReplies.l1 k l (i : Int) (j : Int)) r ?_ ?_ ?_
  · rw [List.all_eq_not_any_not] at key
    simpa using key
  · rw [htl]
    refine Ev.step (fun k => by rw [spec_AreReplies.l1]) ?_
    refine Ev.ifneg (by omega) ?_
    rw [wrap_succ (by omega)]
    exact hr
  · intro j hj h
    rw [htl] at hj
    refine Ev.step (fun k => by rw [spec_AreReplies.l1]) ?_
    refine Ev.ifpos (by omega) (Ev.ifpos (by omega) (Ev.ifpos (by omega) (Ev.ifpos (by omega) (Ev.ifpos (by omega) ?_))))
    rw [rdRp l j (by omega), rdRp l i hi]
    refine Ev.ifpos ?_ (Ev.now _)
    simpa [sameTime] using h
  · intro j hj r h hr
    rw [htl] at hj
    refine Ev.step (fun k => by rw [spec_AreReplies.l1]) ?_
    refine Ev.ifpos (by omega) (Ev.ifpos (by omega) (Ev.ifpos (by omega) (Ev.ifpos (by omega) (Ev.ifpos (by omega) ?_))))
    rw [rdRp l j (by omega), rdRp l i hi, wrap_succ (by omega)]
    refine Ev.ifneg ?_ hr
    simpa [sameTime] using h

theorem spec_replies_from (l : List Rp) (hl : l.length ≤ 9223372036854775806) : ∀ i, i ≤ l.length → Ev (fun k => spec_AreReplies.l0 k l (i : Int)) (((List.range l.length).drop i).all (replyOk l) && decide (l.length ≤ 12)) := by
  refine Ev.up0 l.length (fun i k => spec_AreReplies.l0 k l (i : Int)) (fun i => ((List.range l.length).drop i).all (replyOk l) && decide (l.length ≤ 12)) ?_ ?_
  · rw [List.drop_of_length_le (by simp)]
    refine Ev.step (fun k => by rw [spec_AreReplies.l0]) ?_
    refine Ev.ifneg (by omega) (Ev.pure ?_)
    simp only [List.all_nil, Bool.true_and]
    exact decide_eq_decide.2 (by omega)
  · intro i hi ih
    rw [drop_get _ i (by simpa using hi), List.all_cons, List.getElem_range, Bool.and_assoc]
    generalize (((List.range l.length).drop (i + 1)).all (replyOk l) && decide (l.length ≤ 12)) = r at ih ⊢
    have hin := spec_replies_in l i hi hl r ih
    refine Ev.step (fun k => by rw [spec_AreReplies.l0]) ?_
    refine Ev.ifpos (by omega) (Ev.ifpos (by omega) ?_)
    unfold replyOk okReply
    rw [rdRp l i hi]
    refine Ev.bind0 (spec_in _ _ _) ?_
    cases h1 : decide (0 ≤ l[i].f0 ∧ l[i].f0 ≤ 20)
    · refine Ev.ifneg (by decide) (Ev.step (fun k => by rw [spec_AreReplies.j1]) (Ev.ifpos rfl (Ev.pure (by simp))))
    · refine Ev.ifpos rfl (Ev.bind0 (spec_stamp _) ?_)
      cases h2 : decide (0 ≤ l[i].f1 ∧ l[i].f1 ≤ 100000)
      · refine Ev.ifneg (by decide) (Ev.step (fun k => by rw [spec_AreReplies.j1]) (Ev.ifpos rfl (Ev.pure (by simp))))
      · refine Ev.ifpos rfl (Ev.bind0 (spec_stamp _) ?_)
        cases h3 : decide (0 ≤ l[i].f2 ∧ l[i].f2 ≤ 100000)
        · refine Ev.step (f := fun k => if (!false) = true then some false else spec_AreReplies.l1 k l (i : Int) 0) (fun k => by rw [spec_AreReplies.j1]) ?_
          exact Ev.ifpos rfl (Ev.pure (by simp))
        · refine Ev.step (fun k => by rw [spec_AreReplies.j1]) (Ev.ifneg (by decide) ?_)
          simpa using hin

theorem spec_replies (l : List Rp) (hl : l.length ≤ 9223372036854775806) : Ev (fun k => spec_AreReplies.f k l) (areReplies l) := by
  have key := spec_replies_from l hl 0 (Nat.zero_le _)
  unfold spec_AreReplies.f areReplies
  rw [List.drop_zero] at key
  by_cases h : l.length > 12
  · rw [if_pos h]
    have : decide (l.length ≤ 12) = false := decide_eq_false (by omega)
    rw [this, Bool.and_false] at key
    exact key
  · rw [if_neg h]
    have : decide (l.length ≤ 12) = true := decide_eq_true (by omega)
    rw [this, Bool.and_true] at key
    exact key

end Go.Proofs.Ytfmldgpebnnbbaa.Pure
/- Plain lemma: what the reference's and the program's MayBeOne answer, and that it is one. Condition: the lists are not longer than the law's can be. -/
namespace Go.Proofs.Ytfmldgpebnnbbaa.Pure
open Go.RowKit Go.Proofs.Ytfmldgpebnnbbaa.Z Go.Proofs.YtfmldgpebnnbbaaW.PrintWords

def hasA (ads : List Int) (x : Rp) : Bool := ads.any fun y => decide (y = x.f0)
def pairOk (ads : List Int) (x y : Rp) : Bool := !(hasA ads x && (hasA ads y && (decide (x.f1 < y.f1) && decide (x.f2 ≥ y.f2))))
def areR (l : List Rp) : Bool := (List.range l.length).all (replyOk l) && decide (l.length ≤ 12)
theorem areReplies_eq (l : List Rp) : areReplies l = areR l := by
  unfold areReplies areR
  split
  · rw [decide_eq_false (by omega), Bool.and_false]
  · rw [decide_eq_true (by omega), Bool.and_true]
def mayBe (l : List Rp) (ads : List Int) : Bool := l.all (fun x => l.all (pairOk ads x)) && areR l

theorem keep_ev (ads : List Int) (ha : ads.length ≤ 9223372036854775806) : ∀ l : List Rp, Ev (fun k => keepO k ads l) (l.filter (hasA ads))
  | [] => Ev.now _
  | x :: l => by
    refine Ev.bind (impl_has ads x.f0 ha) (Ev.bind (keep_ev ads ha l) (Ev.pure ?_))
    rw [List.filter_cons]
    rfl

theorem impl_mayBe0 (l : List Rp) (ads : List Int) (ha : ads.length ≤ 9223372036854775806) : Ev (fun k => impl_MayBeOne.f k l ads) (areR l && idsRise (sortT (l.filter (hasA ads)))) := by
  unfold impl_MayBeOne.f
  rw [areReplies_eq]
  cases areR l
  · exact Ev.ifneg (by decide) (Ev.now _)
  · exact Ev.ifpos rfl (Ev.bind (keep_ev ads ha l) (Ev.now _))

theorem spec_mayBe (l : List Rp) (ads : List Int) (hl : l.length ≤ 1048576) (ha : ads.length ≤ 1048576) : Ev (fun k => spec_MayBeOne.f k l ads) (mayBe l ads) := by
  unfold spec_MayBeOne.f mayBe
  refine all_step (fun x => l.all (pairOk ads x)) l (fun i k => spec_MayBeOne.l0 k l ads (i : Int)) (areR l) ?_ ?_
  · refine Ev.step (fun k => by rw [spec_MayBeOne.l0]) ?_
    have h := spec_replies_from l (by omega) 0 (Nat.zero_le _)
    rw [List.drop_zero] at h
    have h2 : Ev (fun k => spec_AreReplies.f k l) (areR l) := h
    exact Ev.ifneg (by omega) (Ev.bind h2 (Ev.now _))
  · intro i hi r ih
    refine Ev.step (fun k => by rw [spec_MayBeOne.l0]) ?_
    refine Ev.ifpos (by omega) ?_
    refine all_step (pairOk ads l[i]) l (fun j k => spec_MayBeOne.l1 k l ads (i : Int) (j : Int)) r ?_ ?_
    · refine Ev.step (fun k => by rw [spec_MayBeOne.l1]) ?_
      rw [wrap_succ (i := i) (by omega)]
      exact Ev.ifneg (by omega) ih
    · intro j hj r2 ih2
      refine Ev.step (fun k => by rw [spec_MayBeOne.l1]) ?_
      rw [wrap_succ (i := j) (by omega), rdRp l i hi, rdRp l j hj]
      refine Ev.ifpos (by omega) (Ev.ifpos (by omega) (Ev.ifpos (by omega) (Ev.bind (spec_has ads l[i].f0 (by omega)) ?_)))
      unfold pairOk
      show Ev (fun k => if hasA ads l[i] = true then _ else _) _
      cases hasA ads l[i]
      · exact Ev.ifneg (by decide) (by simpa using ih2)
      · refine Ev.ifpos rfl (Ev.ifpos (by omega) (Ev.bind (spec_has ads l[j].f0 (by omega)) ?_))
        show Ev (fun k => if hasA ads l[j] = true then _ else _) _
        cases hasA ads l[j]
        · exact Ev.ifneg (by decide) (by simpa using ih2)
        · refine Ev.ifpos rfl ?_
          by_cases h1 : l[i].f1 < l[j].f1
          · rw [decide_eq_true h1]
            refine Ev.ifpos h1 ?_
            by_cases h2 : l[i].f2 ≥ l[j].f2
            · rw [decide_eq_true h2]
              exact Ev.ifpos h2 (Ev.pure (by simp))
            · rw [decide_eq_false h2]
              exact Ev.ifneg h2 (by simpa using ih2)
          · rw [decide_eq_false h1]
            exact Ev.ifneg h1 (by simpa using ih2)

theorem times_apart {l : List Rp} (h : areR l = true) : l.Pairwise (fun x y => x.f1 ≠ y.f1) := by
  unfold areR at h
  rw [Bool.and_eq_true, List.all_eq_true] at h
  rw [List.pairwise_iff_getElem]
  intro i j hi hj hij e
  have h2 := h.1 j (List.mem_range.2 hj)
  unfold replyOk at h2
  rw [Bool.and_eq_true, Bool.not_eq_true', List.any_eq_false] at h2
  have hm : l[i] ∈ l.take j := by
    rw [List.mem_take_iff_getElem]
    exact ⟨i, by omega, rfl⟩
  refine h2.2 _ hm ?_
  unfold sameTime
  rw [rdRp l j hj, e]
  exact beq_self_eq_true _

theorem rises (s : List Rp) (h : idsRise s = true) : ∀ (d i : Nat) (hi : i < s.length) (hj : i + d + 1 < s.length), s[i].f2 < s[i + d + 1].f2 := by
  have step : ∀ (i : Nat) (hi : i < s.length) (h2 : i + 1 < s.length), s[i].f2 < s[i + 1].f2 := fun i hi h2 => by
    unfold idsRise at h
    have h3 := List.all_eq_true.1 h (i + 1) (List.mem_range.2 h2)
    unfold idStep at h3
    rw [Nat.add_sub_cancel, rdRp s i hi, rdRp s (i + 1) h2] at h3
    simpa using h3
  intro d
  induction d with
  | zero => intro i hi hj; exact step i hi hj
  | succ d ih =>
    intro i hi hj
    have h1 := ih i hi (by omega)
    have h2 := step (i + d + 1) (by omega) (by omega)
    have e : i + (d + 1) + 1 = i + d + 1 + 1 := by omega
    simp only [e]
    omega

theorem mayBe_core {l s : List Rp} (ads : List Int) (hs : ∀ (i j : Nat) (_hi : i < j) (hj : j < s.length), s[i].f1 ≤ s[j].f1) (ht : s.Pairwise (fun x y => x.f1 ≠ y.f1)) (hmem : ∀ x, x ∈ s ↔ x ∈ l ∧ hasA ads x = true) : idsRise s = l.all (fun x => l.all (pairOk ads x)) := by
  rw [Bool.eq_iff_iff]
  constructor
  · intro hr
    have hr := rises s hr
    rw [List.all_eq_true]
    intro x hx
    rw [List.all_eq_true]
    intro y hy
    unfold pairOk
    rw [Bool.not_eq_true', ← Bool.not_eq_true]
    intro hb
    simp only [Bool.and_eq_true, decide_eq_true_eq] at hb
    obtain ⟨b1, b2, b3, b4⟩ := hb
    obtain ⟨i, hi, rfl⟩ := List.getElem_of_mem ((hmem x).2 ⟨hx, b1⟩)
    obtain ⟨j, hj, rfl⟩ := List.getElem_of_mem ((hmem y).2 ⟨hy, b2⟩)
    rcases Nat.lt_or_ge i j with hij | hij
    · have := hr (j - i - 1) i hi (by omega)
      have e : i + (j - i - 1) + 1 = j := by omega
      simp only [e] at this
      omega
    · rcases Nat.eq_or_lt_of_le hij with e | hlt
      · subst e; omega
      · have := hs j i hlt hi
        omega
  · intro ha
    refine may_ends s (fun i h1 h2 => ?_)
    have h0 : i - 1 < s.length := by omega
    rw [rdRp s (i - 1) h0, rdRp s i h2]
    have hx := (hmem s[i - 1]).1 (List.getElem_mem h0)
    have hy := (hmem s[i]).1 (List.getElem_mem h2)
    have hle := hs (i - 1) i (by omega) h2
    have hne := List.pairwise_iff_getElem.1 ht (i - 1) i h0 h2 (by omega)
    have hq := List.all_eq_true.1 (List.all_eq_true.1 ha _ hx.1) _ hy.1
    unfold pairOk at hq
    rw [hx.2, hy.2, Bool.true_and, Bool.true_and, decide_eq_true (by omega), Bool.true_and, Bool.not_eq_true', decide_eq_false_iff_not] at hq
    omega

theorem mayBe_sorted {l : List Rp} (ads : List Int) (h : areR l = true) : idsRise (sortT (l.filter (hasA ads))) = l.all (fun x => l.all (pairOk ads x)) := by
  obtain ⟨hp, hs⟩ := sort_facts (l.filter (hasA ads))
  exact mayBe_core ads hs ((hp.pairwise_iff (fun h e => h e.symm)).2 ((times_apart h).filter _)) (fun x => by rw [hp.mem_iff, List.mem_filter])

theorem impl_mayBe (l : List Rp) (ads : List Int) (ha : ads.length ≤ 9223372036854775806) : Ev (fun k => impl_MayBeOne.f k l ads) (mayBe l ads) := by
  have h := impl_mayBe0 l ads ha
  have e : (areR l && idsRise (sortT (l.filter (hasA ads)))) = mayBe l ads := by
    unfold mayBe
    cases hr : areR l with
    | false => simp
    | true => rw [mayBe_sorted ads hr, Bool.and_true, Bool.true_and]
  rw [e] at h
  exact h

end Go.Proofs.Ytfmldgpebnnbbaa.Pure
namespace Go.Proofs.Ytfmldgpebnnbbaa.Pure
open Go.RowKit Go.Proofs.Ytfmldgpebnnbbaa.Z Go.Proofs.YtfmldgpebnnbbaaW.PrintWords

def apart (l : List Rp) (a b : Int) : Bool := areR l && !mayBe l [a, b]
theorem spec_apart (l : List Rp) (a b : Int) (hl : l.length ≤ 1048576) : Ev (fun k => spec_SurelyApart.f k l a b) (apart l a b) := by
  unfold spec_SurelyApart.f apart
  have h := spec_replies_from l (by omega) 0 (Nat.zero_le _)
  rw [List.drop_zero] at h
  have h2 : Ev (fun k => spec_AreReplies.f k l) (areR l) := h
  refine Ev.bind h2 ?_
  cases areR l
  · exact Ev.ifneg (by decide) (Ev.now _)
  · exact Ev.ifpos rfl (Ev.bind (spec_mayBe l [a, b] hl (by simp)) (Ev.now _))
theorem impl_apart (l : List Rp) (a b : Int) : Ev (fun k => impl_SurelyApart.f k l a b) (apart l a b) := by
  unfold impl_SurelyApart.f apart
  refine Ev.bind0 (a := areR l) (by unfold impl_AreReplies.f; rw [areReplies_eq]) ?_
  cases areR l
  · exact Ev.ifneg (by decide) (Ev.now _)
  · exact Ev.ifpos rfl (Ev.bind (impl_mayBe l [a, b] (by simp)) (Ev.now _))

theorem FnExactSurelyApart : laws_FnExactSurelyApart.Pure := by
  intro l a b hl _ _
  refine Ev.rounds ?_
  unfold laws_FnExactSurelyApart.f
  obtain ⟨s, hs, hs2⟩ := sz_ReplyS l hl.1 1048576 (by omega) (by omega)
  by_cases hn : s < 0
  · exact Ev.bind0 hs (Ev.ifpos hn (Ev.now _))
  have hsm := (hs2 (by omega)).2
  have ht := to_ReplyS l hsm
  have hlen : (l.map c98_96).length ≤ 1048576 := by simpa using hsm.1
  have he := eq_ReplyS (l.map c98_96) (by unfold maxLen; omega)
  have h1 := spec_apart (l.map c98_96) a b hlen
  have h2 := impl_apart (l.map c98_96) a b
  exact Ev.bind0 hs (Ev.ifneg hn (Ev.bind ht (Ev.bind h1 (Ev.bind ht (Ev.bind h2 (Ev.ifneg (by simp) (Ev.bind ht (Ev.bind he (Ev.ifpos rfl (Ev.now _))))))))))

end Go.Proofs.Ytfmldgpebnnbbaa.Pure
