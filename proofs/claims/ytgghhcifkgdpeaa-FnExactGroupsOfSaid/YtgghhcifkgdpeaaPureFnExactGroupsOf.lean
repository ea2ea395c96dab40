/- The statement: for every list of replies, the program's GroupsOf answers as the reference's does, leaves the replies as they were, and its answer shares no memory with the replies or with another answer. No condition. -/
import Derived.Test.YtgghhcifkgdpeaaWWords
import Derived.Test.YtgghhcifkgdpeaaWLast
import Derived.Test.YtgghhcifkgdpeaaWMore
import Derived.Test.YtgghhcifkgdpeaaZ7
import Derived.Test.YtgghhcifkgdpeaaZ11
import Derived.Test.YtgghhcifkgdpeaaZ13
import Derived.Test.YtgghhcifkgdpeaaZ15
import Derived.Test.YtgghhcifkgdpeaaZ16
import Derived.Test.YtgghhcifkgdpeaaZ17
import Derived.Test.YtgghhcifkgdpeaaZFirst
import Derived.Test.YtgghhcifkgdpeaaZ9
import Derived.Test.YtgghhcifkgdpeaaZ2
import Derived.Test.YtgghhcifkgdpeaaZ10
import Derived.Test.YtgghhcifkgdpeaaZ5
import Derived.Test.YtgghhcifkgdpeaaZ3
import Derived.Test.YtgghhcifkgdpeaaZ8
import Derived.Test.YtgghhcifkgdpeaaZ4
import Derived.Test.YtgghhcifkgdpeaaZ12
import Derived.Test.YtgghhcifkgdpeaaZ14
import Derived.Test.YtgghhcifkgdpeaaZDefFnExactGroupsOf
/- Plain lemmas for what the printed functions come to: loops that go up, indices that do not wrap, reads. No condition. -/
namespace Go.Proofs.Ytgghhcifkgdpeaa.Pure
open Go.RowKit Go.Proofs.YtgghhcifkgdpeaaW.PrintWords Go.Proofs.YtgghhcifkgdpeaaW.PrintLast Go.Proofs.YtgghhcifkgdpeaaW.PrintMore

/-- A loop that goes up to n: at each index it comes to R, if it does so one index further. -/
theorem Ev.up {σ ρ : Type} (n : Nat) (G : Nat → σ → Nat → Option ρ) (R : Nat → σ → ρ) (Inv : Nat → σ → Prop) (hend : ∀ s, Inv n s → Ev (G n s) (R n s))
    (hstep : ∀ i s, i < n → Inv i s → (∀ s', Inv (i + 1) s' → Ev (G (i + 1) s') (R (i + 1) s')) → Ev (G i s) (R i s)) : ∀ i s, i ≤ n → Inv i s → Ev (G i s) (R i s) := by
  have key : ∀ d i s, i + d = n → Inv i s → Ev (G i s) (R i s) := by
    intro d
    induction d with
    | zero => intro i s h hi; obtain rfl : i = n := by omega
              exact hend s hi
    | succ d ih => intro i s h hi; exact hstep i s (by omega) hi (fun s' hs' => ih (i + 1) s' (by omega) hs')
  intro i s h hi
  exact key (n - i) i s (by omega) hi

/-- The same without a state. -/
theorem Ev.up0 {ρ : Type} (n : Nat) (G : Nat → Nat → Option ρ) (R : Nat → ρ) (hend : Ev (G n) (R n)) (hstep : ∀ i, i < n → Ev (G (i + 1)) (R (i + 1)) → Ev (G i) (R i)) : ∀ i, i ≤ n → Ev (G i) (R i) := by
  intro i h
  exact Ev.up n (fun i (_ : Unit) => G i) (fun i _ => R i) (fun _ _ => True) (fun _ _ => hend) (fun i s hi _ hn => hstep i hi (hn () trivial)) i () h trivial

theorem Ev.det {α : Type} {g : Nat → Option α} {r q : α} (h : Ev g r) (h' : Ev g q) : r = q := by
  obtain ⟨K, h⟩ := h
  obtain ⟨K', h'⟩ := h'
  have a := h (max K K') (by omega)
  have b := h' (max K K') (by omega)
  rw [a] at b
  exact Option.some.inj b

theorem Ev.const {α : Type} {g : Nat → Option α} {r : α} (h : ∀ k, g k = some r) : Ev g r := ⟨0, fun k _ => h k⟩

theorem Ev.ifpos {α : Type} {c : Prop} [Decidable c] {g f : Nat → Option α} {r : α} (hc : c) (h : Ev g r) : Ev (fun k => if c then g k else f k) r := Ev.congr (fun k => by rw [if_pos hc]) h
theorem Ev.ifneg {α : Type} {c : Prop} [Decidable c] {g f : Nat → Option α} {r : α} (hc : ¬ c) (h : Ev f r) : Ev (fun k => if c then g k else f k) r := Ev.congr (fun k => by rw [if_neg hc]) h
theorem Ev.pure {α : Type} {a r : α} (h : a = r) : Ev (fun _ => some a) r := by subst h; exact Ev.now _

/-- A call that needs no rounds. -/
theorem Ev.bind0 {α β : Type} {g : Option α} {f : Nat → α → Option β} {a : α} {r : β} (h : g = some a) (k : Ev (fun n => f n a) r) : Ev (fun n => g.bind (f n)) r :=
  Ev.congr (fun n => by rw [h]; rfl) k

theorem wrap_in {n : Int} (h0 : -9223372036854775808 ≤ n) (h1 : n ≤ 9223372036854775807) : wrap64 n = n := by unfold wrap64; omega
theorem wrap_succ {i : Nat} (h : i < 9223372036854775807) : wrap64 ((i : Int) + 1) = ((i + 1 : Nat) : Int) := by unfold wrap64; omega

theorem rd_nat (xs : List Int) (i : Nat) : rd xs (i : Int) = xs.getD i 0 := by unfold rd; rw [Int.toNat_natCast]
theorem rd_get (xs : List Int) (i : Nat) (h : i < xs.length) : rd xs (i : Int) = xs[i] := by rw [rd_nat, List.getD_eq_getElem?_getD, List.getElem?_eq_getElem h]; rfl
theorem getD_get {α : Type} (xs : List α) (i : Nat) (z : α) (h : i < xs.length) : xs.getD (i : Int).toNat z = xs[i] := by rw [Int.toNat_natCast, List.getD_eq_getElem?_getD, List.getElem?_eq_getElem h]; rfl

theorem drop_get {α : Type} (xs : List α) (i : Nat) (h : i < xs.length) : xs.drop i = xs[i] :: xs.drop (i + 1) := List.drop_eq_getElem_cons h

theorem take_set_self {α : Type} (s : List α) (i : Nat) (a : α) : (s.set i a).take i = s.take i := by
  apply List.ext_getElem?
  intro j
  by_cases h : j < i
  · rw [List.getElem?_take, List.getElem?_take, if_pos h, if_pos h, List.getElem?_set_ne (by omega)]
  · rw [List.getElem?_take, List.getElem?_take, if_neg h, if_neg h]

/-- A loop that copies, element by element. -/
theorem copy_loop {α β : Type} (l : List α) (f : α → β) (G : Nat → List β → Nat → Option (List β)) (hend : ∀ s : List β, Ev (G l.length s) s)
    (hstep : ∀ i (hi : i < l.length) (s r : List β), s.length = l.length → Ev (G (i + 1) (s.set i (f l[i]))) r → Ev (G i s) r) (s : List β) (hs : s.length = l.length) : Ev (G 0 s) (l.map f) := by
  have key := Ev.up l.length G (fun i s => s.take i ++ (l.map f).drop i) (fun _ s => s.length = l.length)
    (fun s hs => by
      have e : s.take l.length ++ (l.map f).drop l.length = s := by rw [List.take_of_length_le (by omega), List.drop_of_length_le (by simp), List.append_nil]
      simp only [e]
      exact hend s)
    (fun i s hi hs ih => by
      have h1 := ih (s.set i (f l[i])) (by simpa using hs)
      have e : (s.set i (f l[i])).take (i + 1) ++ (l.map f).drop (i + 1) = s.take i ++ (l.map f).drop i := by
        rw [List.take_succ_eq_append_getElem (by simp; omega), List.drop_eq_getElem_cons (l := l.map f) (i := i) (by simpa using hi), take_set_self]
        simp
      simp only [e] at h1
      exact hstep i hi s _ hs h1) 0 s (Nat.zero_le _) hs
  simpa using key

/-- A loop that takes off what the elements weigh. -/
theorem sz_loop {α : Type} (l : List α) (sm : α → Prop) (G : Nat → Int → Nat → Option Int) (hend : ∀ s : Int, Ev (G l.length s) s)
    (hstep : ∀ i (hi : i < l.length) (s : Int), 0 ≤ s → s ≤ 1048576 → Ev (G i s) (-1) ∨ ∃ q : Int, 0 ≤ q ∧ q ≤ s ∧ sm l[i] ∧ ∀ r, Ev (G (i + 1) q) r → Ev (G i s) r) (s : Int) (h0 : 0 ≤ s) (h1 : s ≤ 1048576) :
    ∃ r : Int, Ev (G 0 s) r ∧ (0 ≤ r → r ≤ s ∧ ∀ x ∈ l, sm x) := by
  have key : ∀ d i (s : Int), i + d = l.length → 0 ≤ s → s ≤ 1048576 → ∃ r : Int, Ev (G i s) r ∧ (0 ≤ r → r ≤ s ∧ ∀ x ∈ l.drop i, sm x) := by
    intro d
    induction d with
    | zero =>
      intro i s hi h0 h1
      obtain rfl : i = l.length := by omega
      exact ⟨s, hend s, fun _ => ⟨Int.le_refl _, by simp⟩⟩
    | succ d ih =>
      intro i s hi h0 h1
      have hlt : i < l.length := by omega
      rcases hstep i hlt s h0 h1 with h | ⟨q, hq0, hq1, hsm, hnext⟩
      · exact ⟨-1, h, fun h => by omega⟩
      · obtain ⟨r, hr, hr2⟩ := ih (i + 1) q (by omega) hq0 (by omega)
        refine ⟨r, hnext r hr, fun h => ⟨by have := (hr2 h).1; omega, ?_⟩⟩
        rw [drop_get l i hlt]
        intro x hx
        rcases List.mem_cons.1 hx with rfl | hx
        · exact hsm
        · exact (hr2 h).2 x hx
  simpa using key l.length 0 s (by omega) h0 h1

/-- What a mark leaves: element i holds the numbers from m + c * i on. -/
def marked {α : Type} (c : Nat) (mk : Int → α) (m : Int) (n : Nat) : List α := (List.range n).map fun i => mk (m + ((c * i : Nat) : Int))
theorem marked_length {α : Type} (c : Nat) (mk : Int → α) (m : Int) (n : Nat) : (marked c mk m n).length = n := by simp [marked]
theorem marked_get {α : Type} (c : Nat) (mk : Int → α) (m : Int) (n i : Nat) (h : i < (marked c mk m n).length) : (marked c mk m n)[i] = mk (m + ((c * i : Nat) : Int)) := by simp [marked]
theorem marked_succ {α : Type} (c : Nat) (mk : Int → α) (m : Int) (n : Nat) : marked c mk m (n + 1) = mk m :: marked c mk (m + (c : Int)) n := by
  unfold marked
  rw [List.range_succ_eq_map, List.map_cons, List.map_map]
  congr 1
  · simp
  · apply List.map_congr_left
    intro i _
    show mk _ = mk _
    congr 1
    rw [Nat.mul_succ]
    omega

theorem mark_loop {α : Type} (c : Nat) (mk : Int → α) (n : Nat) (G : Nat → List α → Int → Nat → Option (Int × List α)) (hend : ∀ (s : List α) (m : Int), s.length = n → Ev (G n s m) (m, s))
    (hstep : ∀ i (s : List α) (m : Int) r, i < n → s.length = n → 0 ≤ m → m ≤ 4611686018427387904 → Ev (G (i + 1) (s.set i (mk m)) (m + (c : Int))) r → Ev (G i s m) r)
    (s : List α) (m : Int) (hs : s.length = n) (h0 : 0 ≤ m) (h1 : m + ((c * n : Nat) : Int) ≤ 4611686018427387904) : Ev (G 0 s m) (m + ((c * n : Nat) : Int), marked c mk m n) := by
  have key : ∀ d i (s : List α) (m : Int), i + d = n → s.length = n → 0 ≤ m → m + ((c * d : Nat) : Int) ≤ 4611686018427387904 → Ev (G i s m) (m + ((c * d : Nat) : Int), s.take i ++ marked c mk m d) := by
    intro d
    induction d with
    | zero =>
      intro i s m hi hs h0 h1
      obtain rfl : i = n := by omega
      have e : s.take i ++ marked c mk m 0 = s := by rw [List.take_of_length_le (by omega)]; simp [marked]
      rw [e]
      simpa using hend s m hs
    | succ d ih =>
      intro i s m hi hs h0 h1
      rw [Nat.mul_succ] at h1
      have h2 := ih (i + 1) (s.set i (mk m)) (m + (c : Int)) (by omega) (by simpa using hs) (by omega) (by omega)
      have e : (s.set i (mk m)).take (i + 1) ++ marked c mk (m + (c : Int)) d = s.take i ++ marked c mk m (d + 1) := by
        rw [List.take_succ_eq_append_getElem (by simp; omega), marked_succ, take_set_self]
        simp
      rw [e] at h2
      have e2 : m + (c : Int) + ((c * d : Nat) : Int) = m + ((c * (d + 1) : Nat) : Int) := by rw [Nat.mul_succ]; omega
      rw [e2] at h2
      exact hstep i s m _ (by omega) hs h0 (by omega) h2
  have := key n 0 s m (by omega) hs h0 h1
  simpa using this

theorem held_loop (c : Nat) (n : Nat) (m0 : Int) (G : Nat → Int → Nat → Option Int) (hend : ∀ m : Int, Ev (G n m) m)
    (hstep : ∀ i r, i < n → Ev (G (i + 1) (m0 + ((c * i : Nat) : Int) + (c : Int))) r → Ev (G i (m0 + ((c * i : Nat) : Int))) r) : Ev (G 0 m0) (m0 + ((c * n : Nat) : Int)) := by
  have key := Ev.up0 n (fun i => G i (m0 + ((c * i : Nat) : Int))) (fun _ => m0 + ((c * n : Nat) : Int)) (hend _)
    (fun i hi ih => hstep i _ hi (by
      have e : m0 + ((c * i : Nat) : Int) + (c : Int) = m0 + ((c * (i + 1) : Nat) : Int) := by rw [Nat.mul_succ]; omega
      rw [e]
      exact ih)) 0 (Nat.zero_le _)
  simpa using key

end Go.Proofs.Ytgghhcifkgdpeaa.Pure
/- Plain lemmas on the laws' own helpers: copies, comparisons, sizes, marks. No condition. -/
namespace Go.Proofs.Ytgghhcifkgdpeaa.Pure
open Go.RowKit Go.Proofs.Ytgghhcifkgdpeaa.Z Go.Proofs.YtgghhcifkgdpeaaW.PrintWords
set_option linter.unusedSimpArgs false
set_option linter.unusedVariables false
def smL {α : Type} (sm : α → Prop) (l : List α) : Prop := l.length ≤ 1048576 ∧ ∀ x ∈ l, sm x
def okLen {α : Type} (l : List α) : Prop := l.length ≤ maxLen
theorem mark_IntS (l : List Int) (m : Int) (h0 : 0 ≤ m) (h1 : m + ((1 * l.length : Nat) : Int) ≤ 4611686018427387904) : Ev (fun k => laws_markIntS.f k l m) (m + ((1 * l.length : Nat) : Int), marked 1 (fun m => m) m l.length) := by
  unfold laws_markIntS.f
  refine mark_loop 1 (fun m => m) l.length (fun i s m k => laws_markIntS.l0 k s m (i : Int)) ?_ ?_ l m rfl h0 h1
  · intro s m hs
    refine Ev.step (fun k => by rw [laws_markIntS.l0]) ?_
    exact Ev.ifneg (by omega) (Ev.now _)
  · intro i s m r hi hs h0 h1 hr
    refine Ev.step (fun k => by rw [laws_markIntS.l0]) ?_
    refine Ev.ifpos (by omega) (Ev.ifpos (by omega) ?_)
    rw [wrap_succ (by omega), wrap_in (by omega) (by omega), Int.toNat_natCast]
    exact hr
def smS70 (x : S70) : Prop := (fun _ => True) x.f0 ∧ (fun _ => True) x.f1 ∧ (fun _ => True) x.f2
theorem sz_ReplyS (l : List S70) (hl : l.length ≤ maxLen) (s : Int) (h0 : 0 ≤ s) (h1 : s ≤ 1048576) : ∃ r : Int, laws_szReplyS.f l s = some r ∧ (0 ≤ r → r ≤ s ∧ (smL smS70) l) := by
  unfold maxLen at hl
  unfold laws_szReplyS.f
  rw [wrap_in (by omega) (by omega)]
  by_cases h : s - (l.length : Int) < 0
  · exact ⟨-1, by rw [if_pos h], fun h => by omega⟩
  · exact ⟨s - (l.length : Int), by rw [if_neg h], fun _ => ⟨by omega, by omega, fun _ _ => ⟨trivial, trivial, trivial⟩⟩⟩
def c70_68 (x : S70) : S68 := ⟨x.f0, x.f1, x.f2⟩
theorem to_Reply (x : S70) : laws_toReply.f x.f0 x.f1 x.f2 = some ((c70_68 x).f0, (c70_68 x).f1, (c70_68 x).f2) := rfl
theorem rd_T70_get (xs : List S70) (i : Nat) (h : i < xs.length) : rd_T70 xs (i : Int) = xs[i] := getD_get xs i _ h
theorem to_ReplyS (l : List S70) (h : (smL smS70) l) : Ev (fun k => laws_toReplyS.f k l) (l.map c70_68) := by
  unfold laws_toReplyS.f
  have hl := h.1
  refine Ev.ifpos (by omega) (Ev.ifpos (by omega) ?_)
  rw [Int.toNat_natCast]
  have key := copy_loop l c70_68 (fun i s k => laws_toReplyS.l0 k l s (i : Int)) ?_ ?_ (List.replicate l.length z68) (by simp)
  · exact key
  · intro s
    refine Ev.step (fun k => by rw [laws_toReplyS.l0]) ?_
    exact Ev.ifneg (by omega) (Ev.now _)
  · intro i hi s r hs hr
    refine Ev.step (fun k => by rw [laws_toReplyS.l0]) ?_
    refine Ev.ifpos (by omega) (Ev.ifpos (by omega) ?_)
    rw [rd_T70_get l i hi]
    refine Ev.bind0 (to_Reply l[i]) ?_
    refine Ev.ifpos (by omega) ?_
    rw [wrap_succ (by omega), Int.toNat_natCast]
    exact hr
theorem eq_IntS (l : List Int) (h : l.length ≤ maxLen) : Ev (fun k => laws_eqIntS.f k l l) true := by
  unfold maxLen at h
  unfold laws_eqIntS.f
  refine Ev.ifpos rfl ?_
  exact Ev.up0 l.length (fun i k => laws_eqIntS.l0 k l l (i : Int)) (fun _ => true)
    (Ev.step (fun k => by rw [laws_eqIntS.l0]) (Ev.ifneg (by omega) (Ev.now _)))
    (fun i hi ih => by
      refine Ev.step (fun k => by rw [laws_eqIntS.l0]) ?_
      refine Ev.ifpos (by omega) (Ev.ifpos (by omega) (Ev.ifpos (by omega) ?_))
      refine Ev.ifpos rfl ?_
      rw [wrap_succ (by omega)]
      exact ih) 0 (Nat.zero_le _)
theorem rd_L4_get (xs : List (List Int)) (i : Nat) (h : i < xs.length) : rd_L4 xs (i : Int) = xs[i] := getD_get xs i _ h
theorem eq_IntSS (l : List (List Int)) (h : (smL (smL (fun _ => True))) l) : Ev (fun k => laws_eqIntSS.f k l l) true := by
  have hl := h.1
  unfold laws_eqIntSS.f
  refine Ev.ifpos rfl ?_
  exact Ev.up0 l.length (fun i k => laws_eqIntSS.l0 k l l (i : Int)) (fun _ => true)
    (Ev.step (fun k => by rw [laws_eqIntSS.l0]) (Ev.ifneg (by omega) (Ev.now _)))
    (fun i hi ih => by
      refine Ev.step (fun k => by rw [laws_eqIntSS.l0]) ?_
      refine Ev.ifpos (by omega) (Ev.ifpos (by omega) (Ev.ifpos (by omega) ?_))
      rw [rd_L4_get l i hi]
      refine Ev.bind (eq_IntS l[i] (by have := (h.2 _ (List.getElem_mem hi)).1; unfold maxLen; omega)) (Ev.ifpos rfl ?_)
      rw [wrap_succ (by omega)]
      exact ih) 0 (Nat.zero_le _)
theorem eq_Reply (x : S68) : laws_eqReply.f x.f0 x.f1 x.f2 x.f0 x.f1 x.f2 = some true := by
  unfold laws_eqReply.f
  simp
theorem rd_T68_get (xs : List S68) (i : Nat) (h : i < xs.length) : rd_T68 xs (i : Int) = xs[i] := getD_get xs i _ h
theorem eq_ReplyS (l : List S68) (h : l.length ≤ maxLen) : Ev (fun k => laws_eqReplyS.f k l l) true := by
  unfold maxLen at h
  unfold laws_eqReplyS.f
  refine Ev.ifpos rfl ?_
  exact Ev.up0 l.length (fun i k => laws_eqReplyS.l0 k l l (i : Int)) (fun _ => true)
    (Ev.step (fun k => by rw [laws_eqReplyS.l0]) (Ev.ifneg (by omega) (Ev.now _)))
    (fun i hi ih => by
      refine Ev.step (fun k => by rw [laws_eqReplyS.l0]) ?_
      refine Ev.ifpos (by omega) (Ev.ifpos (by omega) (Ev.ifpos (by omega) ?_))
      rw [rd_T68_get l i hi]
      refine Ev.bind0 (eq_Reply l[i]) (Ev.ifpos rfl ?_)
      rw [wrap_succ (by omega)]
      exact ih) 0 (Nat.zero_le _)
theorem rd_T68_set (s : List S68) (i : Nat) (v : S68) (h : i < s.length) : rd_T68 (s.set i v) (i : Int) = v := by
  rw [rd_T68_get _ i (by simpa using h)]
  simp
theorem mark_ReplyS (l : List S68) (m : Int) (h0 : 0 ≤ m) (h1 : m + ((3 * l.length : Nat) : Int) ≤ 4611686018427387904) : Ev (fun k => laws_markReplyS.f k l m) (m + ((3 * l.length : Nat) : Int), marked 3 (fun m => (⟨m, m + 1, m + 2⟩ : S68)) m l.length) := by
  unfold laws_markReplyS.f
  refine mark_loop 3 (fun m => (⟨m, m + 1, m + 2⟩ : S68)) l.length (fun i s m k => laws_markReplyS.l0 k s m (i : Int)) ?_ ?_ l m rfl h0 h1
  · intro s m hs
    refine Ev.step (fun k => by rw [laws_markReplyS.l0]) ?_
    exact Ev.ifneg (by omega) (Ev.now _)
  · intro i s m r hi hs h0 h1 hr
    refine Ev.step (fun k => by rw [laws_markReplyS.l0]) ?_
    refine Ev.ifpos (by omega) (Ev.ifpos (by omega) ?_)
    have ht : (i : Int).toNat = i := Int.toNat_natCast i
    have w1 : wrap64 (m + 1 + 1) = m + 2 := by rw [wrap_in (by omega) (by omega)]; omega
    have w2 : wrap64 (m + 2 + 1) = m + 3 := by rw [wrap_in (by omega) (by omega)]; omega
    have w0 : wrap64 (m + 1) = m + 1 := wrap_in (by omega) (by omega)
    simp only [Option.bind_some, ht, w0, w1, w2, rd_T68_set s i _ (by omega), List.set_set]
    rw [wrap_succ (by omega)]
    exact hr
theorem held_IntS (n : Nat) (m : Int) (h0 : 0 ≤ m) (h1 : m + ((1 * n : Nat) : Int) ≤ 4611686018427387904) : Ev (fun k => laws_heldIntS.f k (marked 1 (fun m => m) m n) m) (m + ((1 * n : Nat) : Int)) := by
  unfold laws_heldIntS.f
  have hn := marked_length 1 (fun m => m) m n
  refine held_loop 1 n m (fun i q k => laws_heldIntS.l0 k (marked 1 (fun m => m) m n) q (i : Int)) ?_ ?_
  · intro q
    refine Ev.step (fun k => by rw [laws_heldIntS.l0]) ?_
    exact Ev.ifneg (by omega) (Ev.now _)
  · intro i r hi hr
    refine Ev.step (fun k => by rw [laws_heldIntS.l0]) ?_
    have hle : ((1 * i : Nat) : Int) + 1 ≤ ((1 * n : Nat) : Int) := by omega
    refine Ev.ifpos (by omega) (Ev.ifpos (by omega) ?_)
    rw [rd_get _ i (by omega), marked_get]
    have w0 : wrap64 (m + ((1 * i : Nat) : Int) + 1) = m + ((1 * i : Nat) : Int) + 1 := wrap_in (by omega) (by omega)
    simp only [w0]
    refine Ev.ifpos (by first | trivial | rfl) ?_
    rw [wrap_succ (by omega)]
    exact hr
end Go.Proofs.Ytgghhcifkgdpeaa.Pure
/- Plain lemma: a loop that goes on while the elements are well. No condition. -/
namespace Go.Proofs.Ytgghhcifkgdpeaa.Pure
open Go.RowKit Go.Proofs.YtgghhcifkgdpeaaW.PrintWords

theorem all_step {α : Type} (p : α → Bool) (xs : List α) (G : Nat → Nat → Option Bool) (r0 : Bool) (hend : Ev (G xs.length) r0) (hstep : ∀ i (hi : i < xs.length) r, Ev (G (i + 1)) r → Ev (G i) (p xs[i] && r)) : Ev (G 0) (xs.all p && r0) := by
  have key := Ev.up0 xs.length G (fun i => (xs.drop i).all p && r0)
    (by rw [List.drop_of_length_le (Nat.le_refl _)]; simpa using hend)
    (fun i hi ih => by
      rw [drop_get xs i hi, List.all_cons, Bool.and_assoc]
      exact hstep i hi _ ih) 0 (Nat.zero_le _)
  simpa using key

/-- The same over the places. -/
theorem all_places (n : Nat) (p : Nat → Bool) (G : Nat → Nat → Option Bool) (r0 : Bool) (hend : Ev (G n) r0) (hstep : ∀ i, i < n → ∀ r, Ev (G (i + 1)) r → Ev (G i) (p i && r)) : Ev (G 0) ((List.range n).all p && r0) := by
  refine all_step p (List.range n) G r0 (by rw [List.length_range]; exact hend) (fun i hi r hr => ?_)
  rw [List.getElem_range]
  exact hstep i (by simpa using hi) r hr

end Go.Proofs.Ytgghhcifkgdpeaa.Pure
/- Plain lemmas: loops that search. No condition. -/
namespace Go.Proofs.Ytgghhcifkgdpeaa.Pure
open Go.RowKit Go.Proofs.Ytgghhcifkgdpeaa.Z Go.Proofs.YtgghhcifkgdpeaaW.PrintWords

theorem firstAt_cons {α : Type} (p : α → Bool) (x : α) (xs : List α) : firstAt p (x :: xs) = if p x = true then 0 else if firstAt p xs < 0 then -1 else firstAt p xs + 1 := by
  unfold firstAt
  rw [List.findIdx_cons]
  cases h : p x
  · simp only [cond_false, List.length_cons, Bool.false_eq_true, if_false]
    by_cases h2 : xs.findIdx p < xs.length
    · rw [if_pos (by omega), if_pos h2, if_neg (by omega)]
      omega
    · rw [if_neg (by omega), if_neg h2]
      simp
  · simp

/-- A loop that searches from the front comes to the first place. -/
theorem first_loop {α : Type} (p : α → Bool) (xs : List α) (G : Nat → Nat → Option Int) (hend : Ev (G xs.length) (-1)) (hhit : ∀ i (hi : i < xs.length), p xs[i] = true → Ev (G i) (i : Int))
    (hmiss : ∀ i (hi : i < xs.length) r, p xs[i] = false → Ev (G (i + 1)) r → Ev (G i) r) : Ev (G 0) (firstAt p xs) := by
  have key := Ev.up0 xs.length G (fun i => if firstAt p (xs.drop i) < 0 then -1 else firstAt p (xs.drop i) + (i : Int))
    (by rw [List.drop_of_length_le (Nat.le_refl _)]; simpa [firstAt] using hend)
    (fun i hi ih => by
      rw [drop_get xs i hi, firstAt_cons]
      cases h : p xs[i]
      · simp only [Bool.false_eq_true, if_false]
        refine hmiss i hi _ h ?_
        by_cases h2 : firstAt p (xs.drop (i + 1)) < 0
        · rw [if_pos h2, if_pos (by omega)]
          rwa [if_pos h2] at ih
        · rw [if_neg h2, if_neg (by omega)]
          rw [if_neg h2] at ih
          have e : firstAt p (xs.drop (i + 1)) + ((i + 1 : Nat) : Int) = firstAt p (xs.drop (i + 1)) + 1 + (i : Int) := by omega
          rwa [e] at ih
      · simp only [if_true]
        rw [if_neg (by omega)]
        have := hhit i hi h
        simpa using this) 0 (Nat.zero_le _)
  rw [List.drop_zero] at key
  by_cases h : firstAt p xs < 0
  · have e : firstAt p xs = -1 := by
      unfold firstAt at h ⊢
      split at h
      · omega
      · rename_i h2; rw [if_neg h2]
    rw [if_pos h] at key
    rw [e]
    exact key
  · rw [if_neg h] at key
    simpa using key

/-- A loop that asks whether one holds. -/
theorem any_loop {α : Type} (p : α → Bool) (xs : List α) (G : Nat → Nat → Option Bool) (hend : Ev (G xs.length) false) (hhit : ∀ i (hi : i < xs.length), p xs[i] = true → Ev (G i) true)
    (hmiss : ∀ i (hi : i < xs.length) r, p xs[i] = false → Ev (G (i + 1)) r → Ev (G i) r) : Ev (G 0) (xs.any p) := by
  have key := Ev.up0 xs.length G (fun i => (xs.drop i).any p)
    (by rw [List.drop_of_length_le (Nat.le_refl _)]; simpa using hend)
    (fun i hi ih => by
      rw [drop_get xs i hi, List.any_cons]
      cases h : p xs[i]
      · simpa using hmiss i hi _ h ih
      · simpa using hhit i hi h) 0 (Nat.zero_le _)
  simpa using key

/-- A loop that asks whether all hold. -/
theorem all_loop {α : Type} (p : α → Bool) (xs : List α) (G : Nat → Nat → Option Bool) (r0 : Bool) (hend : Ev (G xs.length) r0) (hbad : ∀ i (hi : i < xs.length), p xs[i] = false → Ev (G i) false)
    (hgood : ∀ i (hi : i < xs.length) r, p xs[i] = true → Ev (G (i + 1)) r → Ev (G i) r) : Ev (G 0) (xs.all p && r0) := by
  have key := Ev.up0 xs.length G (fun i => (xs.drop i).all p && r0)
    (by rw [List.drop_of_length_le (Nat.le_refl _)]; simpa using hend)
    (fun i hi ih => by
      rw [drop_get xs i hi, List.all_cons]
      cases h : p xs[i]
      · simpa using hbad i hi h
      · simpa using hgood i hi _ h ih) 0 (Nat.zero_le _)
  simpa using key

end Go.Proofs.Ytgghhcifkgdpeaa.Pure
/- Plain lemma: the reference's search in a list of numbers. Condition: the list is not longer than a list can be. -/
namespace Go.Proofs.Ytgghhcifkgdpeaa.Pure
open Go.RowKit Go.Proofs.Ytgghhcifkgdpeaa.Z Go.Proofs.YtgghhcifkgdpeaaW.PrintWords

theorem spec_has (l : List Int) (x : Int) (hl : l.length ≤ 9223372036854775806) : Ev (fun k => spec_l7Has.f k l x) (l.any fun y => decide (y = x)) := by
  unfold spec_l7Has.f
  refine any_loop (fun y => decide (y = x)) l (fun i k => spec_l7Has.l0 k l x (i : Int)) ?_ ?_ ?_
  · refine Ev.step (fun k => by rw [spec_l7Has.l0]) ?_
    exact Ev.ifneg (by omega) (Ev.now _)
  · intro i hi h
    refine Ev.step (fun k => by rw [spec_l7Has.l0]) ?_
    refine Ev.ifpos (by omega) (Ev.ifpos (by omega) ?_)
    rw [rd_get l i hi]
    exact Ev.ifpos (of_decide_eq_true h) (Ev.now _)
  · intro i hi r h hr
    refine Ev.step (fun k => by rw [spec_l7Has.l0]) ?_
    refine Ev.ifpos (by omega) (Ev.ifpos (by omega) ?_)
    rw [rd_get l i hi, wrap_succ (by omega)]
    exact Ev.ifneg (of_decide_eq_false h) hr

end Go.Proofs.Ytgghhcifkgdpeaa.Pure
/- Plain lemma: the standard search in a list of numbers. Condition: the list is not longer than a list can be. -/
namespace Go.Proofs.Ytgghhcifkgdpeaa.Pure
open Go.RowKit Go.Proofs.Ytgghhcifkgdpeaa.Z Go.Proofs.YtgghhcifkgdpeaaW.PrintWords

theorem impl_index (l : List Int) (x : Int) (hl : l.length ≤ 9223372036854775806) : Ev (fun k => slices_Index_Sint.f k l x) (firstAt (fun y => decide (y = x)) l) := by
  unfold slices_Index_Sint.f
  refine first_loop (fun y => decide (y = x)) l (fun i k => slices_Index_Sint.l0 k l x (l.length : Int) (i : Int)) ?_ ?_ ?_
  · refine Ev.step (fun k => by rw [slices_Index_Sint.l0]) ?_
    exact Ev.ifneg (by omega) (Ev.now _)
  · intro i hi h
    refine Ev.step (fun k => by rw [slices_Index_Sint.l0]) ?_
    refine Ev.ifpos (by omega) (Ev.ifpos (by omega) (Ev.ifpos (by omega) ?_))
    rw [rd_get l i hi]
    exact Ev.ifpos (of_decide_eq_true h).symm (Ev.now _)
  · intro i hi r h hr
    refine Ev.step (fun k => by rw [slices_Index_Sint.l0]) ?_
    refine Ev.ifpos (by omega) (Ev.ifpos (by omega) (Ev.ifpos (by omega) ?_))
    rw [rd_get l i hi, wrap_succ (by omega)]
    exact Ev.ifneg (fun e => of_decide_eq_false h e.symm) hr

theorem impl_has (l : List Int) (x : Int) (hl : l.length ≤ 9223372036854775806) : Ev (fun k => slices_Contains_Sint.f k l x) (l.any fun y => decide (y = x)) := by
  unfold slices_Contains_Sint.f
  refine Ev.bind (impl_index l x hl) (Ev.pure ?_)
  exact firstAt_any _ _

end Go.Proofs.Ytgghhcifkgdpeaa.Pure
/- Plain lemma: what the reference's range test answers. No condition. -/
namespace Go.Proofs.Ytgghhcifkgdpeaa.Pure
open Go.RowKit Go.Proofs.Ytgghhcifkgdpeaa.Z Go.Proofs.YtgghhcifkgdpeaaW.PrintWords

theorem spec_in (n a b : Int) : spec_l1In.f n a b = some (decide (a ≤ n ∧ n ≤ b)) := by
  unfold spec_l1In.f
  by_cases h : a ≤ n <;> simp [h]

end Go.Proofs.Ytgghhcifkgdpeaa.Pure
/- Plain lemma: what the reference's AreReplies answers. Condition: the list is not longer than a list can be. -/
namespace Go.Proofs.Ytgghhcifkgdpeaa.Pure
open Go.RowKit Go.Proofs.Ytgghhcifkgdpeaa.Z Go.Proofs.YtgghhcifkgdpeaaW.PrintWords

abbrev Rp := S68
theorem rdRp (xs : List Rp) (i : Nat) (h : i < xs.length) : rd_T68 xs (i : Int) = xs[i] := getD_get xs i _ h

theorem spec_stamp (n : Int) : spec_l9Stamp.f n = some (decide (0 ≤ n ∧ n ≤ 100000)) := by
  unfold spec_l9Stamp.f
  rw [spec_in]
  rfl

theorem spec_replies_in (l : List Rp) (i : Nat) (hi : i < l.length) (hl : l.length ≤ 9223372036854775806) (r : Bool) (hr : Ev (fun k => spec_AreReplies.l0 k l ((i + 1 : Nat) : Int)) r) :
    Ev (fun k => spec_AreReplies.l1 k l (i : Int) 0) (!((l.take i).any (sameTime l[i].f1)) && r) := by
  have htl : (l.take i).length = i := by rw [List.length_take]; omega
  have key := all_loop (fun y => !(sameTime l[i].f1 y)) (l.take i) (fun j k => spec_AreReplies.l1 k l (i : Int) (j : Int)) r ?_ ?_ ?_
  · rw [List.all_eq_not_any_not] at key
    simpa using key
  · rw [htl]
    refine Ev.step (fun k => by rw [spec_AreReplies.l1]) ?_
    refine Ev.ifneg (by omega) ?_
    rw [wrap_succ (by omega)]
    exact hr
  · intro j hj h
    rw [htl] at hj
    refine Ev.step (fun k => by rw [spec_AreReplies.l1]) ?_
    refine Ev.ifpos (by omega) (Ev.ifpos (by omega) (Ev.ifpos (by omega) (Ev.ifpos (by omega) (Ev.ifpos (by omega) ?_))))
    rw [rdRp l j (by omega), rdRp l i hi]
    refine Ev.ifpos ?_ (Ev.now _)
    simpa [sameTime] using h
  · intro j hj r h hr
    rw [htl] at hj
    refine Ev.step (fun k => by rw [spec_AreReplies.l1]) ?_
    refine Ev.ifpos (by omega) (Ev.ifpos (by omega) (Ev.ifpos (by omega) (Ev.ifpos (by omega) (Ev.ifpos (by omega) ?_))))
    rw [rdRp l j (by omega), rdRp l i hi, wrap_succ (by omega)]
    refine Ev.ifneg ?_ hr
    simpa [sameTime] using h

theorem spec_replies_from (l : List Rp) (hl : l.length ≤ 9223372036854775806) : ∀ i, i ≤ l.length → Ev (fun k => spec_AreReplies.l0 k l (i : Int)) (((List.range l.length).drop i).all (replyOk l) && decide (l.length ≤ 12)) := by
  refine Ev.up0 l.length (fun i k => spec_AreReplies.l0 k l (i : Int)) (fun i => ((List.range l.length).drop i).all (replyOk l) && decide (l.length ≤ 12)) ?_ ?_
  · rw [List.drop_of_length_le (by simp)]
    refine Ev.step (fun k => by rw [spec_AreReplies.l0]) ?_
    refine Ev.ifneg (by omega) (Ev.pure ?_)
    simp only [List.all_nil, Bool.true_and]
    exact decide_eq_decide.2 (by omega)
  · intro i hi ih
    rw [drop_get _ i (by simpa using hi), List.all_cons, List.getElem_range, Bool.and_assoc]
    generalize (((List.range l.length).drop (i + 1)).all (replyOk l) && decide (l.length ≤ 12)) = r at ih ⊢
    have hin := spec_replies_in l i hi hl r ih
    refine Ev.step (fun k => by rw [spec_AreReplies.l0]) ?_
    refine Ev.ifpos (by omega) (Ev.ifpos (by omega) ?_)
    unfold replyOk okReply
    rw [rdRp l i hi]
    refine Ev.bind0 (spec_in _ _ _) ?_
    cases h1 : decide (0 ≤ l[i].f0 ∧ l[i].f0 ≤ 20)
    · refine Ev.ifneg (by decide) (Ev.step (fun k => by rw [spec_AreReplies.j1]) (Ev.ifpos rfl (Ev.pure (by simp))))
    · refine Ev.ifpos rfl (Ev.bind0 (spec_stamp _) ?_)
      cases h2 : decide (0 ≤ l[i].f1 ∧ l[i].f1 ≤ 100000)
      · refine Ev.ifneg (by decide) (Ev.step (fun k => by rw [spec_AreReplies.j1]) (Ev.ifpos rfl (Ev.pure (by simp))))
      · refine Ev.ifpos rfl (Ev.bind0 (spec_stamp _) ?_)
        cases h3 : decide (0 ≤ l[i].f2 ∧ l[i].f2 ≤ 100000)
        · refine Ev.step (f := fun k => if (!false) = true then some false else spec_AreReplies.l1 k l (i : Int) 0) (fun k => by rw [spec_AreReplies.j1]) ?_
          exact Ev.ifpos rfl (Ev.pure (by simp))
        · refine Ev.step (fun k => by rw [spec_AreReplies.j1]) (Ev.ifneg (by decide) ?_)
          simpa using hin

theorem spec_replies (l : List Rp) (hl : l.length ≤ 9223372036854775806) : Ev (fun k => spec_AreReplies.f k l) (areReplies l) := by
  have key := spec_replies_from l hl 0 (Nat.zero_le _)
  unfold spec_AreReplies.f areReplies
  rw [List.drop_zero] at key
  by_cases h : l.length > 12
  · rw [if_pos h]
    have : decide (l.length ≤ 12) = false := decide_eq_false (by omega)
    rw [this, Bool.and_false] at key
    exact key
  · rw [if_neg h]
    have : decide (l.length ≤ 12) = true := decide_eq_true (by omega)
    rw [this, Bool.and_true] at key
    exact key

end Go.Proofs.Ytgghhcifkgdpeaa.Pure
/- Plain lemma: what the reference's and the program's MayBeOne answer, and that it is one. Condition: the lists are not longer than the law's can be. -/
namespace Go.Proofs.Ytgghhcifkgdpeaa.Pure
open Go.RowKit Go.Proofs.Ytgghhcifkgdpeaa.Z Go.Proofs.YtgghhcifkgdpeaaW.PrintWords

def hasA (ads : List Int) (x : Rp) : Bool := ads.any fun y => decide (y = x.f0)
def pairOk (ads : List Int) (x y : Rp) : Bool := !(hasA ads x && (hasA ads y && (decide (x.f1 < y.f1) && decide (x.f2 ≥ y.f2))))
def areR (l : List Rp) : Bool := (List.range l.length).all (replyOk l) && decide (l.length ≤ 12)
theorem areReplies_eq (l : List Rp) : areReplies l = areR l := by
  unfold areReplies areR
  split
  · rw [decide_eq_false (by omega), Bool.and_false]
  · rw [decide_eq_true (by omega), Bool.and_true]
def mayBe (l : List Rp) (ads : List Int) : Bool := l.all (fun x => l.all (pairOk ads x)) && areR l

theorem keep_ev (ads : List Int) (ha : ads.length ≤ 9223372036854775806) : ∀ l : List Rp, Ev (fun k => keepO k ads l) (l.filter (hasA ads))
  | [] => Ev.now _
  | x :: l => by
    refine Ev.bind (impl_has ads x.f0 ha) (Ev.bind (keep_ev ads ha l) (Ev.pure ?_))
    rw [List.filter_cons]
    rfl

theorem impl_mayBe0 (l : List Rp) (ads : List Int) (ha : ads.length ≤ 9223372036854775806) : Ev (fun k => impl_MayBeOne.f k l ads) (areR l && idsRise (sortT (l.filter (hasA ads)))) := by
  unfold impl_MayBeOne.f
  rw [areReplies_eq]
  cases areR l
  · exact Ev.ifneg (by decide) (Ev.now _)
  · exact Ev.ifpos rfl (Ev.bind (keep_ev ads ha l) (Ev.now _))

theorem spec_mayBe (l : List Rp) (ads : List Int) (hl : l.length ≤ 1048576) (ha : ads.length ≤ 1048576) : Ev (fun k => spec_MayBeOne.f k l ads) (mayBe l ads) := by
  unfold spec_MayBeOne.f mayBe
  refine all_step (fun x => l.all (pairOk ads x)) l (fun i k => spec_MayBeOne.l0 k l ads (i : Int)) (areR l) ?_ ?_
  · refine Ev.step (fun k => by rw [spec_MayBeOne.l0]) ?_
    have h := spec_replies_from l (by omega) 0 (Nat.zero_le _)
    rw [List.drop_zero] at h
    have h2 : Ev (fun k => spec_AreReplies.f k l) (areR l) := h
    exact Ev.ifneg (by omega) (Ev.bind h2 (Ev.now _))
  · intro i hi r ih
    refine Ev.step (fun k => by rw [spec_MayBeOne.l0]) ?_
    refine Ev.ifpos (by omega) ?_
    refine all_step (pairOk ads l[i]) l (fun j k => spec_MayBeOne.l1 k l ads (i : Int) (j : Int)) r ?_ ?_
    · refine Ev.step (fun k => by rw [spec_MayBeOne.l1]) ?_
      rw [wrap_succ (i := i) (by omega)]
      exact Ev.ifneg (by omega) ih
    · intro j hj r2 ih2
      refine Ev.step (fun k => by rw [spec_MayBeOne.l1]) ?_
      rw [wrap_succ (i := j) (by omega), rdRp l i hi, rdRp l j hj]
      refine Ev.ifpos (by omega) (Ev.ifpos (by omega) (Ev.ifpos (by omega) (Ev.bind (spec_has ads l[i].f0 (by omega)) ?_)))
      unfold pairOk
      show Ev (fun k => if hasA ads l[i] = true then _ else _) _
      cases hasA ads l[i]
      · exact Ev.ifneg (by decide) (by simpa using ih2)
      · refine Ev.ifpos rfl (Ev.ifpos (by omega) (Ev.bind (spec_has ads l[j].f0 (by omega)) ?_))
        show Ev (fun k => if hasA ads l[j] = true then _ else _) _
        cases hasA ads l[j]
        · exact Ev.ifneg (by decide) (by simpa using ih2)
        · refine Ev.ifpos rfl ?_
          by_cases h1 : l[i].f1 < l[j].f1
          · rw [decide_eq_true h1]
            refine Ev.ifpos h1 ?_
            by_cases h2 : l[i].f2 ≥ l[j].f2
            · rw [decide_eq_true h2]
              exact Ev.ifpos h2 (Ev.pure (by simp))
            · rw [decide_eq_false h2]
              exact Ev.ifneg h2 (by simpa using ih2)
          · rw [decide_eq_false h1]
            exact Ev.ifneg h1 (by simpa using ih2)

theorem times_apart {l : List Rp} (h : areR l = true) : l.Pairwise (fun x y => x.f1 ≠ y.f1) := by
  unfold areR at h
  rw [Bool.and_eq_true, List.all_eq_true] at h
  rw [List.pairwise_iff_getElem]
  intro i j hi hj hij e
  have h2 := h.1 j (List.mem_range.2 hj)
  unfold replyOk at h2
  rw [Bool.and_eq_true, Bool.not_eq_true', List.any_eq_false] at h2
  have hm : l[i] ∈ l.take j := by
    rw [List.mem_take_iff_getElem]
    exact ⟨i, by omega, rfl⟩
  refine h2.2 _ hm ?_
  unfold sameTime
  rw [rdRp l j hj, e]
  exact beq_self_eq_true _

theorem rises (s : List Rp) (h : idsRise s = true) : ∀ (d i : Nat) (hi : i < s.length) (hj : i + d + 1 < s.length), s[i].f2 < s[i + d + 1].f2 := by
  have step : ∀ (i : Nat) (hi : i < s.length) (h2 : i + 1 < s.length), s[i].f2 < s[i + 1].f2 := fun i hi h2 => by
    unfold idsRise at h
    have h3 := List.all_eq_true.1 h (i + 1) (List.mem_range.2 h2)
    unfold idStep at h3
    rw [Nat.add_sub_cancel, rdRp s i hi, rdRp s (i + 1) h2] at h3
    simpa using h3
  intro d
  induction d with
  | zero => intro i hi hj; exact step i hi hj
  | succ d ih =>
    intro i hi hj
    have h1 := ih i hi (by omega)
    have h2 := step (i + d + 1) (by omega) (by omega)
    have e : i + (d + 1) + 1 = i + d + 1 + 1 := by omega
    simp only [e]
    omega

theorem mayBe_core {l s : List Rp} (ads : List Int) (hs : ∀ (i j : Nat) (_hi : i < j) (hj : j < s.length), s[i].f1 ≤ s[j].f1) (ht : s.Pairwise (fun x y => x.f1 ≠ y.f1)) (hmem : ∀ x, x ∈ s ↔ x ∈ l ∧ hasA ads x = true) : idsRise s = l.all (fun x => l.all (pairOk ads x)) := by
  rw [Bool.eq_iff_iff]
  constructor
  · intro hr
    have hr := rises s hr
    rw [List.all_eq_true]
    intro x hx
    rw [List.all_eq_true]
    intro y hy
    unfold pairOk
    rw [Bool.not_eq_true', ← Bool.not_eq_true]
    intro hb
    simp only [Bool.and_eq_true, decide_eq_true_eq] at hb
    obtain ⟨b1, b2, b3, b4⟩ := hb
    obtain ⟨i, hi, rfl⟩ := List.getElem_of_mem ((hmem x).2 ⟨hx, b1⟩)
    obtain ⟨j, hj, rfl⟩ := List.getElem_of_mem ((hmem y).2 ⟨hy, b2⟩)
    rcases Nat.lt_or_ge i j with hij | hij
    · have := hr (j - i - 1) i hi (by omega)
      have e : i + (j - i - 1) + 1 = j := by omega
      simp only [e] at this
      omega
    · rcases Nat.eq_or_lt_of_le hij with e | hlt
      · subst e; omega
      · have := hs j i hlt hi
        omega
  · intro ha
    refine may_ends s (fun i h1 h2 => ?_)
    have h0 : i - 1 < s.length := by omega
    rw [rdRp s (i - 1) h0, rdRp s i h2]
    have hx := (hmem s[i - 1]).1 (List.getElem_mem h0)
    have hy := (hmem s[i]).1 (List.getElem_mem h2)
    have hle := hs (i - 1) i (by omega) h2
    have hne := List.pairwise_iff_getElem.1 ht (i - 1) i h0 h2 (by omega)
    have hq := List.all_eq_true.1 (List.all_eq_true.1 ha _ hx.1) _ hy.1
    unfold pairOk at hq
    rw [hx.2, hy.2, Bool.true_and, Bool.true_and, decide_eq_true (by omega), Bool.true_and, Bool.not_eq_true', decide_eq_false_iff_not] at hq
    omega

theorem mayBe_sorted {l : List Rp} (ads : List Int) (h : areR l = true) : idsRise (sortT (l.filter (hasA ads))) = l.all (fun x => l.all (pairOk ads x)) := by
  obtain ⟨hp, hs⟩ := sort_facts (l.filter (hasA ads))
  exact mayBe_core ads hs ((hp.pairwise_iff (fun h e => h e.symm)).2 ((times_apart h).filter _)) (fun x => by rw [hp.mem_iff, List.mem_filter])

theorem impl_mayBe (l : List Rp) (ads : List Int) (ha : ads.length ≤ 9223372036854775806) : Ev (fun k => impl_MayBeOne.f k l ads) (mayBe l ads) := by
  have h := impl_mayBe0 l ads ha
  have e : (areR l && idsRise (sortT (l.filter (hasA ads)))) = mayBe l ads := by
    unfold mayBe
    cases hr : areR l with
    | false => simp
    | true => rw [mayBe_sorted ads hr, Bool.and_true, Bool.true_and]
  rw [e] at h
  exact h

end Go.Proofs.Ytgghhcifkgdpeaa.Pure
/- Plain laws of the ordered list without repeats ('sortedF'): it rises strictly, it has the members of the list, it is the only such list; it is as long as the list if and only if the list has no repeats. No condition. -/
namespace Go.Proofs.Ytgghhcifkgdpeaa.Pure
open Go.RowKit Go.Proofs.Ytgghhcifkgdpeaa.Z Go.Proofs.YtgghhcifkgdpeaaW.PrintWords

theorem ms_perm (l : List Int) : (l.mergeSort fun x y => decide (x ≤ y)).Perm l := List.mergeSort_perm l _
theorem ms_pair (l : List Int) : (l.mergeSort fun x y => decide (x ≤ y)).Pairwise (fun x y => x ≤ y) := by
  have h := List.pairwise_mergeSort (le := fun x y : Int => decide (x ≤ y)) (fun a b c h1 h2 => by simp only [decide_eq_true_eq] at *; omega) (fun a b => by simp only [Bool.or_eq_true, decide_eq_true_eq]; omega) l
  exact h.imp (fun h => by simpa using h)

theorem getB (zs : List Int) (j : Nat) (h : j < zs.length) : zs.toArray[j]! = zs[j] := by simp [h]
theorem getB' (zs : List Int) (j : Nat) : zs.toArray[j]! = zs.getD j 0 := by
  by_cases h : j < zs.length
  · rw [getB zs j h, List.getD_eq_getElem?_getD, List.getElem?_eq_getElem h]; rfl
  · simp [h]

theorem keep_iff (zs : List Int) (j : Nat) : Lib.keeps zs.toArray j = true ↔ j = 0 ∨ zs.getD j 0 ≠ zs.getD (j - 1) 0 := by
  unfold Lib.keeps
  rw [decide_eq_true_iff, getB', getB']

theorem compact_eq (zs : List Int) : Lib.compact zs = ((List.range zs.length).filter fun j => Lib.keeps zs.toArray j).map (fun j => zs.getD j 0) := by
  unfold Lib.compact Lib.compactUpTo
  apply List.map_congr_left
  intro j _
  exact getB' zs j

theorem compact_mem (zs : List Int) (x : Int) : x ∈ Lib.compact zs ↔ x ∈ zs := by
  rw [compact_eq]
  simp only [List.mem_map, List.mem_filter, List.mem_range]
  constructor
  · rintro ⟨j, ⟨hj, _⟩, rfl⟩
    rw [List.getD_eq_getElem?_getD, List.getElem?_eq_getElem hj]
    exact List.getElem_mem hj
  · intro hx
    obtain ⟨j, hj, e⟩ := List.getElem_of_mem hx
    have key : ∀ j, j < zs.length → zs.getD j 0 = x → ∃ a, (a < zs.length ∧ Lib.keeps zs.toArray a = true) ∧ zs.getD a 0 = x := by
      intro j
      induction j with
      | zero => intro h e; exact ⟨0, ⟨h, (keep_iff zs 0).2 (Or.inl rfl)⟩, e⟩
      | succ j ih =>
        intro h e
        by_cases h2 : zs.getD (j + 1) 0 = zs.getD j 0
        · exact ih (by omega) (by rw [← h2]; exact e)
        · exact ⟨j + 1, ⟨h, (keep_iff zs _).2 (Or.inr h2)⟩, e⟩
    exact key j hj (by rw [List.getD_eq_getElem?_getD, List.getElem?_eq_getElem hj]; exact e)

theorem pair_get {zs : List Int} (h : zs.Pairwise (fun x y => x ≤ y)) {i j : Nat} (hij : i ≤ j) (hj : j < zs.length) : zs.getD i 0 ≤ zs.getD j 0 := by
  rw [List.getD_eq_getElem?_getD, List.getElem?_eq_getElem (by omega), List.getD_eq_getElem?_getD, List.getElem?_eq_getElem hj]
  rcases Nat.lt_or_ge i j with h1 | h1
  · exact (List.pairwise_iff_getElem.1 h) i j (by omega) hj h1
  · obtain rfl : i = j := by omega
    exact Int.le_refl _

theorem compact_rise {zs : List Int} (h : zs.Pairwise (fun x y => x ≤ y)) : (Lib.compact zs).Pairwise (fun x y => x < y) := by
  rw [compact_eq, List.pairwise_map]
  have h2 : ((List.range zs.length).filter fun j => Lib.keeps zs.toArray j).Pairwise (fun a b => a < b) := List.Pairwise.filter _ List.pairwise_lt_range
  refine h2.imp_of_mem (fun {a b} ha hb hab => ?_)
  simp only [List.mem_filter, List.mem_range] at ha hb
  rcases (keep_iff zs b).1 hb.2 with h0 | h0
  · omega
  · have h1 := pair_get h (i := a) (j := b - 1) (by omega) (by omega)
    have h3 := pair_get h (i := b - 1) (j := b) (by omega) hb.1
    omega

theorem sorted_rise (l : List Int) : (sortedF l).Pairwise (fun x y => x < y) := compact_rise (ms_pair l)
theorem sorted_mem (l : List Int) (x : Int) : x ∈ sortedF l ↔ x ∈ l := (compact_mem _ x).trans (ms_perm l).mem_iff

/-- Two lists that rise strictly and have the same members are one. -/
theorem rise_ext : ∀ {l m : List Int}, l.Pairwise (fun x y => x < y) → m.Pairwise (fun x y => x < y) → (∀ x, x ∈ l ↔ x ∈ m) → l = m
  | [], [], _, _, _ => rfl
  | [], b :: m, _, _, h => absurd ((h b).2 (List.mem_cons_self ..)) (by simp)
  | a :: l, [], _, _, h => absurd ((h a).1 (List.mem_cons_self ..)) (by simp)
  | a :: l, b :: m, hl, hm, h => by
    rw [List.pairwise_cons] at hl hm
    have e : a = b := by
      have h1 := (h a).1 (List.mem_cons_self ..)
      have h2 := (h b).2 (List.mem_cons_self ..)
      rcases List.mem_cons.1 h1 with h1 | h1
      · exact h1
      · rcases List.mem_cons.1 h2 with h2 | h2
        · exact h2.symm
        · have := hm.1 a h1
          have := hl.1 b h2
          omega
    subst e
    rw [rise_ext hl.2 hm.2 (fun x => ?_)]
    constructor
    · intro hx
      rcases List.mem_cons.1 ((h x).1 (List.mem_cons_of_mem _ hx)) with h1 | h1
      · subst h1
        exact absurd (hl.1 _ hx) (by omega)
      · exact h1
    · intro hx
      rcases List.mem_cons.1 ((h x).2 (List.mem_cons_of_mem _ hx)) with h1 | h1
      · subst h1
        exact absurd (hm.1 _ hx) (by omega)
      · exact h1

theorem sorted_eq {l m : List Int} (hm : m.Pairwise (fun x y => x < y)) (h : ∀ x, x ∈ m ↔ x ∈ l) : sortedF l = m := rise_ext (sorted_rise l) hm (fun x => (sorted_mem l x).trans (h x).symm)

theorem sorted_len_le (l : List Int) : (sortedF l).length ≤ l.length := by
  have h := Lib.compact_length_le (l.mergeSort fun x y => decide (x ≤ y))
  rw [(ms_perm l).length_eq] at h
  exact h

theorem sorted_len (l : List Int) : (sortedF l).length = l.length ↔ l.Nodup := by
  have hlen : (l.mergeSort fun x y => decide (x ≤ y)).length = l.length := (ms_perm l).length_eq
  rw [← (ms_perm l).nodup_iff]
  constructor
  · intro h
    unfold sortedF at h
    have hall : ∀ j, j < (l.mergeSort fun x y => decide (x ≤ y)).length → Lib.keeps (l.mergeSort fun x y => decide (x ≤ y)).toArray j = true := by
      rw [compact_eq, List.length_map, ← hlen] at h
      have h2 := List.length_filter_eq_length_iff.1 (h.trans List.length_range.symm)
      intro j hj
      exact h2 j (List.mem_range.2 hj)
    have e := Lib.compact_all _ hall
    rw [← e]
    exact (compact_rise (ms_pair l)).imp (fun h => by omega)
  · intro h
    have hs := ms_pair l
    unfold sortedF
    rw [Lib.compact_all, hlen]
    intro j hj
    rw [keep_iff]
    rcases Nat.eq_zero_or_pos j with h0 | h0
    · exact Or.inl h0
    · refine Or.inr ?_
      rw [List.getD_eq_getElem?_getD, List.getElem?_eq_getElem hj, List.getD_eq_getElem?_getD, List.getElem?_eq_getElem (by omega)]
      exact fun e => (List.pairwise_iff_getElem.1 h) (j - 1) j (by omega) hj (by omega) e.symm

end Go.Proofs.Ytgghhcifkgdpeaa.Pure
/- Plain laws: a number put into a rising list at its place; many put in one after another are the ordered list without repeats. No condition. -/
namespace Go.Proofs.Ytgghhcifkgdpeaa.Pure
open Go.RowKit Go.Proofs.Ytgghhcifkgdpeaa.Z Go.Proofs.YtgghhcifkgdpeaaW.PrintWords

/-- The first place whose number is not below x. -/
def posOf (x : Int) : List Int → Nat
  | [] => 0
  | y :: ys => if y < x then posOf x ys + 1 else 0
theorem posOf_le (x : Int) : ∀ l : List Int, posOf x l ≤ l.length
  | [] => Nat.le_refl _
  | y :: ys => by
    have := posOf_le x ys
    rw [posOf, List.length_cons]
    split <;> omega
theorem posOf_lt (x : Int) : ∀ (l : List Int) (p : Nat) (hp : p < l.length), p < posOf x l → l[p] < x
  | [], p, hp, _ => absurd hp (by simp)
  | y :: ys, p, hp, h => by
    rw [posOf] at h
    by_cases c : y < x
    · rw [if_pos c] at h
      match p, hp, h with
      | 0, _, _ => exact c
      | p + 1, hp, h => exact posOf_lt x ys p (by simpa using hp) (by omega)
    · rw [if_neg c] at h; omega
theorem posOf_at (x : Int) : ∀ (l : List Int) (h : posOf x l < l.length), ¬ l[posOf x l] < x
  | [], h => absurd h (by simp)
  | y :: ys, h => by
    by_cases c : y < x
    · have e : posOf x (y :: ys) = posOf x ys + 1 := by rw [posOf, if_pos c]
      simp only [e, List.getElem_cons_succ]
      exact posOf_at x ys (by rw [e] at h; simpa using h)
    · have e : posOf x (y :: ys) = 0 := by rw [posOf, if_neg c]
      simp only [e, List.getElem_cons_zero]
      exact c

/-- x put in at its place, if it is not there. -/
def ins (x : Int) (l : List Int) : List Int := if posOf x l < l.length ∧ l.getD (posOf x l) 0 = x then l else l.take (posOf x l) ++ ([x] ++ l.drop (posOf x l))
def insAll (out : List Int) (l : List Int) : List Int := l.foldl (fun o x => ins x o) out

theorem ins_length (x : Int) (l : List Int) : (ins x l).length ≤ l.length + 1 := by
  unfold ins
  split
  · omega
  · simp; omega

theorem ins_mem (x : Int) (l : List Int) (y : Int) : y ∈ ins x l ↔ y = x ∨ y ∈ l := by
  unfold ins
  split
  · rename_i h
    constructor
    · exact .inr
    · rintro (rfl | h2)
      · have : l.getD (posOf y l) 0 ∈ l := by
          rw [List.getD_eq_getElem?_getD, List.getElem?_eq_getElem h.1]
          exact List.getElem_mem _
        rwa [h.2] at this
      · exact h2
  · have e : y ∈ l ↔ y ∈ l.take (posOf x l) ∨ y ∈ l.drop (posOf x l) := by
      rw [← List.mem_append, List.take_append_drop]
    rw [e]
    simp only [List.mem_append, List.mem_singleton]
    constructor
    · rintro (h | h | h)
      · exact .inr (.inl h)
      · exact .inl h
      · exact .inr (.inr h)
    · rintro (h | h | h)
      · exact .inr (.inl h)
      · exact .inl h
      · exact .inr (.inr h)

theorem ins_rise (x : Int) (l : List Int) (h : l.Pairwise (fun x y => x < y)) : (ins x l).Pairwise (fun x y => x < y) := by
  unfold ins
  split
  · exact h
  · rename_i hc
    have h2 := h
    rw [← List.take_append_drop (posOf x l) l, List.pairwise_append] at h2
    obtain ⟨h3, h4, h5⟩ := h2
    have hlow : ∀ a ∈ l.take (posOf x l), a < x := by
      intro a ha
      obtain ⟨i, hi, rfl⟩ := List.getElem_of_mem ha
      rw [List.length_take] at hi
      rw [List.getElem_take]
      exact posOf_lt x l i (by omega) (by omega)
    have hhigh : ∀ b ∈ l.drop (posOf x l), x < b := by
      intro b hb
      by_cases hl : posOf x l < l.length
      · have h6 : ¬ l[posOf x l] < x := posOf_at x l hl
        have h7 : l[posOf x l] ≠ x := fun e => hc ⟨hl, by rw [List.getD_eq_getElem?_getD, List.getElem?_eq_getElem hl]; exact e⟩
        rw [drop_get l _ hl] at hb h4
        rw [List.pairwise_cons] at h4
        rcases List.mem_cons.1 hb with rfl | hb
        · omega
        · have := h4.1 b hb
          omega
      · rw [List.drop_of_length_le (by omega)] at hb
        exact absurd hb (by simp)
    rw [List.pairwise_append, List.singleton_append, List.pairwise_cons]
    refine ⟨h3, ⟨fun b hb => hhigh b hb, h4⟩, fun a ha b hb => ?_⟩
    rcases List.mem_cons.1 hb with rfl | hb
    · exact hlow a ha
    · exact h5 a ha b hb

theorem insAll_spec : ∀ (l out : List Int), out.Pairwise (fun x y => x < y) → (insAll out l).Pairwise (fun x y => x < y) ∧ ∀ y, y ∈ insAll out l ↔ y ∈ out ∨ y ∈ l
  | [], out, h => ⟨h, fun y => by simp [insAll]⟩
  | x :: l, out, h => by
    obtain ⟨h1, h2⟩ := insAll_spec l (ins x out) (ins_rise x out h)
    refine ⟨h1, fun y => ?_⟩
    show y ∈ insAll (ins x out) l ↔ _
    rw [h2 y, ins_mem, List.mem_cons]
    constructor
    · rintro ((h | h) | h)
      · exact .inr (.inl h)
      · exact .inl h
      · exact .inr (.inr h)
    · rintro (h | h | h)
      · exact .inl (.inr h)
      · exact .inl (.inl h)
      · exact .inr h

theorem insAll_sorted (l : List Int) : insAll [] l = sortedF l := by
  obtain ⟨h1, h2⟩ := insAll_spec l [] List.Pairwise.nil
  exact (sorted_eq h1 (fun x => by rw [h2 x]; simp)).symm

theorem insAll_append (out a b : List Int) : insAll out (a ++ b) = insAll (insAll out a) b := by unfold insAll; rw [List.foldl_append]

/-- A loop that looks for the place. -/
theorem pos_loop {β : Type} (x : Int) (out : List Int) (G : Nat → Nat → Option β) (r : β) (hend : Ev (G (posOf x out)) r) (hskip : ∀ p (hp : p < out.length), out[p] < x → Ev (G (p + 1)) r → Ev (G p) r) : Ev (G 0) r :=
  Ev.up0 (posOf x out) G (fun _ => r) hend (fun p hp ih => hskip p (by have := posOf_le x out; omega) (posOf_lt x out p (by have := posOf_le x out; omega) hp) ih) 0 (Nat.zero_le _)

end Go.Proofs.Ytgghhcifkgdpeaa.Pure
/- Plain lemma: the addresses of replies, as the reference and the program list them. Condition: there are no more than a list of the law can have. -/
namespace Go.Proofs.Ytgghhcifkgdpeaa.Pure
open Go.RowKit Go.Proofs.Ytgghhcifkgdpeaa.Z Go.Proofs.YtgghhcifkgdpeaaW.PrintWords

abbrev RpA := S68
def addrs (l : List RpA) : List Int := l.map fun x => x.f0

theorem rdRpA (l : List RpA) (i : Nat) (h : i < l.length) : rd_T68 l (i : Int) = l[i] := getD_get l i _ h

theorem spec_addr_from (xs : List RpA) (hx : xs.length ≤ 1048576) : ∀ (i : Nat) (out : List Int), i ≤ xs.length → out.length ≤ i → Ev (fun k => spec_AddressesOf.l0 k xs out (i : Int)) (insAll out (addrs (xs.drop i))) := by
  refine Ev.up xs.length (fun i (out : List Int) k => spec_AddressesOf.l0 k xs out (i : Int)) (fun i out => insAll out (addrs (xs.drop i))) (fun i out => out.length ≤ i) ?_ ?_
  · intro out _
    rw [List.drop_of_length_le (Nat.le_refl _)]
    refine Ev.step (fun k => by rw [spec_AddressesOf.l0]) ?_
    exact Ev.ifneg (by omega) (Ev.now _)
  · intro i out hi ho ih
    rw [drop_get xs i hi]
    show Ev _ (insAll (ins xs[i].f0 out) (addrs (xs.drop (i + 1))))
    have hnext := ih (ins xs[i].f0 out) (by have := ins_length xs[i].f0 out; omega)
    refine Ev.step (fun k => by rw [spec_AddressesOf.l0]) ?_
    refine Ev.ifpos (by omega) (Ev.ifpos (by omega) ?_)
    rw [rdRpA xs i hi]
    generalize xs[i].f0 = x at hnext ⊢
    generalize insAll (ins x out) (addrs (xs.drop (i + 1))) = r at hnext ⊢
    refine pos_loop x out (fun p k => spec_AddressesOf.l1 k xs out (i : Int) x (p : Int)) r ?_ ?_
    · have hle := posOf_le x out
      refine Ev.step (fun k => by rw [spec_AddressesOf.l1]) ?_
      rw [wrap_succ (i := i) (by omega)]
      by_cases hl : posOf x out < out.length
      · have hat := posOf_at x out hl
        refine Ev.ifpos (by omega) (Ev.ifpos (by omega) ?_)
        rw [rd_get out _ hl]
        refine Ev.ifneg hat (Ev.ifneg (by omega) ?_)
        by_cases he : out[posOf x out] = x
        · refine Ev.ifpos he ?_
          have e : ins x out = out := by unfold ins; rw [if_pos ⟨hl, by rw [List.getD_eq_getElem?_getD, List.getElem?_eq_getElem hl]; exact he⟩]
          rw [e] at hnext
          exact hnext
        · refine Ev.ifneg he ?_
          have e : ins x out = ([] ++ out.take (posOf x out) ++ [x]) ++ out.drop (posOf x out) := by
            unfold ins
            rw [if_neg (fun h => he (by have := h.2; rw [List.getD_eq_getElem?_getD, List.getElem?_eq_getElem hl] at this; exact this))]
            simp
          rw [e] at hnext
          refine Ev.bind0 rfl (Ev.ifpos (by omega) (Ev.bind0 rfl (Ev.ifpos (by simp; omega) (Ev.bind0 rfl (Ev.bind0 rfl (Ev.ifpos (by simp; omega) (Ev.bind0 rfl (Ev.bind0 rfl (Ev.ifpos (by simp; omega) ?_)))))))))
          rw [Int.toNat_natCast]
          exact hnext
      · have hp : posOf x out = out.length := by omega
        have e : ins x out = ([] ++ out.take (posOf x out) ++ [x]) ++ out.drop (posOf x out) := by
          unfold ins
          rw [if_neg (fun h => hl h.1)]
          simp
        rw [e] at hnext
        refine Ev.ifneg (by omega) (Ev.ifpos (by omega) ?_)
        refine Ev.bind0 rfl (Ev.ifpos (by omega) (Ev.ifpos (by omega) (Ev.bind0 rfl (Ev.ifpos (by simp; omega) (Ev.bind0 rfl (Ev.bind0 rfl (Ev.ifpos (by simp; omega) (Ev.bind0 rfl (Ev.bind0 rfl (Ev.ifpos (by simp; omega) ?_))))))))))
        rw [Int.toNat_natCast]
        exact hnext
    · intro p hp hlt hr
      refine Ev.step (fun k => by rw [spec_AddressesOf.l1]) ?_
      refine Ev.ifpos (by omega) (Ev.ifpos (by omega) ?_)
      rw [rd_get out p hp, wrap_succ (i := p) (by omega)]
      exact Ev.ifpos hlt hr

theorem spec_addr (xs : List RpA) (hx : xs.length ≤ 1048576) : Ev (fun k => spec_AddressesOf.f k xs) (sortedF (addrs xs)) := by
  have h := spec_addr_from xs hx 0 [] (Nat.zero_le _) (Nat.le_refl _)
  rw [List.drop_zero, insAll_sorted] at h
  unfold spec_AddressesOf.f
  exact h

theorem impl_addr (xs : List RpA) (hx : xs.length ≤ 1048576) : Ev (fun k => impl_AddressesOf.f k xs) (sortedF (addrs xs)) := by
  unfold impl_AddressesOf.f
  have key := Ev.up xs.length (fun i (out : List Int) k => impl_AddressesOf.l0 k out xs (xs.length : Int) (i : Int)) (fun i out => sortedF (out ++ addrs (xs.drop i))) (fun i out => out.length = i) ?_ ?_ 0 [] (Nat.zero_le _) rfl
  · rw [List.drop_zero, List.nil_append] at key
    exact key
  · intro out ho
    rw [List.drop_of_length_le (Nat.le_refl _)]
    refine Ev.step (fun k => by rw [impl_AddressesOf.l0]) ?_
    refine Ev.ifneg (by omega) (Ev.bind0 (a := sortedF out) ?_ ?_)
    · unfold impl_sorted.f
      rw [if_pos (by omega)]
    · exact Ev.pure (by show sortedF out = sortedF (out ++ addrs []); unfold addrs; simp)
  · intro i out hi ho ih
    refine Ev.step (fun k => by rw [impl_AddressesOf.l0]) ?_
    refine Ev.ifpos (by omega) (Ev.ifpos (by omega) (Ev.ifpos (by omega) (Ev.ifpos (by omega) ?_)))
    rw [rdRpA xs i hi, wrap_succ (by omega)]
    have h := ih (out ++ [xs[i].f0]) (by simp; omega)
    have e : out ++ addrs (xs.drop i) = (out ++ [xs[i].f0]) ++ addrs (xs.drop (i + 1)) := by
      rw [drop_get xs i hi, List.append_assoc]
      rfl
    rw [e]
    exact h

end Go.Proofs.Ytgghhcifkgdpeaa.Pure
/- Plain lemmas: the groups of addresses, as the reference and the program make them. Condition: the lists are not longer than the law's can be. -/
namespace Go.Proofs.Ytgghhcifkgdpeaa.Pure
open Go.RowKit Go.Proofs.Ytgghhcifkgdpeaa.Z Go.Proofs.YtgghhcifkgdpeaaW.PrintWords

def groupsP (p : List Int → Bool) : List (List Int) → List Int → List (List Int)
  | gs, [] => gs
  | gs, x :: xs => groupsP p (placeP (fun g => p (g ++ [x])) gs x) xs

theorem all_ev (f : Nat → List Int → Option Bool) (p : List Int → Bool) (x : Int) : ∀ gs : List (List Int), (∀ g ∈ gs, Ev (fun k => f k (g ++ [x])) (p (g ++ [x]))) → ∃ K, ∀ k, K ≤ k → ∀ g ∈ gs, f k (g ++ [x]) = some (p (g ++ [x]))
  | [], _ => ⟨0, fun _ _ g hg => absurd hg (by simp)⟩
  | g :: gs, h => by
    obtain ⟨K1, h1⟩ := h g (List.mem_cons_self ..)
    obtain ⟨K2, h2⟩ := all_ev f p x gs (fun g hg => h g (List.mem_cons_of_mem _ hg))
    refine ⟨max K1 K2, fun k hk y hy => ?_⟩
    rcases List.mem_cons.1 hy with rfl | hy
    · exact h1 k (by omega)
    · exact h2 k (by omega) y hy

theorem groups_ev (f : Nat → List Int → Option Bool) (p : List Int → Bool) (N : Nat) (h : ∀ g, g.length ≤ N → Ev (fun k => f k g) (p g)) : ∀ (xs : List Int) (gs : List (List Int)) (n : Nat), n + xs.length ≤ N → (∀ g ∈ gs, g.length ≤ n) → Ev (fun k => groupsO (f k) gs xs) (groupsP p gs xs)
  | [], gs, _, _, _ => ⟨0, fun _ _ => rfl⟩
  | x :: xs, gs, n, hn, hg => by
    rw [List.length_cons] at hn
    obtain ⟨K1, h1⟩ := all_ev f p x gs (fun g hm => h _ (by rw [List.length_append, List.length_singleton]; have := hg g hm; omega))
    obtain ⟨K2, h2⟩ := groups_ev f p N h xs (placeP (fun g => p (g ++ [x])) gs x) (n + 1) (by omega) (placeP_each hg)
    refine ⟨max K1 K2, fun k hk => ?_⟩
    show groupsO (f k) gs (x :: xs) = _
    rw [groupsO_step (p := fun g => p (g ++ [x])) (h1 k (by omega))]
    exact h2 k (by omega)

theorem groupsP_small (p : List Int → Bool) : ∀ (xs : List Int) (gs : List (List Int)) (n : Nat), gs.length ≤ n → (∀ g ∈ gs, g.length ≤ n) → (groupsP p gs xs).length ≤ n + xs.length ∧ ∀ g ∈ groupsP p gs xs, g.length ≤ n + xs.length
  | [], gs, n, h1, h2 => ⟨h1, h2⟩
  | x :: xs, gs, n, h1, h2 => by
    have h := groupsP_small p xs (placeP (fun g => p (g ++ [x])) gs x) (n + 1) (by have := placeP_len (fun g => p (g ++ [x])) gs x; omega) (placeP_each h2)
    rw [List.length_cons]
    refine ⟨by have := h.1; show (groupsP p _ xs).length ≤ _; omega, fun g hg => ?_⟩
    have := h.2 g hg
    omega

/-- The groups that the replies tell. -/
def groupsA (l : List Rp) : List (List Int) := if areR l = true then groupsP (mayBe l) [] (sortedF (addrs l)) else []

theorem addr_few {l : List Rp} (h : areR l = true) : (sortedF (addrs l)).length ≤ 12 := by
  unfold areR at h
  rw [Bool.and_eq_true, decide_eq_true_eq] at h
  have := sorted_len_le (addrs l)
  have e : (addrs l).length = l.length := by unfold addrs; rw [List.length_map]
  omega

theorem spec_groups (l : List Rp) (hl : l.length ≤ 1048576) : Ev (fun k => spec_GroupsOf.f k l) (groupsA l) := by
  have h1 := spec_replies l (by omega)
  rw [areReplies_eq] at h1
  unfold spec_GroupsOf.f groupsA
  refine Ev.bind h1 ?_
  cases h : areR l with
  | false => exact Ev.ifneg (by decide) (Ev.now _)
  | true =>
    have h12 := addr_few h
    refine Ev.ifpos rfl (Ev.bind (spec_addr l hl) (Ev.ifpos (by omega) ?_))
    exact groups_ev (fun k => spec_MayBeOne.f k l) (mayBe l) 12 (fun g hg => spec_mayBe l g hl (by omega)) _ _ 0 (by omega) (by simp)

theorem impl_groups (l : List Rp) (hl : l.length ≤ 1048576) : Ev (fun k => impl_GroupsOf.f k l) (groupsA l) := by
  unfold impl_GroupsOf.f groupsA
  rw [areReplies_eq]
  by_cases h : areR l = true
  · have h12 := addr_few h
    rw [if_pos h]
    refine Ev.ifpos h (Ev.bind (impl_addr l hl) (Ev.ifpos (by omega) ?_))
    exact groups_ev (fun k => impl_MayBeOne.f k l) (mayBe l) 12 (fun g hg => impl_mayBe l g (by omega)) _ _ 0 (by omega) (by simp)
  · rw [if_neg h]
    exact Ev.ifneg h (Ev.now _)

theorem groupsA_small (l : List Rp) : (groupsA l).length ≤ 12 ∧ ∀ g ∈ groupsA l, g.length ≤ 12 := by
  unfold groupsA
  by_cases h : areR l = true
  · rw [if_pos h]
    have h12 := addr_few h
    have := groupsP_small (mayBe l) (sortedF (addrs l)) [] 0 (by simp) (by simp)
    exact ⟨by omega, fun g hg => by have := this.2 g hg; omega⟩
  · rw [if_neg h]
    simp

end Go.Proofs.Ytgghhcifkgdpeaa.Pure
/- Plain lemmas: marks of numbers; the middle of a list. Condition: the numbers fit. -/
namespace Go.Proofs.Ytgghhcifkgdpeaa.Pure
open Go.RowKit Go.Proofs.Ytgghhcifkgdpeaa.Z Go.Proofs.YtgghhcifkgdpeaaW.PrintWords

theorem pm_IntS (l : List Int) (m : Int) (h0 : 0 ≤ m) (h1 : m + ((1 * l.length : Nat) : Int) ≤ 4611686018427387904) : Ev (fun k => laws_markIntS.f k l m) (m + ((1 * l.length : Nat) : Int), marked 1 (fun m => m) m l.length) := by
  unfold laws_markIntS.f
  refine mark_loop 1 (fun m => m) l.length (fun i s m k => laws_markIntS.l0 k s m (i : Int)) ?_ ?_ l m rfl h0 h1
  · intro s m hs
    refine Ev.step (fun k => by rw [laws_markIntS.l0]) ?_
    exact Ev.ifneg (by omega) (Ev.now _)
  · intro i s m r hi hs h0 h1 hr
    refine Ev.step (fun k => by rw [laws_markIntS.l0]) ?_
    refine Ev.ifpos (by omega) (Ev.ifpos (by omega) ?_)
    rw [wrap_succ (by omega), wrap_in (by omega) (by omega), Int.toNat_natCast]
    exact hr

theorem getD_mid {α : Type} (a : List α) (x z : α) (b : List α) : (a ++ x :: b).getD ((a.length : Int)).toNat z = x := by
  rw [Int.toNat_natCast, List.getD_eq_getElem?_getD, List.getElem?_append_right (Nat.le_refl _), Nat.sub_self]
  rfl
theorem set_mid {α : Type} (a : List α) (x y : α) (b : List α) : (a ++ x :: b).set ((a.length : Int)).toNat y = (a ++ [y]) ++ b := by
  rw [Int.toNat_natCast, List.set_append_right _ _ (Nat.le_refl _), Nat.sub_self, List.set_cons_zero, List.append_assoc]
  rfl

end Go.Proofs.Ytgghhcifkgdpeaa.Pure
/- Plain lemmas: marks of rows of rows. Condition: the numbers fit. -/
namespace Go.Proofs.Ytgghhcifkgdpeaa.Pure
open Go.RowKit Go.Proofs.Ytgghhcifkgdpeaa.Z Go.Proofs.YtgghhcifkgdpeaaW.PrintWords

/-- How many numbers there are in all rows. -/
def tot : List (List Int) → Nat
  | [] => 0
  | r :: rs => r.length + tot rs
/-- What the marks leave. -/
def markSS : Int → List (List Int) → List (List Int)
  | _, [] => []
  | m, r :: rs => marked 1 (fun m => m) m r.length :: markSS (m + (r.length : Int)) rs
theorem markSS_length : ∀ (m : Int) (l : List (List Int)), (markSS m l).length = l.length
  | _, [] => rfl
  | m, r :: rs => by rw [markSS, List.length_cons, markSS_length, List.length_cons]

theorem mark_SS_from : ∀ (l done : List (List Int)) (m : Int), 0 ≤ m → m + (tot l : Int) ≤ 4611686018427387904 → done.length + l.length ≤ 4611686018427387904 → Ev (fun k => laws_markIntSS.l0 k (done ++ l) m (done.length : Int)) (m + (tot l : Int), done ++ markSS m l)
  | [], done, m, h0, h1, h2 => by
    rw [List.append_nil, markSS, List.append_nil, tot]
    refine Ev.step (fun k => by rw [laws_markIntSS.l0]) ?_
    exact Ev.ifneg (by omega) (Ev.pure (by simp))
  | r :: rs, done, m, h0, h1, h2 => by
    rw [tot] at h1
    rw [List.length_cons] at h2
    have hl : (done ++ r :: rs).length = done.length + rs.length + 1 := by simp; omega
    refine Ev.step (fun k => by rw [laws_markIntSS.l0]) ?_
    refine Ev.ifpos (by omega) (Ev.ifpos (by omega) ?_)
    rw [getD_mid]
    refine Ev.bind (pm_IntS r m h0 (by omega)) ?_
    rw [set_mid, wrap_succ (by omega)]
    have ih := mark_SS_from rs (done ++ [marked 1 (fun m => m) m r.length]) (m + (r.length : Int)) (by omega) (by omega) (by rw [List.length_append, List.length_singleton]; omega)
    rw [List.length_append, List.length_singleton] at ih
    rw [markSS, tot]
    have e1 : m + ((1 * r.length : Nat) : Int) = m + (r.length : Int) := by omega
    have e2 : m + (r.length : Int) + (tot rs : Int) = m + ((r.length + tot rs : Nat) : Int) := by omega
    rw [e2] at ih
    simp only [List.append_assoc, List.singleton_append] at ih
    simp only [e1]
    rw [List.append_assoc, List.singleton_append]
    exact ih

theorem mark_IntSS (l : List (List Int)) (m : Int) (h0 : 0 ≤ m) (h1 : m + (tot l : Int) ≤ 4611686018427387904) (h2 : l.length ≤ 4611686018427387904) : Ev (fun k => laws_markIntSS.f k l m) (m + (tot l : Int), markSS m l) := by
  unfold laws_markIntSS.f
  have := mark_SS_from l [] m h0 h1 (by simpa using h2)
  simpa using this

theorem tot_le (n : Nat) : ∀ l : List (List Int), (∀ r ∈ l, r.length ≤ n) → tot l ≤ n * l.length
  | [], _ => Nat.zero_le _
  | r :: rs, h => by
    have := tot_le n rs (fun x hx => h x (List.mem_cons_of_mem _ hx))
    have := h r (List.mem_cons_self ..)
    rw [tot, List.length_cons, Nat.mul_succ]
    omega

end Go.Proofs.Ytgghhcifkgdpeaa.Pure
/- Plain lemma: what holds the marks of numbers. Condition: the numbers fit. -/
namespace Go.Proofs.Ytgghhcifkgdpeaa.Pure
open Go.RowKit Go.Proofs.Ytgghhcifkgdpeaa.Z Go.Proofs.YtgghhcifkgdpeaaW.PrintWords

theorem ph_IntS (n : Nat) (m : Int) (h0 : 0 ≤ m) (h1 : m + ((1 * n : Nat) : Int) ≤ 4611686018427387904) : Ev (fun k => laws_heldIntS.f k (marked 1 (fun m => m) m n) m) (m + ((1 * n : Nat) : Int)) := by
  unfold laws_heldIntS.f
  have hn := marked_length 1 (fun m => m) m n
  refine held_loop 1 n m (fun i q k => laws_heldIntS.l0 k (marked 1 (fun m => m) m n) q (i : Int)) ?_ ?_
  · intro q
    refine Ev.step (fun k => by rw [laws_heldIntS.l0]) ?_
    exact Ev.ifneg (by omega) (Ev.now _)
  · intro i r hi hr
    refine Ev.step (fun k => by rw [laws_heldIntS.l0]) ?_
    have hle : ((1 * i : Nat) : Int) + 1 ≤ ((1 * n : Nat) : Int) := by omega
    refine Ev.ifpos (by omega) (Ev.ifpos (by omega) ?_)
    rw [rd_get _ i (by omega), marked_get]
    have w0 : wrap64 (m + ((1 * i : Nat) : Int) + 1) = m + ((1 * i : Nat) : Int) + 1 := wrap_in (by omega) (by omega)
    simp only [w0]
    refine Ev.ifpos (by first | trivial | rfl) ?_
    rw [wrap_succ (by omega)]
    exact hr

end Go.Proofs.Ytgghhcifkgdpeaa.Pure
/- Plain lemma: what holds the marks of rows of rows. Condition: the numbers fit. -/
namespace Go.Proofs.Ytgghhcifkgdpeaa.Pure
open Go.RowKit Go.Proofs.Ytgghhcifkgdpeaa.Z Go.Proofs.YtgghhcifkgdpeaaW.PrintWords

theorem held_SS_from : ∀ (l done : List (List Int)) (m : Int), 0 ≤ m → m + (tot l : Int) ≤ 4611686018427387904 → done.length + l.length ≤ 4611686018427387904 → Ev (fun k => laws_heldIntSS.l0 k (done ++ markSS m l) m (done.length : Int)) (m + (tot l : Int))
  | [], done, m, h0, h1, h2 => by
    rw [markSS, List.append_nil, tot]
    refine Ev.step (fun k => by rw [laws_heldIntSS.l0]) ?_
    exact Ev.ifneg (by omega) (Ev.pure (by simp))
  | r :: rs, done, m, h0, h1, h2 => by
    rw [tot] at h1
    rw [List.length_cons] at h2
    rw [markSS, tot]
    have hl : (done ++ marked 1 (fun m => m) m r.length :: markSS (m + (r.length : Int)) rs).length = done.length + rs.length + 1 := by simp [markSS_length]; omega
    refine Ev.step (fun k => by rw [laws_heldIntSS.l0]) ?_
    refine Ev.ifpos (by omega) (Ev.ifpos (by omega) ?_)
    rw [show rd_L4 (done ++ marked 1 (fun m => m) m r.length :: markSS (m + (r.length : Int)) rs) (done.length : Int) = marked 1 (fun m => m) m r.length from getD_mid _ _ _ _]
    refine Ev.bind (ph_IntS r.length m h0 (by omega)) (Ev.ifneg (by omega) ?_)
    rw [wrap_succ (by omega)]
    have ih := held_SS_from rs (done ++ [marked 1 (fun m => m) m r.length]) (m + (r.length : Int)) (by omega) (by omega) (by rw [List.length_append, List.length_singleton]; omega)
    rw [List.length_append, List.length_singleton, List.append_assoc, List.singleton_append] at ih
    have e1 : m + ((1 * r.length : Nat) : Int) = m + (r.length : Int) := by omega
    have e2 : m + (r.length : Int) + (tot rs : Int) = m + ((r.length + tot rs : Nat) : Int) := by omega
    rw [e2] at ih
    rw [e1]
    exact ih

theorem held_IntSS (l : List (List Int)) (m : Int) (h0 : 0 ≤ m) (h1 : m + (tot l : Int) ≤ 4611686018427387904) (h2 : l.length ≤ 4611686018427387904) : Ev (fun k => laws_heldIntSS.f k (markSS m l) m) (m + (tot l : Int)) := by
  unfold laws_heldIntSS.f
  have := held_SS_from l [] m h0 h1 (by simpa using h2)
  simpa using this

end Go.Proofs.Ytgghhcifkgdpeaa.Pure
namespace Go.Proofs.Ytgghhcifkgdpeaa.Pure
open Go.RowKit Go.Proofs.Ytgghhcifkgdpeaa.Z Go.Proofs.YtgghhcifkgdpeaaW.PrintWords

theorem FnExactGroupsOf : laws_FnExactGroupsOf.Pure := by
  intro l hl
  refine Ev.rounds ?_
  unfold laws_FnExactGroupsOf.f
  obtain ⟨s, hs, hs2⟩ := sz_ReplyS l hl.1 1048576 (by omega) (by omega)
  by_cases hn : s < 0
  · exact Ev.bind0 hs (Ev.ifpos hn (Ev.now _))
  · have hsm := (hs2 (by omega)).2
    have ht := to_ReplyS l hsm
    have hlen : (l.map c70_68).length ≤ 1048576 := by simpa using hsm.1
    have h1 := spec_groups (l.map c70_68) hlen
    have h2 := impl_groups (l.map c70_68) hlen
    have he := eq_ReplyS (l.map c70_68) (by unfold maxLen; omega)
    obtain ⟨hql, hqr⟩ := groupsA_small (l.map c70_68)
    generalize groupsA (l.map c70_68) = q at h1 h2 hql hqr
    have hi := eq_IntSS q ⟨by omega, fun r h => ⟨by have := hqr r h; omega, fun _ _ => trivial⟩⟩
    have hmr := mark_ReplyS (l.map c70_68) 1 (by omega) (by omega)
    have htt := tot_le 12 q hqr
    have hm := mark_IntSS q 1 (by omega) (by omega) (by omega)
    have hh := held_IntSS q 1 (by omega) (by omega) (by omega)
    refine Ev.bind0 hs (Ev.ifneg hn (Ev.bind ht (Ev.bind h1 (Ev.bind ht (Ev.bind h2 (Ev.bind hi (Ev.ifpos rfl (Ev.bind ht (Ev.bind he (Ev.ifpos rfl (Ev.bind hmr (Ev.ifneg (by omega) (Ev.bind hi ?_)))))))))))))
    first
    | (refine Ev.step (fun k => by rw [laws_FnExactGroupsOf.j0]) ?_
       refine Ev.ifneg (by decide) (Ev.bind hm (Ev.bind hh (Ev.ifneg (by omega) (Ev.ifpos rfl (Ev.bind ht (Ev.bind h2 (Ev.bind hi (Ev.ifpos rfl (Ev.bind hh (Ev.ifneg (by omega) (Ev.ifpos rfl (Ev.now _)))))))))))))
    | exact Ev.ifpos rfl (Ev.bind hm (Ev.bind hh (Ev.ifneg (by omega) (Ev.ifpos rfl (Ev.bind ht (Ev.bind h2 (Ev.bind hi (Ev.ifpos rfl (Ev.bind hh (Ev.ifneg (by omega) (Ev.ifpos rfl (Ev.now _))))))))))))

end Go.Proofs.Ytgghhcifkgdpeaa.Pure
