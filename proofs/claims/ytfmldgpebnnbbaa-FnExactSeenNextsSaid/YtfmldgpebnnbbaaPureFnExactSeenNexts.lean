/- The statement: for every branch and all flows, the program's SeenNexts answers as the reference's does, leaves the branch and the flows as they were, and its answer shares no memory with them or with another answer. No condition. -/
import Derived.Test.YtfmldgpebnnbbaaWWords
import Derived.Test.YtfmldgpebnnbbaaWLast
import Derived.Test.YtfmldgpebnnbbaaWMore
import Derived.Test.YtfmldgpebnnbbaaZ1
import Derived.Test.YtfmldgpebnnbbaaZ5
import Derived.Test.YtfmldgpebnnbbaaZ8
import Derived.Test.YtfmldgpebnnbbaaZ2
import Derived.Test.YtfmldgpebnnbbaaZFirst
import Derived.Test.YtfmldgpebnnbbaaZ3
import Derived.Test.YtfmldgpebnnbbaaZ4
import Derived.Test.YtfmldgpebnnbbaaZ6
import Derived.Test.YtfmldgpebnnbbaaZ7
import Derived.Test.YtfmldgpebnnbbaaZDefFnExactSeenNexts
/- Plain lemmas for what the printed functions come to: loops that go up, indices that do not wrap, reads. No condition. -/
namespace Go.Proofs.Ytfmldgpebnnbbaa.Pure
open Go.RowKit Go.Proofs.YtfmldgpebnnbbaaW.PrintWords Go.Proofs.YtfmldgpebnnbbaaW.PrintLast Go.Proofs.YtfmldgpebnnbbaaW.PrintMore

/-- A loop that goes up to n: at each index it comes to R, if it does so one index further. -/
theorem Ev.up {σ ρ : Type} (n : Nat) (G : Nat → σ → Nat → Option ρ) (R : Nat → σ → ρ) (Inv : Nat → σ → Prop) (hend : ∀ s, Inv n s → Ev (G n s) (R n s))
    (hstep : ∀ i s, i < n → Inv i s → (∀ s', Inv (i + 1) s' → Ev (G (i + 1) s') (R (i + 1) s')) → Ev (G i s) (R i s)) : ∀ i s, i ≤ n → Inv i s → Ev (G i s) (R i s) := by
  have key : ∀ d i s, i + d = n → Inv i s → Ev (G i s) (R i s) := by
    intro d
    induction d with
    | zero => intro i s h hi; obtain rfl : i = n := by omega
              exact hend s hi
    | succ d ih => intro i s h hi; exact hstep i s (by omega) hi (fun s' hs' => ih (i + 1) s' (by omega) hs')
  intro i s h hi
  exact key (n - i) i s (by omega) hi

/-- The same without a state. -/
theorem Ev.up0 {ρ : Type} (n : Nat) (G : Nat → Nat → Option ρ) (R : Nat → ρ) (hend : Ev (G n) (R n)) (hstep : ∀ i, i < n → Ev (G (i + 1)) (R (i + 1)) → Ev (G i) (R i)) : ∀ i, i ≤ n → Ev (G i) (R i) := by
  intro i h
  exact Ev.up n (fun i (_ : Unit) => G i) (fun i _ => R i) (fun _ _ => True) (fun _ _ => hend) (fun i s hi _ hn => hstep i hi (hn () trivial)) i () h trivial

theorem Ev.det {α : Type} {g : Nat → Option α} {r q : α} (h : Ev g r) (h' : Ev g q) : r = q := by
  obtain ⟨K, h⟩ := h
  obtain ⟨K', h'⟩ := h'
  have a := h (max K K') (by omega)
  have b := h' (max K K') (by omega)
  rw [a] at b
  exact Option.some.inj b

theorem Ev.const {α : Type} {g : Nat → Option α} {r : α} (h : ∀ k, g k = some r) : Ev g r := ⟨0, fun k _ => h k⟩

theorem Ev.ifpos {α : Type} {c : Prop} [Decidable c] {g f : Nat → Option α} {r : α} (hc : c) (h : Ev g r) : Ev (fun k => if c then g k else f k) r := Ev.congr (fun k => by rw [if_pos hc]) h
theorem Ev.ifneg {α : Type} {c : Prop} [Decidable c] {g f : Nat → Option α} {r : α} (hc : ¬ c) (h : Ev f r) : Ev (fun k => if c then g k else f k) r := Ev.congr (fun k => by rw [if_neg hc]) h
theorem Ev.pure {α : Type} {a r : α} (h : a = r) : Ev (fun _ => some a) r := by subst h; exact Ev.now _

/-- A call that needs no rounds. -/
theorem Ev.bind0 {α β : Type} {g : Option α} {f : Nat → α → Option β} {a : α} {r : β} (h : g = some a) (k : Ev (fun n => f n a) r) : Ev (fun n => g.bind (f n)) r :=
  Ev.congr (fun n => by rw [h]; rfl) k

theorem wrap_in {n : Int} (h0 : -9223372036854775808 ≤ n) (h1 : n ≤ 9223372036854775807) : wrap64 n = n := by unfold wrap64; omega
theorem wrap_succ {i : Nat} (h : i < 9223372036854775807) : wrap64 ((i : Int) + 1) = ((i + 1 : Nat) : Int) := by unfold wrap64; omega

theorem rd_nat (xs : List Int) (i : Nat) : rd xs (i : Int) = xs.getD i 0 := by unfold rd; rw [Int.toNat_natCast]
theorem rd_get (xs : List Int) (i : Nat) (h : i < xs.length) : rd xs (i : Int) = xs[i] := by rw [rd_nat, List.getD_eq_getElem?_getD, List.getElem?_eq_getElem h]; rfl
theorem getD_get {α : Type} (xs : List α) (i : Nat) (z : α) (h : i < xs.length) : xs.getD (i : Int).toNat z = xs[i] := by rw [Int.toNat_natCast, List.getD_eq_getElem?_getD, List.getElem?_eq_getElem h]; rfl

theorem drop_get {α : Type} (xs : List α) (i : Nat) (h : i < xs.length) : xs.drop i = xs[i] :: xs.drop (i + 1) := List.drop_eq_getElem_cons h

theorem take_set_self {α : Type} (s : List α) (i : Nat) (a : α) : (s.set i a).take i = s.take i := by
  apply List.ext_getElem?
  intro j
  by_cases h : j < i
  · rw [List.getElem?_take, List.getElem?_take, if_pos h, if_pos h, List.getElem?_set_ne (by omega)]
  · rw [List.getElem?_take, List.getElem?_take, if_neg h, if_neg h]

/-- A loop that copies, element by element. -/
theorem copy_loop {α β : Type} (l : List α) (f : α → β) (G : Nat → List β → Nat → Option (List β)) (hend : ∀ s : List β, Ev (G l.length s) s)
    (hstep : ∀ i (hi : i < l.length) (s r : List β), s.length = l.length → Ev (G (i + 1) (s.set i (f l[i]))) r → Ev (G i s) r) (s : List β) (hs : s.length = l.length) : Ev (G 0 s) (l.map f) := by
  have key := Ev.up l.length G (fun i s => s.take i ++ (l.map f).drop i) (fun _ s => s.length = l.length)
    (fun s hs => by
      have e : s.take l.length ++ (l.map f).drop l.length = s := by rw [List.take_of_length_le (by omega), List.drop_of_length_le (by simp), List.append_nil]
      simp only [e]
      exact hend s)
    (fun i s hi hs ih => by
      have h1 := ih (s.set i (f l[i])) (by simpa using hs)
      have e : (s.set i (f l[i])).take (i + 1) ++ (l.map f).drop (i + 1) = s.take i ++ (l.map f).drop i := by
        rw [List.take_succ_eq_append_getElem (by simp; omega), List.drop_eq_getElem_cons (l := l.map f) (i := i) (by simpa using hi), take_set_self]
        simp
      simp only [e] at h1
      exact hstep i hi s _ hs h1) 0 s (Nat.zero_le _) hs
  simpa using key

/-- A loop that takes off what the elements weigh. -/
theorem sz_loop {α : Type} (l : List α) (sm : α → Prop) (G : Nat → Int → Nat → Option Int) (hend : ∀ s : Int, Ev (G l.length s) s)
    (hstep : ∀ i (hi : i < l.length) (s : Int), 0 ≤ s → s ≤ 1048576 → Ev (G i s) (-1) ∨ ∃ q : Int, 0 ≤ q ∧ q ≤ s ∧ sm l[i] ∧ ∀ r, Ev (G (i + 1) q) r → Ev (G i s) r) (s : Int) (h0 : 0 ≤ s) (h1 : s ≤ 1048576) :
    ∃ r : Int, Ev (G 0 s) r ∧ (0 ≤ r → r ≤ s ∧ ∀ x ∈ l, sm x) := by
  have key : ∀ d i (s : Int), i + d = l.length → 0 ≤ s → s ≤ 1048576 → ∃ r : Int, Ev (G i s) r ∧ (0 ≤ r → r ≤ s ∧ ∀ x ∈ l.drop i, sm x) := by
    intro d
    induction d with
    | zero =>
      intro i s hi h0 h1
      obtain rfl : i = l.length := by omega
      exact ⟨s, hend s, fun _ => ⟨Int.le_refl _, by simp⟩⟩
    | succ d ih =>
      intro i s hi h0 h1
      have hlt : i < l.length := by omega
      rcases hstep i hlt s h0 h1 with h | ⟨q, hq0, hq1, hsm, hnext⟩
      · exact ⟨-1, h, fun h => by omega⟩
      · obtain ⟨r, hr, hr2⟩ := ih (i + 1) q (by omega) hq0 (by omega)
        refine ⟨r, hnext r hr, fun h => ⟨by have := (hr2 h).1; omega, ?_⟩⟩
        rw [drop_get l i hlt]
        intro x hx
        rcases List.mem_cons.1 hx with rfl | hx
        · exact hsm
        · exact (hr2 h).2 x hx
  simpa using key l.length 0 s (by omega) h0 h1

/-- What a mark leaves: element i holds the numbers from m + c * i on. -/
def marked {α : Type} (c : Nat) (mk : Int → α) (m : Int) (n : Nat) : List α := (List.range n).map fun i => mk (m + ((c * i : Nat) : Int))
theorem marked_length {α : Type} (c : Nat) (mk : Int → α) (m : Int) (n : Nat) : (marked c mk m n).length = n := by simp [marked]
theorem marked_get {α : Type} (c : Nat) (mk : Int → α) (m : Int) (n i : Nat) (h : i < (marked c mk m n).length) : (marked c mk m n)[i] = mk (m + ((c * i : Nat) : Int)) := by simp [marked]
theorem marked_succ {α : Type} (c : Nat) (mk : Int → α) (m : Int) (n : Nat) : marked c mk m (n + 1) = mk m :: marked c mk (m + (c : Int)) n := by
  unfold marked
  rw [List.range_succ_eq_map, List.map_cons, List.map_map]
  congr 1
  · simp
  · apply List.map_congr_left
    intro i _
    show mk _ = mk _
    congr 1
    rw [Nat.mul_succ]
    omega

theorem mark_loop {α : Type} (c : Nat) (mk : Int → α) (n : Nat) (G : Nat → List α → Int → Nat → Option (Int × List α)) (hend : ∀ (s : List α) (m : Int), s.length = n → Ev (G n s m) (m, s))
    (hstep : ∀ i (s : List α) (m : Int) r, i < n → s.length = n → 0 ≤ m → m ≤ 4611686018427387904 → Ev (G (i + 1) (s.set i (mk m)) (m + (c : Int))) r → Ev (G i s m) r)
    (s : List α) (m : Int) (hs : s.length = n) (h0 : 0 ≤ m) (h1 : m + ((c * n : Nat) : Int) ≤ 4611686018427387904) : Ev (G 0 s m) (m + ((c * n : Nat) : Int), marked c mk m n) := by
  have key : ∀ d i (s : List α) (m : Int), i + d = n → s.length = n → 0 ≤ m → m + ((c * d : Nat) : Int) ≤ 4611686018427387904 → Ev (G i s m) (m + ((c * d : Nat) : Int), s.take i ++ marked c mk m d) := by
    intro d
    induction d with
    | zero =>
      intro i s m hi hs h0 h1
      obtain rfl : i = n := by omega
      have e : s.take i ++ marked c mk m 0 = s := by rw [List.take_of_length_le (by omega)]; simp [marked]
      rw [e]
      simpa using hend s m hs
    | succ d ih =>
      intro i s m hi hs h0 h1
      rw [Nat.mul_succ] at h1
      have h2 := ih (i + 1) (s.set i (mk m)) (m + (c : Int)) (by omega) (by simpa using hs) (by omega) (by omega)
      have e : (s.set i (mk m)).take (i + 1) ++ marked c mk (m + (c : Int)) d = s.take i ++ marked c mk m (d + 1) := by
        rw [List.take_succ_eq_append_getElem (by simp; omega), marked_succ, take_set_self]
        simp
      rw [e] at h2
      have e2 : m + (c : Int) + ((c * d : Nat) : Int) = m + ((c * (d + 1) : Nat) : Int) := by rw [Nat.mul_succ]; omega
      rw [e2] at h2
      exact hstep i s m _ (by omega) hs h0 (by omega) h2
  have := key n 0 s m (by omega) hs h0 h1
  simpa using this

theorem held_loop (c : Nat) (n : Nat) (m0 : Int) (G : Nat → Int → Nat → Option Int) (hend : ∀ m : Int, Ev (G n m) m)
    (hstep : ∀ i r, i < n → Ev (G (i + 1) (m0 + ((c * i : Nat) : Int) + (c : Int))) r → Ev (G i (m0 + ((c * i : Nat) : Int))) r) : Ev (G 0 m0) (m0 + ((c * n : Nat) : Int)) := by
  have key := Ev.up0 n (fun i => G i (m0 + ((c * i : Nat) : Int))) (fun _ => m0 + ((c * n : Nat) : Int)) (hend _)
    (fun i hi ih => hstep i _ hi (by
      have e : m0 + ((c * i : Nat) : Int) + (c : Int) = m0 + ((c * (i + 1) : Nat) : Int) := by rw [Nat.mul_succ]; omega
      rw [e]
      exact ih)) 0 (Nat.zero_le _)
  simpa using key

end Go.Proofs.Ytfmldgpebnnbbaa.Pure
/- Plain lemmas on the laws' own helpers: copies, comparisons, sizes, marks. No condition. -/
namespace Go.Proofs.Ytfmldgpebnnbbaa.Pure
open Go.RowKit Go.Proofs.Ytfmldgpebnnbbaa.Z Go.Proofs.YtfmldgpebnnbbaaW.PrintWords
set_option linter.unusedSimpArgs false
set_option linter.unusedVariables false
def smL {α : Type} (sm : α → Prop) (l : List α) : Prop := l.length ≤ 1048576 ∧ ∀ x ∈ l, sm x
def okLen {α : Type} (l : List α) : Prop := l.length ≤ maxLen
theorem eq_IntS (l : List Int) (h : l.length ≤ maxLen) : Ev (fun k => laws_eqIntS.f k l l) true := by
  unfold maxLen at h
  unfold laws_eqIntS.f
  refine Ev.ifpos rfl ?_
  exact Ev.up0 l.length (fun i k => laws_eqIntS.l0 k l l (i : Int)) (fun _ => true)
    (Ev.step (fun k => by rw [laws_eqIntS.l0]) (Ev.ifneg (by omega) (Ev.now _)))
    (fun i hi ih => by
      refine Ev.step (fun k => by rw [laws_eqIntS.l0]) ?_
      refine Ev.ifpos (by omega) (Ev.ifpos (by omega) (Ev.ifpos (by omega) ?_))
      refine Ev.ifpos rfl ?_
      rw [wrap_succ (by omega)]
      exact ih) 0 (Nat.zero_le _)
theorem mark_IntS (l : List Int) (m : Int) (h0 : 0 ≤ m) (h1 : m + ((1 * l.length : Nat) : Int) ≤ 4611686018427387904) : Ev (fun k => laws_markIntS.f k l m) (m + ((1 * l.length : Nat) : Int), marked 1 (fun m => m) m l.length) := by
  unfold laws_markIntS.f
  refine mark_loop 1 (fun m => m) l.length (fun i s m k => laws_markIntS.l0 k s m (i : Int)) ?_ ?_ l m rfl h0 h1
  · intro s m hs
    refine Ev.step (fun k => by rw [laws_markIntS.l0]) ?_
    exact Ev.ifneg (by omega) (Ev.now _)
  · intro i s m r hi hs h0 h1 hr
    refine Ev.step (fun k => by rw [laws_markIntS.l0]) ?_
    refine Ev.ifpos (by omega) (Ev.ifpos (by omega) ?_)
    rw [wrap_succ (by omega), wrap_in (by omega) (by omega), Int.toNat_natCast]
    exact hr
theorem held_IntS (n : Nat) (m : Int) (h0 : 0 ≤ m) (h1 : m + ((1 * n : Nat) : Int) ≤ 4611686018427387904) : Ev (fun k => laws_heldIntS.f k (marked 1 (fun m => m) m n) m) (m + ((1 * n : Nat) : Int)) := by
  unfold laws_heldIntS.f
  have hn := marked_length 1 (fun m => m) m n
  refine held_loop 1 n m (fun i q k => laws_heldIntS.l0 k (marked 1 (fun m => m) m n) q (i : Int)) ?_ ?_
  · intro q
    refine Ev.step (fun k => by rw [laws_heldIntS.l0]) ?_
    exact Ev.ifneg (by omega) (Ev.now _)
  · intro i r hi hr
    refine Ev.step (fun k => by rw [laws_heldIntS.l0]) ?_
    have hle : ((1 * i : Nat) : Int) + 1 ≤ ((1 * n : Nat) : Int) := by omega
    refine Ev.ifpos (by omega) (Ev.ifpos (by omega) ?_)
    rw [rd_get _ i (by omega), marked_get]
    have w0 : wrap64 (m + ((1 * i : Nat) : Int) + 1) = m + ((1 * i : Nat) : Int) + 1 := wrap_in (by omega) (by omega)
    simp only [w0]
    refine Ev.ifpos (by first | trivial | rfl) ?_
    rw [wrap_succ (by omega)]
    exact hr
theorem to_IntS (l : List Int) (h : (smL (fun _ => True)) l) : Ev (fun k => laws_toIntS.f k l) (l) := by
  unfold laws_toIntS.f
  have hl := h.1
  refine Ev.ifpos (by omega) (Ev.ifpos (by omega) ?_)
  rw [Int.toNat_natCast]
  have key := copy_loop l id (fun i s k => laws_toIntS.l0 k l s (i : Int)) ?_ ?_ (List.replicate l.length 0) (by simp)
  · rw [List.map_id] at key; exact key
  · intro s
    refine Ev.step (fun k => by rw [laws_toIntS.l0]) ?_
    exact Ev.ifneg (by omega) (Ev.now _)
  · intro i hi s r hs hr
    refine Ev.step (fun k => by rw [laws_toIntS.l0]) ?_
    refine Ev.ifpos (by omega) (Ev.ifpos (by omega) ?_)
    refine Ev.ifpos (by omega) ?_
    rw [rd_get l i hi, wrap_succ (by omega), Int.toNat_natCast]
    exact hr
theorem sz_IntS (l : List Int) (hl : l.length ≤ maxLen) (s : Int) (h0 : 0 ≤ s) (h1 : s ≤ 1048576) : ∃ r : Int, laws_szIntS.f l s = some r ∧ (0 ≤ r → r ≤ s ∧ (smL (fun _ => True)) l) := by
  unfold maxLen at hl
  unfold laws_szIntS.f
  rw [wrap_in (by omega) (by omega)]
  by_cases h : s - (l.length : Int) < 0
  · exact ⟨-1, by rw [if_pos h], fun h => by omega⟩
  · exact ⟨s - (l.length : Int), by rw [if_neg h], fun _ => ⟨by omega, by omega, fun _ _ => trivial⟩⟩
def smS59 (x : S59) : Prop := (fun _ => True) x.f0 ∧ (smL (fun _ => True)) x.f1
theorem sz_Branch (x : S59) (hx : (fun x : S59 => okLen x.f1) x) (s : Int) (h0 : 0 ≤ s) (h1 : s ≤ 1048576) : ∃ r : Int, laws_szBranch.f x.f0 x.f1 s = some r ∧ (0 ≤ r → r ≤ s ∧ smS59 x) := by
  obtain ⟨q, hq, hq2⟩ := sz_IntS x.f1 hx s h0 h1
  unfold laws_szBranch.f
  rw [hq]
  simp only [Option.bind_some]
  by_cases hneg : q < 0
  · exact ⟨-1, by rw [if_pos hneg], fun h => by omega⟩
  · exact ⟨q, by rw [if_neg hneg], fun h => ⟨(hq2 h).1, have hs := (hq2 h).2; ⟨trivial, hs⟩⟩⟩
def c59_49 (x : S59) : S49 := ⟨x.f0, x.f1⟩
theorem to_Branch (x : S59) (h : smS59 x) : Ev (fun k => laws_toBranch.f k x.f0 x.f1) ((c59_49 x).f0, (c59_49 x).f1) := by
  unfold laws_toBranch.f
  exact Ev.bind (to_IntS x.f1 h.2) (Ev.now _)
def smS49 (x : S49) : Prop := (fun _ => True) x.f0 ∧ (smL (fun _ => True)) x.f1
theorem eq_Branch (x : S49) (h : smS49 x) : Ev (fun k => laws_eqBranch.f k x.f0 x.f1 x.f0 x.f1) true := by
  unfold laws_eqBranch.f
  refine Ev.ifpos rfl ?_
  refine Ev.bind (eq_IntS x.f1 (Nat.le_trans (h.2).1 (by decide))) (Ev.ifpos rfl ?_)
  exact Ev.now _
end Go.Proofs.Ytfmldgpebnnbbaa.Pure
/- Plain laws of the ordered list without repeats ('sortedF'): it rises strictly, it has the members of the list, it is the only such list; it is as long as the list if and only if the list has no repeats. No condition. -/
namespace Go.Proofs.Ytfmldgpebnnbbaa.Pure
open Go.RowKit Go.Proofs.Ytfmldgpebnnbbaa.Z Go.Proofs.YtfmldgpebnnbbaaW.PrintWords

theorem ms_perm (l : List Int) : (l.mergeSort fun x y => decide (x ≤ y)).Perm l := List.mergeSort_perm l _
theorem ms_pair (l : List Int) : (l.mergeSort fun x y => decide (x ≤ y)).Pairwise (fun x y => x ≤ y) := by
  have h := List.pairwise_mergeSort (le := fun x y : Int => decide (x ≤ y)) (fun a b c h1 h2 => by simp only [decide_eq_true_eq] at *; omega) (fun a b => by simp only [Bool.or_eq_true, decide_eq_true_eq]; omega) l
  exact h.imp (fun h => by simpa using h)

theorem getB (zs : List Int) (j : Nat) (h : j < zs.length) : zs.toArray[j]! = zs[j] := by simp [h]
theorem getB' (zs : List Int) (j : Nat) : zs.toArray[j]! = zs.getD j 0 := by
  by_cases h : j < zs.length
  · rw [getB zs j h, List.getD_eq_getElem?_getD, List.getElem?_eq_getElem h]; rfl
  · simp [h]

theorem keep_iff (zs : List Int) (j : Nat) : Lib.keeps zs.toArray j = true ↔ j = 0 ∨ zs.getD j 0 ≠ zs.getD (j - 1) 0 := by
  unfold Lib.keeps
  rw [decide_eq_true_iff, getB', getB']

theorem compact_eq (zs : List Int) : Lib.compact zs = ((List.range zs.length).filter fun j => Lib.keeps zs.toArray j).map (fun j => zs.getD j 0) := by
  unfold Lib.compact Lib.compactUpTo
  apply List.map_congr_left
  intro j _
  exact getB' zs j

theorem compact_mem (zs : List Int) (x : Int) : x ∈ Lib.compact zs ↔ x ∈ zs := by
  rw [compact_eq]
  simp only [List.mem_map, List.mem_filter, List.mem_range]
  constructor
  · rintro ⟨j, ⟨hj, _⟩, rfl⟩
    rw [List.getD_eq_getElem?_getD, List.getElem?_eq_getElem hj]
    exact List.getElem_mem hj
  · intro hx
    obtain ⟨j, hj, e⟩ := List.getElem_of_mem hx
    have key : ∀ j, j < zs.length → zs.getD j 0 = x → ∃ a, (a < zs.length ∧ Lib.keeps zs.toArray a = true) ∧ zs.getD a 0 = x := by
      intro j
      induction j with
      | zero => intro h e; exact ⟨0, ⟨h, (keep_iff zs 0).2 (Or.inl rfl)⟩, e⟩
      | succ j ih =>
        intro h e
        by_cases h2 : zs.getD (j + 1) 0 = zs.getD j 0
        · exact ih (by omega) (by rw [← h2]; exact e)
        · exact ⟨j + 1, ⟨h, (keep_iff zs _).2 (Or.inr h2)⟩, e⟩
    exact key j hj (by rw [List.getD_eq_getElem?_getD, List.getElem?_eq_getElem hj]; exact e)

theorem pair_get {zs : List Int} (h : zs.Pairwise (fun x y => x ≤ y)) {i j : Nat} (hij : i ≤ j) (hj : j < zs.length) : zs.getD i 0 ≤ zs.getD j 0 := by
  rw [List.getD_eq_getElem?_getD, List.getElem?_eq_getElem (by omega), List.getD_eq_getElem?_getD, List.getElem?_eq_getElem hj]
  rcases Nat.lt_or_ge i j with h1 | h1
  · exact (List.pairwise_iff_getElem.1 h) i j (by omega) hj h1
  · obtain rfl : i = j := by omega
    exact Int.le_refl _

theorem compact_rise {zs : List Int} (h : zs.Pairwise (fun x y => x ≤ y)) : (Lib.compact zs).Pairwise (fun x y => x < y) := by
  rw [compact_eq, List.pairwise_map]
  have h2 : ((List.range zs.length).filter fun j => Lib.keeps zs.toArray j).Pairwise (fun a b => a < b) := List.Pairwise.filter _ List.pairwise_lt_range
  refine h2.imp_of_mem (fun {a b} ha hb hab => ?_)
  simp only [List.mem_filter, List.mem_range] at ha hb
  rcases (keep_iff zs b).1 hb.2 with h0 | h0
  · omega
  · have h1 := pair_get h (i := a) (j := b - 1) (by omega) (by omega)
    have h3 := pair_get h (i := b - 1) (j := b) (by omega) hb.1
    omega

theorem sorted_rise (l : List Int) : (sortedF l).Pairwise (fun x y => x < y) := compact_rise (ms_pair l)
theorem sorted_mem (l : List Int) (x : Int) : x ∈ sortedF l ↔ x ∈ l := (compact_mem _ x).trans (ms_perm l).mem_iff

/-- Two lists that rise strictly and have the same members are one. -/
theorem rise_ext : ∀ {l m : List Int}, l.Pairwise (fun x y => x < y) → m.Pairwise (fun x y => x < y) → (∀ x, x ∈ l ↔ x ∈ m) → l = m
  | [], [], _, _, _ => rfl
  | [], b :: m, _, _, h => absurd ((h b).2 (List.mem_cons_self ..)) (by simp)
  | a :: l, [], _, _, h => absurd ((h a).1 (List.mem_cons_self ..)) (by simp)
  | a :: l, b :: m, hl, hm, h => by
    rw [List.pairwise_cons] at hl hm
    have e : a = b := by
      have h1 := (h a).1 (List.mem_cons_self ..)
      have h2 := (h b).2 (List.mem_cons_self ..)
      rcases List.mem_cons.1 h1 with h1 | h1
      · exact h1
      · rcases List.mem_cons.1 h2 with h2 | h2
        · exact h2.symm
        · have := hm.1 a h1
          have := hl.1 b h2
          omega
    subst e
    rw [rise_ext hl.2 hm.2 (fun x => ?_)]
    constructor
    · intro hx
      rcases List.mem_cons.1 ((h x).1 (List.mem_cons_of_mem _ hx)) with h1 | h1
      · subst h1
        exact absurd (hl.1 _ hx) (by omega)
      · exact h1
    · intro hx
      rcases List.mem_cons.1 ((h x).2 (List.mem_cons_of_mem _ hx)) with h1 | h1
      · subst h1
        exact absurd (hm.1 _ hx) (by omega)
      · exact h1

theorem sorted_eq {l m : List Int} (hm : m.Pairwise (fun x y => x < y)) (h : ∀ x, x ∈ m ↔ x ∈ l) : sortedF l = m := rise_ext (sorted_rise l) hm (fun x => (sorted_mem l x).trans (h x).symm)

theorem sorted_len_le (l : List Int) : (sortedF l).length ≤ l.length := by
  have h := Lib.compact_length_le (l.mergeSort fun x y => decide (x ≤ y))
  rw [(ms_perm l).length_eq] at h
  exact h

theorem sorted_len (l : List Int) : (sortedF l).length = l.length ↔ l.Nodup := by
  have hlen : (l.mergeSort fun x y => decide (x ≤ y)).length = l.length := (ms_perm l).length_eq
  rw [← (ms_perm l).nodup_iff]
  constructor
  · intro h
    unfold sortedF at h
    have hall : ∀ j, j < (l.mergeSort fun x y => decide (x ≤ y)).length → Lib.keeps (l.mergeSort fun x y => decide (x ≤ y)).toArray j = true := by
      rw [compact_eq, List.length_map, ← hlen] at h
      have h2 := List.length_filter_eq_length_iff.1 (h.trans List.length_range.symm)
      intro j hj
      exact h2 j (List.mem_range.2 hj)
    have e := Lib.compact_all _ hall
    rw [← e]
    exact (compact_rise (ms_pair l)).imp (fun h => by omega)
  · intro h
    have hs := ms_pair l
    unfold sortedF
    rw [Lib.compact_all, hlen]
    intro j hj
    rw [keep_iff]
    rcases Nat.eq_zero_or_pos j with h0 | h0
    · exact Or.inl h0
    · refine Or.inr ?_
      rw [List.getD_eq_getElem?_getD, List.getElem?_eq_getElem hj, List.getD_eq_getElem?_getD, List.getElem?_eq_getElem (by omega)]
      exact fun e => (List.pairwise_iff_getElem.1 h) (j - 1) j (by omega) hj (by omega) e.symm

end Go.Proofs.Ytfmldgpebnnbbaa.Pure
/- Plain laws: a number put into a rising list at its place; many put in one after another are the ordered list without repeats. No condition. -/
namespace Go.Proofs.Ytfmldgpebnnbbaa.Pure
open Go.RowKit Go.Proofs.Ytfmldgpebnnbbaa.Z Go.Proofs.YtfmldgpebnnbbaaW.PrintWords

/-- The first place whose number is not below x. -/
def posOf (x : Int) : List Int → Nat
  | [] => 0
  | y :: ys => if y < x then posOf x ys + 1 else 0
theorem posOf_le (x : Int) : ∀ l : List Int, posOf x l ≤ l.length
  | [] => Nat.le_refl _
  | y :: ys => by
    have := posOf_le x ys
    rw [posOf, List.length_cons]
    split <;> omega
theorem posOf_lt (x : Int) : ∀ (l : List Int) (p : Nat) (hp : p < l.length), p < posOf x l → l[p] < x
  | [], p, hp, _ => absurd hp (by simp)
  | y :: ys, p, hp, h => by
    rw [posOf] at h
    by_cases c : y < x
    · rw [if_pos c] at h
      match p, hp, h with
      | 0, _, _ => exact c
      | p + 1, hp, h => exact posOf_lt x ys p (by simpa using hp) (by omega)
    · rw [if_neg c] at h; omega
theorem posOf_at (x : Int) : ∀ (l : List Int) (h : posOf x l < l.length), ¬ l[posOf x l] < x
  | [], h => absurd h (by simp)
  | y :: ys, h => by
    by_cases c : y < x
    · have e : posOf x (y :: ys) = posOf x ys + 1 := by rw [posOf, if_pos c]
      simp only [e, List.getElem_cons_succ]
      exact posOf_at x ys (by rw [e] at h; simpa using h)
    · have e : posOf x (y :: ys) = 0 := by rw [posOf, if_neg c]
      simp only [e, List.getElem_cons_zero]
      exact c

/-- x put in at its place, if it is not there. -/
def ins (x : Int) (l : List Int) : List Int := if posOf x l < l.length ∧ l.getD (posOf x l) 0 = x then l else l.take (posOf x l) ++ ([x] ++ l.drop (posOf x l))
def insAll (out : List Int) (l : List Int) : List Int := l.foldl (fun o x => ins x o) out

theorem ins_length (x : Int) (l : List Int) : (ins x l).length ≤ l.length + 1 := by
  unfold ins
  split
  · omega
  · simp; omega

theorem ins_mem (x : Int) (l : List Int) (y : Int) : y ∈ ins x l ↔ y = x ∨ y ∈ l := by
  unfold ins
  split
  · rename_i h
    constructor
    · exact .inr
    · rintro (rfl | h2)
      · have : l.getD (posOf y l) 0 ∈ l := by
          rw [List.getD_eq_getElem?_getD, List.getElem?_eq_getElem h.1]
          exact List.getElem_mem _
        rwa [h.2] at this
      · exact h2
  · have e : y ∈ l ↔ y ∈ l.take (posOf x l) ∨ y ∈ l.drop (posOf x l) := by
      rw [← List.mem_append, List.take_append_drop]
    rw [e]
    simp only [List.mem_append, List.mem_singleton]
    constructor
    · rintro (h | h | h)
      · exact .inr (.inl h)
      · exact .inl h
      · exact .inr (.inr h)
    · rintro (h | h | h)
      · exact .inr (.inl h)
      · exact .inl h
      · exact .inr (.inr h)

theorem ins_rise (x : Int) (l : List Int) (h : l.Pairwise (fun x y => x < y)) : (ins x l).Pairwise (fun x y => x < y) := by
  unfold ins
  split
  · exact h
  · rename_i hc
    have h2 := h
    rw [← List.take_append_drop (posOf x l) l, List.pairwise_append] at h2
    obtain ⟨h3, h4, h5⟩ := h2
    have hlow : ∀ a ∈ l.take (posOf x l), a < x := by
      intro a ha
      obtain ⟨i, hi, rfl⟩ := List.getElem_of_mem ha
      rw [List.length_take] at hi
      rw [List.getElem_take]
      exact posOf_lt x l i (by omega) (by omega)
    have hhigh : ∀ b ∈ l.drop (posOf x l), x < b := by
      intro b hb
      by_cases hl : posOf x l < l.length
      · have h6 : ¬ l[posOf x l] < x := posOf_at x l hl
        have h7 : l[posOf x l] ≠ x := fun e => hc ⟨hl, by rw [List.getD_eq_getElem?_getD, List.getElem?_eq_getElem hl]; exact e⟩
        rw [drop_get l _ hl] at hb h4
        rw [List.pairwise_cons] at h4
        rcases List.mem_cons.1 hb with rfl | hb
        · omega
        · have := h4.1 b hb
          omega
      · rw [List.drop_of_length_le (by omega)] at hb
        exact absurd hb (by simp)
    rw [List.pairwise_append, List.singleton_append, List.pairwise_cons]
    refine ⟨h3, ⟨fun b hb => hhigh b hb, h4⟩, fun a ha b hb => ?_⟩
    rcases List.mem_cons.1 hb with rfl | hb
    · exact hlow a ha
    · exact h5 a ha b hb

theorem insAll_spec : ∀ (l out : List Int), out.Pairwise (fun x y => x < y) → (insAll out l).Pairwise (fun x y => x < y) ∧ ∀ y, y ∈ insAll out l ↔ y ∈ out ∨ y ∈ l
  | [], out, h => ⟨h, fun y => by simp [insAll]⟩
  | x :: l, out, h => by
    obtain ⟨h1, h2⟩ := insAll_spec l (ins x out) (ins_rise x out h)
    refine ⟨h1, fun y => ?_⟩
    show y ∈ insAll (ins x out) l ↔ _
    rw [h2 y, ins_mem, List.mem_cons]
    constructor
    · rintro ((h | h) | h)
      · exact .inr (.inl h)
      · exact .inl h
      · exact .inr (.inr h)
    · rintro (h | h | h)
      · exact .inl (.inr h)
      · exact .inl (.inl h)
      · exact .inr h

theorem insAll_sorted (l : List Int) : insAll [] l = sortedF l := by
  obtain ⟨h1, h2⟩ := insAll_spec l [] List.Pairwise.nil
  exact (sorted_eq h1 (fun x => by rw [h2 x]; simp)).symm

theorem insAll_append (out a b : List Int) : insAll out (a ++ b) = insAll (insAll out a) b := by unfold insAll; rw [List.foldl_append]

/-- A loop that looks for the place. -/
theorem pos_loop {β : Type} (x : Int) (out : List Int) (G : Nat → Nat → Option β) (r : β) (hend : Ev (G (posOf x out)) r) (hskip : ∀ p (hp : p < out.length), out[p] < x → Ev (G (p + 1)) r → Ev (G p) r) : Ev (G 0) r :=
  Ev.up0 (posOf x out) G (fun _ => r) hend (fun p hp ih => hskip p (by have := posOf_le x out; omega) (posOf_lt x out p (by have := posOf_le x out; omega) hp) ih) 0 (Nat.zero_le _)

end Go.Proofs.Ytfmldgpebnnbbaa.Pure
/- Plain lemma: a loop that goes on while the elements are well. No condition. -/
namespace Go.Proofs.Ytfmldgpebnnbbaa.Pure
open Go.RowKit Go.Proofs.YtfmldgpebnnbbaaW.PrintWords

theorem all_step {α : Type} (p : α → Bool) (xs : List α) (G : Nat → Nat → Option Bool) (r0 : Bool) (hend : Ev (G xs.length) r0) (hstep : ∀ i (hi : i < xs.length) r, Ev (G (i + 1)) r → Ev (G i) (p xs[i] && r)) : Ev (G 0) (xs.all p && r0) := by
  have key := Ev.up0 xs.length G (fun i => (xs.drop i).all p && r0)
    (by rw [List.drop_of_length_le (Nat.le_refl _)]; simpa using hend)
    (fun i hi ih => by
      rw [drop_get xs i hi, List.all_cons, Bool.and_assoc]
      exact hstep i hi _ ih) 0 (Nat.zero_le _)
  simpa using key

/-- The same over the places. -/
theorem all_places (n : Nat) (p : Nat → Bool) (G : Nat → Nat → Option Bool) (r0 : Bool) (hend : Ev (G n) r0) (hstep : ∀ i, i < n → ∀ r, Ev (G (i + 1)) r → Ev (G i) (p i && r)) : Ev (G 0) ((List.range n).all p && r0) := by
  refine all_step p (List.range n) G r0 (by rw [List.length_range]; exact hend) (fun i hi r hr => ?_)
  rw [List.getElem_range]
  exact hstep i (by simpa using hi) r hr

end Go.Proofs.Ytfmldgpebnnbbaa.Pure
/- Plain lemma: what the reference's range test answers. No condition. -/
namespace Go.Proofs.Ytfmldgpebnnbbaa.Pure
open Go.RowKit Go.Proofs.Ytfmldgpebnnbbaa.Z Go.Proofs.YtfmldgpebnnbbaaW.PrintWords

theorem spec_in (n a b : Int) : spec_l1In.f n a b = some (decide (a ≤ n ∧ n ≤ b)) := by
  unfold spec_l1In.f
  by_cases h : a ≤ n <;> simp [h]

end Go.Proofs.Ytfmldgpebnnbbaa.Pure
/- Plain lemmas: loops that search. No condition. -/
namespace Go.Proofs.Ytfmldgpebnnbbaa.Pure
open Go.RowKit Go.Proofs.Ytfmldgpebnnbbaa.Z Go.Proofs.YtfmldgpebnnbbaaW.PrintWords

theorem firstAt_cons {α : Type} (p : α → Bool) (x : α) (xs : List α) : firstAt p (x :: xs) = if p x = true then 0 else if firstAt p xs < 0 then -1 else firstAt p xs + 1 := by
  unfold firstAt
  rw [List.findIdx_cons]
  cases h : p x
  · simp only [cond_false, List.length_cons, Bool.false_eq_true, if_false]
    by_cases h2 : xs.findIdx p < xs.length
    · rw [if_pos (by omega), if_pos h2, if_neg (by omega)]
      omega
    · rw [if_neg (by omega), if_neg h2]
      simp
  · simp

/-- A loop that searches from the front comes to the first place. -/
theorem first_loop {α : Type} (p : α → Bool) (xs : List α) (G : Nat → Nat → Option Int) (hend : Ev (G xs.length) (-1)) (hhit : ∀ i (hi : i < xs.length), p xs[i] = true → Ev (G i) (i : Int))
    (hmiss : ∀ i (hi : i < xs.length) r, p xs[i] = false → Ev (G (i + 1)) r → Ev (G i) r) : Ev (G 0) (firstAt p xs) := by
  have key := Ev.up0 xs.length G (fun i => if firstAt p (xs.drop i) < 0 then -1 else firstAt p (xs.drop i) + (i : Int))
    (by rw [List.drop_of_length_le (Nat.le_refl _)]; simpa [firstAt] using hend)
    (fun i hi ih => by
      rw [drop_get xs i hi, firstAt_cons]
      cases h : p xs[i]
      · simp only [Bool.false_eq_true, if_false]
        refine hmiss i hi _ h ?_
        by_cases h2 : firstAt p (xs.drop (i + 1)) < 0
        · rw [if_pos h2, if_pos (by omega)]
          rwa [if_pos h2] at ih
        · rw [if_neg h2, if_neg (by omega)]
          rw [if_neg h2] at ih
          have e : firstAt p (xs.drop (i + 1)) + ((i + 1 : Nat) : Int) = firstAt p (xs.drop (i + 1)) + 1 + (i : Int) := by omega
          rwa [e] at ih
      · simp only [if_true]
        rw [if_neg (by omega)]
        have := hhit i hi h
        simpa using this) 0 (Nat.zero_le _)
  rw [List.drop_zero] at key
  by_cases h : firstAt p xs < 0
  · have e : firstAt p xs = -1 := by
      unfold firstAt at h ⊢
      split at h
      · omega
      · rename_i h2; rw [if_neg h2]
    rw [if_pos h] at key
    rw [e]
    exact key
  · rw [if_neg h] at key
    simpa using key

/-- A loop that asks whether one holds. -/
theorem any_loop {α : Type} (p : α → Bool) (xs : List α) (G : Nat → Nat → Option Bool) (hend : Ev (G xs.length) false) (hhit : ∀ i (hi : i < xs.length), p xs[i] = true → Ev (G i) true)
    (hmiss : ∀ i (hi : i < xs.length) r, p xs[i] = false → Ev (G (i + 1)) r → Ev (G i) r) : Ev (G 0) (xs.any p) := by
  have key := Ev.up0 xs.length G (fun i => (xs.drop i).any p)
    (by rw [List.drop_of_length_le (Nat.le_refl _)]; simpa using hend)
    (fun i hi ih => by
      rw [drop_get xs i hi, List.any_cons]
      cases h : p xs[i]
      · simpa using hmiss i hi _ h ih
      · simpa using hhit i hi h) 0 (Nat.zero_le _)
  simpa using key

/-- A loop that asks whether all hold. -/
theorem all_loop {α : Type} (p : α → Bool) (xs : List α) (G : Nat → Nat → Option Bool) (r0 : Bool) (hend : Ev (G xs.length) r0) (hbad : ∀ i (hi : i < xs.length), p xs[i] = false → Ev (G i) false)
    (hgood : ∀ i (hi : i < xs.length) r, p xs[i] = true → Ev (G (i + 1)) r → Ev (G i) r) : Ev (G 0) (xs.all p && r0) := by
  have key := Ev.up0 xs.length G (fun i => (xs.drop i).all p && r0)
    (by rw [List.drop_of_length_le (Nat.le_refl _)]; simpa using hend)
    (fun i hi ih => by
      rw [drop_get xs i hi, List.all_cons]
      cases h : p xs[i]
      · simpa using hbad i hi h
      · simpa using hgood i hi _ h ih) 0 (Nat.zero_le _)
  simpa using key

end Go.Proofs.Ytfmldgpebnnbbaa.Pure
/- Plain lemma: the reference's search in a list of numbers. Condition: the list is not longer than a list can be. -/
namespace Go.Proofs.Ytfmldgpebnnbbaa.Pure
open Go.RowKit Go.Proofs.Ytfmldgpebnnbbaa.Z Go.Proofs.YtfmldgpebnnbbaaW.PrintWords

theorem spec_has (l : List Int) (x : Int) (hl : l.length ≤ 9223372036854775806) : Ev (fun k => spec_l7Has.f k l x) (l.any fun y => decide (y = x)) := by
  unfold spec_l7Has.f
  refine any_loop (fun y => decide (y = x)) l (fun i k => spec_l7Has.l0 k l x (i : Int)) ?_ ?_ ?_
  · refine Ev.step (fun k => by rw [spec_l7Has.l0]) ?_
    exact Ev.ifneg (by omega) (Ev.now _)
  · intro i hi h
    refine Ev.step (fun k => by rw [spec_l7Has.l0]) ?_
    refine Ev.ifpos (by omega) (Ev.ifpos (by omega) ?_)
    rw [rd_get l i hi]
    exact Ev.ifpos (of_decide_eq_true h) (Ev.now _)
  · intro i hi r h hr
    refine Ev.step (fun k => by rw [spec_l7Has.l0]) ?_
    refine Ev.ifpos (by omega) (Ev.ifpos (by omega) ?_)
    rw [rd_get l i hi, wrap_succ (by omega)]
    exact Ev.ifneg (of_decide_eq_false h) hr

end Go.Proofs.Ytfmldgpebnnbbaa.Pure
/- Plain law: a list has no repeats if no element stands among those before it. No condition. -/
namespace Go.Proofs.Ytfmldgpebnnbbaa.Pure
open Go.RowKit Go.Proofs.YtfmldgpebnnbbaaW.PrintWords

def dupOf (p : List Int) (i : Nat) : Bool := (p.take i).any fun y => decide (y = p.getD i 0)
theorem dupOf_get (p : List Int) (i : Nat) (h : i < p.length) : dupOf p i = (p.take i).any fun y => decide (y = p[i]) := by
  unfold dupOf
  rw [List.getD_eq_getElem?_getD, List.getElem?_eq_getElem h]
  rfl
theorem dupOf_iff (p : List Int) (i : Nat) (h : i < p.length) : dupOf p i = true ↔ ∃ j, ∃ hj : j < i, p[j] = p[i] := by
  rw [dupOf_get p i h, List.any_eq_true]
  constructor
  · rintro ⟨x, hx, e⟩
    obtain ⟨j, hj, e2⟩ := List.getElem_of_mem hx
    rw [List.length_take] at hj
    refine ⟨j, by omega, ?_⟩
    rw [List.getElem_take] at e2
    rw [e2]
    exact of_decide_eq_true e
  · rintro ⟨j, hj, e⟩
    refine ⟨p[j], ?_, decide_eq_true e⟩
    have : (p.take i)[j]'(by rw [List.length_take]; omega) = p[j] := List.getElem_take
    rw [← this]
    exact List.getElem_mem _
theorem nodup_iff_dup (p : List Int) : p.Nodup ↔ ∀ i, i < p.length → dupOf p i = false := by
  constructor
  · intro h i hi
    rw [Bool.eq_false_iff]
    intro hd
    obtain ⟨j, hj, e⟩ := (dupOf_iff p i hi).1 hd
    exact (List.pairwise_iff_getElem.1 h) j i (by omega) hi hj e
  · intro h
    refine List.pairwise_iff_getElem.2 (fun i j hi hj hij e => ?_)
    have h1 := h j hj
    rw [Bool.eq_false_iff] at h1
    exact h1 ((dupOf_iff p j hj).2 ⟨i, hij, e⟩)

end Go.Proofs.Ytfmldgpebnnbbaa.Pure
/- Plain lemma: what the program's allIn answers. Condition: the list is not longer than a list can be. -/
namespace Go.Proofs.Ytfmldgpebnnbbaa.Pure
open Go.RowKit Go.Proofs.Ytfmldgpebnnbbaa.Z Go.Proofs.YtfmldgpebnnbbaaW.PrintWords

theorem impl_allIn (l : List Int) (a b : Int) (hl : l.length ≤ 9223372036854775807) : Ev (fun k => impl_allIn.f k l a b) (l.all fun n => decide (a ≤ n ∧ n ≤ b)) := by
  unfold impl_allIn.f
  have key := all_loop (fun n : Int => decide (a ≤ n ∧ n ≤ b)) l (fun i k => impl_allIn.l0 k a b l (l.length : Int) (i : Int)) true ?_ ?_ ?_
  · simpa using key
  · refine Ev.step (fun k => by rw [impl_allIn.l0]) ?_
    exact Ev.ifneg (by omega) (Ev.now _)
  · intro i hi h
    refine Ev.step (fun k => by rw [impl_allIn.l0]) ?_
    refine Ev.ifpos (by omega) (Ev.ifpos (by omega) (Ev.ifpos (by omega) ?_))
    rw [rd_get l i hi]
    refine Ev.bind0 (a := false) ?_ (Ev.ifneg (by decide) (Ev.now _))
    simp only [decide_eq_false_iff_not] at h
    unfold impl_InRange.f
    by_cases h1 : a ≤ l[i]
    · rw [if_pos h1]
      simp only [Option.some.injEq, decide_eq_false_iff_not]
      omega
    · rw [if_neg h1]
  · intro i hi r h hr
    refine Ev.step (fun k => by rw [impl_allIn.l0]) ?_
    refine Ev.ifpos (by omega) (Ev.ifpos (by omega) (Ev.ifpos (by omega) ?_))
    rw [rd_get l i hi]
    simp only [decide_eq_true_eq] at h
    refine Ev.bind0 (a := true) ?_ (Ev.ifpos rfl ?_)
    · unfold impl_InRange.f
      rw [if_pos h.1]
      simp [h.2]
    · rw [wrap_succ (by omega)]
      exact hr

end Go.Proofs.Ytfmldgpebnnbbaa.Pure
/- Plain lemma: what the reference's and the program's IsBranch answer. Condition: the list is not longer than a list can be. -/
namespace Go.Proofs.Ytfmldgpebnnbbaa.Pure
open Go.RowKit Go.Proofs.Ytfmldgpebnnbbaa.Z Go.Proofs.YtfmldgpebnnbbaaW.PrintWords

def isBranch (n : Int) (l : List Int) : Bool := (List.range l.length).all (fun i => decide (0 ≤ l.getD i 0 ∧ l.getD i 0 ≤ 7) && !dupOf l i) && (decide (0 ≤ n ∧ n ≤ 7) && decide (1 ≤ (l.length : Int) ∧ (l.length : Int) ≤ 4))

theorem spec_isBranch (n : Int) (l : List Int) (hl : l.length ≤ 9223372036854775806) : Ev (fun k => spec_IsBranch.f k n l) (isBranch n l) := by
  unfold spec_IsBranch.f isBranch
  refine all_places l.length _ (fun i k => spec_IsBranch.l0 k (i : Int) n l) _ ?_ ?_
  · refine Ev.step (fun k => by rw [spec_IsBranch.l0]) ?_
    refine Ev.ifneg (by omega) (Ev.bind0 (spec_in _ _ _) ?_)
    cases decide (0 ≤ n ∧ n ≤ 7)
    · exact Ev.ifneg (by decide) (Ev.now _)
    · exact Ev.ifpos rfl (Ev.bind0 (spec_in _ _ _) (Ev.now _))
  · intro i hi r hr
    refine Ev.step (fun k => by rw [spec_IsBranch.l0]) ?_
    refine Ev.ifpos (by omega) (Ev.ifpos (by omega) ?_)
    rw [rd_nat]
    refine Ev.bind0 (spec_in _ _ _) ?_
    cases decide (0 ≤ l.getD i 0 ∧ l.getD i 0 ≤ 7)
    · exact Ev.ifneg (by decide) (Ev.now _)
    · refine Ev.ifpos rfl (Ev.ifpos (by omega) ?_)
      rw [Int.toNat_natCast, wrap_succ (by omega)]
      refine Ev.bind (spec_has (l.take i) _ (by rw [List.length_take]; omega)) ?_
      show Ev (fun k => if dupOf l i = true then some false else _) _
      cases dupOf l i
      · refine Ev.ifneg (by decide) ?_
        simpa using hr
      · exact Ev.ifpos rfl (Ev.now _)

theorem branch_at (i n : Int) : impl_at.f i n = some (decide (0 ≤ i ∧ i < n)) := by
  unfold impl_at.f
  by_cases h : 0 ≤ i
  · rw [if_pos (by omega)]
    simp [h]
  · rw [if_neg (by omega)]
    simp [h]
theorem branch_in (n a b : Int) : impl_InRange.f n a b = some (decide (a ≤ n ∧ n ≤ b)) := by
  unfold impl_InRange.f
  by_cases h1 : a ≤ n <;> by_cases h2 : n ≤ b <;> simp [h1, h2] <;> omega

theorem isBranch_iff (n : Int) (l : List Int) : isBranch n l = (decide (1 ≤ (l.length : Int) ∧ (l.length : Int) ≤ 4) && (decide ((sortedF l).length = l.length) && (decide (0 ≤ n ∧ n < 8) && l.all fun x => decide (0 ≤ x ∧ x ≤ 7)))) := by
  rw [Bool.eq_iff_iff]
  unfold isBranch
  simp only [Bool.and_eq_true, List.all_eq_true, List.mem_range, decide_eq_true_eq, Bool.not_eq_true', sorted_len, nodup_iff_dup]
  constructor
  · rintro ⟨h1, h2, h3⟩
    refine ⟨h3, fun i hi => (h1 i hi).2, by omega, fun x hx => ?_⟩
    obtain ⟨i, hi, rfl⟩ := List.getElem_of_mem hx
    have := (h1 i hi).1
    rwa [List.getD_eq_getElem?_getD, List.getElem?_eq_getElem hi] at this
  · rintro ⟨h1, h2, h3, h4⟩
    refine ⟨fun i hi => ⟨?_, h2 i hi⟩, by omega, h1⟩
    rw [List.getD_eq_getElem?_getD, List.getElem?_eq_getElem hi]
    exact h4 _ (List.getElem_mem hi)

theorem impl_isBranch (n : Int) (l : List Int) (hl : l.length ≤ 17592186044416) : Ev (fun k => impl_IsBranch.f k n l) (isBranch n l) := by
  rw [isBranch_iff]
  unfold impl_IsBranch.f
  refine Ev.bind0 (branch_in _ _ _) ?_
  cases decide (1 ≤ (l.length : Int) ∧ (l.length : Int) ≤ 4)
  · exact Ev.ifneg (by decide) (Ev.now _)
  · refine Ev.ifpos rfl (Ev.bind0 (a := sortedF l) (by unfold impl_sorted.f; rw [if_pos hl]) ?_)
    by_cases h : (sortedF l).length = l.length
    · rw [decide_eq_true h]
      refine Ev.ifpos (by omega) (Ev.bind0 (branch_at _ _) ?_)
      cases decide (0 ≤ n ∧ n < 8)
      · exact Ev.ifneg (by decide) (Ev.now _)
      · exact Ev.ifpos rfl (Ev.bind (impl_allIn l 0 7 (by omega)) (Ev.now _))
    · rw [decide_eq_false h]
      exact Ev.ifneg (by omega) (Ev.now _)

end Go.Proofs.Ytfmldgpebnnbbaa.Pure
/- Plain lemma: what the reference's and the program's NextFor answer. Condition: the list is not longer than a list can be. -/
namespace Go.Proofs.Ytfmldgpebnnbbaa.Pure
open Go.RowKit Go.Proofs.Ytfmldgpebnnbbaa.Z Go.Proofs.YtfmldgpebnnbbaaW.PrintWords

def modF (x : Int) : Int := Int.tmod (wrap64 (Int.tmod x 2147483647 + 2147483647)) 2147483647
theorem modF_range (x : Int) : 0 ≤ modF x ∧ modF x < 2147483647 := by
  have h1 := Int.tmod_lt_of_pos x (b := 2147483647) (by decide)
  have h2 := Int.lt_tmod_of_pos x (b := 2147483647) (by decide)
  unfold modF
  rw [wrap_in (by omega) (by omega), Int.tmod_eq_emod_of_nonneg (by omega)]
  omega
def hashStep (h x : Int) : Int := Int.tmod (wrap64 (wrap64 (wrap64 (h * 1000003) + modF x) + 13)) 2147483647
theorem hashStep_range (h x : Int) (h0 : 0 ≤ h) (h1 : h < 2147483647) : 0 ≤ hashStep h x ∧ hashStep h x < 2147483647 := by
  have := modF_range x
  unfold hashStep
  rw [wrap_in (n := h * 1000003) (by omega) (by omega), wrap_in (n := h * 1000003 + modF x) (by omega) (by omega), wrap_in (by omega) (by omega), Int.tmod_eq_emod_of_nonneg (by omega)]
  omega
def hashF (l : List Int) : Int := l.foldl hashStep 11
theorem fold_range (l : List Int) : ∀ h : Int, 0 ≤ h → h < 2147483647 → 0 ≤ l.foldl hashStep h ∧ l.foldl hashStep h < 2147483647 := by
  induction l with
  | nil => intro h h0 h1; exact ⟨h0, h1⟩
  | cons x l ih => intro h h0 h1; have := hashStep_range h x h0 h1; exact ih _ this.1 this.2
theorem hashF_range (l : List Int) : 0 ≤ hashF l ∧ hashF l < 2147483647 := fold_range l 11 (by decide) (by decide)

theorem spec_mod (x : Int) : spec_Mod.f x 2147483647 = some (modF x) := by
  unfold spec_Mod.f
  rw [spec_in]
  rfl
theorem impl_mod (x : Int) : impl_Mod.f x 2147483647 = some (modF x) := by
  unfold impl_Mod.f
  rw [branch_in]
  rfl

theorem spec_hash (l : List Int) (hl : l.length ≤ 9223372036854775806) : Ev (fun k => spec_Hash.f k l) (hashF l) := by
  unfold spec_Hash.f hashF
  refine Ev.up l.length (fun i (s : Int) k => spec_Hash.l0 k l s (i : Int)) (fun i s => (l.drop i).foldl hashStep s) (fun _ _ => True) ?_ ?_ 0 11 (Nat.zero_le _) trivial
  · intro s _
    rw [List.drop_of_length_le (Nat.le_refl _)]
    refine Ev.step (fun k => by rw [spec_Hash.l0]) ?_
    exact Ev.ifneg (by omega) (Ev.now _)
  · intro i s hi _ ih
    rw [drop_get _ i hi, List.foldl_cons]
    refine Ev.step (fun k => by rw [spec_Hash.l0]) ?_
    refine Ev.ifpos (by omega) (Ev.ifpos (by omega) ?_)
    rw [rd_get l i hi, wrap_succ (by omega)]
    exact Ev.bind0 (spec_mod _) (ih _ trivial)

theorem impl_hash (l : List Int) (hl : l.length ≤ 9223372036854775806) : Ev (fun k => impl_Hash.f k l) (hashF l) := by
  unfold impl_Hash.f hashF
  refine Ev.up l.length (fun i (s : Int) k => impl_Hash.l0 k s l (l.length : Int) (i : Int)) (fun i s => (l.drop i).foldl hashStep s) (fun _ _ => True) ?_ ?_ 0 11 (Nat.zero_le _) trivial
  · intro s _
    rw [List.drop_of_length_le (Nat.le_refl _)]
    refine Ev.step (fun k => by rw [impl_Hash.l0]) ?_
    exact Ev.ifneg (by omega) (Ev.now _)
  · intro i s hi _ ih
    rw [drop_get _ i hi, List.foldl_cons]
    refine Ev.step (fun k => by rw [impl_Hash.l0]) ?_
    refine Ev.ifpos (by omega) (Ev.ifpos (by omega) (Ev.ifpos (by omega) ?_))
    rw [rd_get l i hi, wrap_succ (by omega)]
    exact Ev.bind0 (impl_mod _) (ih _ trivial)

/-- The place in a list of n at which the key a leads, at the branch b. -/
def placeOf (b a n : Int) : Int := Int.tmod (hashF [b, a]) n
theorem placeOf_range (b a n : Int) (hn : 1 ≤ n) : 0 ≤ placeOf b a n ∧ placeOf b a n < n := by
  have h := hashF_range [b, a]
  unfold placeOf
  rw [Int.tmod_eq_emod_of_nonneg h.1]
  exact ⟨Int.emod_nonneg _ (by omega), Int.emod_lt_of_pos _ (by omega)⟩
def nextFor (b : Int) (l : List Int) (a : Int) : Int := if isBranch b l = true then (if 0 ≤ a ∧ a ≤ 9999 then rd l (placeOf b a l.length) else -1) else -1

theorem branch_len {b : Int} {l : List Int} (h : isBranch b l = true) : 1 ≤ (l.length : Int) ∧ (l.length : Int) ≤ 4 := by
  unfold isBranch at h
  simp only [Bool.and_eq_true, decide_eq_true_eq] at h
  exact h.2.2

theorem spec_nextFor (b : Int) (l : List Int) (a : Int) (hl : l.length ≤ 9223372036854775806) : Ev (fun k => spec_NextFor.f k b l a) (nextFor b l a) := by
  unfold spec_NextFor.f nextFor
  refine Ev.bind (spec_isBranch b l hl) ?_
  by_cases hb : isBranch b l = true
  · rw [if_pos hb]
    refine Ev.ifpos hb (Ev.bind0 (spec_in _ _ _) ?_)
    by_cases h : 0 ≤ a ∧ a ≤ 9999
    · rw [if_pos h, decide_eq_true h]
      have hlen := branch_len hb
      have hp := placeOf_range b a l.length hlen.1
      have hm : spec_Mod.f (hashF [b, a]) l.length = some (placeOf b a l.length) := by
        unfold spec_Mod.f
        rw [spec_in]
        refine (congrArg (fun z => z) rfl).trans ?_
        rw [Option.bind_some, decide_eq_true (show 1 ≤ (l.length : Int) ∧ (l.length : Int) ≤ 1000000000000 by omega), if_pos rfl, if_neg (by omega)]
        congr 1
        show Int.tmod (wrap64 (placeOf b a l.length + l.length)) l.length = placeOf b a l.length
        rw [wrap_in (by omega) (by omega), Int.tmod_eq_emod_of_nonneg (by omega)]
        rw [Int.add_emod_right]
        exact Int.emod_eq_of_lt hp.1 hp.2
      refine Ev.step (fun k => by rw [spec_NextFor.j0]) ?_
      refine Ev.ifneg (by decide) (Ev.bind (spec_hash [b, a] (by simp)) (Ev.bind0 hm ?_))
      exact Ev.ifpos hp.1 (Ev.ifpos hp.2 (Ev.now _))
    · rw [if_neg h, decide_eq_false h]
      refine Ev.step (fun k => by rw [spec_NextFor.j0]) ?_
      exact Ev.ifpos rfl (Ev.now _)
  · rw [if_neg hb]
    refine Ev.ifneg hb ?_
    refine Ev.step (fun k => by rw [spec_NextFor.j0]) ?_
    exact Ev.ifpos rfl (Ev.now _)

theorem impl_nextFor (b : Int) (l : List Int) (a : Int) (hl : l.length ≤ 17592186044416) : Ev (fun k => impl_NextFor.f k b l a) (nextFor b l a) := by
  unfold impl_NextFor.f nextFor
  refine Ev.bind (impl_isBranch b l hl) ?_
  by_cases hb : isBranch b l = true
  · rw [if_pos hb]
    refine Ev.ifpos hb (Ev.bind0 (branch_in _ _ _) ?_)
    by_cases h : 0 ≤ a ∧ a ≤ 9999
    · rw [if_pos h]
      have hlen := branch_len hb
      have hp := placeOf_range b a l.length hlen.1
      refine Ev.ifpos (decide_eq_true h) (Ev.bind (impl_hash [b, a] (by simp)) ?_)
      exact Ev.ifneg (by omega) (Ev.ifpos hp.1 (Ev.ifpos hp.2 (Ev.now _)))
    · rw [if_neg h]
      exact Ev.ifneg (by rw [decide_eq_true_iff]; exact h) (Ev.now _)
  · rw [if_neg hb]
    exact Ev.ifneg hb (Ev.now _)

end Go.Proofs.Ytfmldgpebnnbbaa.Pure
/- Plain lemma: the next nodes that flows show, as the reference and the program list them. Condition: the lists are not longer than the law's can be. -/
namespace Go.Proofs.Ytfmldgpebnnbbaa.Pure
open Go.RowKit Go.Proofs.Ytfmldgpebnnbbaa.Z Go.Proofs.YtfmldgpebnnbbaaW.PrintWords

/-- What flows show: the next nodes of those that have one. -/
def nextsOf (b : Int) (l : List Int) (fs : List Int) : List Int := (fs.map (nextFor b l)).filter fun n => decide (0 ≤ n)

theorem nextFor_in {b : Int} {l : List Int} (h : isBranch b l = true) (a : Int) (ha : 0 ≤ a ∧ a ≤ 9999) : nextFor b l a ∈ l ∧ 0 ≤ nextFor b l a := by
  have hl := branch_len h
  have hr := placeOf_range b a l.length hl.1
  unfold nextFor
  rw [if_pos h, if_pos ha]
  obtain ⟨j, hj⟩ : ∃ j : Nat, placeOf b a (l.length : Int) = (j : Int) := ⟨(placeOf b a (l.length : Int)).toNat, by omega⟩
  rw [hj, rd_get l j (by omega)]
  refine ⟨List.getElem_mem _, ?_⟩
  unfold isBranch at h
  simp only [Bool.and_eq_true, List.all_eq_true, List.mem_range] at h
  have h2 := (h.1 j (by omega)).1
  rw [List.getD_eq_getElem?_getD, List.getElem?_eq_getElem (by omega)] at h2
  have := of_decide_eq_true h2
  exact this.1

theorem nextFor_lo (b : Int) (l : List Int) (a : Int) : nextFor b l a = -1 ∨ 0 ≤ nextFor b l a := by
  by_cases h : isBranch b l = true
  · by_cases ha : 0 ≤ a ∧ a ≤ 9999
    · exact .inr (nextFor_in h a ha).2
    · exact .inl (by unfold nextFor; rw [if_pos h, if_neg ha])
  · exact .inl (by unfold nextFor; rw [if_neg h])

theorem spec_nexts_from (b : Int) (l : List Int) (hl : l.length ≤ 1048576) (fs : List Int) (hf : fs.length ≤ 1048576) : ∀ (i : Nat) (out : List Int), i ≤ fs.length → out.length ≤ i → Ev (fun k => spec_SeenNexts.l0 k fs out (i : Int) b l) (insAll out (nextsOf b l (fs.drop i))) := by
  refine Ev.up fs.length (fun i (out : List Int) k => spec_SeenNexts.l0 k fs out (i : Int) b l) (fun i out => insAll out (nextsOf b l (fs.drop i))) (fun i out => out.length ≤ i) ?_ ?_
  · intro out _
    rw [List.drop_of_length_le (Nat.le_refl _)]
    refine Ev.step (fun k => by rw [spec_SeenNexts.l0]) ?_
    exact Ev.ifneg (by omega) (Ev.now _)
  · intro i out hi ho ih
    rw [drop_get fs i hi]
    refine Ev.step (fun k => by rw [spec_SeenNexts.l0]) ?_
    refine Ev.ifpos (by omega) (Ev.ifpos (by omega) ?_)
    rw [rd_get fs i hi]
    refine Ev.bind (spec_nextFor b l fs[i] (by omega)) ?_
    have hlo := nextFor_lo b l fs[i]
    by_cases hneg : nextFor b l fs[i] < 0
    · have e : nextsOf b l (fs[i] :: fs.drop (i + 1)) = nextsOf b l (fs.drop (i + 1)) := by
        unfold nextsOf
        rw [List.map_cons, List.filter_cons_of_neg (by rw [decide_eq_true_iff]; omega)]
      rw [e, wrap_succ (i := i) (by omega)]
      exact Ev.ifpos hneg (ih out (by omega))
    · have e : nextsOf b l (fs[i] :: fs.drop (i + 1)) = nextFor b l fs[i] :: nextsOf b l (fs.drop (i + 1)) := by
        unfold nextsOf
        rw [List.map_cons, List.filter_cons_of_pos (by rw [decide_eq_true_iff]; omega)]
      rw [e]
      refine Ev.ifneg hneg ?_
      show Ev _ (insAll (ins (nextFor b l fs[i]) out) (nextsOf b l (fs.drop (i + 1))))
      have hnext := ih (ins (nextFor b l fs[i]) out) (by have := ins_length (nextFor b l fs[i]) out; omega)
      generalize nextFor b l fs[i] = x at hnext ⊢
      generalize insAll (ins x out) (nextsOf b l (fs.drop (i + 1))) = r at hnext ⊢
      refine pos_loop x out (fun p k => spec_SeenNexts.l1 k fs out (i : Int) x (p : Int) b l) r ?_ ?_
      · have hle := posOf_le x out
        refine Ev.step (fun k => by rw [spec_SeenNexts.l1]) ?_
        rw [wrap_succ (i := i) (by omega)]
        by_cases hl : posOf x out < out.length
        · have hat := posOf_at x out hl
          refine Ev.ifpos (by omega) (Ev.ifpos (by omega) ?_)
          rw [rd_get out _ hl]
          refine Ev.ifneg hat (Ev.ifneg (by omega) ?_)
          by_cases he : out[posOf x out] = x
          · refine Ev.ifpos he ?_
            have e : ins x out = out := by unfold ins; rw [if_pos ⟨hl, by rw [List.getD_eq_getElem?_getD, List.getElem?_eq_getElem hl]; exact he⟩]
            rw [e] at hnext
            exact hnext
          · refine Ev.ifneg he ?_
            have e : ins x out = ([] ++ out.take (posOf x out) ++ [x]) ++ out.drop (posOf x out) := by
              unfold ins
              rw [if_neg (fun h => he (by have := h.2; rw [List.getD_eq_getElem?_getD, List.getElem?_eq_getElem hl] at this; exact this))]
              simp
            rw [e] at hnext
            refine Ev.bind0 rfl (Ev.ifpos (by omega) (Ev.bind0 rfl (Ev.ifpos (by simp; omega) (Ev.bind0 rfl (Ev.bind0 rfl (Ev.ifpos (by simp; omega) (Ev.bind0 rfl (Ev.bind0 rfl (Ev.ifpos (by simp; omega) ?_)))))))))
            rw [Int.toNat_natCast]
            exact hnext
        · have hp : posOf x out = out.length := by omega
          have e : ins x out = ([] ++ out.take (posOf x out) ++ [x]) ++ out.drop (posOf x out) := by
            unfold ins
            rw [if_neg (fun h => hl h.1)]
            simp
          rw [e] at hnext
          refine Ev.ifneg (by omega) (Ev.ifpos (by omega) ?_)
          refine Ev.bind0 rfl (Ev.ifpos (by omega) (Ev.ifpos (by omega) (Ev.bind0 rfl (Ev.ifpos (by simp; omega) (Ev.bind0 rfl (Ev.bind0 rfl (Ev.ifpos (by simp; omega) (Ev.bind0 rfl (Ev.bind0 rfl (Ev.ifpos (by simp; omega) ?_))))))))))
          rw [Int.toNat_natCast]
          exact hnext
      · intro p hp hlt hr
        refine Ev.step (fun k => by rw [spec_SeenNexts.l1]) ?_
        refine Ev.ifpos (by omega) (Ev.ifpos (by omega) ?_)
        rw [rd_get out p hp, wrap_succ (i := p) (by omega)]
        exact Ev.ifpos hlt hr

theorem spec_seenNexts (b : Int) (l fs : List Int) (hl : l.length ≤ 1048576) (hf : fs.length ≤ 1048576) : Ev (fun k => spec_SeenNexts.f k b l fs) (sortedF (nextsOf b l fs)) := by
  have h := spec_nexts_from b l hl fs hf 0 [] (Nat.zero_le _) (Nat.le_refl _)
  rw [List.drop_zero, insAll_sorted] at h
  unfold spec_SeenNexts.f
  exact h

theorem impl_seenNexts (b : Int) (l fs : List Int) (hl : l.length ≤ 1048576) (hf : fs.length ≤ 1048576) : Ev (fun k => impl_SeenNexts.f k b l fs) (sortedF (nextsOf b l fs)) := by
  unfold impl_SeenNexts.f
  have key := Ev.up fs.length (fun i (out : List Int) k => impl_SeenNexts.l0 k out fs (fs.length : Int) (i : Int) b l) (fun i out => sortedF (out ++ nextsOf b l (fs.drop i))) (fun i out => out.length ≤ i) ?_ ?_ 0 [] (Nat.zero_le _) (Nat.le_refl _)
  · rw [List.drop_zero, List.nil_append] at key
    exact key
  · intro out ho
    rw [List.drop_of_length_le (Nat.le_refl _)]
    refine Ev.step (fun k => by rw [impl_SeenNexts.l0]) ?_
    refine Ev.ifneg (by omega) (Ev.bind0 (a := sortedF out) ?_ ?_)
    · unfold impl_sorted.f
      rw [if_pos (by omega)]
    · exact Ev.pure (by show sortedF out = sortedF (out ++ nextsOf b l []); unfold nextsOf; simp)
  · intro i out hi ho ih
    refine Ev.step (fun k => by rw [impl_SeenNexts.l0]) ?_
    refine Ev.ifpos (by omega) (Ev.ifpos (by omega) (Ev.ifpos (by omega) ?_))
    rw [rd_get fs i hi, wrap_succ (by omega)]
    refine Ev.bind (impl_nextFor b l fs[i] (by omega)) ?_
    have hlo := nextFor_lo b l fs[i]
    rw [drop_get fs i hi]
    by_cases hneg : nextFor b l fs[i] = -1
    · have e : nextsOf b l (fs[i] :: fs.drop (i + 1)) = nextsOf b l (fs.drop (i + 1)) := by
        unfold nextsOf
        rw [List.map_cons, List.filter_cons_of_neg (by rw [decide_eq_true_iff]; omega)]
      rw [e]
      exact Ev.ifpos hneg (ih out (by omega))
    · have e : nextsOf b l (fs[i] :: fs.drop (i + 1)) = nextFor b l fs[i] :: nextsOf b l (fs.drop (i + 1)) := by
        unfold nextsOf
        rw [List.map_cons, List.filter_cons_of_pos (by rw [decide_eq_true_iff]; omega)]
      rw [e]
      have h := ih (out ++ [nextFor b l fs[i]]) (by simp; omega)
      rw [List.append_assoc, List.singleton_append] at h
      exact Ev.ifneg hneg (Ev.ifpos (by omega) h)

theorem nextsOf_length (b : Int) (l fs : List Int) : (nextsOf b l fs).length ≤ fs.length := by
  unfold nextsOf
  have := List.length_filter_le (fun n : Int => decide (0 ≤ n)) (fs.map (nextFor b l))
  rwa [List.length_map] at this

end Go.Proofs.Ytfmldgpebnnbbaa.Pure
namespace Go.Proofs.Ytfmldgpebnnbbaa.Pure
open Go.RowKit Go.Proofs.Ytfmldgpebnnbbaa.Z Go.Proofs.YtfmldgpebnnbbaaW.PrintWords

theorem FnExactSeenNexts : laws_FnExactSeenNexts.Pure := by
  intro n l fs hx hf0 _ _
  refine Ev.rounds ?_
  unfold laws_FnExactSeenNexts.f
  by_cases hbig : (fs.length : Int) > 1048576
  · exact Ev.ifpos hbig (Ev.now _)
  refine Ev.ifneg hbig ?_
  have hf : fs.length ≤ 1048576 := by omega
  obtain ⟨s, hs, hs2⟩ := sz_Branch ⟨n, l⟩ hx.2.1 1048576 (by omega) (by omega)
  by_cases hn : s < 0
  · exact Ev.bind0 hs (Ev.ifpos hn (Ev.now _))
  · have hsm := (hs2 (by omega)).2
    have hlen : l.length ≤ 1048576 := hsm.2.1
    have ht := to_Branch ⟨n, l⟩ hsm
    have htf := to_IntS fs ⟨hf, fun _ _ => trivial⟩
    have h1 := spec_seenNexts n l fs hlen hf
    have h2 := impl_seenNexts n l fs hlen hf
    have he := eq_Branch ⟨n, l⟩ ⟨trivial, hlen, fun _ _ => trivial⟩
    have hef := eq_IntS fs (by unfold maxLen; omega)
    have hrl : (sortedF (nextsOf n l fs)).length ≤ 1048576 := by
      have := sorted_len_le (nextsOf n l fs)
      have := nextsOf_length n l fs
      omega
    generalize sortedF (nextsOf n l fs) = q at h1 h2 hrl
    have hi := eq_IntS q (by unfold maxLen; omega)
    have hml := mark_IntS l 1 (by omega) (by omega)
    have hmb : Ev (fun k => laws_markBranch.f k n l 1) (1 + ((1 * l.length : Nat) : Int), marked 1 (fun m => m) 1 l.length) := by
      unfold laws_markBranch.f
      exact Ev.bind hml (Ev.now _)
    have hmf := mark_IntS fs (1 + ((1 * l.length : Nat) : Int)) (by omega) (by omega)
    have hmi := mark_IntS q 1 (by omega) (by omega)
    have hh := held_IntS q.length 1 (by omega) (by omega)
    refine Ev.bind0 hs (Ev.ifneg hn (Ev.bind ht (Ev.bind htf (Ev.bind h1 (Ev.bind ht (Ev.bind htf (Ev.bind h2 (Ev.bind hi (Ev.ifpos rfl (Ev.bind ht (Ev.bind he (Ev.ifpos rfl (Ev.bind htf (Ev.bind hef (Ev.ifpos rfl (Ev.bind hmb (Ev.bind hmf (Ev.ifneg (by omega) (Ev.bind hi ?_)))))))))))))))))))
    refine Ev.step (fun k => by rw [laws_FnExactSeenNexts.j0]) ?_
    refine Ev.ifneg (by decide) (Ev.bind hmi (Ev.bind hh (Ev.ifneg (by omega) (Ev.ifpos rfl (Ev.bind ht (Ev.bind htf (Ev.bind h2 (Ev.bind hi (Ev.ifpos rfl (Ev.bind hh (Ev.ifneg (by omega) (Ev.ifpos rfl (Ev.now _)))))))))))))

end Go.Proofs.Ytfmldgpebnnbbaa.Pure
