/- The statement: at every bytes, the branches' laws hold: what flows show are next nodes, ascending, and all that a flow shows is among them; the tries for a percentage are enough and no fewer are. No condition. -/
import Derived.Test.YtfmldgpebnnbbaaWWords
import Derived.Test.YtfmldgpebnnbbaaWLast
import Derived.Test.YtfmldgpebnnbbaaWMore
import Derived.Test.YtfmldgpebnnbbaaZ3
import Derived.Test.YtfmldgpebnnbbaaZ0
import Derived.Test.YtfmldgpebnnbbaaZFirst
import Derived.Test.YtfmldgpebnnbbaaZ4
import Derived.Test.YtfmldgpebnnbbaaZ5
import Derived.Test.YtfmldgpebnnbbaaZ6
import Derived.Test.YtfmldgpebnnbbaaZ7
import Derived.Test.YtfmldgpebnnbbaaZ1
import Derived.Test.YtfmldgpebnnbbaaZDefFnBranches
import Derived.Test.YtfmldgpebnnbbaaZ2
/- Plain lemmas for what the printed functions come to: loops that go up, indices that do not wrap, reads. No condition. -/
namespace Go.Proofs.Ytfmldgpebnnbbaa.Pure
open Go.RowKit Go.Proofs.YtfmldgpebnnbbaaW.PrintWords Go.Proofs.YtfmldgpebnnbbaaW.PrintLast Go.Proofs.YtfmldgpebnnbbaaW.PrintMore

/-- A loop that goes up to n: at each index it comes to R, if it does so one index further. -/
theorem Ev.up {σ ρ : Type} (n : Nat) (G : Nat → σ → Nat → Option ρ) (R : Nat → σ → ρ) (Inv : Nat → σ → Prop) (hend : ∀ s, Inv n s → Ev (G n s) (R n s))
    (hstep : ∀ i s, i < n → Inv i s → (∀ s', Inv (i + 1) s' → Ev (G (i + 1) s') (R (i + 1) s')) → Ev (G i s) (R i s)) : ∀ i s, i ≤ n → Inv i s → Ev (G i s) (R i s) := by
  have key : ∀ d i s, i + d = n → Inv i s → Ev (G i s) (R i s) := by
    intro d
    induction d with
    | zero => intro i s h hi; obtain rfl : i = n := by omega
              exact hend s hi
    | succ d ih => intro i s h hi; exact hstep i s (by omega) hi (fun s' hs' => ih (i + 1) s' (by omega) hs')
  intro i s h hi
  exact key (n - i) i s (by omega) hi

/-- The same without a state. -/
theorem Ev.up0 {ρ : Type} (n : Nat) (G : Nat → Nat → Option ρ) (R : Nat → ρ) (hend : Ev (G n) (R n)) (hstep : ∀ i, i < n → Ev (G (i + 1)) (R (i + 1)) → Ev (G i) (R i)) : ∀ i, i ≤ n → Ev (G i) (R i) := by
  intro i h
  exact Ev.up n (fun i (_ : Unit) => G i) (fun i _ => R i) (fun _ _ => True) (fun _ _ => hend) (fun i s hi _ hn => hstep i hi (hn () trivial)) i () h trivial

theorem Ev.det {α : Type} {g : Nat → Option α} {r q : α} (h : Ev g r) (h' : Ev g q) : r = q := by
  obtain ⟨K, h⟩ := h
  obtain ⟨K', h'⟩ := h'
  have a := h (max K K') (by omega)
  have b := h' (max K K') (by omega)
  rw [a] at b
  exact Option.some.inj b

theorem Ev.const {α : Type} {g : Nat → Option α} {r : α} (h : ∀ k, g k = some r) : Ev g r := ⟨0, fun k _ => h k⟩

theorem Ev.ifpos {α : Type} {c : Prop} [Decidable c] {g f : Nat → Option α} {r : α} (hc : c) (h : Ev g r) : Ev (fun k => if c then g k else f k) r := Ev.congr (fun k => by rw [if_pos hc]) h
theorem Ev.ifneg {α : Type} {c : Prop} [Decidable c] {g f : Nat → Option α} {r : α} (hc : ¬ c) (h : Ev f r) : Ev (fun k => if c then g k else f k) r := Ev.congr (fun k => by rw [if_neg hc]) h
theorem Ev.pure {α : Type} {a r : α} (h : a = r) : Ev (fun _ => some a) r := by subst h; exact Ev.now _

/-- A call that needs no rounds. -/
theorem Ev.bind0 {α β : Type} {g : Option α} {f : Nat → α → Option β} {a : α} {r : β} (h : g = some a) (k : Ev (fun n => f n a) r) : Ev (fun n => g.bind (f n)) r :=
  Ev.congr (fun n => by rw [h]; rfl) k

theorem wrap_in {n : Int} (h0 : -9223372036854775808 ≤ n) (h1 : n ≤ 9223372036854775807) : wrap64 n = n := by unfold wrap64; omega
theorem wrap_succ {i : Nat} (h : i < 9223372036854775807) : wrap64 ((i : Int) + 1) = ((i + 1 : Nat) : Int) := by unfold wrap64; omega

theorem rd_nat (xs : List Int) (i : Nat) : rd xs (i : Int) = xs.getD i 0 := by unfold rd; rw [Int.toNat_natCast]
theorem rd_get (xs : List Int) (i : Nat) (h : i < xs.length) : rd xs (i : Int) = xs[i] := by rw [rd_nat, List.getD_eq_getElem?_getD, List.getElem?_eq_getElem h]; rfl
theorem getD_get {α : Type} (xs : List α) (i : Nat) (z : α) (h : i < xs.length) : xs.getD (i : Int).toNat z = xs[i] := by rw [Int.toNat_natCast, List.getD_eq_getElem?_getD, List.getElem?_eq_getElem h]; rfl

theorem drop_get {α : Type} (xs : List α) (i : Nat) (h : i < xs.length) : xs.drop i = xs[i] :: xs.drop (i + 1) := List.drop_eq_getElem_cons h

theorem take_set_self {α : Type} (s : List α) (i : Nat) (a : α) : (s.set i a).take i = s.take i := by
  apply List.ext_getElem?
  intro j
  by_cases h : j < i
  · rw [List.getElem?_take, List.getElem?_take, if_pos h, if_pos h, List.getElem?_set_ne (by omega)]
  · rw [List.getElem?_take, List.getElem?_take, if_neg h, if_neg h]

/-- A loop that copies, element by element. -/
theorem copy_loop {α β : Type} (l : List α) (f : α → β) (G : Nat → List β → Nat → Option (List β)) (hend : ∀ s : List β, Ev (G l.length s) s)
    (hstep : ∀ i (hi : i < l.length) (s r : List β), s.length = l.length → Ev (G (i + 1) (s.set i (f l[i]))) r → Ev (G i s) r) (s : List β) (hs : s.length = l.length) : Ev (G 0 s) (l.map f) := by
  have key := Ev.up l.length G (fun i s => s.take i ++ (l.map f).drop i) (fun _ s => s.length = l.length)
    (fun s hs => by
      have e : s.take l.length ++ (l.map f).drop l.length = s := by rw [List.take_of_length_le (by omega), List.drop_of_length_le (by simp), List.append_nil]
      simp only [e]
      exact hend s)
    (fun i s hi hs ih => by
      have h1 := ih (s.set i (f l[i])) (by simpa using hs)
      have e : (s.set i (f l[i])).take (i + 1) ++ (l.map f).drop (i + 1) = s.take i ++ (l.map f).drop i := by
        rw [List.take_succ_eq_append_getElem (by simp; omega), List.drop_eq_getElem_cons (l := l.map f) (i := i) (by simpa using hi), take_set_self]
        simp
      simp only [e] at h1
      exact hstep i hi s _ hs h1) 0 s (Nat.zero_le _) hs
  simpa using key

/-- A loop that takes off what the elements weigh. -/
theorem sz_loop {α : Type} (l : List α) (sm : α → Prop) (G : Nat → Int → Nat → Option Int) (hend : ∀ s : Int, Ev (G l.length s) s)
    (hstep : ∀ i (hi : i < l.length) (s : Int), 0 ≤ s → s ≤ 1048576 → Ev (G i s) (-1) ∨ ∃ q : Int, 0 ≤ q ∧ q ≤ s ∧ sm l[i] ∧ ∀ r, Ev (G (i + 1) q) r → Ev (G i s) r) (s : Int) (h0 : 0 ≤ s) (h1 : s ≤ 1048576) :
    ∃ r : Int, Ev (G 0 s) r ∧ (0 ≤ r → r ≤ s ∧ ∀ x ∈ l, sm x) := by
  have key : ∀ d i (s : Int), i + d = l.length → 0 ≤ s → s ≤ 1048576 → ∃ r : Int, Ev (G i s) r ∧ (0 ≤ r → r ≤ s ∧ ∀ x ∈ l.drop i, sm x) := by
    intro d
    induction d with
    | zero =>
      intro i s hi h0 h1
      obtain rfl : i = l.length := by omega
      exact ⟨s, hend s, fun _ => ⟨Int.le_refl _, by simp⟩⟩
    | succ d ih =>
      intro i s hi h0 h1
      have hlt : i < l.length := by omega
      rcases hstep i hlt s h0 h1 with h | ⟨q, hq0, hq1, hsm, hnext⟩
      · exact ⟨-1, h, fun h => by omega⟩
      · obtain ⟨r, hr, hr2⟩ := ih (i + 1) q (by omega) hq0 (by omega)
        refine ⟨r, hnext r hr, fun h => ⟨by have := (hr2 h).1; omega, ?_⟩⟩
        rw [drop_get l i hlt]
        intro x hx
        rcases List.mem_cons.1 hx with rfl | hx
        · exact hsm
        · exact (hr2 h).2 x hx
  simpa using key l.length 0 s (by omega) h0 h1

/-- What a mark leaves: element i holds the numbers from m + c * i on. -/
def marked {α : Type} (c : Nat) (mk : Int → α) (m : Int) (n : Nat) : List α := (List.range n).map fun i => mk (m + ((c * i : Nat) : Int))
theorem marked_length {α : Type} (c : Nat) (mk : Int → α) (m : Int) (n : Nat) : (marked c mk m n).length = n := by simp [marked]
theorem marked_get {α : Type} (c : Nat) (mk : Int → α) (m : Int) (n i : Nat) (h : i < (marked c mk m n).length) : (marked c mk m n)[i] = mk (m + ((c * i : Nat) : Int)) := by simp [marked]
theorem marked_succ {α : Type} (c : Nat) (mk : Int → α) (m : Int) (n : Nat) : marked c mk m (n + 1) = mk m :: marked c mk (m + (c : Int)) n := by
  unfold marked
  rw [List.range_succ_eq_map, List.map_cons, List.map_map]
  congr 1
  · simp
  · apply List.map_congr_left
    intro i _
    show mk _ = mk _
    congr 1
    rw [Nat.mul_succ]
    omega

theorem mark_loop {α : Type} (c : Nat) (mk : Int → α) (n : Nat) (G : Nat → List α → Int → Nat → Option (Int × List α)) (hend : ∀ (s : List α) (m : Int), s.length = n → Ev (G n s m) (m, s))
    (hstep : ∀ i (s : List α) (m : Int) r, i < n → s.length = n → 0 ≤ m → m ≤ 4611686018427387904 → Ev (G (i + 1) (s.set i (mk m)) (m + (c : Int))) r → Ev (G i s m) r)
    (s : List α) (m : Int) (hs : s.length = n) (h0 : 0 ≤ m) (h1 : m + ((c * n : Nat) : Int) ≤ 4611686018427387904) : Ev (G 0 s m) (m + ((c * n : Nat) : Int), marked c mk m n) := by
  have key : ∀ d i (s : List α) (m : Int), i + d = n → s.length = n → 0 ≤ m → m + ((c * d : Nat) : Int) ≤ 4611686018427387904 → Ev (G i s m) (m + ((c * d : Nat) : Int), s.take i ++ marked c mk m d) := by
    intro d
    induction d with
    | zero =>
      intro i s m hi hs h0 h1
      obtain rfl : i = n := by omega
      have e : s.take i ++ marked c mk m 0 = s := by rw [List.take_of_length_le (by omega)]; simp [marked]
      rw [e]
      simpa using hend s m hs
    | succ d ih =>
      intro i s m hi hs h0 h1
      rw [Nat.mul_succ] at h1
      have h2 := ih (i + 1) (s.set i (mk m)) (m + (c : Int)) (by omega) (by simpa using hs) (by omega) (by omega)
      have e : (s.set i (mk m)).take (i + 1) ++ marked c mk (m + (c : Int)) d = s.take i ++ marked c mk m (d + 1) := by
        rw [List.take_succ_eq_append_getElem (by simp; omega), marked_succ, take_set_self]
        simp
      rw [e] at h2
      have e2 : m + (c : Int) + ((c * d : Nat) : Int) = m + ((c * (d + 1) : Nat) : Int) := by rw [Nat.mul_succ]; omega
      rw [e2] at h2
      exact hstep i s m _ (by omega) hs h0 (by omega) h2
  have := key n 0 s m (by omega) hs h0 h1
  simpa using this

theorem held_loop (c : Nat) (n : Nat) (m0 : Int) (G : Nat → Int → Nat → Option Int) (hend : ∀ m : Int, Ev (G n m) m)
    (hstep : ∀ i r, i < n → Ev (G (i + 1) (m0 + ((c * i : Nat) : Int) + (c : Int))) r → Ev (G i (m0 + ((c * i : Nat) : Int))) r) : Ev (G 0 m0) (m0 + ((c * n : Nat) : Int)) := by
  have key := Ev.up0 n (fun i => G i (m0 + ((c * i : Nat) : Int))) (fun _ => m0 + ((c * n : Nat) : Int)) (hend _)
    (fun i hi ih => hstep i _ hi (by
      have e : m0 + ((c * i : Nat) : Int) + (c : Int) = m0 + ((c * (i + 1) : Nat) : Int) := by rw [Nat.mul_succ]; omega
      rw [e]
      exact ih)) 0 (Nat.zero_le _)
  simpa using key

end Go.Proofs.Ytfmldgpebnnbbaa.Pure
/- Plain laws of the ordered list without repeats ('sortedF'): it rises strictly, it has the members of the list, it is the only such list; it is as long as the list if and only if the list has no repeats. No condition. -/
namespace Go.Proofs.Ytfmldgpebnnbbaa.Pure
open Go.RowKit Go.Proofs.Ytfmldgpebnnbbaa.Z Go.Proofs.YtfmldgpebnnbbaaW.PrintWords

theorem ms_perm (l : List Int) : (l.mergeSort fun x y => decide (x ≤ y)).Perm l := List.mergeSort_perm l _
theorem ms_pair (l : List Int) : (l.mergeSort fun x y => decide (x ≤ y)).Pairwise (fun x y => x ≤ y) := by
  have h := List.pairwise_mergeSort (le := fun x y : Int => decide (x ≤ y)) (fun a b c h1 h2 => by simp only [decide_eq_true_eq] at *; omega) (fun a b => by simp only [Bool.or_eq_true, decide_eq_true_eq]; omega) l
  exact h.imp (fun h => by simpa using h)

theorem getB (zs : List Int) (j : Nat) (h : j < zs.length) : zs.toArray[j]! = zs[j] := by simp [h]
theorem getB' (zs : List Int) (j : Nat) : zs.toArray[j]! = zs.getD j 0 := by
  by_cases h : j < zs.length
  · rw [getB zs j h, List.getD_eq_getElem?_getD, List.getElem?_eq_getElem h]; rfl
  · simp [h]

theorem keep_iff (zs : List Int) (j : Nat) : Lib.keeps zs.toArray j = true ↔ j = 0 ∨ zs.getD j 0 ≠ zs.getD (j - 1) 0 := by
  unfold Lib.keeps
  rw [decide_eq_true_iff, getB', getB']

theorem compact_eq (zs : List Int) : Lib.compact zs = ((List.range zs.length).filter fun j => Lib.keeps zs.toArray j).map (fun j => zs.getD j 0) := by
  unfold Lib.compact Lib.compactUpTo
  apply List.map_congr_left
  intro j _
  exact getB' zs j

theorem compact_mem (zs : List Int) (x : Int) : x ∈ Lib.compact zs ↔ x ∈ zs := by
  rw [compact_eq]
  simp only [List.mem_map, List.mem_filter, List.mem_range]
  constructor
  · rintro ⟨j, ⟨hj, _⟩, rfl⟩
    rw [List.getD_eq_getElem?_getD, List.getElem?_eq_getElem hj]
    exact List.getElem_mem hj
  · intro hx
    obtain ⟨j, hj, e⟩ := List.getElem_of_mem hx
    have key : ∀ j, j < zs.length → zs.getD j 0 = x → ∃ a, (a < zs.length ∧ Lib.keeps zs.toArray a = true) ∧ zs.getD a 0 = x := by
      intro j
      induction j with
      | zero => intro h e; exact ⟨0, ⟨h, (keep_iff zs 0).2 (Or.inl rfl)⟩, e⟩
      | succ j ih =>
        intro h e
        by_cases h2 : zs.getD (j + 1) 0 = zs.getD j 0
        · exact ih (by omega) (by rw [← h2]; exact e)
        · exact ⟨j + 1, ⟨h, (keep_iff zs _).2 (Or.inr h2)⟩, e⟩
    exact key j hj (by rw [List.getD_eq_getElem?_getD, List.getElem?_eq_getElem hj]; exact e)

theorem pair_get {zs : List Int} (h : zs.Pairwise (fun x y => x ≤ y)) {i j : Nat} (hij : i ≤ j) (hj : j < zs.length) : zs.getD i 0 ≤ zs.getD j 0 := by
  rw [List.getD_eq_getElem?_getD, List.getElem?_eq_getElem (by omega), List.getD_eq_getElem?_getD, List.getElem?_eq_getElem hj]
  rcases Nat.lt_or_ge i j with h1 | h1
  · exact (List.pairwise_iff_getElem.1 h) i j (by omega) hj h1
  · obtain rfl : i = j := by omega
    exact Int.le_refl _

theorem compact_rise {zs : List Int} (h : zs.Pairwise (fun x y => x ≤ y)) : (Lib.compact zs).Pairwise (fun x y => x < y) := by
  rw [compact_eq, List.pairwise_map]
  have h2 : ((List.range zs.length).filter fun j => Lib.keeps zs.toArray j).Pairwise (fun a b => a < b) := List.Pairwise.filter _ List.pairwise_lt_range
  refine h2.imp_of_mem (fun {a b} ha hb hab => ?_)
  simp only [List.mem_filter, List.mem_range] at ha hb
  rcases (keep_iff zs b).1 hb.2 with h0 | h0
  · omega
  · have h1 := pair_get h (i := a) (j := b - 1) (by omega) (by omega)
    have h3 := pair_get h (i := b - 1) (j := b) (by omega) hb.1
    omega

theorem sorted_rise (l : List Int) : (sortedF l).Pairwise (fun x y => x < y) := compact_rise (ms_pair l)
theorem sorted_mem (l : List Int) (x : Int) : x ∈ sortedF l ↔ x ∈ l := (compact_mem _ x).trans (ms_perm l).mem_iff

/-- Two lists that rise strictly and have the same members are one. -/
theorem rise_ext : ∀ {l m : List Int}, l.Pairwise (fun x y => x < y) → m.Pairwise (fun x y => x < y) → (∀ x, x ∈ l ↔ x ∈ m) → l = m
  | [], [], _, _, _ => rfl
  | [], b :: m, _, _, h => absurd ((h b).2 (List.mem_cons_self ..)) (by simp)
  | a :: l, [], _, _, h => absurd ((h a).1 (List.mem_cons_self ..)) (by simp)
  | a :: l, b :: m, hl, hm, h => by
    rw [List.pairwise_cons] at hl hm
    have e : a = b := by
      have h1 := (h a).1 (List.mem_cons_self ..)
      have h2 := (h b).2 (List.mem_cons_self ..)
      rcases List.mem_cons.1 h1 with h1 | h1
      · exact h1
      · rcases List.mem_cons.1 h2 with h2 | h2
        · exact h2.symm
        · have := hm.1 a h1
          have := hl.1 b h2
          omega
    subst e
    rw [rise_ext hl.2 hm.2 (fun x => ?_)]
    constructor
    · intro hx
      rcases List.mem_cons.1 ((h x).1 (List.mem_cons_of_mem _ hx)) with h1 | h1
      · subst h1
        exact absurd (hl.1 _ hx) (by omega)
      · exact h1
    · intro hx
      rcases List.mem_cons.1 ((h x).2 (List.mem_cons_of_mem _ hx)) with h1 | h1
      · subst h1
        exact absurd (hm.1 _ hx) (by omega)
      · exact h1

theorem sorted_eq {l m : List Int} (hm : m.Pairwise (fun x y => x < y)) (h : ∀ x, x ∈ m ↔ x ∈ l) : sortedF l = m := rise_ext (sorted_rise l) hm (fun x => (sorted_mem l x).trans (h x).symm)

theorem sorted_len_le (l : List Int) : (sortedF l).length ≤ l.length := by
  have h := Lib.compact_length_le (l.mergeSort fun x y => decide (x ≤ y))
  rw [(ms_perm l).length_eq] at h
  exact h

theorem sorted_len (l : List Int) : (sortedF l).length = l.length ↔ l.Nodup := by
  have hlen : (l.mergeSort fun x y => decide (x ≤ y)).length = l.length := (ms_perm l).length_eq
  rw [← (ms_perm l).nodup_iff]
  constructor
  · intro h
    unfold sortedF at h
    have hall : ∀ j, j < (l.mergeSort fun x y => decide (x ≤ y)).length → Lib.keeps (l.mergeSort fun x y => decide (x ≤ y)).toArray j = true := by
      rw [compact_eq, List.length_map, ← hlen] at h
      have h2 := List.length_filter_eq_length_iff.1 (h.trans List.length_range.symm)
      intro j hj
      exact h2 j (List.mem_range.2 hj)
    have e := Lib.compact_all _ hall
    rw [← e]
    exact (compact_rise (ms_pair l)).imp (fun h => by omega)
  · intro h
    have hs := ms_pair l
    unfold sortedF
    rw [Lib.compact_all, hlen]
    intro j hj
    rw [keep_iff]
    rcases Nat.eq_zero_or_pos j with h0 | h0
    · exact Or.inl h0
    · refine Or.inr ?_
      rw [List.getD_eq_getElem?_getD, List.getElem?_eq_getElem hj, List.getD_eq_getElem?_getD, List.getElem?_eq_getElem (by omega)]
      exact fun e => (List.pairwise_iff_getElem.1 h) (j - 1) j (by omega) hj (by omega) e.symm

end Go.Proofs.Ytfmldgpebnnbbaa.Pure
/- Plain laws: a number put into a rising list at its place; many put in one after another are the ordered list without repeats. No condition. -/
namespace Go.Proofs.Ytfmldgpebnnbbaa.Pure
open Go.RowKit Go.Proofs.Ytfmldgpebnnbbaa.Z Go.Proofs.YtfmldgpebnnbbaaW.PrintWords

/-- The first place whose number is not below x. -/
def posOf (x : Int) : List Int → Nat
  | [] => 0
  | y :: ys => if y < x then posOf x ys + 1 else 0
theorem posOf_le (x : Int) : ∀ l : List Int, posOf x l ≤ l.length
  | [] => Nat.le_refl _
  | y :: ys => by
    have := posOf_le x ys
    rw [posOf, List.length_cons]
    split <;> omega
theorem posOf_lt (x : Int) : ∀ (l : List Int) (p : Nat) (hp : p < l.length), p < posOf x l → l[p] < x
  | [], p, hp, _ => absurd hp (by simp)
  | y :: ys, p, hp, h => by
    rw [posOf] at h
    by_cases c : y < x
    · rw [if_pos c] at h
      match p, hp, h with
      | 0, _, _ => exact c
      | p + 1, hp, h => exact posOf_lt x ys p (by simpa using hp) (by omega)
    · rw [if_neg c] at h; omega
theorem posOf_at (x : Int) : ∀ (l : List Int) (h : posOf x l < l.length), ¬ l[posOf x l] < x
  | [], h => absurd h (by simp)
  | y :: ys, h => by
    by_cases c : y < x
    · have e : posOf x (y :: ys) = posOf x ys + 1 := by rw [posOf, if_pos c]
      simp only [e, List.getElem_cons_succ]
      exact posOf_at x ys (by rw [e] at h; simpa using h)
    · have e : posOf x (y :: ys) = 0 := by rw [posOf, if_neg c]
      simp only [e, List.getElem_cons_zero]
      exact c

/-- x put in at its place, if it is not there. -/
def ins (x : Int) (l : List Int) : List Int := if posOf x l < l.length ∧ l.getD (posOf x l) 0 = x then l else l.take (posOf x l) ++ ([x] ++ l.drop (posOf x l))
def insAll (out : List Int) (l : List Int) : List Int := l.foldl (fun o x => ins x o) out

theorem ins_length (x : Int) (l : List Int) : (ins x l).length ≤ l.length + 1 := by
  unfold ins
  split
  · omega
  · simp; omega

theorem ins_mem (x : Int) (l : List Int) (y : Int) : y ∈ ins x l ↔ y = x ∨ y ∈ l := by
  unfold ins
  split
  · rename_i h
    constructor
    · exact .inr
    · rintro (rfl | h2)
      · have : l.getD (posOf y l) 0 ∈ l := by
          rw [List.getD_eq_getElem?_getD, List.getElem?_eq_getElem h.1]
          exact List.getElem_mem _
        rwa [h.2] at this
      · exact h2
  · have e : y ∈ l ↔ y ∈ l.take (posOf x l) ∨ y ∈ l.drop (posOf x l) := by
      rw [← List.mem_append, List.take_append_drop]
    rw [e]
    simp only [List.mem_append, List.mem_singleton]
    constructor
    · rintro (h | h | h)
      · exact .inr (.inl h)
      · exact .inl h
      · exact .inr (.inr h)
    · rintro (h | h | h)
      · exact .inr (.inl h)
      · exact .inl h
      · exact .inr (.inr h)

theorem ins_rise (x : Int) (l : List Int) (h : l.Pairwise (fun x y => x < y)) : (ins x l).Pairwise (fun x y => x < y) := by
  unfold ins
  split
  · exact h
  · rename_i hc
    have h2 := h
    rw [← List.take_append_drop (posOf x l) l, List.pairwise_append] at h2
    obtain ⟨h3, h4, h5⟩ := h2
    have hlow : ∀ a ∈ l.take (posOf x l), a < x := by
      intro a ha
      obtain ⟨i, hi, rfl⟩ := List.getElem_of_mem ha
      rw [List.length_take] at hi
      rw [List.getElem_take]
      exact posOf_lt x l i (by omega) (by omega)
    have hhigh : ∀ b ∈ l.drop (posOf x l), x < b := by
      intro b hb
      by_cases hl : posOf x l < l.length
      · have h6 : ¬ l[posOf x l] < x := posOf_at x l hl
        have h7 : l[posOf x l] ≠ x := fun e => hc ⟨hl, by rw [List.getD_eq_getElem?_getD, List.getElem?_eq_getElem hl]; exact e⟩
        rw [drop_get l _ hl] at hb h4
        rw [List.pairwise_cons] at h4
        rcases List.mem_cons.1 hb with rfl | hb
        · omega
        · have := h4.1 b hb
          omega
      · rw [List.drop_of_length_le (by omega)] at hb
        exact absurd hb (by simp)
    rw [List.pairwise_append, List.singleton_append, List.pairwise_cons]
    refine ⟨h3, ⟨fun b hb => hhigh b hb, h4⟩, fun a ha b hb => ?_⟩
    rcases List.mem_cons.1 hb with rfl | hb
    · exact hlow a ha
    · exact h5 a ha b hb

theorem insAll_spec : ∀ (l out : List Int), out.Pairwise (fun x y => x < y) → (insAll out l).Pairwise (fun x y => x < y) ∧ ∀ y, y ∈ insAll out l ↔ y ∈ out ∨ y ∈ l
  | [], out, h => ⟨h, fun y => by simp [insAll]⟩
  | x :: l, out, h => by
    obtain ⟨h1, h2⟩ := insAll_spec l (ins x out) (ins_rise x out h)
    refine ⟨h1, fun y => ?_⟩
    show y ∈ insAll (ins x out) l ↔ _
    rw [h2 y, ins_mem, List.mem_cons]
    constructor
    · rintro ((h | h) | h)
      · exact .inr (.inl h)
      · exact .inl h
      · exact .inr (.inr h)
    · rintro (h | h | h)
      · exact .inl (.inr h)
      · exact .inl (.inl h)
      · exact .inr h

theorem insAll_sorted (l : List Int) : insAll [] l = sortedF l := by
  obtain ⟨h1, h2⟩ := insAll_spec l [] List.Pairwise.nil
  exact (sorted_eq h1 (fun x => by rw [h2 x]; simp)).symm

theorem insAll_append (out a b : List Int) : insAll out (a ++ b) = insAll (insAll out a) b := by unfold insAll; rw [List.foldl_append]

/-- A loop that looks for the place. -/
theorem pos_loop {β : Type} (x : Int) (out : List Int) (G : Nat → Nat → Option β) (r : β) (hend : Ev (G (posOf x out)) r) (hskip : ∀ p (hp : p < out.length), out[p] < x → Ev (G (p + 1)) r → Ev (G p) r) : Ev (G 0) r :=
  Ev.up0 (posOf x out) G (fun _ => r) hend (fun p hp ih => hskip p (by have := posOf_le x out; omega) (posOf_lt x out p (by have := posOf_le x out; omega) hp) ih) 0 (Nat.zero_le _)

end Go.Proofs.Ytfmldgpebnnbbaa.Pure
/- Plain lemma: a loop that goes on while the elements are well. No condition. -/
namespace Go.Proofs.Ytfmldgpebnnbbaa.Pure
open Go.RowKit Go.Proofs.YtfmldgpebnnbbaaW.PrintWords

theorem all_step {α : Type} (p : α → Bool) (xs : List α) (G : Nat → Nat → Option Bool) (r0 : Bool) (hend : Ev (G xs.length) r0) (hstep : ∀ i (hi : i < xs.length) r, Ev (G (i + 1)) r → Ev (G i) (p xs[i] && r)) : Ev (G 0) (xs.all p && r0) := by
  have key := Ev.up0 xs.length G (fun i => (xs.drop i).all p && r0)
    (by rw [List.drop_of_length_le (Nat.le_refl _)]; simpa using hend)
    (fun i hi ih => by
      rw [drop_get xs i hi, List.all_cons, Bool.and_assoc]
      exact hstep i hi _ ih) 0 (Nat.zero_le _)
  simpa using key

/-- The same over the places. -/
theorem all_places (n : Nat) (p : Nat → Bool) (G : Nat → Nat → Option Bool) (r0 : Bool) (hend : Ev (G n) r0) (hstep : ∀ i, i < n → ∀ r, Ev (G (i + 1)) r → Ev (G i) (p i && r)) : Ev (G 0) ((List.range n).all p && r0) := by
  refine all_step p (List.range n) G r0 (by rw [List.length_range]; exact hend) (fun i hi r hr => ?_)
  rw [List.getElem_range]
  exact hstep i (by simpa using hi) r hr

end Go.Proofs.Ytfmldgpebnnbbaa.Pure
/- Plain lemma: what the reference's range test answers. No condition. -/
namespace Go.Proofs.Ytfmldgpebnnbbaa.Pure
open Go.RowKit Go.Proofs.Ytfmldgpebnnbbaa.Z Go.Proofs.YtfmldgpebnnbbaaW.PrintWords

end Go.Proofs.Ytfmldgpebnnbbaa.Pure
/- Plain lemmas: loops that search. No condition. -/
namespace Go.Proofs.Ytfmldgpebnnbbaa.Pure
open Go.RowKit Go.Proofs.Ytfmldgpebnnbbaa.Z Go.Proofs.YtfmldgpebnnbbaaW.PrintWords

theorem firstAt_cons {α : Type} (p : α → Bool) (x : α) (xs : List α) : firstAt p (x :: xs) = if p x = true then 0 else if firstAt p xs < 0 then -1 else firstAt p xs + 1 := by
  unfold firstAt
  rw [List.findIdx_cons]
  cases h : p x
  · simp only [cond_false, List.length_cons, Bool.false_eq_true, if_false]
    by_cases h2 : xs.findIdx p < xs.length
    · rw [if_pos (by omega), if_pos h2, if_neg (by omega)]
      omega
    · rw [if_neg (by omega), if_neg h2]
      simp
  · simp

/-- A loop that searches from the front comes to the first place. -/
theorem first_loop {α : Type} (p : α → Bool) (xs : List α) (G : Nat → Nat → Option Int) (hend : Ev (G xs.length) (-1)) (hhit : ∀ i (hi : i < xs.length), p xs[i] = true → Ev (G i) (i : Int))
    (hmiss : ∀ i (hi : i < xs.length) r, p xs[i] = false → Ev (G (i + 1)) r → Ev (G i) r) : Ev (G 0) (firstAt p xs) := by
  have key := Ev.up0 xs.length G (fun i => if firstAt p (xs.drop i) < 0 then -1 else firstAt p (xs.drop i) + (i : Int))
    (by rw [List.drop_of_length_le (Nat.le_refl _)]; simpa [firstAt] using hend)
    (fun i hi ih => by
      rw [drop_get xs i hi, firstAt_cons]
      cases h : p xs[i]
      · simp only [Bool.false_eq_true, if_false]
        refine hmiss i hi _ h ?_
        by_cases h2 : firstAt p (xs.drop (i + 1)) < 0
        · rw [if_pos h2, if_pos (by omega)]
          rwa [if_pos h2] at ih
        · rw [if_neg h2, if_neg (by omega)]
          rw [if_neg h2] at ih
          have e : firstAt p (xs.drop (i + 1)) + ((i + 1 : Nat) : Int) = firstAt p (xs.drop (i + 1)) + 1 + (i : Int) := by omega
          rwa [e] at ih
      · simp only [if_true]
        rw [if_neg (by omega)]
        have := hhit i hi h
        simpa using this) 0 (Nat.zero_le _)
  rw [List.drop_zero] at key
  by_cases h : firstAt p xs < 0
  · have e : firstAt p xs = -1 := by
      unfold firstAt at h ⊢
      split at h
      · omega
      · rename_i h2; rw [if_neg h2]
    rw [if_pos h] at key
    rw [e]
    exact key
  · rw [if_neg h] at key
    simpa using key

/-- A loop that asks whether one holds. -/
theorem any_loop {α : Type} (p : α → Bool) (xs : List α) (G : Nat → Nat → Option Bool) (hend : Ev (G xs.length) false) (hhit : ∀ i (hi : i < xs.length), p xs[i] = true → Ev (G i) true)
    (hmiss : ∀ i (hi : i < xs.length) r, p xs[i] = false → Ev (G (i + 1)) r → Ev (G i) r) : Ev (G 0) (xs.any p) := by
  have key := Ev.up0 xs.length G (fun i => (xs.drop i).any p)
    (by rw [List.drop_of_length_le (Nat.le_refl _)]; simpa using hend)
    (fun i hi ih => by
      rw [drop_get xs i hi, List.any_cons]
      cases h : p xs[i]
      · simpa using hmiss i hi _ h ih
      · simpa using hhit i hi h) 0 (Nat.zero_le _)
  simpa using key

/-- A loop that asks whether all hold. -/
theorem all_loop {α : Type} (p : α → Bool) (xs : List α) (G : Nat → Nat → Option Bool) (r0 : Bool) (hend : Ev (G xs.length) r0) (hbad : ∀ i (hi : i < xs.length), p xs[i] = false → Ev (G i) false)
    (hgood : ∀ i (hi : i < xs.length) r, p xs[i] = true → Ev (G (i + 1)) r → Ev (G i) r) : Ev (G 0) (xs.all p && r0) := by
  have key := Ev.up0 xs.length G (fun i => (xs.drop i).all p && r0)
    (by rw [List.drop_of_length_le (Nat.le_refl _)]; simpa using hend)
    (fun i hi ih => by
      rw [drop_get xs i hi, List.all_cons]
      cases h : p xs[i]
      · simpa using hbad i hi h
      · simpa using hgood i hi _ h ih) 0 (Nat.zero_le _)
  simpa using key

end Go.Proofs.Ytfmldgpebnnbbaa.Pure
/- Plain lemma: the reference's search in a list of numbers. Condition: the list is not longer than a list can be. -/
namespace Go.Proofs.Ytfmldgpebnnbbaa.Pure
open Go.RowKit Go.Proofs.Ytfmldgpebnnbbaa.Z Go.Proofs.YtfmldgpebnnbbaaW.PrintWords

end Go.Proofs.Ytfmldgpebnnbbaa.Pure
/- Plain law: a list has no repeats if no element stands among those before it. No condition. -/
namespace Go.Proofs.Ytfmldgpebnnbbaa.Pure
open Go.RowKit Go.Proofs.YtfmldgpebnnbbaaW.PrintWords

def dupOf (p : List Int) (i : Nat) : Bool := (p.take i).any fun y => decide (y = p.getD i 0)
theorem dupOf_get (p : List Int) (i : Nat) (h : i < p.length) : dupOf p i = (p.take i).any fun y => decide (y = p[i]) := by
  unfold dupOf
  rw [List.getD_eq_getElem?_getD, List.getElem?_eq_getElem h]
  rfl
theorem dupOf_iff (p : List Int) (i : Nat) (h : i < p.length) : dupOf p i = true ↔ ∃ j, ∃ hj : j < i, p[j] = p[i] := by
  rw [dupOf_get p i h, List.any_eq_true]
  constructor
  · rintro ⟨x, hx, e⟩
    obtain ⟨j, hj, e2⟩ := List.getElem_of_mem hx
    rw [List.length_take] at hj
    refine ⟨j, by omega, ?_⟩
    rw [List.getElem_take] at e2
    rw [e2]
    exact of_decide_eq_true e
  · rintro ⟨j, hj, e⟩
    refine ⟨p[j], ?_, decide_eq_true e⟩
    have : (p.take i)[j]'(by rw [List.length_take]; omega) = p[j] := List.getElem_take
    rw [← this]
    exact List.getElem_mem _
theorem nodup_iff_dup (p : List Int) : p.Nodup ↔ ∀ i, i < p.length → dupOf p i = false := by
  constructor
  · intro h i hi
    rw [Bool.eq_false_iff]
    intro hd
    obtain ⟨j, hj, e⟩ := (dupOf_iff p i hi).1 hd
    exact (List.pairwise_iff_getElem.1 h) j i (by omega) hi hj e
  · intro h
    refine List.pairwise_iff_getElem.2 (fun i j hi hj hij e => ?_)
    have h1 := h j hj
    rw [Bool.eq_false_iff] at h1
    exact h1 ((dupOf_iff p j hj).2 ⟨i, hij, e⟩)

end Go.Proofs.Ytfmldgpebnnbbaa.Pure
/- Plain lemma: what the program's allIn answers. Condition: the list is not longer than a list can be. -/
namespace Go.Proofs.Ytfmldgpebnnbbaa.Pure
open Go.RowKit Go.Proofs.Ytfmldgpebnnbbaa.Z Go.Proofs.YtfmldgpebnnbbaaW.PrintWords

theorem impl_allIn (l : List Int) (a b : Int) (hl : l.length ≤ 9223372036854775807) : Ev (fun k => impl_allIn.f k l a b) (l.all fun n => decide (a ≤ n ∧ n ≤ b)) := by
  unfold impl_allIn.f
  have key := all_loop (fun n : Int => decide (a ≤ n ∧ n ≤ b)) l (fun i k => impl_allIn.l0 k a b l (l.length : Int) (i : Int)) true ?_ ?_ ?_
  · simpa using key
  · refine Ev.step (fun k => by rw [impl_allIn.l0]) ?_
    exact Ev.ifneg (by omega) (Ev.now _)
  · intro i hi h
    refine Ev.step (fun k => by rw [impl_allIn.l0]) ?_
    refine Ev.ifpos (by omega) (Ev.ifpos (by omega) (Ev.ifpos (by omega) ?_))
    rw [rd_get l i hi]
    refine Ev.bind0 (a := false) ?_ (Ev.ifneg (by decide) (Ev.now _))
    simp only [decide_eq_false_iff_not] at h
    unfold impl_InRange.f
    by_cases h1 : a ≤ l[i]
    · rw [if_pos h1]
      simp only [Option.some.injEq, decide_eq_false_iff_not]
      omega
    · rw [if_neg h1]
  · intro i hi r h hr
    refine Ev.step (fun k => by rw [impl_allIn.l0]) ?_
    refine Ev.ifpos (by omega) (Ev.ifpos (by omega) (Ev.ifpos (by omega) ?_))
    rw [rd_get l i hi]
    simp only [decide_eq_true_eq] at h
    refine Ev.bind0 (a := true) ?_ (Ev.ifpos rfl ?_)
    · unfold impl_InRange.f
      rw [if_pos h.1]
      simp [h.2]
    · rw [wrap_succ (by omega)]
      exact hr

end Go.Proofs.Ytfmldgpebnnbbaa.Pure
/- Plain lemma: what the reference's and the program's IsBranch answer. Condition: the list is not longer than a list can be. -/
namespace Go.Proofs.Ytfmldgpebnnbbaa.Pure
open Go.RowKit Go.Proofs.Ytfmldgpebnnbbaa.Z Go.Proofs.YtfmldgpebnnbbaaW.PrintWords

def isBranch (n : Int) (l : List Int) : Bool := (List.range l.length).all (fun i => decide (0 ≤ l.getD i 0 ∧ l.getD i 0 ≤ 7) && !dupOf l i) && (decide (0 ≤ n ∧ n ≤ 7) && decide (1 ≤ (l.length : Int) ∧ (l.length : Int) ≤ 4))

theorem branch_at (i n : Int) : impl_at.f i n = some (decide (0 ≤ i ∧ i < n)) := by
  unfold impl_at.f
  by_cases h : 0 ≤ i
  · rw [if_pos (by omega)]
    simp [h]
  · rw [if_neg (by omega)]
    simp [h]
theorem branch_in (n a b : Int) : impl_InRange.f n a b = some (decide (a ≤ n ∧ n ≤ b)) := by
  unfold impl_InRange.f
  by_cases h1 : a ≤ n <;> by_cases h2 : n ≤ b <;> simp [h1, h2] <;> omega

theorem isBranch_iff (n : Int) (l : List Int) : isBranch n l = (decide (1 ≤ (l.length : Int) ∧ (l.length : Int) ≤ 4) && (decide ((sortedF l).length = l.length) && (decide (0 ≤ n ∧ n < 8) && l.all fun x => decide (0 ≤ x ∧ x ≤ 7)))) := by
  rw [Bool.eq_iff_iff]
  unfold isBranch
  simp only [Bool.and_eq_true, List.all_eq_true, List.mem_range, decide_eq_true_eq, Bool.not_eq_true', sorted_len, nodup_iff_dup]
  constructor
  · rintro ⟨h1, h2, h3⟩
    refine ⟨h3, fun i hi => (h1 i hi).2, by omega, fun x hx => ?_⟩
    obtain ⟨i, hi, rfl⟩ := List.getElem_of_mem hx
    have := (h1 i hi).1
    rwa [List.getD_eq_getElem?_getD, List.getElem?_eq_getElem hi] at this
  · rintro ⟨h1, h2, h3, h4⟩
    refine ⟨fun i hi => ⟨?_, h2 i hi⟩, by omega, h1⟩
    rw [List.getD_eq_getElem?_getD, List.getElem?_eq_getElem hi]
    exact h4 _ (List.getElem_mem hi)

theorem impl_isBranch (n : Int) (l : List Int) (hl : l.length ≤ 17592186044416) : Ev (fun k => impl_IsBranch.f k n l) (isBranch n l) := by
  rw [isBranch_iff]
  unfold impl_IsBranch.f
  refine Ev.bind0 (branch_in _ _ _) ?_
  cases decide (1 ≤ (l.length : Int) ∧ (l.length : Int) ≤ 4)
  · exact Ev.ifneg (by decide) (Ev.now _)
  · refine Ev.ifpos rfl (Ev.bind0 (a := sortedF l) (by unfold impl_sorted.f; rw [if_pos hl]) ?_)
    by_cases h : (sortedF l).length = l.length
    · rw [decide_eq_true h]
      refine Ev.ifpos (by omega) (Ev.bind0 (branch_at _ _) ?_)
      cases decide (0 ≤ n ∧ n < 8)
      · exact Ev.ifneg (by decide) (Ev.now _)
      · exact Ev.ifpos rfl (Ev.bind (impl_allIn l 0 7 (by omega)) (Ev.now _))
    · rw [decide_eq_false h]
      exact Ev.ifneg (by omega) (Ev.now _)

end Go.Proofs.Ytfmldgpebnnbbaa.Pure
/- Plain lemma: what the reference's and the program's NextFor answer. Condition: the list is not longer than a list can be. -/
namespace Go.Proofs.Ytfmldgpebnnbbaa.Pure
open Go.RowKit Go.Proofs.Ytfmldgpebnnbbaa.Z Go.Proofs.YtfmldgpebnnbbaaW.PrintWords

def modF (x : Int) : Int := Int.tmod (wrap64 (Int.tmod x 2147483647 + 2147483647)) 2147483647
theorem modF_range (x : Int) : 0 ≤ modF x ∧ modF x < 2147483647 := by
  have h1 := Int.tmod_lt_of_pos x (b := 2147483647) (by decide)
  have h2 := Int.lt_tmod_of_pos x (b := 2147483647) (by decide)
  unfold modF
  rw [wrap_in (by omega) (by omega), Int.tmod_eq_emod_of_nonneg (by omega)]
  omega
def hashStep (h x : Int) : Int := Int.tmod (wrap64 (wrap64 (wrap64 (h * 1000003) + modF x) + 13)) 2147483647
theorem hashStep_range (h x : Int) (h0 : 0 ≤ h) (h1 : h < 2147483647) : 0 ≤ hashStep h x ∧ hashStep h x < 2147483647 := by
  have := modF_range x
  unfold hashStep
  rw [wrap_in (n := h * 1000003) (by omega) (by omega), wrap_in (n := h * 1000003 + modF x) (by omega) (by omega), wrap_in (by omega) (by omega), Int.tmod_eq_emod_of_nonneg (by omega)]
  omega
def hashF (l : List Int) : Int := l.foldl hashStep 11
theorem fold_range (l : List Int) : ∀ h : Int, 0 ≤ h → h < 2147483647 → 0 ≤ l.foldl hashStep h ∧ l.foldl hashStep h < 2147483647 := by
  induction l with
  | nil => intro h h0 h1; exact ⟨h0, h1⟩
  | cons x l ih => intro h h0 h1; have := hashStep_range h x h0 h1; exact ih _ this.1 this.2
theorem hashF_range (l : List Int) : 0 ≤ hashF l ∧ hashF l < 2147483647 := fold_range l 11 (by decide) (by decide)

theorem impl_mod (x : Int) : impl_Mod.f x 2147483647 = some (modF x) := by
  unfold impl_Mod.f
  rw [branch_in]
  rfl

theorem impl_hash (l : List Int) (hl : l.length ≤ 9223372036854775806) : Ev (fun k => impl_Hash.f k l) (hashF l) := by
  unfold impl_Hash.f hashF
  refine Ev.up l.length (fun i (s : Int) k => impl_Hash.l0 k s l (l.length : Int) (i : Int)) (fun i s => (l.drop i).foldl hashStep s) (fun _ _ => True) ?_ ?_ 0 11 (Nat.zero_le _) trivial
  · intro s _
    rw [List.drop_of_length_le (Nat.le_refl _)]
    refine Ev.step (fun k => by rw [impl_Hash.l0]) ?_
    exact Ev.ifneg (by omega) (Ev.now _)
  · intro i s hi _ ih
    rw [drop_get _ i hi, List.foldl_cons]
    refine Ev.step (fun k => by rw [impl_Hash.l0]) ?_
    refine Ev.ifpos (by omega) (Ev.ifpos (by omega) (Ev.ifpos (by omega) ?_))
    rw [rd_get l i hi, wrap_succ (by omega)]
    exact Ev.bind0 (impl_mod _) (ih _ trivial)

/-- The place in a list of n at which the key a leads, at the branch b. -/
def placeOf (b a n : Int) : Int := Int.tmod (hashF [b, a]) n
theorem placeOf_range (b a n : Int) (hn : 1 ≤ n) : 0 ≤ placeOf b a n ∧ placeOf b a n < n := by
  have h := hashF_range [b, a]
  unfold placeOf
  rw [Int.tmod_eq_emod_of_nonneg h.1]
  exact ⟨Int.emod_nonneg _ (by omega), Int.emod_lt_of_pos _ (by omega)⟩
def nextFor (b : Int) (l : List Int) (a : Int) : Int := if isBranch b l = true then (if 0 ≤ a ∧ a ≤ 9999 then rd l (placeOf b a l.length) else -1) else -1

theorem branch_len {b : Int} {l : List Int} (h : isBranch b l = true) : 1 ≤ (l.length : Int) ∧ (l.length : Int) ≤ 4 := by
  unfold isBranch at h
  simp only [Bool.and_eq_true, decide_eq_true_eq] at h
  exact h.2.2

theorem impl_nextFor (b : Int) (l : List Int) (a : Int) (hl : l.length ≤ 17592186044416) : Ev (fun k => impl_NextFor.f k b l a) (nextFor b l a) := by
  unfold impl_NextFor.f nextFor
  refine Ev.bind (impl_isBranch b l hl) ?_
  by_cases hb : isBranch b l = true
  · rw [if_pos hb]
    refine Ev.ifpos hb (Ev.bind0 (branch_in _ _ _) ?_)
    by_cases h : 0 ≤ a ∧ a ≤ 9999
    · rw [if_pos h]
      have hlen := branch_len hb
      have hp := placeOf_range b a l.length hlen.1
      refine Ev.ifpos (decide_eq_true h) (Ev.bind (impl_hash [b, a] (by simp)) ?_)
      exact Ev.ifneg (by omega) (Ev.ifpos hp.1 (Ev.ifpos hp.2 (Ev.now _)))
    · rw [if_neg h]
      exact Ev.ifneg (by rw [decide_eq_true_iff]; exact h) (Ev.now _)
  · rw [if_neg hb]
    exact Ev.ifneg hb (Ev.now _)

end Go.Proofs.Ytfmldgpebnnbbaa.Pure
/- Plain lemma: the next nodes that flows show, as the reference and the program list them. Condition: the lists are not longer than the law's can be. -/
namespace Go.Proofs.Ytfmldgpebnnbbaa.Pure
open Go.RowKit Go.Proofs.Ytfmldgpebnnbbaa.Z Go.Proofs.YtfmldgpebnnbbaaW.PrintWords

/-- What flows show: the next nodes of those that have one. -/
def nextsOf (b : Int) (l : List Int) (fs : List Int) : List Int := (fs.map (nextFor b l)).filter fun n => decide (0 ≤ n)

theorem nextFor_in {b : Int} {l : List Int} (h : isBranch b l = true) (a : Int) (ha : 0 ≤ a ∧ a ≤ 9999) : nextFor b l a ∈ l ∧ 0 ≤ nextFor b l a := by
  have hl := branch_len h
  have hr := placeOf_range b a l.length hl.1
  unfold nextFor
  rw [if_pos h, if_pos ha]
  obtain ⟨j, hj⟩ : ∃ j : Nat, placeOf b a (l.length : Int) = (j : Int) := ⟨(placeOf b a (l.length : Int)).toNat, by omega⟩
  rw [hj, rd_get l j (by omega)]
  refine ⟨List.getElem_mem _, ?_⟩
  unfold isBranch at h
  simp only [Bool.and_eq_true, List.all_eq_true, List.mem_range] at h
  have h2 := (h.1 j (by omega)).1
  rw [List.getD_eq_getElem?_getD, List.getElem?_eq_getElem (by omega)] at h2
  have := of_decide_eq_true h2
  exact this.1

theorem nextFor_lo (b : Int) (l : List Int) (a : Int) : nextFor b l a = -1 ∨ 0 ≤ nextFor b l a := by
  by_cases h : isBranch b l = true
  · by_cases ha : 0 ≤ a ∧ a ≤ 9999
    · exact .inr (nextFor_in h a ha).2
    · exact .inl (by unfold nextFor; rw [if_pos h, if_neg ha])
  · exact .inl (by unfold nextFor; rw [if_neg h])

theorem impl_seenNexts (b : Int) (l fs : List Int) (hl : l.length ≤ 1048576) (hf : fs.length ≤ 1048576) : Ev (fun k => impl_SeenNexts.f k b l fs) (sortedF (nextsOf b l fs)) := by
  unfold impl_SeenNexts.f
  have key := Ev.up fs.length (fun i (out : List Int) k => impl_SeenNexts.l0 k out fs (fs.length : Int) (i : Int) b l) (fun i out => sortedF (out ++ nextsOf b l (fs.drop i))) (fun i out => out.length ≤ i) ?_ ?_ 0 [] (Nat.zero_le _) (Nat.le_refl _)
  · rw [List.drop_zero, List.nil_append] at key
    exact key
  · intro out ho
    rw [List.drop_of_length_le (Nat.le_refl _)]
    refine Ev.step (fun k => by rw [impl_SeenNexts.l0]) ?_
    refine Ev.ifneg (by omega) (Ev.bind0 (a := sortedF out) ?_ ?_)
    · unfold impl_sorted.f
      rw [if_pos (by omega)]
    · exact Ev.pure (by show sortedF out = sortedF (out ++ nextsOf b l []); unfold nextsOf; simp)
  · intro i out hi ho ih
    refine Ev.step (fun k => by rw [impl_SeenNexts.l0]) ?_
    refine Ev.ifpos (by omega) (Ev.ifpos (by omega) (Ev.ifpos (by omega) ?_))
    rw [rd_get fs i hi, wrap_succ (by omega)]
    refine Ev.bind (impl_nextFor b l fs[i] (by omega)) ?_
    have hlo := nextFor_lo b l fs[i]
    rw [drop_get fs i hi]
    by_cases hneg : nextFor b l fs[i] = -1
    · have e : nextsOf b l (fs[i] :: fs.drop (i + 1)) = nextsOf b l (fs.drop (i + 1)) := by
        unfold nextsOf
        rw [List.map_cons, List.filter_cons_of_neg (by rw [decide_eq_true_iff]; omega)]
      rw [e]
      exact Ev.ifpos hneg (ih out (by omega))
    · have e : nextsOf b l (fs[i] :: fs.drop (i + 1)) = nextFor b l fs[i] :: nextsOf b l (fs.drop (i + 1)) := by
        unfold nextsOf
        rw [List.map_cons, List.filter_cons_of_pos (by rw [decide_eq_true_iff]; omega)]
      rw [e]
      have h := ih (out ++ [nextFor b l fs[i]]) (by simp; omega)
      rw [List.append_assoc, List.singleton_append] at h
      exact Ev.ifneg hneg (Ev.ifpos (by omega) h)

theorem nextsOf_length (b : Int) (l fs : List Int) : (nextsOf b l fs).length ≤ fs.length := by
  unfold nextsOf
  have := List.length_filter_le (fun n : Int => decide (0 ≤ n)) (fs.map (nextFor b l))
  rwa [List.length_map] at this

end Go.Proofs.Ytfmldgpebnnbbaa.Pure
/- Plain lemmas: the bound that a try is missed, and the tries that a percentage wants. No condition. -/
namespace Go.Proofs.Ytfmldgpebnnbbaa.Pure
open Go.RowKit Go.Proofs.Ytfmldgpebnnbbaa.Z Go.Proofs.YtfmldgpebnnbbaaW.PrintWords

def missV (n t : Int) : Int × Int := (impl_MissBound.f 30 n t).getD (0, 0)
theorem miss_all : ∀ n : Fin 4, ∀ t : Fin 21, ((impl_MissBound.f 30 ((n.val : Int) + 1) (t.val : Int)).isSome && decide (0 < (missV ((n.val : Int) + 1) (t.val : Int)).2) && decide (0 ≤ (missV ((n.val : Int) + 1) (t.val : Int)).1)) = true := by decide +kernel
theorem miss_ev (n : Int) (t : Nat) (h1 : 1 ≤ n) (h2 : n ≤ 4) (ht : t ≤ 20) : Ev (fun k => impl_MissBound.f k n (t : Int)) (missV n (t : Int)) ∧ 0 < (missV n (t : Int)).2 ∧ 0 ≤ (missV n (t : Int)).1 := by
  have h := miss_all ⟨(n - 1).toNat, by omega⟩ ⟨t, by omega⟩
  have e0 : (((n - 1).toNat : Nat) : Int) + 1 = n := by omega
  simp only [e0, Bool.and_eq_true, decide_eq_true_eq] at h
  obtain ⟨⟨h3, h4⟩, h5⟩ := h
  obtain ⟨r, hr⟩ := Option.isSome_iff_exists.1 h3
  have e : missV n (t : Int) = r := by unfold missV; rw [hr]; rfl
  exact ⟨by rw [e]; exact Ev.of (fun k => impl_MissBound.mono _ _ k) hr, h4, h5⟩

/-- Are t tries enough? -/
def enough (n p : Int) (t : Int) : Prop := wrap64 (100 * (missV n t).1) ≤ wrap64 (p * (missV n t).2)

theorem tries_loop (n p : Int) (h1 : 1 ≤ n) (h2 : n ≤ 4) : ∀ d t : Nat, t + d = 21 → ∃ r, Ev (fun k => impl_TriesFor.l0 k n p (t : Int)) r ∧ (-1 ≤ r ∧ r ≤ 20) ∧ (0 ≤ r → enough n p r) ∧ ∀ j : Nat, t ≤ j → (j : Int) < r → ¬ enough n p (j : Int) := by
  intro d
  induction d with
  | zero =>
    intro t ht
    refine ⟨-1, Ev.step (fun k => by rw [impl_TriesFor.l0]) ?_, by decide, fun h => absurd h (by decide), fun j _ h => absurd h (by omega)⟩
    exact Ev.ifneg (by omega) (Ev.now _)
  | succ d ih =>
    intro t ht
    obtain ⟨hm, _, _⟩ := miss_ev n t h1 h2 (by omega)
    by_cases hc : enough n p (t : Int)
    · refine ⟨(t : Int), Ev.step (fun k => by rw [impl_TriesFor.l0]) ?_, by omega, fun _ => hc, fun j h3 h4 => absurd h4 (by omega)⟩
      exact Ev.ifpos (by omega) (Ev.bind hm (Ev.ifpos hc (Ev.now _)))
    · obtain ⟨r, hr, h3, h4, h5⟩ := ih (t + 1) (by omega)
      refine ⟨r, Ev.step (fun k => by rw [impl_TriesFor.l0]) ?_, h3, h4, fun j h6 h7 => ?_⟩
      · rw [wrap_succ (i := t) (by omega)]
        exact Ev.ifpos (by omega) (Ev.bind hm (Ev.ifneg hc hr))
      · rcases Nat.eq_or_lt_of_le h6 with rfl | h6
        · exact hc
        · exact h5 j h6 h7

theorem tries_in (n a b : Int) : impl_InRange.f n a b = some (decide (a ≤ n ∧ n ≤ b)) := by
  unfold impl_InRange.f
  by_cases h1 : a ≤ n <;> by_cases h2 : n ≤ b <;> simp [h1, h2] <;> omega

theorem tries_for (n p : Int) : ∃ r, Ev (fun k => impl_TriesFor.f k n p) r ∧ (-1 ≤ r ∧ r ≤ 20) ∧ (0 ≤ r → enough n p r) ∧ ∀ j : Nat, (j : Int) < r → ¬ enough n p (j : Int) := by
  unfold impl_TriesFor.f
  have hbad : ∀ f : Nat → Option Int, Ev f (-1) → ∃ r, Ev f r ∧ (-1 ≤ r ∧ r ≤ 20) ∧ (0 ≤ r → enough n p r) ∧ ∀ j : Nat, (j : Int) < r → ¬ enough n p (j : Int) := fun f h => ⟨-1, h, by decide, fun h => absurd h (by decide), fun j h => absurd h (by omega)⟩
  by_cases hn : 1 ≤ n ∧ n ≤ 4
  · by_cases hp : 0 ≤ p ∧ p ≤ 100
    · obtain ⟨r, hr, h1, h2, h3⟩ := tries_loop n p hn.1 hn.2 21 0 rfl
      refine ⟨r, Ev.bind0 (tries_in _ _ _) (Ev.ifpos (decide_eq_true hn) (Ev.bind0 (tries_in _ _ _) ?_)), h1, h2, fun j h => h3 j (Nat.zero_le _) h⟩
      rw [decide_eq_true hp]
      refine Ev.step (fun k => by rw [impl_TriesFor.j0]) ?_
      exact Ev.ifneg (by decide) hr
    · refine hbad _ (Ev.bind0 (tries_in _ _ _) (Ev.ifpos (decide_eq_true hn) (Ev.bind0 (tries_in _ _ _) ?_)))
      rw [decide_eq_false hp]
      refine Ev.step (fun k => by rw [impl_TriesFor.j0]) ?_
      exact Ev.ifpos rfl (Ev.now _)
  · refine hbad _ (Ev.bind0 (tries_in _ _ _) (Ev.ifneg (by rw [decide_eq_true_iff]; exact hn) ?_))
    refine Ev.step (fun k => by rw [impl_TriesFor.j0]) ?_
    exact Ev.ifpos rfl (Ev.now _)

end Go.Proofs.Ytfmldgpebnnbbaa.Pure
/- Plain lemmas: what is drawn from the bytes: each draw answers; Below n lies in 0..n-1; Int gives an element. Condition: the bytes are no more than a slice can hold. -/
namespace Go.Proofs.Ytfmldgpebnnbbaa.Pure
open Go.RowKit Go.Proofs.Ytfmldgpebnnbbaa.Z Go.Proofs.YtfmldgpebnnbbaaW.PrintWords

theorem and255 (x : Int) : 0 ≤ Go.bits .and .i64 x 255 ∧ Go.bits .and .i64 x 255 ≤ 255 := by
  have h : (BitVec.ofInt 64 x &&& BitVec.ofInt 64 255).toNat ≤ 255 := by
    rw [BitVec.toNat_and]
    exact Nat.and_le_right
  have e : Go.bits .and .i64 x 255 = wrap64 ((BitVec.ofInt 64 x &&& BitVec.ofInt 64 255).toNat : Int) := by
    unfold Go.bits
    exact Go.Proofs.YtfmldgpebnnbbaaW.PrintLast.i64_w _
  rw [e, wrap_in (by omega) (by omega)]
  omega

/-- A place in the bytes. -/
def Cur (x : List Int) (i : Int) : Prop := 0 ≤ i ∧ i ≤ x.length

theorem cur_byte (x : List Int) (i s : Int) (hx : x.length ≤ 4611686018427387904) (hi : Cur x i) : ∃ v i' s', spec_l1Byte.f x i s = some (v, i', s') ∧ (0 ≤ v ∧ v ≤ 255) ∧ Cur x i' := by
  unfold spec_l1Byte.f
  by_cases h : i < x.length
  · rw [if_pos h, if_pos hi.1]
    refine ⟨_, _, _, rfl, and255 _, ?_⟩
    have h0 := hi.1
    rw [wrap_in (by omega) (by omega)]
    exact ⟨by omega, by omega⟩
  · rw [if_neg h]
    exact ⟨_, _, _, rfl, and255 _, hi⟩

theorem cur_below (x : List Int) (i s n : Int) (hx : x.length ≤ 4611686018427387904) (hi : Cur x i) (hn : 0 < n) : ∃ v i' s', spec_l1Below.f x i s n = some (v, i', s') ∧ (0 ≤ v ∧ v < n) ∧ Cur x i' := by
  unfold spec_l1Below.f
  rw [if_neg (by omega)]
  obtain ⟨v1, i1, s1, e1, h1, c1⟩ := cur_byte x i s hx hi
  rw [e1]
  by_cases h : n ≤ 256
  · rw [if_pos h, Option.bind_some, if_neg (by omega)]
    refine ⟨_, _, _, rfl, ?_, c1⟩
    show 0 ≤ Int.tmod v1 n ∧ Int.tmod v1 n < n
    rw [Int.tmod_eq_emod_of_nonneg h1.1]
    exact ⟨Int.emod_nonneg _ (by omega), Int.emod_lt_of_pos _ hn⟩
  · obtain ⟨v2, i2, s2, e2, h2, c2⟩ := cur_byte x i1 s1 hx c1
    obtain ⟨v3, i3, s3, e3, h3, c3⟩ := cur_byte x i2 s2 hx c2
    rw [if_neg h, Option.bind_some]
    show ∃ v i' s', ((spec_l1Byte.f x i1 s1).bind _) = _ ∧ _
    rw [e2, Option.bind_some]
    show ∃ v i' s', ((spec_l1Byte.f x i2 s2).bind _) = _ ∧ _
    rw [e3, Option.bind_some, if_neg (by omega)]
    refine ⟨_, _, _, rfl, ?_, c3⟩
    show 0 ≤ Int.tmod (wrap64 (wrap64 (wrap64 (v1 * 65536) + wrap64 (v2 * 256)) + v3)) n ∧ _
    rw [wrap_in (n := v1 * 65536) (by omega) (by omega), wrap_in (n := v2 * 256) (by omega) (by omega), wrap_in (n := v1 * 65536 + v2 * 256) (by omega) (by omega), wrap_in (by omega) (by omega), Int.tmod_eq_emod_of_nonneg (by omega)]
    exact ⟨Int.emod_nonneg _ (by omega), Int.emod_lt_of_pos _ hn⟩

theorem cur_int (x : List Int) (i s : Int) (l : List Int) (hx : x.length ≤ 4611686018427387904) (hi : Cur x i) (hl : 0 < l.length) : ∃ v i' s', spec_l1Int.f x i s l = some (v, i', s') ∧ v ∈ l ∧ Cur x i' := by
  obtain ⟨v, i', s', e, h, c⟩ := cur_below x i s l.length hx hi (by omega)
  unfold spec_l1Int.f
  rw [e, Option.bind_some]
  refine ⟨rd l v, i', s', ?_, ?_, c⟩
  · show (if 0 ≤ v then (if v < (l.length : Int) then some (rd l v, i', s') else none) else none) = _
    rw [if_pos h.1, if_pos h.2]
  · obtain ⟨j, rfl⟩ : ∃ j : Nat, v = (j : Int) := ⟨v.toNat, by omega⟩
    rw [rd_get l j (by omega)]
    exact List.getElem_mem _

theorem cur_new_from (x : List Int) (_hx : x.length ≤ 4611686018427387904) : ∀ d i h, i + d = x.length → ∃ s, Ev (fun k => spec_l1New.l0 k x h (i : Int)) (x, 0, s) := by
  intro d
  induction d with
  | zero =>
    intro i h hi
    refine ⟨h, Ev.step (fun k => by rw [spec_l1New.l0]) ?_⟩
    exact Ev.ifneg (by omega) (Ev.now _)
  | succ d ih =>
    intro i h hi
    by_cases h4 : (i : Int) < 4000
    · obtain ⟨s, hs⟩ := ih (i + 1) (Go.bits .and .i64 (wrap64 ((wrap64 ((wrap64 (h * 137)) + (wrap64 (rd x i)))) + 11)) 1073741823) (by omega)
      refine ⟨s, Ev.step (fun k => by rw [spec_l1New.l0]) ?_⟩
      refine Ev.ifpos (by omega) (Ev.ifpos h4 (Ev.ifpos (by omega) ?_))
      have e : wrap64 ((i : Int) + 1) = ((i + 1 : Nat) : Int) := wrap_succ (by omega)
      rw [e]
      exact hs
    · refine ⟨h, Ev.step (fun k => by rw [spec_l1New.l0]) ?_⟩
      exact Ev.ifpos (by omega) (Ev.ifneg h4 (Ev.now _))

theorem cur_new (x : List Int) (hx : x.length ≤ 4611686018427387904) : ∃ s, Ev (fun k => spec_l1New.f k x) (x, 0, s) := by
  unfold spec_l1New.f
  exact cur_new_from x hx x.length 0 _ (by omega)

theorem cur_zero (x : List Int) : Cur x 0 := ⟨by omega, by omega⟩

end Go.Proofs.Ytfmldgpebnnbbaa.Pure
/- Plain lemmas: a drawn branch has at most five next nodes. Condition: the bytes are no more than a slice can hold. -/
namespace Go.Proofs.Ytfmldgpebnnbbaa.Pure
open Go.RowKit Go.Proofs.Ytfmldgpebnnbbaa.Z Go.Proofs.YtfmldgpebnnbbaaW.PrintWords

section
variable (x : List Int) (hx : x.length ≤ 4611686018427387904)
include hx

theorem draw12_end (i s n : Int) (l : List Int) (hi : Cur x i) (hl : 1 ≤ l.length ∧ l.length ≤ 4) (c : Int) (m : Int) (hc : ¬ m < c) (z : Int) : ∃ u q i' s', Ev (fun k => spec_l12Any.l0 k c z m x i s n l) (u, q, i', s') ∧ q.length ≤ 5 ∧ Cur x i' := by
  obtain ⟨v, i3, s3, e3, h3, c3⟩ := cur_below x i s 9 hx hi (by decide)
  have h0 : (0 : Int) < (l.length : Int) := by omega
  have h8 : l.length < 17592186044416 := by omega
  by_cases v0 : v = 0
  · obtain ⟨u, i4, s4, e4, _, c4⟩ := cur_int x i3 s3 [(-1), 8] hx c3 (by decide)
    refine ⟨u, l, i4, s4, Ev.step (fun k => by rw [spec_l12Any.l0]) (Ev.ifneg hc (Ev.bind0 e3 (Ev.ifpos v0 (Ev.bind0 e4 ?_)))), by omega, c4⟩
    exact Ev.now _
  · by_cases v1 : v = 1
    · refine ⟨n, l ++ [rd l 0], i3, s3, Ev.step (fun k => by rw [spec_l12Any.l0]) (Ev.ifneg hc (Ev.bind0 e3 (Ev.ifneg v0 (Ev.ifpos v1 (Ev.ifpos h0 (Ev.ifpos h8 ?_)))))), by rw [List.length_append, List.length_singleton]; omega, c3⟩
      exact Ev.now _
    · by_cases v2 : v = 2
      · refine ⟨n, [], i3, s3, Ev.step (fun k => by rw [spec_l12Any.l0]) (Ev.ifneg hc (Ev.bind0 e3 (Ev.ifneg v0 (Ev.ifneg v1 (Ev.ifpos v2 ?_))))), by simp, c3⟩
        exact Ev.now _
      · by_cases v3 : v = 3
        · obtain ⟨u, i4, s4, e4, _, c4⟩ := cur_int x i3 s3 [(-1), 8, 9223372036854775807] hx c3 (by decide)
          refine ⟨n, l.set (0 : Int).toNat u, i4, s4, Ev.step (fun k => by rw [spec_l12Any.l0]) (Ev.ifneg hc (Ev.bind0 e3 (Ev.ifneg v0 (Ev.ifneg v1 (Ev.ifneg v2 (Ev.ifpos v3 (Ev.bind0 e4 (Ev.ifpos h0 ?_)))))))), by rw [List.length_set]; omega, c4⟩
          exact Ev.now _
        · refine ⟨n, l, i3, s3, Ev.step (fun k => by rw [spec_l12Any.l0]) (Ev.ifneg hc (Ev.bind0 e3 (Ev.ifneg v0 (Ev.ifneg v1 (Ev.ifneg v2 (Ev.ifneg v3 ?_)))))), by omega, c3⟩
          exact Ev.now _

theorem draw12_more (n z : Int) (c : Nat) (hc : 1 ≤ c ∧ c ≤ 4) : ∀ (d m : Nat) (i s : Int) (l : List Int), m + d = c → l.length = m → Cur x i → ∃ u q i' s', Ev (fun k => spec_l12Any.l0 k (c : Int) z (m : Int) x i s n l) (u, q, i', s') ∧ q.length ≤ 5 ∧ Cur x i' := by
  intro d
  induction d with
  | zero =>
    intro m i s l hm hl hi
    exact draw12_end x hx i s n l hi (by omega) (c : Int) (m : Int) (by omega) z
  | succ d ih =>
    intro m i s l hm hl hi
    obtain ⟨u, q, i', s', h1, h2⟩ := ih (m + 1) i s (l ++ [wrap64 (z + (m : Int))]) (by omega) (by rw [List.length_append, List.length_singleton]; omega) hi
    refine ⟨u, q, i', s', Ev.step (fun k => by rw [spec_l12Any.l0]) ?_, h2⟩
    rw [wrap_succ (i := m) (by omega)]
    exact Ev.ifpos (by omega) (Ev.ifpos (by omega) h1)

theorem draw12 (i s : Int) (hi : Cur x i) : ∃ u q i' s', Ev (fun k => spec_l12Any.f k x i s) (u, q, i', s') ∧ q.length ≤ 5 ∧ Cur x i' := by
  obtain ⟨v1, i1, s1, e1, h1, c1⟩ := cur_below x i s 8 hx hi (by decide)
  obtain ⟨v2, i2, s2, e2, h2, c2⟩ := cur_below x i1 s1 4 hx c1 (by decide)
  obtain ⟨v3, i3, s3, e3, h3, c3⟩ := cur_below x i2 s2 4 hx c2 (by decide)
  have e : wrap64 (1 + v2) = ((1 + v2.toNat : Nat) : Int) := by rw [wrap_in (by omega) (by omega)]; omega
  obtain ⟨u, q, i', s', h4, h5⟩ := draw12_more x hx v1 v3 (1 + v2.toNat) (by omega) (1 + v2.toNat) 0 i3 s3 [] (by omega) rfl c3
  refine ⟨u, q, i', s', ?_, h5⟩
  unfold spec_l12Any.f
  refine Ev.bind0 e1 (Ev.bind0 e2 (Ev.bind0 e3 ?_))
  show Ev (fun k => spec_l12Any.l0 k (wrap64 (1 + v2)) v3 0 x i3 s3 v1 []) _
  rw [e]
  exact h4

end

end Go.Proofs.Ytfmldgpebnnbbaa.Pure
namespace Go.Proofs.Ytfmldgpebnnbbaa.Pure
open Go.RowKit Go.Proofs.Ytfmldgpebnnbbaa.Z Go.Proofs.YtfmldgpebnnbbaaW.PrintWords

theorem laws_has (l : List Int) (x : Int) (hl : l.length ≤ 9223372036854775806) : Ev (fun k => laws_contains.f k l x) (l.any fun y => decide (y = x)) := by
  unfold laws_contains.f
  refine any_loop (fun y => decide (y = x)) l (fun i k => laws_contains.l0 k l x (i : Int)) ?_ ?_ ?_
  · refine Ev.step (fun k => by rw [laws_contains.l0]) ?_
    exact Ev.ifneg (by omega) (Ev.now _)
  · intro i hi h
    refine Ev.step (fun k => by rw [laws_contains.l0]) ?_
    refine Ev.ifpos (by omega) (Ev.ifpos (by omega) ?_)
    rw [rd_get l i hi]
    exact Ev.ifpos (of_decide_eq_true h) (Ev.now _)
  · intro i hi r h hr
    refine Ev.step (fun k => by rw [laws_contains.l0]) ?_
    refine Ev.ifpos (by omega) (Ev.ifpos (by omega) ?_)
    rw [rd_get l i hi, wrap_succ (by omega)]
    exact Ev.ifneg (of_decide_eq_false h) hr

theorem laws_has_mem (l : List Int) (x : Int) (hl : l.length ≤ 9223372036854775806) (h : x ∈ l) : Ev (fun k => laws_contains.f k l x) true := by
  have e : (l.any fun y => decide (y = x)) = true := List.any_eq_true.2 ⟨x, h, decide_eq_true rfl⟩
  rw [← e]
  exact laws_has l x hl

theorem draw_flows (x : List Int) (hx : x.length ≤ 4611686018427387904) : ∃ b l fs, Ev (fun k => spec_DrawSeenNexts.f k x) (b, l, fs) ∧ l.length ≤ 5 ∧ fs.length ≤ 7 := by
  obtain ⟨s, hs⟩ := cur_new x hx
  obtain ⟨b, l, i1, s1, h1, h2, c1⟩ := draw12 x hx 0 s (cur_zero x)
  obtain ⟨v, i2, s2, e2, h3, c2⟩ := cur_below x i1 s1 7 hx c1 (by decide)
  have more : ∀ (m : Nat) (o : List Int) (i s : Int), Cur x i → o.length + m ≤ 7 → ∃ fs, Ev (fun k => spec_DrawSeenNexts.l0 k o (m : Int) x i s b l) (b, l, fs) ∧ fs.length ≤ 7 := by
    intro m
    induction m with
    | zero =>
      intro o i s _ ho
      exact ⟨o, Ev.step (fun k => by rw [spec_DrawSeenNexts.l0]) (Ev.ifneg (by omega) (Ev.now _)), by omega⟩
    | succ m ih =>
      intro o i s hi ho
      obtain ⟨u, i3, s3, e3, _, c3⟩ := cur_below x i s 50 hx hi (by decide)
      obtain ⟨fs, h4, h5⟩ := ih (o ++ [wrap64 (u - 1)]) i3 s3 c3 (by rw [List.length_append, List.length_singleton]; omega)
      refine ⟨fs, Ev.step (fun k => by rw [spec_DrawSeenNexts.l0]) ?_, h5⟩
      have ew : wrap64 (((m + 1 : Nat) : Int) - 1) = (m : Int) := by rw [wrap_in (by omega) (by omega)]; omega
      rw [ew]
      exact Ev.ifpos (by omega) (Ev.bind0 e3 (Ev.ifpos (by omega) h4))
  obtain ⟨m, rfl⟩ : ∃ m : Nat, v = (m : Int) := ⟨v.toNat, by omega⟩
  obtain ⟨fs, h4, h5⟩ := more m [] i2 s2 c2 (by simp; omega)
  unfold spec_DrawSeenNexts.f
  exact ⟨b, l, fs, Ev.bind hs (Ev.bind h1 (Ev.bind0 e2 h4)), h2, h5⟩

theorem branches_tries (n p : Int) (t : Int) (ht : -1 ≤ t ∧ t ≤ 20) (h1 : 0 ≤ t → enough n p t) (h2 : ∀ j : Nat, (j : Int) < t → ¬ enough n p (j : Int)) : ∀ (d c : Nat), c + d = 21 → Ev (fun k => laws_FnBranches.l2 k n p t (c : Int)) true := by
  have hend : ∀ c : Int, Ev (fun k => laws_FnBranches.j3 k n p t c false) true := fun c => by
    refine Ev.step (fun k => by rw [laws_FnBranches.j3]) ?_
    exact Ev.ifneg (by decide) (Ev.ifpos ht.1 (Ev.pure (decide_eq_true ht.2)))
  intro d
  induction d with
  | zero =>
    intro c hc
    refine Ev.step (fun k => by rw [laws_FnBranches.l2]) ?_
    exact Ev.ifneg (by omega) (hend _)
  | succ d ih =>
    intro c hc
    have hnext := ih (c + 1) (by omega)
    have ew : wrap64 ((c : Int) + 1) = ((c + 1 : Nat) : Int) := wrap_succ (by omega)
    refine Ev.step (fun k => by rw [laws_FnBranches.l2]) ?_
    refine Ev.ifpos (by omega) ?_
    by_cases hn1 : n ≥ 1
    · refine Ev.ifpos hn1 ?_
      by_cases hn4 : n ≤ 4
      · rw [decide_eq_true hn4]
        obtain ⟨hm, hy, hx⟩ := miss_ev n c hn1 hn4 (by omega)
        refine Ev.step (fun k => by rw [laws_FnBranches.j3]) ?_
        rw [ew]
        refine Ev.ifpos rfl (Ev.bind hm (Ev.ifneg (by omega) (Ev.ifneg (by omega) ?_)))
        by_cases h3 : (c : Int) < t
        · exact Ev.ifpos h3 (Ev.ifneg (h2 c h3) (Ev.ifneg (by omega) hnext))
        · refine Ev.ifneg h3 ?_
          by_cases h4 : (c : Int) = t
          · have h5 := h1 (by omega)
            rw [← h4] at h5
            unfold enough at h5
            exact Ev.ifpos h4 (Ev.ifneg (by omega) hnext)
          · exact Ev.ifneg h4 hnext
      · rw [decide_eq_false hn4]
        exact hend _
    · exact Ev.ifneg hn1 (hend _)

theorem FnBranches : laws_FnBranches.Pure := by
  intro x hx _ _
  refine Ev.rounds ?_
  unfold laws_FnBranches.f laws_big.f
  by_cases hbig : (x.length : Int) > 1048576
  · exact Ev.bind0 (a := true) (by rw [decide_eq_true hbig]) (Ev.ifpos rfl (Ev.now _))
  refine Ev.bind0 (a := false) (by rw [decide_eq_false hbig]) (Ev.ifneg (by decide) ?_)
  obtain ⟨b, l, fs, hd, hl, hf⟩ := draw_flows x (by omega)
  refine Ev.bind hd (Ev.bind (impl_seenNexts b l fs (by omega) (by omega)) ?_)
  have hrise := sorted_rise (nextsOf b l fs)
  have hmem := sorted_mem (nextsOf b l fs)
  have hlen := Nat.le_trans (sorted_len_le (nextsOf b l fs)) (nextsOf_length b l fs)
  generalize hq : sortedF (nextsOf b l fs) = q at hrise hmem hlen ⊢
  refine Ev.up0 q.length (fun i k => laws_FnBranches.l0 k x fs q (i : Int) b l) (fun _ => true) ?_ ?_ 0 (Nat.zero_le _)
  · refine Ev.step (fun k => by rw [laws_FnBranches.l0]) ?_
    refine Ev.ifneg (by omega) ?_
    refine Ev.up0 fs.length (fun i k => laws_FnBranches.l1 k x fs q (i : Int) b l) (fun _ => true) ?_ ?_ 0 (Nat.zero_le _)
    · refine Ev.step (fun k => by rw [laws_FnBranches.l1]) ?_
      refine Ev.ifneg (by omega) ?_
      obtain ⟨s, hs⟩ := cur_new x (by omega)
      obtain ⟨n, i1, s1, e1, _, c1⟩ := cur_below x 0 s 7 (by omega) (cur_zero x) (by decide)
      obtain ⟨p, i2, s2, e2, _, _⟩ := cur_int x i1 s1 [(-1), 0, 1, 5, 50, 100, 101] (by omega) c1 (by decide)
      have hdr : Ev (fun k => spec_DrawTriesFor.f k x) (wrap64 (n - 1), p) := by
        unfold spec_DrawTriesFor.f
        exact Ev.bind hs (Ev.bind0 e1 (Ev.bind0 e2 (Ev.now _)))
      obtain ⟨t, h1, h2, h3, h4⟩ := tries_for (wrap64 (n - 1)) p
      exact Ev.bind hdr (Ev.bind h1 (branches_tries _ _ t h2 h3 h4 21 0 rfl))
    · intro i hi ih
      refine Ev.step (fun k => by rw [laws_FnBranches.l1]) ?_
      rw [rd_get fs i hi, wrap_succ (by omega)]
      refine Ev.ifpos (by omega) (Ev.ifpos (by omega) (Ev.bind (impl_nextFor b l fs[i] (by omega)) ?_))
      by_cases h : nextFor b l fs[i] ≥ 0
      · refine Ev.ifpos h (Ev.bind (laws_has_mem q _ (by omega) ?_) (Ev.ifpos rfl ih))
        rw [hmem]
        unfold nextsOf
        rw [List.mem_filter]
        exact ⟨List.mem_map_of_mem (List.getElem_mem hi), decide_eq_true h⟩
      · exact Ev.ifneg h ih
  · intro i hi ih
    refine Ev.step (fun k => by rw [laws_FnBranches.l0]) ?_
    rw [rd_get q i hi, wrap_succ (by omega)]
    have hin : q[i] ∈ l := by
      have h := (hmem q[i]).1 (List.getElem_mem hi)
      unfold nextsOf at h
      rw [List.mem_filter, List.mem_map] at h
      obtain ⟨⟨a, _, ha⟩, h2⟩ := h
      have h2 := of_decide_eq_true h2
      rw [← ha] at h2 ⊢
      by_cases hb : isBranch b l = true
      · by_cases h9 : 0 ≤ a ∧ a ≤ 9999
        · exact (nextFor_in hb a h9).1
        · unfold nextFor at h2
          rw [if_pos hb, if_neg h9] at h2
          omega
      · unfold nextFor at h2
        rw [if_neg hb] at h2
        omega
    refine Ev.ifpos (by omega) (Ev.ifpos (by omega) (Ev.bind (laws_has_mem l _ (by omega) hin) (Ev.ifpos rfl ?_)))
    by_cases h0 : (i : Int) > 0
    · have ew : wrap64 ((i : Int) - 1) = ((i - 1 : Nat) : Int) := by rw [wrap_in (by omega) (by omega)]; omega
      rw [ew, rd_get q (i - 1) (by omega)]
      have hlt := List.pairwise_iff_getElem.1 hrise (i - 1) i (by omega) hi (by omega)
      exact Ev.ifpos h0 (Ev.ifpos (by omega) (Ev.ifpos (by omega) (Ev.ifneg (by omega) ih)))
    · exact Ev.ifneg h0 ih

end Go.Proofs.Ytfmldgpebnnbbaa.Pure
