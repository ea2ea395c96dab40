/- The statement: for every list of traces, the program's MapOf answers as the reference's does, leaves the traces as they were, and its answer shares no memory with the traces or with another answer. No condition. -/
import Derived.Test.YtgghhcifkgdpeaaWWords
import Derived.Test.YtgghhcifkgdpeaaWLast
import Derived.Test.YtgghhcifkgdpeaaWMore
import Derived.Test.YtgghhcifkgdpeaaZ3
import Derived.Test.YtgghhcifkgdpeaaZ6
import Derived.Test.YtgghhcifkgdpeaaZ7
import Derived.Test.YtgghhcifkgdpeaaZ9
import Derived.Test.YtgghhcifkgdpeaaZ10
import Derived.Test.YtgghhcifkgdpeaaZ11
import Derived.Test.YtgghhcifkgdpeaaZ12
import Derived.Test.YtgghhcifkgdpeaaZFirst
import Derived.Test.YtgghhcifkgdpeaaZ2
import Derived.Test.YtgghhcifkgdpeaaZ4
import Derived.Test.YtgghhcifkgdpeaaZ5
import Derived.Test.YtgghhcifkgdpeaaZ8
import Derived.Test.YtgghhcifkgdpeaaZDefFnExactMapOf
/- Plain lemmas for what the printed functions come to: loops that go up, indices that do not wrap, reads. No condition. -/
namespace Go.Proofs.Ytgghhcifkgdpeaa.Pure
open Go.RowKit Go.Proofs.YtgghhcifkgdpeaaW.PrintWords Go.Proofs.YtgghhcifkgdpeaaW.PrintLast Go.Proofs.YtgghhcifkgdpeaaW.PrintMore

/-- A loop that goes up to n: at each index it comes to R, if it does so one index further. -/
theorem Ev.up {σ ρ : Type} (n : Nat) (G : Nat → σ → Nat → Option ρ) (R : Nat → σ → ρ) (Inv : Nat → σ → Prop) (hend : ∀ s, Inv n s → Ev (G n s) (R n s))
    (hstep : ∀ i s, i < n → Inv i s → (∀ s', Inv (i + 1) s' → Ev (G (i + 1) s') (R (i + 1) s')) → Ev (G i s) (R i s)) : ∀ i s, i ≤ n → Inv i s → Ev (G i s) (R i s) := by
  have key : ∀ d i s, i + d = n → Inv i s → Ev (G i s) (R i s) := by
    intro d
    induction d with
    | zero => intro i s h hi; obtain rfl : i = n := by omega
              exact hend s hi
    | succ d ih => intro i s h hi; exact hstep i s (by omega) hi (fun s' hs' => ih (i + 1) s' (by omega) hs')
  intro i s h hi
  exact key (n - i) i s (by omega) hi

/-- The same without a state. -/
theorem Ev.up0 {ρ : Type} (n : Nat) (G : Nat → Nat → Option ρ) (R : Nat → ρ) (hend : Ev (G n) (R n)) (hstep : ∀ i, i < n → Ev (G (i + 1)) (R (i + 1)) → Ev (G i) (R i)) : ∀ i, i ≤ n → Ev (G i) (R i) := by
  intro i h
  exact Ev.up n (fun i (_ : Unit) => G i) (fun i _ => R i) (fun _ _ => True) (fun _ _ => hend) (fun i s hi _ hn => hstep i hi (hn () trivial)) i () h trivial

theorem Ev.det {α : Type} {g : Nat → Option α} {r q : α} (h : Ev g r) (h' : Ev g q) : r = q := by
  obtain ⟨K, h⟩ := h
  obtain ⟨K', h'⟩ := h'
  have a := h (max K K') (by omega)
  have b := h' (max K K') (by omega)
  rw [a] at b
  exact Option.some.inj b

theorem Ev.const {α : Type} {g : Nat → Option α} {r : α} (h : ∀ k, g k = some r) : Ev g r := ⟨0, fun k _ => h k⟩

theorem Ev.ifpos {α : Type} {c : Prop} [Decidable c] {g f : Nat → Option α} {r : α} (hc : c) (h : Ev g r) : Ev (fun k => if c then g k else f k) r := Ev.congr (fun k => by rw [if_pos hc]) h
theorem Ev.ifneg {α : Type} {c : Prop} [Decidable c] {g f : Nat → Option α} {r : α} (hc : ¬ c) (h : Ev f r) : Ev (fun k => if c then g k else f k) r := Ev.congr (fun k => by rw [if_neg hc]) h
theorem Ev.pure {α : Type} {a r : α} (h : a = r) : Ev (fun _ => some a) r := by subst h; exact Ev.now _

/-- A call that needs no rounds. -/
theorem Ev.bind0 {α β : Type} {g : Option α} {f : Nat → α → Option β} {a : α} {r : β} (h : g = some a) (k : Ev (fun n => f n a) r) : Ev (fun n => g.bind (f n)) r :=
  Ev.congr (fun n => by rw [h]; rfl) k

theorem wrap_in {n : Int} (h0 : -9223372036854775808 ≤ n) (h1 : n ≤ 9223372036854775807) : wrap64 n = n := by unfold wrap64; omega
theorem wrap_succ {i : Nat} (h : i < 9223372036854775807) : wrap64 ((i : Int) + 1) = ((i + 1 : Nat) : Int) := by unfold wrap64; omega

theorem rd_nat (xs : List Int) (i : Nat) : rd xs (i : Int) = xs.getD i 0 := by unfold rd; rw [Int.toNat_natCast]
theorem rd_get (xs : List Int) (i : Nat) (h : i < xs.length) : rd xs (i : Int) = xs[i] := by rw [rd_nat, List.getD_eq_getElem?_getD, List.getElem?_eq_getElem h]; rfl
theorem getD_get {α : Type} (xs : List α) (i : Nat) (z : α) (h : i < xs.length) : xs.getD (i : Int).toNat z = xs[i] := by rw [Int.toNat_natCast, List.getD_eq_getElem?_getD, List.getElem?_eq_getElem h]; rfl

theorem drop_get {α : Type} (xs : List α) (i : Nat) (h : i < xs.length) : xs.drop i = xs[i] :: xs.drop (i + 1) := List.drop_eq_getElem_cons h

theorem take_set_self {α : Type} (s : List α) (i : Nat) (a : α) : (s.set i a).take i = s.take i := by
  apply List.ext_getElem?
  intro j
  by_cases h : j < i
  · rw [List.getElem?_take, List.getElem?_take, if_pos h, if_pos h, List.getElem?_set_ne (by omega)]
  · rw [List.getElem?_take, List.getElem?_take, if_neg h, if_neg h]

/-- A loop that copies, element by element. -/
theorem copy_loop {α β : Type} (l : List α) (f : α → β) (G : Nat → List β → Nat → Option (List β)) (hend : ∀ s : List β, Ev (G l.length s) s)
    (hstep : ∀ i (hi : i < l.length) (s r : List β), s.length = l.length → Ev (G (i + 1) (s.set i (f l[i]))) r → Ev (G i s) r) (s : List β) (hs : s.length = l.length) : Ev (G 0 s) (l.map f) := by
  have key := Ev.up l.length G (fun i s => s.take i ++ (l.map f).drop i) (fun _ s => s.length = l.length)
    (fun s hs => by
      have e : s.take l.length ++ (l.map f).drop l.length = s := by rw [List.take_of_length_le (by omega), List.drop_of_length_le (by simp), List.append_nil]
      simp only [e]
      exact hend s)
    (fun i s hi hs ih => by
      have h1 := ih (s.set i (f l[i])) (by simpa using hs)
      have e : (s.set i (f l[i])).take (i + 1) ++ (l.map f).drop (i + 1) = s.take i ++ (l.map f).drop i := by
        rw [List.take_succ_eq_append_getElem (by simp; omega), List.drop_eq_getElem_cons (l := l.map f) (i := i) (by simpa using hi), take_set_self]
        simp
      simp only [e] at h1
      exact hstep i hi s _ hs h1) 0 s (Nat.zero_le _) hs
  simpa using key

/-- A loop that takes off what the elements weigh. -/
theorem sz_loop {α : Type} (l : List α) (sm : α → Prop) (G : Nat → Int → Nat → Option Int) (hend : ∀ s : Int, Ev (G l.length s) s)
    (hstep : ∀ i (hi : i < l.length) (s : Int), 0 ≤ s → s ≤ 1048576 → Ev (G i s) (-1) ∨ ∃ q : Int, 0 ≤ q ∧ q ≤ s ∧ sm l[i] ∧ ∀ r, Ev (G (i + 1) q) r → Ev (G i s) r) (s : Int) (h0 : 0 ≤ s) (h1 : s ≤ 1048576) :
    ∃ r : Int, Ev (G 0 s) r ∧ (0 ≤ r → r ≤ s ∧ ∀ x ∈ l, sm x) := by
  have key : ∀ d i (s : Int), i + d = l.length → 0 ≤ s → s ≤ 1048576 → ∃ r : Int, Ev (G i s) r ∧ (0 ≤ r → r ≤ s ∧ ∀ x ∈ l.drop i, sm x) := by
    intro d
    induction d with
    | zero =>
      intro i s hi h0 h1
      obtain rfl : i = l.length := by omega
      exact ⟨s, hend s, fun _ => ⟨Int.le_refl _, by simp⟩⟩
    | succ d ih =>
      intro i s hi h0 h1
      have hlt : i < l.length := by omega
      rcases hstep i hlt s h0 h1 with h | ⟨q, hq0, hq1, hsm, hnext⟩
      · exact ⟨-1, h, fun h => by omega⟩
      · obtain ⟨r, hr, hr2⟩ := ih (i + 1) q (by omega) hq0 (by omega)
        refine ⟨r, hnext r hr, fun h => ⟨by have := (hr2 h).1; omega, ?_⟩⟩
        rw [drop_get l i hlt]
        intro x hx
        rcases List.mem_cons.1 hx with rfl | hx
        · exact hsm
        · exact (hr2 h).2 x hx
  simpa using key l.length 0 s (by omega) h0 h1

/-- What a mark leaves: element i holds the numbers from m + c * i on. -/
def marked {α : Type} (c : Nat) (mk : Int → α) (m : Int) (n : Nat) : List α := (List.range n).map fun i => mk (m + ((c * i : Nat) : Int))
theorem marked_length {α : Type} (c : Nat) (mk : Int → α) (m : Int) (n : Nat) : (marked c mk m n).length = n := by simp [marked]
theorem marked_get {α : Type} (c : Nat) (mk : Int → α) (m : Int) (n i : Nat) (h : i < (marked c mk m n).length) : (marked c mk m n)[i] = mk (m + ((c * i : Nat) : Int)) := by simp [marked]
theorem marked_succ {α : Type} (c : Nat) (mk : Int → α) (m : Int) (n : Nat) : marked c mk m (n + 1) = mk m :: marked c mk (m + (c : Int)) n := by
  unfold marked
  rw [List.range_succ_eq_map, List.map_cons, List.map_map]
  congr 1
  · simp
  · apply List.map_congr_left
    intro i _
    show mk _ = mk _
    congr 1
    rw [Nat.mul_succ]
    omega

theorem mark_loop {α : Type} (c : Nat) (mk : Int → α) (n : Nat) (G : Nat → List α → Int → Nat → Option (Int × List α)) (hend : ∀ (s : List α) (m : Int), s.length = n → Ev (G n s m) (m, s))
    (hstep : ∀ i (s : List α) (m : Int) r, i < n → s.length = n → 0 ≤ m → m ≤ 4611686018427387904 → Ev (G (i + 1) (s.set i (mk m)) (m + (c : Int))) r → Ev (G i s m) r)
    (s : List α) (m : Int) (hs : s.length = n) (h0 : 0 ≤ m) (h1 : m + ((c * n : Nat) : Int) ≤ 4611686018427387904) : Ev (G 0 s m) (m + ((c * n : Nat) : Int), marked c mk m n) := by
  have key : ∀ d i (s : List α) (m : Int), i + d = n → s.length = n → 0 ≤ m → m + ((c * d : Nat) : Int) ≤ 4611686018427387904 → Ev (G i s m) (m + ((c * d : Nat) : Int), s.take i ++ marked c mk m d) := by
    intro d
    induction d with
    | zero =>
      intro i s m hi hs h0 h1
      obtain rfl : i = n := by omega
      have e : s.take i ++ marked c mk m 0 = s := by rw [List.take_of_length_le (by omega)]; simp [marked]
      rw [e]
      simpa using hend s m hs
    | succ d ih =>
      intro i s m hi hs h0 h1
      rw [Nat.mul_succ] at h1
      have h2 := ih (i + 1) (s.set i (mk m)) (m + (c : Int)) (by omega) (by simpa using hs) (by omega) (by omega)
      have e : (s.set i (mk m)).take (i + 1) ++ marked c mk (m + (c : Int)) d = s.take i ++ marked c mk m (d + 1) := by
        rw [List.take_succ_eq_append_getElem (by simp; omega), marked_succ, take_set_self]
        simp
      rw [e] at h2
      have e2 : m + (c : Int) + ((c * d : Nat) : Int) = m + ((c * (d + 1) : Nat) : Int) := by rw [Nat.mul_succ]; omega
      rw [e2] at h2
      exact hstep i s m _ (by omega) hs h0 (by omega) h2
  have := key n 0 s m (by omega) hs h0 h1
  simpa using this

theorem held_loop (c : Nat) (n : Nat) (m0 : Int) (G : Nat → Int → Nat → Option Int) (hend : ∀ m : Int, Ev (G n m) m)
    (hstep : ∀ i r, i < n → Ev (G (i + 1) (m0 + ((c * i : Nat) : Int) + (c : Int))) r → Ev (G i (m0 + ((c * i : Nat) : Int))) r) : Ev (G 0 m0) (m0 + ((c * n : Nat) : Int)) := by
  have key := Ev.up0 n (fun i => G i (m0 + ((c * i : Nat) : Int))) (fun _ => m0 + ((c * n : Nat) : Int)) (hend _)
    (fun i hi ih => hstep i _ hi (by
      have e : m0 + ((c * i : Nat) : Int) + (c : Int) = m0 + ((c * (i + 1) : Nat) : Int) := by rw [Nat.mul_succ]; omega
      rw [e]
      exact ih)) 0 (Nat.zero_le _)
  simpa using key

end Go.Proofs.Ytgghhcifkgdpeaa.Pure
/- Plain lemmas on the laws' own helpers: copies, comparisons, sizes, marks. No condition. -/
namespace Go.Proofs.Ytgghhcifkgdpeaa.Pure
open Go.RowKit Go.Proofs.Ytgghhcifkgdpeaa.Z Go.Proofs.YtgghhcifkgdpeaaW.PrintWords
set_option linter.unusedSimpArgs false
set_option linter.unusedVariables false
def smL {α : Type} (sm : α → Prop) (l : List α) : Prop := l.length ≤ 1048576 ∧ ∀ x ∈ l, sm x
def okLen {α : Type} (l : List α) : Prop := l.length ≤ maxLen
theorem mark_IntS (l : List Int) (m : Int) (h0 : 0 ≤ m) (h1 : m + ((1 * l.length : Nat) : Int) ≤ 4611686018427387904) : Ev (fun k => laws_markIntS.f k l m) (m + ((1 * l.length : Nat) : Int), marked 1 (fun m => m) m l.length) := by
  unfold laws_markIntS.f
  refine mark_loop 1 (fun m => m) l.length (fun i s m k => laws_markIntS.l0 k s m (i : Int)) ?_ ?_ l m rfl h0 h1
  · intro s m hs
    refine Ev.step (fun k => by rw [laws_markIntS.l0]) ?_
    exact Ev.ifneg (by omega) (Ev.now _)
  · intro i s m r hi hs h0 h1 hr
    refine Ev.step (fun k => by rw [laws_markIntS.l0]) ?_
    refine Ev.ifpos (by omega) (Ev.ifpos (by omega) ?_)
    rw [wrap_succ (by omega), wrap_in (by omega) (by omega), Int.toNat_natCast]
    exact hr
theorem sz_IntS (l : List Int) (hl : l.length ≤ maxLen) (s : Int) (h0 : 0 ≤ s) (h1 : s ≤ 1048576) : ∃ r : Int, laws_szIntS.f l s = some r ∧ (0 ≤ r → r ≤ s ∧ (smL (fun _ => True)) l) := by
  unfold maxLen at hl
  unfold laws_szIntS.f
  rw [wrap_in (by omega) (by omega)]
  by_cases h : s - (l.length : Int) < 0
  · exact ⟨-1, by rw [if_pos h], fun h => by omega⟩
  · exact ⟨s - (l.length : Int), by rw [if_neg h], fun _ => ⟨by omega, by omega, fun _ _ => trivial⟩⟩
def smS85 (x : S85) : Prop := (smL (fun _ => True)) x.f0
theorem sz_Trace (x : S85) (hx : (fun x : S85 => okLen x.f0) x) (s : Int) (h0 : 0 ≤ s) (h1 : s ≤ 1048576) : ∃ r : Int, laws_szTrace.f x.f0 s = some r ∧ (0 ≤ r → r ≤ s ∧ smS85 x) := by
  obtain ⟨q, hq, hq2⟩ := sz_IntS x.f0 hx s h0 h1
  unfold laws_szTrace.f
  rw [hq]
  simp only [Option.bind_some]
  by_cases hneg : q < 0
  · exact ⟨-1, by rw [if_pos hneg], fun h => by omega⟩
  · exact ⟨q, by rw [if_neg hneg], fun h => ⟨(hq2 h).1, have hs := (hq2 h).2; hs⟩⟩
theorem rd_T85_get (xs : List S85) (i : Nat) (h : i < xs.length) : rd_T85 xs (i : Int) = xs[i] := getD_get xs i _ h
theorem sz_TraceS (l : List S85) (hl : l.length ≤ maxLen) (hx : ∀ x ∈ l, (fun x : S85 => okLen x.f0) x) (s : Int) (h0 : 0 ≤ s) (h1 : s ≤ 1048576) : ∃ r : Int, Ev (fun k => laws_szTraceS.f k l s) r ∧ (0 ≤ r → r ≤ s ∧ (smL smS85) l) := by
  unfold maxLen at hl
  unfold laws_szTraceS.f
  rw [wrap_in (by omega) (by omega)]
  by_cases h : s - (l.length : Int) < 0
  · exact ⟨-1, Ev.ifpos h (Ev.now _), fun h => by omega⟩
  · have key := sz_loop l smS85 (fun i s k => laws_szTraceS.l0 k l s (i : Int)) ?_ ?_ (s - (l.length : Int)) (by omega) (by omega)
    · obtain ⟨r, hr, hr2⟩ := key
      exact ⟨r, Ev.ifneg h hr, fun h => ⟨by have := (hr2 h).1; omega, by omega, (hr2 h).2⟩⟩
    · intro s
      refine Ev.step (fun k => by rw [laws_szTraceS.l0]) ?_
      exact Ev.ifneg (by omega) (Ev.now _)
    · intro i hi s h0 h1
      obtain ⟨q, hq, hq2⟩ := sz_Trace l[i] (hx _ (List.getElem_mem hi)) s h0 h1
      by_cases hneg : q < 0
      · refine .inl (Ev.step (fun k => by rw [laws_szTraceS.l0]) ?_)
        refine Ev.ifpos (by omega) (Ev.ifpos (by omega) ?_)
        rw [rd_T85_get l i hi]
        exact Ev.bind0 hq (Ev.ifpos hneg (Ev.now _))
      · refine .inr ⟨q, by omega, (hq2 (by omega)).1, (hq2 (by omega)).2, fun r hr => ?_⟩
        refine Ev.step (fun k => by rw [laws_szTraceS.l0]) ?_
        refine Ev.ifpos (by omega) (Ev.ifpos (by omega) ?_)
        rw [rd_T85_get l i hi]
        refine Ev.bind0 hq (Ev.ifneg hneg ?_)
        rw [wrap_succ (by omega)]
        exact hr
theorem to_IntS (l : List Int) (h : (smL (fun _ => True)) l) : Ev (fun k => laws_toIntS.f k l) (l) := by
  unfold laws_toIntS.f
  have hl := h.1
  refine Ev.ifpos (by omega) (Ev.ifpos (by omega) ?_)
  rw [Int.toNat_natCast]
  have key := copy_loop l id (fun i s k => laws_toIntS.l0 k l s (i : Int)) ?_ ?_ (List.replicate l.length 0) (by simp)
  · rw [List.map_id] at key; exact key
  · intro s
    refine Ev.step (fun k => by rw [laws_toIntS.l0]) ?_
    exact Ev.ifneg (by omega) (Ev.now _)
  · intro i hi s r hs hr
    refine Ev.step (fun k => by rw [laws_toIntS.l0]) ?_
    refine Ev.ifpos (by omega) (Ev.ifpos (by omega) ?_)
    refine Ev.ifpos (by omega) ?_
    rw [rd_get l i hi, wrap_succ (by omega), Int.toNat_natCast]
    exact hr
def c85_61 (x : S85) : S61 := ⟨x.f0⟩
theorem to_Trace (x : S85) (h : smS85 x) : Ev (fun k => laws_toTrace.f k x.f0) (c85_61 x).f0 := by
  unfold laws_toTrace.f
  exact Ev.bind (to_IntS x.f0 h) (Ev.now _)
theorem to_TraceS (l : List S85) (h : (smL smS85) l) : Ev (fun k => laws_toTraceS.f k l) (l.map c85_61) := by
  unfold laws_toTraceS.f
  have hl := h.1
  refine Ev.ifpos (by omega) (Ev.ifpos (by omega) ?_)
  rw [Int.toNat_natCast]
  have key := copy_loop l c85_61 (fun i s k => laws_toTraceS.l0 k l s (i : Int)) ?_ ?_ (List.replicate l.length z61) (by simp)
  · exact key
  · intro s
    refine Ev.step (fun k => by rw [laws_toTraceS.l0]) ?_
    exact Ev.ifneg (by omega) (Ev.now _)
  · intro i hi s r hs hr
    refine Ev.step (fun k => by rw [laws_toTraceS.l0]) ?_
    refine Ev.ifpos (by omega) (Ev.ifpos (by omega) ?_)
    rw [rd_T85_get l i hi]
    refine Ev.bind (to_Trace l[i] (h.2 _ (List.getElem_mem hi))) ?_
    refine Ev.ifpos (by omega) ?_
    rw [wrap_succ (by omega), Int.toNat_natCast]
    exact hr
theorem eq_Link (x : S63) : laws_eqLink.f x.f0 x.f1 x.f0 x.f1 = some true := by
  unfold laws_eqLink.f
  simp
theorem rd_T63_get (xs : List S63) (i : Nat) (h : i < xs.length) : rd_T63 xs (i : Int) = xs[i] := getD_get xs i _ h
theorem eq_LinkS (l : List S63) (h : l.length ≤ maxLen) : Ev (fun k => laws_eqLinkS.f k l l) true := by
  unfold maxLen at h
  unfold laws_eqLinkS.f
  refine Ev.ifpos rfl ?_
  exact Ev.up0 l.length (fun i k => laws_eqLinkS.l0 k l l (i : Int)) (fun _ => true)
    (Ev.step (fun k => by rw [laws_eqLinkS.l0]) (Ev.ifneg (by omega) (Ev.now _)))
    (fun i hi ih => by
      refine Ev.step (fun k => by rw [laws_eqLinkS.l0]) ?_
      refine Ev.ifpos (by omega) (Ev.ifpos (by omega) (Ev.ifpos (by omega) ?_))
      rw [rd_T63_get l i hi]
      refine Ev.bind0 (eq_Link l[i]) (Ev.ifpos rfl ?_)
      rw [wrap_succ (by omega)]
      exact ih) 0 (Nat.zero_le _)
theorem eq_IntS (l : List Int) (h : l.length ≤ maxLen) : Ev (fun k => laws_eqIntS.f k l l) true := by
  unfold maxLen at h
  unfold laws_eqIntS.f
  refine Ev.ifpos rfl ?_
  exact Ev.up0 l.length (fun i k => laws_eqIntS.l0 k l l (i : Int)) (fun _ => true)
    (Ev.step (fun k => by rw [laws_eqIntS.l0]) (Ev.ifneg (by omega) (Ev.now _)))
    (fun i hi ih => by
      refine Ev.step (fun k => by rw [laws_eqIntS.l0]) ?_
      refine Ev.ifpos (by omega) (Ev.ifpos (by omega) (Ev.ifpos (by omega) ?_))
      refine Ev.ifpos rfl ?_
      rw [wrap_succ (by omega)]
      exact ih) 0 (Nat.zero_le _)
def smS61 (x : S61) : Prop := (smL (fun _ => True)) x.f0
theorem eq_Trace (x : S61) (h : smS61 x) : Ev (fun k => laws_eqTrace.f k x.f0 x.f0) true := by
  unfold laws_eqTrace.f
  refine Ev.bind (eq_IntS x.f0 (Nat.le_trans (h).1 (by decide))) (Ev.ifpos rfl ?_)
  exact Ev.now _
theorem rd_T61_get (xs : List S61) (i : Nat) (h : i < xs.length) : rd_T61 xs (i : Int) = xs[i] := getD_get xs i _ h
theorem eq_TraceS (l : List S61) (h : (smL smS61) l) : Ev (fun k => laws_eqTraceS.f k l l) true := by
  have hl := h.1
  unfold laws_eqTraceS.f
  refine Ev.ifpos rfl ?_
  exact Ev.up0 l.length (fun i k => laws_eqTraceS.l0 k l l (i : Int)) (fun _ => true)
    (Ev.step (fun k => by rw [laws_eqTraceS.l0]) (Ev.ifneg (by omega) (Ev.now _)))
    (fun i hi ih => by
      refine Ev.step (fun k => by rw [laws_eqTraceS.l0]) ?_
      refine Ev.ifpos (by omega) (Ev.ifpos (by omega) (Ev.ifpos (by omega) ?_))
      rw [rd_T61_get l i hi]
      refine Ev.bind (eq_Trace l[i] (h.2 _ (List.getElem_mem hi))) (Ev.ifpos rfl ?_)
      rw [wrap_succ (by omega)]
      exact ih) 0 (Nat.zero_le _)
theorem rd_T63_set (s : List S63) (i : Nat) (v : S63) (h : i < s.length) : rd_T63 (s.set i v) (i : Int) = v := by
  rw [rd_T63_get _ i (by simpa using h)]
  simp
theorem mark_LinkS (l : List S63) (m : Int) (h0 : 0 ≤ m) (h1 : m + ((2 * l.length : Nat) : Int) ≤ 4611686018427387904) : Ev (fun k => laws_markLinkS.f k l m) (m + ((2 * l.length : Nat) : Int), marked 2 (fun m => (⟨m, m + 1⟩ : S63)) m l.length) := by
  unfold laws_markLinkS.f
  refine mark_loop 2 (fun m => (⟨m, m + 1⟩ : S63)) l.length (fun i s m k => laws_markLinkS.l0 k s m (i : Int)) ?_ ?_ l m rfl h0 h1
  · intro s m hs
    refine Ev.step (fun k => by rw [laws_markLinkS.l0]) ?_
    exact Ev.ifneg (by omega) (Ev.now _)
  · intro i s m r hi hs h0 h1 hr
    refine Ev.step (fun k => by rw [laws_markLinkS.l0]) ?_
    refine Ev.ifpos (by omega) (Ev.ifpos (by omega) ?_)
    have ht : (i : Int).toNat = i := Int.toNat_natCast i
    have w1 : wrap64 (m + 1 + 1) = m + 2 := by rw [wrap_in (by omega) (by omega)]; omega
    have w0 : wrap64 (m + 1) = m + 1 := wrap_in (by omega) (by omega)
    simp only [Option.bind_some, ht, w0, w1, rd_T63_set s i _ (by omega), List.set_set]
    rw [wrap_succ (by omega)]
    exact hr
theorem held_LinkS (n : Nat) (m : Int) (h0 : 0 ≤ m) (h1 : m + ((2 * n : Nat) : Int) ≤ 4611686018427387904) : Ev (fun k => laws_heldLinkS.f k (marked 2 (fun m => (⟨m, m + 1⟩ : S63)) m n) m) (m + ((2 * n : Nat) : Int)) := by
  unfold laws_heldLinkS.f
  have hn := marked_length 2 (fun m => (⟨m, m + 1⟩ : S63)) m n
  refine held_loop 2 n m (fun i q k => laws_heldLinkS.l0 k (marked 2 (fun m => (⟨m, m + 1⟩ : S63)) m n) q (i : Int)) ?_ ?_
  · intro q
    refine Ev.step (fun k => by rw [laws_heldLinkS.l0]) ?_
    exact Ev.ifneg (by omega) (Ev.now _)
  · intro i r hi hr
    refine Ev.step (fun k => by rw [laws_heldLinkS.l0]) ?_
    have hle : ((2 * i : Nat) : Int) + 2 ≤ ((2 * n : Nat) : Int) := by omega
    refine Ev.ifpos (by omega) (Ev.ifpos (by omega) ?_)
    rw [rd_T63_get _ i (by omega), marked_get]
    have w0 : wrap64 (m + ((2 * i : Nat) : Int) + 1) = m + ((2 * i : Nat) : Int) + 1 := wrap_in (by omega) (by omega)
    have w1 : wrap64 (m + ((2 * i : Nat) : Int) + 1 + 1) = m + ((2 * i : Nat) : Int) + 2 := by rw [wrap_in (by omega) (by omega)]; omega
    simp only [w0, w1]
    refine Ev.ifpos (by first | trivial | rfl) ?_
    refine Ev.ifpos (by first | trivial | rfl) ?_
    rw [wrap_succ (by omega)]
    exact hr
end Go.Proofs.Ytgghhcifkgdpeaa.Pure
/- Plain lemma: a loop that goes on while the elements are well. No condition. -/
namespace Go.Proofs.Ytgghhcifkgdpeaa.Pure
open Go.RowKit Go.Proofs.YtgghhcifkgdpeaaW.PrintWords

theorem all_step {α : Type} (p : α → Bool) (xs : List α) (G : Nat → Nat → Option Bool) (r0 : Bool) (hend : Ev (G xs.length) r0) (hstep : ∀ i (hi : i < xs.length) r, Ev (G (i + 1)) r → Ev (G i) (p xs[i] && r)) : Ev (G 0) (xs.all p && r0) := by
  have key := Ev.up0 xs.length G (fun i => (xs.drop i).all p && r0)
    (by rw [List.drop_of_length_le (Nat.le_refl _)]; simpa using hend)
    (fun i hi ih => by
      rw [drop_get xs i hi, List.all_cons, Bool.and_assoc]
      exact hstep i hi _ ih) 0 (Nat.zero_le _)
  simpa using key

/-- The same over the places. -/
theorem all_places (n : Nat) (p : Nat → Bool) (G : Nat → Nat → Option Bool) (r0 : Bool) (hend : Ev (G n) r0) (hstep : ∀ i, i < n → ∀ r, Ev (G (i + 1)) r → Ev (G i) (p i && r)) : Ev (G 0) ((List.range n).all p && r0) := by
  refine all_step p (List.range n) G r0 (by rw [List.length_range]; exact hend) (fun i hi r hr => ?_)
  rw [List.getElem_range]
  exact hstep i (by simpa using hi) r hr

end Go.Proofs.Ytgghhcifkgdpeaa.Pure
/- Plain lemma: what the reference's range test answers. No condition. -/
namespace Go.Proofs.Ytgghhcifkgdpeaa.Pure
open Go.RowKit Go.Proofs.Ytgghhcifkgdpeaa.Z Go.Proofs.YtgghhcifkgdpeaaW.PrintWords

theorem spec_in (n a b : Int) : spec_l1In.f n a b = some (decide (a ≤ n ∧ n ≤ b)) := by
  unfold spec_l1In.f
  by_cases h : a ≤ n <;> simp [h]

end Go.Proofs.Ytgghhcifkgdpeaa.Pure
/- Plain lemmas: loops that search. No condition. -/
namespace Go.Proofs.Ytgghhcifkgdpeaa.Pure
open Go.RowKit Go.Proofs.Ytgghhcifkgdpeaa.Z Go.Proofs.YtgghhcifkgdpeaaW.PrintWords

theorem firstAt_cons {α : Type} (p : α → Bool) (x : α) (xs : List α) : firstAt p (x :: xs) = if p x = true then 0 else if firstAt p xs < 0 then -1 else firstAt p xs + 1 := by
  unfold firstAt
  rw [List.findIdx_cons]
  cases h : p x
  · simp only [cond_false, List.length_cons, Bool.false_eq_true, if_false]
    by_cases h2 : xs.findIdx p < xs.length
    · rw [if_pos (by omega), if_pos h2, if_neg (by omega)]
      omega
    · rw [if_neg (by omega), if_neg h2]
      simp
  · simp

/-- A loop that searches from the front comes to the first place. -/
theorem first_loop {α : Type} (p : α → Bool) (xs : List α) (G : Nat → Nat → Option Int) (hend : Ev (G xs.length) (-1)) (hhit : ∀ i (hi : i < xs.length), p xs[i] = true → Ev (G i) (i : Int))
    (hmiss : ∀ i (hi : i < xs.length) r, p xs[i] = false → Ev (G (i + 1)) r → Ev (G i) r) : Ev (G 0) (firstAt p xs) := by
  have key := Ev.up0 xs.length G (fun i => if firstAt p (xs.drop i) < 0 then -1 else firstAt p (xs.drop i) + (i : Int))
    (by rw [List.drop_of_length_le (Nat.le_refl _)]; simpa [firstAt] using hend)
    (fun i hi ih => by
      rw [drop_get xs i hi, firstAt_cons]
      cases h : p xs[i]
      · simp only [Bool.false_eq_true, if_false]
        refine hmiss i hi _ h ?_
        by_cases h2 : firstAt p (xs.drop (i + 1)) < 0
        · rw [if_pos h2, if_pos (by omega)]
          rwa [if_pos h2] at ih
        · rw [if_neg h2, if_neg (by omega)]
          rw [if_neg h2] at ih
          have e : firstAt p (xs.drop (i + 1)) + ((i + 1 : Nat) : Int) = firstAt p (xs.drop (i + 1)) + 1 + (i : Int) := by omega
          rwa [e] at ih
      · simp only [if_true]
        rw [if_neg (by omega)]
        have := hhit i hi h
        simpa using this) 0 (Nat.zero_le _)
  rw [List.drop_zero] at key
  by_cases h : firstAt p xs < 0
  · have e : firstAt p xs = -1 := by
      unfold firstAt at h ⊢
      split at h
      · omega
      · rename_i h2; rw [if_neg h2]
    rw [if_pos h] at key
    rw [e]
    exact key
  · rw [if_neg h] at key
    simpa using key

/-- A loop that asks whether one holds. -/
theorem any_loop {α : Type} (p : α → Bool) (xs : List α) (G : Nat → Nat → Option Bool) (hend : Ev (G xs.length) false) (hhit : ∀ i (hi : i < xs.length), p xs[i] = true → Ev (G i) true)
    (hmiss : ∀ i (hi : i < xs.length) r, p xs[i] = false → Ev (G (i + 1)) r → Ev (G i) r) : Ev (G 0) (xs.any p) := by
  have key := Ev.up0 xs.length G (fun i => (xs.drop i).any p)
    (by rw [List.drop_of_length_le (Nat.le_refl _)]; simpa using hend)
    (fun i hi ih => by
      rw [drop_get xs i hi, List.any_cons]
      cases h : p xs[i]
      · simpa using hmiss i hi _ h ih
      · simpa using hhit i hi h) 0 (Nat.zero_le _)
  simpa using key

/-- A loop that asks whether all hold. -/
theorem all_loop {α : Type} (p : α → Bool) (xs : List α) (G : Nat → Nat → Option Bool) (r0 : Bool) (hend : Ev (G xs.length) r0) (hbad : ∀ i (hi : i < xs.length), p xs[i] = false → Ev (G i) false)
    (hgood : ∀ i (hi : i < xs.length) r, p xs[i] = true → Ev (G (i + 1)) r → Ev (G i) r) : Ev (G 0) (xs.all p && r0) := by
  have key := Ev.up0 xs.length G (fun i => (xs.drop i).all p && r0)
    (by rw [List.drop_of_length_le (Nat.le_refl _)]; simpa using hend)
    (fun i hi ih => by
      rw [drop_get xs i hi, List.all_cons]
      cases h : p xs[i]
      · simpa using hbad i hi h
      · simpa using hgood i hi _ h ih) 0 (Nat.zero_le _)
  simpa using key

end Go.Proofs.Ytgghhcifkgdpeaa.Pure
/- Plain lemma: the reference's search in a list of numbers. Condition: the list is not longer than a list can be. -/
namespace Go.Proofs.Ytgghhcifkgdpeaa.Pure
open Go.RowKit Go.Proofs.Ytgghhcifkgdpeaa.Z Go.Proofs.YtgghhcifkgdpeaaW.PrintWords

theorem spec_has (l : List Int) (x : Int) (hl : l.length ≤ 9223372036854775806) : Ev (fun k => spec_l7Has.f k l x) (l.any fun y => decide (y = x)) := by
  unfold spec_l7Has.f
  refine any_loop (fun y => decide (y = x)) l (fun i k => spec_l7Has.l0 k l x (i : Int)) ?_ ?_ ?_
  · refine Ev.step (fun k => by rw [spec_l7Has.l0]) ?_
    exact Ev.ifneg (by omega) (Ev.now _)
  · intro i hi h
    refine Ev.step (fun k => by rw [spec_l7Has.l0]) ?_
    refine Ev.ifpos (by omega) (Ev.ifpos (by omega) ?_)
    rw [rd_get l i hi]
    exact Ev.ifpos (of_decide_eq_true h) (Ev.now _)
  · intro i hi r h hr
    refine Ev.step (fun k => by rw [spec_l7Has.l0]) ?_
    refine Ev.ifpos (by omega) (Ev.ifpos (by omega) ?_)
    rw [rd_get l i hi, wrap_succ (by omega)]
    exact Ev.ifneg (of_decide_eq_false h) hr

end Go.Proofs.Ytgghhcifkgdpeaa.Pure
/- Plain lemma: the standard search in a list of numbers. Condition: the list is not longer than a list can be. -/
namespace Go.Proofs.Ytgghhcifkgdpeaa.Pure
open Go.RowKit Go.Proofs.Ytgghhcifkgdpeaa.Z Go.Proofs.YtgghhcifkgdpeaaW.PrintWords

theorem impl_index (l : List Int) (x : Int) (hl : l.length ≤ 9223372036854775806) : Ev (fun k => slices_Index_Sint.f k l x) (firstAt (fun y => decide (y = x)) l) := by
  unfold slices_Index_Sint.f
  refine first_loop (fun y => decide (y = x)) l (fun i k => slices_Index_Sint.l0 k l x (l.length : Int) (i : Int)) ?_ ?_ ?_
  · refine Ev.step (fun k => by rw [slices_Index_Sint.l0]) ?_
    exact Ev.ifneg (by omega) (Ev.now _)
  · intro i hi h
    refine Ev.step (fun k => by rw [slices_Index_Sint.l0]) ?_
    refine Ev.ifpos (by omega) (Ev.ifpos (by omega) (Ev.ifpos (by omega) ?_))
    rw [rd_get l i hi]
    exact Ev.ifpos (of_decide_eq_true h).symm (Ev.now _)
  · intro i hi r h hr
    refine Ev.step (fun k => by rw [slices_Index_Sint.l0]) ?_
    refine Ev.ifpos (by omega) (Ev.ifpos (by omega) (Ev.ifpos (by omega) ?_))
    rw [rd_get l i hi, wrap_succ (by omega)]
    exact Ev.ifneg (fun e => of_decide_eq_false h e.symm) hr

theorem impl_has (l : List Int) (x : Int) (hl : l.length ≤ 9223372036854775806) : Ev (fun k => slices_Contains_Sint.f k l x) (l.any fun y => decide (y = x)) := by
  unfold slices_Contains_Sint.f
  refine Ev.bind (impl_index l x hl) (Ev.pure ?_)
  exact firstAt_any _ _

end Go.Proofs.Ytgghhcifkgdpeaa.Pure
/- Plain law: a list has no repeats if no element stands among those before it. No condition. -/
namespace Go.Proofs.Ytgghhcifkgdpeaa.Pure
open Go.RowKit Go.Proofs.YtgghhcifkgdpeaaW.PrintWords

def dupOf (p : List Int) (i : Nat) : Bool := (p.take i).any fun y => decide (y = p.getD i 0)
theorem dupOf_get (p : List Int) (i : Nat) (h : i < p.length) : dupOf p i = (p.take i).any fun y => decide (y = p[i]) := by
  unfold dupOf
  rw [List.getD_eq_getElem?_getD, List.getElem?_eq_getElem h]
  rfl
theorem dupOf_iff (p : List Int) (i : Nat) (h : i < p.length) : dupOf p i = true ↔ ∃ j, ∃ hj : j < i, p[j] = p[i] := by
  rw [dupOf_get p i h, List.any_eq_true]
  constructor
  · rintro ⟨x, hx, e⟩
    obtain ⟨j, hj, e2⟩ := List.getElem_of_mem hx
    rw [List.length_take] at hj
    refine ⟨j, by omega, ?_⟩
    rw [List.getElem_take] at e2
    rw [e2]
    exact of_decide_eq_true e
  · rintro ⟨j, hj, e⟩
    refine ⟨p[j], ?_, decide_eq_true e⟩
    have : (p.take i)[j]'(by rw [List.length_take]; omega) = p[j] := List.getElem_take
    rw [← this]
    exact List.getElem_mem _
theorem nodup_iff_dup (p : List Int) : p.Nodup ↔ ∀ i, i < p.length → dupOf p i = false := by
  constructor
  · intro h i hi
    rw [Bool.eq_false_iff]
    intro hd
    obtain ⟨j, hj, e⟩ := (dupOf_iff p i hi).1 hd
    exact (List.pairwise_iff_getElem.1 h) j i (by omega) hi hj e
  · intro h
    refine List.pairwise_iff_getElem.2 (fun i j hi hj hij e => ?_)
    have h1 := h j hj
    rw [Bool.eq_false_iff] at h1
    exact h1 ((dupOf_iff p j hj).2 ⟨i, hij, e⟩)

end Go.Proofs.Ytgghhcifkgdpeaa.Pure
/- Plain lemma: what the program's allIn answers. Condition: the list is not longer than a list can be. -/
namespace Go.Proofs.Ytgghhcifkgdpeaa.Pure
open Go.RowKit Go.Proofs.Ytgghhcifkgdpeaa.Z Go.Proofs.YtgghhcifkgdpeaaW.PrintWords

theorem impl_allIn (l : List Int) (a b : Int) (hl : l.length ≤ 9223372036854775807) : Ev (fun k => impl_allIn.f k l a b) (l.all fun n => decide (a ≤ n ∧ n ≤ b)) := by
  unfold impl_allIn.f
  have key := all_loop (fun n : Int => decide (a ≤ n ∧ n ≤ b)) l (fun i k => impl_allIn.l0 k a b l (l.length : Int) (i : Int)) true ?_ ?_ ?_
  · simpa using key
  · refine Ev.step (fun k => by rw [impl_allIn.l0]) ?_
    exact Ev.ifneg (by omega) (Ev.now _)
  · intro i hi h
    refine Ev.step (fun k => by rw [impl_allIn.l0]) ?_
    refine Ev.ifpos (by omega) (Ev.ifpos (by omega) (Ev.ifpos (by omega) ?_))
    rw [rd_get l i hi]
    refine Ev.bind0 (a := false) ?_ (Ev.ifneg (by decide) (Ev.now _))
    simp only [decide_eq_false_iff_not] at h
    unfold impl_InRange.f
    by_cases h1 : a ≤ l[i]
    · rw [if_pos h1]
      simp only [Option.some.injEq, decide_eq_false_iff_not]
      omega
    · rw [if_neg h1]
  · intro i hi r h hr
    refine Ev.step (fun k => by rw [impl_allIn.l0]) ?_
    refine Ev.ifpos (by omega) (Ev.ifpos (by omega) (Ev.ifpos (by omega) ?_))
    rw [rd_get l i hi]
    simp only [decide_eq_true_eq] at h
    refine Ev.bind0 (a := true) ?_ (Ev.ifpos rfl ?_)
    · unfold impl_InRange.f
      rw [if_pos h.1]
      simp [h.2]
    · rw [wrap_succ (by omega)]
      exact hr

end Go.Proofs.Ytgghhcifkgdpeaa.Pure
/- Plain lemma: what the reference's and the program's AreTraces answer. Condition: the lists are not longer than the law's can be. -/
namespace Go.Proofs.Ytgghhcifkgdpeaa.Pure
open Go.RowKit Go.Proofs.Ytgghhcifkgdpeaa.Z Go.Proofs.YtgghhcifkgdpeaaW.PrintWords

abbrev Tr := S61
theorem rdTr (l : List Tr) (i : Nat) (h : i < l.length) : rd_T61 l (i : Int) = l[i] := getD_get l i _ h
def hopIn (p : List Int) (i : Nat) : Bool := decide (-1 ≤ p.getD i 0 ∧ p.getD i 0 ≤ 7)
def hopNew (p : List Int) (i : Nat) : Bool := !(decide (0 ≤ p.getD i 0) && dupOf p i)
def okTrace (t : Tr) : Bool := decide (t.f0.length ≤ 8) && (List.range t.f0.length).all (fun i => hopIn t.f0 i && hopNew t.f0 i)
def areTraces (l : List Tr) : Bool := l.all okTrace && decide (l.length ≤ 8)

theorem rd_nat' (p : List Int) (i : Nat) : rd p (i : Int) = p.getD i 0 := by
  unfold rd
  rw [Int.toNat_natCast]

theorem spec_areTraces (l : List Tr) (hl : l.length ≤ 1048576) (hr : ∀ t ∈ l, t.f0.length ≤ 1048576) : Ev (fun k => spec_AreTraces.f k l) (areTraces l) := by
  unfold spec_AreTraces.f areTraces
  refine all_step okTrace l (fun i k => spec_AreTraces.l0 k l (i : Int)) (decide (l.length ≤ 8)) ?_ ?_
  · refine Ev.step (fun k => by rw [spec_AreTraces.l0]) ?_
    exact Ev.ifneg (by omega) (Ev.pure (decide_eq_decide.2 (by omega)))
  · intro i hi r ih
    have hlen := hr l[i] (List.getElem_mem hi)
    refine Ev.step (fun k => by rw [spec_AreTraces.l0]) ?_
    rw [rdTr l i hi]
    refine Ev.ifpos (by omega) (Ev.ifpos (by omega) ?_)
    unfold okTrace
    by_cases h8 : (l[i].f0.length : Int) > 8
    · refine Ev.ifpos h8 (Ev.pure ?_)
      rw [decide_eq_false (by omega), Bool.false_and, Bool.false_and]
    · rw [decide_eq_true (by omega), Bool.true_and]
      refine Ev.ifneg h8 ?_
      generalize l[i].f0 = p at hlen h8
      refine all_places p.length (fun i => hopIn p i && hopNew p i) (fun j k => spec_AreTraces.l1 k l (i : Int) p (j : Int)) r ?_ ?_
      · refine Ev.step (fun k => by rw [spec_AreTraces.l1]) ?_
        rw [wrap_succ (i := i) (by omega)]
        exact Ev.ifneg (by omega) ih
      · intro j hj r2 ih2
        refine Ev.step (fun k => by rw [spec_AreTraces.l1]) ?_
        rw [wrap_succ (i := j) (by omega), rd_nat', Int.toNat_natCast]
        refine Ev.ifpos (by omega) (Ev.ifpos (by omega) (Ev.bind0 (spec_in _ _ _) ?_))
        show Ev (fun k => if hopIn p j = true then _ else _) _
        cases hopIn p j
        · exact Ev.ifneg (by decide) (Ev.pure (by simp))
        · refine Ev.ifpos rfl ?_
          rw [Bool.true_and]
          unfold hopNew
          by_cases h0 : p.getD j 0 ≥ 0
          · have h0' : 0 ≤ p.getD j 0 := h0
            refine Ev.ifpos h0 (Ev.ifpos (by omega) (Ev.bind (spec_has (p.take j) (p.getD j 0) (by rw [List.length_take]; omega)) ?_))
            rw [decide_eq_true h0', Bool.true_and]
            show Ev (fun k => if dupOf p j = true then _ else _) _
            cases dupOf p j
            · exact Ev.ifneg (by decide) (by simpa using ih2)
            · exact Ev.ifpos rfl (Ev.pure (by simp))
          · have h0' : ¬ 0 ≤ p.getD j 0 := h0
            rw [decide_eq_false h0']
            exact Ev.ifneg h0 (by simpa using ih2)

theorem hops_all (p : List Int) : (List.range p.length).all (fun i => hopIn p i && hopNew p i) = (p.all (fun n => decide (-1 ≤ n ∧ n ≤ 7)) && (List.range p.length).all (hopNew p)) := by
  rw [Bool.eq_iff_iff]
  simp only [List.all_eq_true, List.mem_range, Bool.and_eq_true]
  constructor
  · intro h
    refine ⟨fun n hn => ?_, fun i hi => (h i hi).2⟩
    obtain ⟨i, hi, rfl⟩ := List.getElem_of_mem hn
    have h1 := (h i hi).1
    unfold hopIn at h1
    rwa [List.getD_eq_getElem?_getD, List.getElem?_eq_getElem hi] at h1
  · rintro ⟨h1, h2⟩ i hi
    refine ⟨?_, h2 i hi⟩
    unfold hopIn
    rw [List.getD_eq_getElem?_getD, List.getElem?_eq_getElem hi]
    exact h1 _ (List.getElem_mem hi)

theorem impl_areTraces (l : List Tr) (hl : l.length ≤ 1048576) (hr : ∀ t ∈ l, t.f0.length ≤ 1048576) : Ev (fun k => impl_AreTraces.f k l) (areTraces l) := by
  unfold impl_AreTraces.f areTraces
  by_cases h12 : (l.length : Int) > 8
  · rw [decide_eq_false (by omega), Bool.and_false]
    exact Ev.ifpos h12 (Ev.now _)
  rw [decide_eq_true (by omega)]
  refine Ev.ifneg h12 ?_
  refine all_step okTrace l (fun i k => impl_AreTraces.l0 k l (l.length : Int) (i : Int)) true ?_ ?_
  · refine Ev.step (fun k => by rw [impl_AreTraces.l0]) ?_
    exact Ev.ifneg (by omega) (Ev.now _)
  · intro i hi r ih
    have hlen := hr l[i] (List.getElem_mem hi)
    refine Ev.step (fun k => by rw [impl_AreTraces.l0]) ?_
    rw [rdTr l i hi]
    refine Ev.ifpos (by omega) (Ev.ifpos (by omega) (Ev.ifpos (by omega) ?_))
    unfold okTrace
    generalize l[i].f0 = p at hlen
    have hbad : ∀ q : Bool, q = false → Ev (fun k => impl_AreTraces.j1 k l (l.length : Int) (i : Int) true p) q := fun q hq => by
      refine Ev.step (fun k => by rw [impl_AreTraces.j1]) ?_
      exact Ev.ifpos rfl (Ev.pure hq.symm)
    by_cases h8 : (p.length : Int) > 8
    · refine Ev.ifpos h8 (hbad _ ?_)
      rw [decide_eq_false (by omega), Bool.false_and, Bool.false_and]
    · rw [decide_eq_true (by omega), Bool.true_and, hops_all]
      refine Ev.ifneg h8 (Ev.bind (impl_allIn p (-1) 7 (by omega)) ?_)
      cases hb : p.all (fun n => decide (-1 ≤ n ∧ n ≤ 7)) with
      | false => exact hbad _ (by simp)
      | true =>
        refine Ev.step (fun k => by rw [impl_AreTraces.j1]) ?_
        refine Ev.ifneg (by decide) ?_
        rw [Bool.true_and]
        refine all_places p.length (hopNew p) (fun j k => impl_AreTraces.l1 k l (l.length : Int) (i : Int) p (p.length : Int) (j : Int) p) r ?_ ?_
        · refine Ev.step (fun k => by rw [impl_AreTraces.l1]) ?_
          rw [wrap_succ (i := i) (by omega)]
          exact Ev.ifneg (by omega) ih
        · intro j hj r2 ih2
          have hin := List.all_eq_true.1 hb p[j] (List.getElem_mem hj)
          have hin := of_decide_eq_true hin
          have eg : p.getD j 0 = p[j] := by rw [List.getD_eq_getElem?_getD, List.getElem?_eq_getElem hj]; rfl
          refine Ev.step (fun k => by rw [impl_AreTraces.l1]) ?_
          rw [wrap_succ (i := j) (by omega), rd_nat', Int.toNat_natCast]
          refine Ev.ifpos (by omega) (Ev.ifpos (by omega) (Ev.ifpos (by omega) ?_))
          unfold hopNew
          by_cases h0 : p.getD j 0 = -1
          · rw [decide_eq_false (by omega)]
            exact Ev.ifpos h0 (by simpa using ih2)
          · rw [decide_eq_true (by omega), Bool.true_and]
            refine Ev.ifneg h0 (Ev.ifpos (by omega) (Ev.bind (impl_has (p.take j) (p.getD j 0) (by rw [List.length_take]; omega)) ?_))
            show Ev (fun k => if dupOf p j = true then _ else _) _
            cases dupOf p j
            · exact Ev.ifneg (by decide) (by simpa using ih2)
            · exact Ev.ifpos rfl (Ev.pure (by simp))

end Go.Proofs.Ytgghhcifkgdpeaa.Pure
/- Plain lemmas: the reference's MapOf (links put in one by one) and the program's (steps, ordered, sorted, without repeats) agree. Conditions: lists not longer than the law's. -/

namespace Go.Proofs.Ytgghhcifkgdpeaa.Pure
open Go.RowKit Go.Proofs.Ytgghhcifkgdpeaa.Z Go.Proofs.YtgghhcifkgdpeaaW.PrintWords

abbrev MK := S63

section Compact
variable {α : Type} [Inhabited α] [DecidableEq α]
omit [DecidableEq α] in
theorem cp_get (zs : List α) (j : Nat) (h : j < zs.length) : zs.toArray[j]! = zs[j] := by simp [h]
theorem cp_mem (zs : List α) (x : α) : x ∈ Lib.compact zs ↔ x ∈ zs := by
  unfold Lib.compact Lib.compactUpTo
  simp only [List.mem_map, List.mem_filter, List.mem_range]
  constructor
  · rintro ⟨j, ⟨hj, _⟩, rfl⟩
    rw [cp_get zs j hj]
    exact List.getElem_mem hj
  · intro hx
    obtain ⟨j, hj, e⟩ := List.getElem_of_mem hx
    have key : ∀ j, j < zs.length → zs.toArray[j]! = x → ∃ a, (a < zs.length ∧ Lib.keeps zs.toArray a = true) ∧ zs.toArray[a]! = x := by
      intro j
      induction j with
      | zero => intro h e; exact ⟨0, ⟨h, Lib.keeps_lt_one _ 0 (by omega)⟩, e⟩
      | succ j ih =>
        intro h e
        by_cases h2 : zs.toArray[j + 1]! = zs.toArray[j]!
        · exact ih (by omega) (by rw [← h2]; exact e)
        · exact ⟨j + 1, ⟨h, Lib.keeps_pos (by simpa using h2)⟩, e⟩
    exact key j hj (by rw [cp_get zs j hj]; exact e)
theorem cp_rise (lt : α → α → Prop) (tot : ∀ a b, ¬ lt b a → a ≠ b → lt a b) (tr2 : ∀ a b c, ¬ lt b a → lt b c → lt a c) {zs : List α} (h : zs.Pairwise (fun x y => ¬ lt y x)) : (Lib.compact zs).Pairwise lt := by
  unfold Lib.compact Lib.compactUpTo
  rw [List.pairwise_map]
  have h2 : ((List.range zs.length).filter (Lib.keeps zs.toArray)).Pairwise (fun a b => a < b) := List.Pairwise.filter _ List.pairwise_lt_range
  refine h2.imp_of_mem (fun {a b} ha hb hab => ?_)
  simp only [List.mem_filter, List.mem_range] at ha hb
  have hk := hb.2
  unfold Lib.keeps at hk
  have hk := of_decide_eq_true hk
  rcases hk with h0 | h0
  · omega
  · rw [cp_get zs b hb.1, cp_get zs (b - 1) (by omega)] at h0
    rw [cp_get zs a ha.1, cp_get zs b hb.1]
    have h3 : lt zs[b - 1] zs[b] := tot _ _ ((List.pairwise_iff_getElem.1 h) (b - 1) b (by omega) hb.1 (by omega)) (fun e => h0 e.symm)
    by_cases e : a = b - 1
    · subst e; exact h3
    · exact tr2 _ _ _ ((List.pairwise_iff_getElem.1 h) a (b - 1) (by omega) (by omega) (by omega)) h3
end Compact

def ltK (x y : MK) : Prop := x.f0 < y.f0 ∨ (x.f0 = y.f0 ∧ x.f1 < y.f1)
def RiseK (l : List MK) : Prop := l.Pairwise ltK
theorem lk_ext {x y : MK} (h0 : x.f0 = y.f0) (h1 : x.f1 = y.f1) : x = y := by
  cases x; cases y; simp only at h0 h1; subst h0 h1; rfl
theorem ltK_trans (a b c : MK) (h1 : ltK a b) (h2 : ltK b c) : ltK a c := by unfold ltK at *; omega
theorem ltK_tot (a b : MK) (h : ¬ ltK b a) (hne : a ≠ b) : ltK a b := by
  unfold ltK at *
  by_cases h0 : a.f0 = b.f0
  · by_cases h1 : a.f1 = b.f1
    · exact absurd (lk_ext h0 h1) hne
    · omega
  · omega
theorem ltK_tr2 (a b c : MK) (h1 : ¬ ltK b a) (h2 : ltK b c) : ltK a c := by unfold ltK at *; omega

theorem cmpK_neg (x y : MK) : cmpLk x y < 0 ↔ ltK x y := by
  unfold cmpLk orI Lib.compareInt ltK
  by_cases h1 : x.f0 < y.f0
  · simp [h1]
  · by_cases h2 : y.f0 < x.f0
    · simp [h1, h2]; omega
    · have e : x.f0 = y.f0 := by omega
      by_cases h3 : x.f1 < y.f1
      · simp [e, h3]
      · by_cases h4 : y.f1 < x.f1 <;> simp [e, h3, h4]

theorem sortLk_perm (l : List MK) : (sortLk l).Perm l := List.mergeSort_perm l _
theorem sortLk_pair (l : List MK) : (sortLk l).Pairwise (fun x y => ¬ ltK y x) := by
  have e : ∀ x y : MK, (!(ltOf cmpLk y x)) = true ↔ ¬ ltK y x := fun x y => by
    unfold ltOf
    rw [Bool.not_eq_true', decide_eq_false_iff_not, cmpK_neg]
  have h := List.pairwise_mergeSort (le := fun x y : MK => !(ltOf cmpLk y x)) (fun a b c h1 h2 => by
    rw [e] at *
    intro h3
    exact (by unfold ltK at *; omega : False)) (fun a b => by
    rw [Bool.or_eq_true, e, e]
    unfold ltK
    omega) l
  exact h.imp (fun h => (e _ _).1 h)

theorem rise_extK : ∀ {l m : List MK}, RiseK l → RiseK m → (∀ x, x ∈ l ↔ x ∈ m) → l = m
  | [], [], _, _, _ => rfl
  | [], b :: m, _, _, h => absurd ((h b).2 (List.mem_cons_self ..)) (by simp)
  | a :: l, [], _, _, h => absurd ((h a).1 (List.mem_cons_self ..)) (by simp)
  | a :: l, b :: m, hl, hm, h => by
    unfold RiseK at hl hm
    rw [List.pairwise_cons] at hl hm
    have e : a = b := by
      have h1 := (h a).1 (List.mem_cons_self ..)
      have h2 := (h b).2 (List.mem_cons_self ..)
      rcases List.mem_cons.1 h1 with h1 | h1
      · exact h1
      · rcases List.mem_cons.1 h2 with h2 | h2
        · exact h2.symm
        · have h3 := hm.1 a h1
          have h4 := hl.1 b h2
          exact absurd (ltK_trans _ _ _ h3 h4) (by unfold ltK; omega)
    subst e
    have irr : ¬ ltK a a := by unfold ltK; omega
    rw [rise_extK hl.2 hm.2 (fun x => ?_)]
    constructor
    · intro hx
      rcases List.mem_cons.1 ((h x).1 (List.mem_cons_of_mem _ hx)) with h1 | h1
      · subst h1
        exact absurd (hl.1 _ hx) irr
      · exact h1
    · intro hx
      rcases List.mem_cons.1 ((h x).2 (List.mem_cons_of_mem _ hx)) with h1 | h1
      · subst h1
        exact absurd (hm.1 _ hx) irr
      · exact h1

theorem lessK (a b : Int) (x : MK) : lessL a b x = true ↔ ltK x ⟨a, b⟩ := by
  unfold lessL ltK
  simp only [Bool.or_eq_true, Bool.and_eq_true, decide_eq_true_eq]

/-- putL, place by place. -/
def insL (a b : Int) : List MK → List MK
  | [] => [⟨a, b⟩]
  | x :: l => if lessL a b x = true then x :: insL a b l else if x = (⟨a, b⟩ : MK) then x :: l else ⟨a, b⟩ :: x :: l
theorem putL_ins (a b : Int) : ∀ l : List MK, putL l a b = insL a b l
  | [] => rfl
  | x :: l => by
    have ih := putL_ins a b l
    unfold insL
    by_cases h : lessL a b x = true
    · rw [if_pos h, ← ih]
      unfold putL
      rw [show posL a b (x :: l) = posL a b l + 1 by rw [posL, if_pos h]]
      have e : ∀ i : Nat, rd_T63 (x :: l) ((i + 1 : Nat) : Int) = rd_T63 l (i : Int) := fun i => by
        unfold rd_T63
        rw [Int.toNat_natCast, Int.toNat_natCast]
        rfl
      rw [e, List.length_cons, show decide (posL a b l + 1 < l.length + 1) = decide (posL a b l < l.length) from decide_eq_decide.2 (by omega)]
      split <;> rfl
    · rw [if_neg h]
      unfold putL
      rw [show posL a b (x :: l) = 0 by rw [posL, if_neg h]]
      have e : rd_T63 (x :: l) ((0 : Nat) : Int) = x := rfl
      rw [e]
      by_cases hx : x = (⟨a, b⟩ : MK)
      · rw [if_pos hx]
        subst hx
        simp
      · rw [if_neg hx, if_neg (fun hc => ?_)]
        · rfl
        · rw [Bool.and_eq_true, Bool.and_eq_true, beq_iff_eq, beq_iff_eq] at hc
          exact hx (lk_ext hc.2.1 hc.2.2)

theorem ins_mem (a b : Int) (z : MK) : ∀ l : List MK, z ∈ insL a b l ↔ z ∈ l ∨ z = (⟨a, b⟩ : MK)
  | [] => by unfold insL; simp
  | x :: l => by
    have ih := ins_mem a b z l
    unfold insL
    split
    · rw [List.mem_cons, ih, List.mem_cons, or_assoc]
    · split
      · rename_i h
        rw [List.mem_cons, h]
        constructor
        · exact .inl
        · rintro (h | h)
          · exact h
          · exact .inl h
      · rw [List.mem_cons]
        exact or_comm
theorem ins_rise (a b : Int) : ∀ l : List MK, RiseK l → RiseK (insL a b l)
  | [], _ => by unfold insL RiseK; simp
  | x :: l, h => by
    have ih := ins_rise a b l
    unfold RiseK at *
    rw [List.pairwise_cons] at h
    unfold insL
    split
    · rename_i hl
      rw [List.pairwise_cons]
      refine ⟨fun y hy => ?_, ih h.2⟩
      rcases (ins_mem a b y l).1 hy with hy | rfl
      · exact h.1 y hy
      · exact (lessK a b x).1 hl
    · rename_i hl
      split
      · exact List.pairwise_cons.2 h
      · rename_i hx
        have h2 : ltK ⟨a, b⟩ x := ltK_tot _ _ (fun hc => hl ((lessK a b x).2 hc)) (fun e => hx e.symm)
        rw [List.pairwise_cons, List.pairwise_cons]
        refine ⟨fun y hy => ?_, h⟩
        rcases List.mem_cons.1 hy with rfl | hy
        · exact h2
        · exact ltK_trans _ _ _ h2 (h.1 y hy)

theorem put_lenK (l : List MK) (a b : Int) : (putL l a b).length ≤ l.length + 1 := by
  unfold putL
  split
  · omega
  · have := posL_le a b l
    simp only [List.length_append, List.length_take, List.length_cons, List.length_drop]
    omega

theorem min_maxK (a b : Int) : spec_Min.f a b = some (min a b) ∧ spec_Max.f a b = some (max a b) := by
  unfold spec_Min.f spec_Max.f
  by_cases h : b < a
  · rw [if_pos h, if_neg (by omega)]
    exact ⟨by congr 1; omega, by congr 1; omega⟩
  · by_cases h2 : b > a
    · rw [if_neg h, if_pos h2]
      exact ⟨by congr 1; omega, by congr 1; omega⟩
    · rw [if_neg h, if_neg h2]
      exact ⟨by congr 1; omega, by congr 1; omega⟩

theorem wrap_prevK {j : Nat} (h : j ≤ 1048576) : wrap64 (((j + 1 : Nat) : Int) - 1) = (j : Int) := by
  have := wrap_succ (i := j) (by omega)
  unfold wrap64 at *
  omega

/-- The inner loops, side by side, under a relation that each step keeps. -/
theorem inner_rel (Rel : List MK → List MK → Prop) (l : List Tr) (i : Nat) (p : List Int) (hp : p.length ≤ 8) (hr : ∀ j, j < p.length → -1 ≤ p.getD j 0)
    (hR : ∀ x y j, j + 1 < p.length → 0 ≤ p.getD j 0 → 0 ≤ p.getD (j + 1) 0 → Rel x y → Rel (putL x (min (p.getD j 0) (p.getD (j + 1) 0)) (max (p.getD j 0) (p.getD (j + 1) 0))) (y ++ [⟨p.getD j 0, p.getD (j + 1) 0⟩]))
    (next : ∀ x y : List MK, x.length ≤ 8 * (i + 1) → y.length ≤ 8 * (i + 1) → Rel x y → ∃ M S, Ev (fun k => spec_MapOf.l0 k l x (wrap64 ((i : Int) + 1))) M ∧ Ev (fun k => impl_steps.l0 k y l (l.length : Int) (wrap64 ((i : Int) + 1))) S ∧ Rel M S ∧ M.length ≤ 64 ∧ S.length ≤ 64) (hi : i ≤ 8) :
    ∀ m j, p.length ≤ m + (j + 1) → ∀ x y : List MK, x.length ≤ 8 * i + min j 8 → y.length ≤ 8 * i + min j 8 → Rel x y →
      ∃ M S, Ev (fun k => spec_MapOf.l1 k l x (i : Int) p ((j + 1 : Nat) : Int)) M ∧ Ev (fun k => impl_steps.l1 k y ((j + 1 : Nat) : Int) l (l.length : Int) (i : Int) p) S ∧ Rel M S ∧ M.length ≤ 64 ∧ S.length ≤ 64 := by
  intro m
  induction m with
  | zero =>
    intro j hj x y hx hy he
    obtain ⟨M, S, h1, h2, h3⟩ := next x y (by omega) (by omega) he
    refine ⟨M, S, ?_, ?_, h3⟩
    · refine Ev.step (fun k => by rw [spec_MapOf.l1]) ?_
      exact Ev.ifneg (by omega) h1
    · refine Ev.step (fun k => by rw [impl_steps.l1]) ?_
      exact Ev.ifneg (by omega) h2
  | succ m ih =>
    intro j hj x y hx hy he
    by_cases hlt : j + 1 < p.length
    · have w1 := wrap_prevK (j := j) (by omega)
      have w2 := wrap_succ (i := j + 1) (by omega)
      have r1 := hr j (by omega)
      have r2 := hr (j + 1) hlt
      by_cases hc : 0 ≤ p.getD j 0 ∧ 0 ≤ p.getD (j + 1) 0
      · obtain ⟨hu, hv⟩ := min_maxK (p.getD j 0) (p.getD (j + 1) 0)
        have hst := hR x y j hlt hc.1 hc.2 he
        generalize min (p.getD j 0) (p.getD (j + 1) 0) = u at hu hst
        generalize max (p.getD j 0) (p.getD (j + 1) 0) = v at hv hst
        have hput := put_lenK x u v
        obtain ⟨M, S, h1, h2, h3⟩ := ih (j + 1) (by omega) (putL x u v) (y ++ [⟨p.getD j 0, p.getD (j + 1) 0⟩]) (by omega) (by rw [List.length_append, List.length_singleton]; omega) hst
        refine ⟨M, S, ?_, ?_, h3⟩
        · refine Ev.step (fun k => by rw [spec_MapOf.l1]) ?_
          rw [w1, rd_nat', rd_nat']
          refine Ev.ifpos (by omega) (Ev.ifpos (by omega) (Ev.ifpos (by omega) (Ev.ifpos hc.1 (Ev.ifpos (by omega) ?_))))
          refine Ev.step (fun k => by rw [spec_MapOf.j2]) ?_
          rw [w1, w2, rd_nat', rd_nat', hu, hv]
          refine Ev.ifpos (decide_eq_true hc.2) (Ev.ifpos (by omega) (Ev.ifpos (by omega) (Ev.ifpos (by omega) (Ev.ifpos (by omega) ?_))))
          refine Ev.bind0 rfl (Ev.bind0 rfl (Ev.bind0 (a := putL x u v) (by unfold spec_l13Put.f; rw [if_pos (by omega)]) h1))
        · refine Ev.step (fun k => by rw [impl_steps.l1]) ?_
          rw [w1, w2, rd_nat', rd_nat']
          exact Ev.ifpos (by omega) (Ev.ifpos (by omega) (Ev.ifpos (by omega) (Ev.ifpos (by omega) (Ev.ifneg (by omega) (Ev.ifneg (by omega) (Ev.ifpos (by omega) h2))))))
      · obtain ⟨M, S, h1, h2, h3⟩ := ih (j + 1) (by omega) x y (by omega) (by omega) he
        have hj2 : Ev (fun k => spec_MapOf.j2 k l x (i : Int) p ((j + 1 : Nat) : Int) false) M := by
          refine Ev.step (fun k => by rw [spec_MapOf.j2]) ?_
          rw [w2]
          exact Ev.ifneg (by decide) h1
        refine ⟨M, S, ?_, ?_, h3⟩
        · refine Ev.step (fun k => by rw [spec_MapOf.l1]) ?_
          rw [w1, rd_nat', rd_nat']
          refine Ev.ifpos (by omega) (Ev.ifpos (by omega) (Ev.ifpos (by omega) ?_))
          by_cases h0 : p.getD j 0 ≥ 0
          · rw [decide_eq_false (show ¬ p.getD (j + 1) 0 ≥ 0 by omega)]
            exact Ev.ifpos h0 (Ev.ifpos (by omega) hj2)
          · exact Ev.ifneg h0 hj2
        · refine Ev.step (fun k => by rw [impl_steps.l1]) ?_
          rw [w1, w2, rd_nat', rd_nat']
          refine Ev.ifpos (by omega) (Ev.ifpos (by omega) (Ev.ifpos (by omega) (Ev.ifpos (by omega) ?_)))
          by_cases h0 : p.getD j 0 = -1
          · exact Ev.ifpos h0 h2
          · exact Ev.ifneg h0 (Ev.ifpos (by omega) h2)
    · obtain ⟨M, S, h1, h2, h3⟩ := next x y (by omega) (by omega) he
      refine ⟨M, S, ?_, ?_, h3⟩
      · refine Ev.step (fun k => by rw [spec_MapOf.l1]) ?_
        exact Ev.ifneg (by omega) h1
      · refine Ev.step (fun k => by rw [impl_steps.l1]) ?_
        exact Ev.ifneg (by omega) h2

theorem okTrace_hopsK (t : Tr) (h : okTrace t = true) : t.f0.length ≤ 8 ∧ ∀ j, j < t.f0.length → -1 ≤ t.f0.getD j 0 := by
  unfold okTrace at h
  rw [Bool.and_eq_true, decide_eq_true_eq] at h
  refine ⟨h.1, fun j hj => ?_⟩
  have := List.all_eq_true.1 h.2 j (List.mem_range.2 hj)
  rw [Bool.and_eq_true] at this
  have := this.1
  unfold hopIn at this
  exact (of_decide_eq_true this).1

theorem outer_rel (Rel : List MK → List MK → Prop) (l : List Tr) (h8 : l.length ≤ 8) (hk : ∀ t ∈ l, okTrace t = true)
    (hR : ∀ x y (t : Tr), t ∈ l → ∀ j, j + 1 < t.f0.length → 0 ≤ t.f0.getD j 0 → 0 ≤ t.f0.getD (j + 1) 0 → Rel x y → Rel (putL x (min (t.f0.getD j 0) (t.f0.getD (j + 1) 0)) (max (t.f0.getD j 0) (t.f0.getD (j + 1) 0))) (y ++ [⟨t.f0.getD j 0, t.f0.getD (j + 1) 0⟩])) :
    ∀ m i, l.length ≤ m + i → i ≤ l.length → ∀ x y : List MK, x.length ≤ 8 * i → y.length ≤ 8 * i → Rel x y →
      ∃ M S, Ev (fun k => spec_MapOf.l0 k l x (i : Int)) M ∧ Ev (fun k => impl_steps.l0 k y l (l.length : Int) (i : Int)) S ∧ Rel M S ∧ M.length ≤ 64 ∧ S.length ≤ 64 := by
  intro m
  induction m with
  | zero =>
    intro i hm hi x y hx hy he
    refine ⟨x, y, ?_, ?_, he, by omega, by omega⟩
    · refine Ev.step (fun k => by rw [spec_MapOf.l0]) ?_
      exact Ev.ifneg (by omega) (Ev.now _)
    · refine Ev.step (fun k => by rw [impl_steps.l0]) ?_
      exact Ev.ifneg (by omega) (Ev.now _)
  | succ m ih =>
    intro i hm hi x y hx hy he
    by_cases hlt : i < l.length
    · obtain ⟨hp, hr⟩ := okTrace_hopsK l[i] (hk _ (List.getElem_mem hlt))
      have hin := inner_rel Rel l i l[i].f0 hp hr (fun x y j h1 h2 h3 h4 => hR x y l[i] (List.getElem_mem hlt) j h1 h2 h3 h4) (by
        intro x' y' hx' hy' he'
        rw [wrap_succ (i := i) (by omega)]
        exact ih (i + 1) (by omega) (by omega) x' y' hx' hy' he') (by omega) l[i].f0.length 0 (by omega) x y (by omega) (by omega) he
      rw [show ((0 + 1 : Nat) : Int) = 1 from rfl] at hin
      obtain ⟨M, S, h1, h2, h3⟩ := hin
      refine ⟨M, S, ?_, ?_, h3⟩
      · refine Ev.step (fun k => by rw [spec_MapOf.l0]) ?_
        rw [rdTr l i hlt]
        exact Ev.ifpos (by omega) (Ev.ifpos (by omega) h1)
      · refine Ev.step (fun k => by rw [impl_steps.l0]) ?_
        rw [rdTr l i hlt]
        exact Ev.ifpos (by omega) (Ev.ifpos (by omega) (Ev.ifpos (by omega) h2))
    · refine ⟨x, y, ?_, ?_, he, by omega, by omega⟩
      · refine Ev.step (fun k => by rw [spec_MapOf.l0]) ?_
        exact Ev.ifneg (by omega) (Ev.now _)
      · refine Ev.step (fun k => by rw [impl_steps.l0]) ?_
        exact Ev.ifneg (by omega) (Ev.now _)

/-- The map: ordered links, each once. -/
def mapK (S : List MK) : List MK := Lib.compact (sortLk (S.map ordL))
def RelK (x y : List MK) : Prop := RiseK x ∧ ∀ z, z ∈ x ↔ z ∈ y.map ordL
theorem relK_step (x y : List MK) (a b : Int) (h : RelK x y) : RelK (putL x (min a b) (max a b)) (y ++ [⟨a, b⟩]) := by
  refine ⟨by rw [putL_ins]; exact ins_rise _ _ _ h.1, fun z => ?_⟩
  rw [putL_ins, ins_mem, h.2 z, List.map_append, List.mem_append]
  simp [ordL]
theorem relK_eq (M S : List MK) (h : RelK M S) : mapK S = M := by
  unfold mapK
  refine rise_extK (cp_rise ltK ltK_tot ltK_tr2 (sortLk_pair _)) h.1 (fun z => ?_)
  rw [cp_mem, (sortLk_perm _).mem_iff, h.2 z]

theorem map_both (ts : List Tr) (ht : ts.length ≤ 1048576) (hr : ∀ t ∈ ts, t.f0.length ≤ 1048576) :
    ∃ r, Ev (fun k => spec_MapOf.f k ts) r ∧ Ev (fun k => impl_MapOf.f k ts) r ∧ r.length ≤ 64 := by
  have s2 := spec_areTraces ts ht hr
  have i2 := impl_areTraces ts ht hr
  unfold spec_MapOf.f impl_MapOf.f
  cases hT : areTraces ts with
  | false =>
    rw [hT] at s2 i2
    exact ⟨[], Ev.bind0 rfl (Ev.bind s2 (Ev.ifneg (by decide) (Ev.now _))), Ev.bind i2 (Ev.ifneg (by decide) (Ev.now _)), by simp⟩
  | true =>
    rw [hT] at s2 i2
    have hA := hT
    unfold areTraces at hA
    rw [Bool.and_eq_true, decide_eq_true_eq] at hA
    obtain ⟨M, S, h1, h2, h3, h4, h5⟩ := outer_rel RelK ts hA.2 (List.all_eq_true.1 hA.1) (fun x y t _ j _ _ _ h => relK_step x y _ _ h) ts.length 0 (by omega) (by omega) [] [] (by simp) (by simp) ⟨List.Pairwise.nil, fun z => by simp⟩
    refine ⟨M, Ev.bind0 rfl (Ev.bind s2 (Ev.ifpos rfl h1)), Ev.bind i2 (Ev.ifpos rfl (Ev.bind (show Ev (fun k => impl_steps.f k ts) S from h2) (Ev.ifpos (by omega) (Ev.pure ?_)))), h4⟩
    exact relK_eq M S h3

end Go.Proofs.Ytgghhcifkgdpeaa.Pure
/- Plain lemmas: marks of numbers; the middle of a list. Condition: the numbers fit. -/
namespace Go.Proofs.Ytgghhcifkgdpeaa.Pure
open Go.RowKit Go.Proofs.Ytgghhcifkgdpeaa.Z Go.Proofs.YtgghhcifkgdpeaaW.PrintWords

theorem pm_IntS (l : List Int) (m : Int) (h0 : 0 ≤ m) (h1 : m + ((1 * l.length : Nat) : Int) ≤ 4611686018427387904) : Ev (fun k => laws_markIntS.f k l m) (m + ((1 * l.length : Nat) : Int), marked 1 (fun m => m) m l.length) := by
  unfold laws_markIntS.f
  refine mark_loop 1 (fun m => m) l.length (fun i s m k => laws_markIntS.l0 k s m (i : Int)) ?_ ?_ l m rfl h0 h1
  · intro s m hs
    refine Ev.step (fun k => by rw [laws_markIntS.l0]) ?_
    exact Ev.ifneg (by omega) (Ev.now _)
  · intro i s m r hi hs h0 h1 hr
    refine Ev.step (fun k => by rw [laws_markIntS.l0]) ?_
    refine Ev.ifpos (by omega) (Ev.ifpos (by omega) ?_)
    rw [wrap_succ (by omega), wrap_in (by omega) (by omega), Int.toNat_natCast]
    exact hr

theorem getD_mid {α : Type} (a : List α) (x z : α) (b : List α) : (a ++ x :: b).getD ((a.length : Int)).toNat z = x := by
  rw [Int.toNat_natCast, List.getD_eq_getElem?_getD, List.getElem?_append_right (Nat.le_refl _), Nat.sub_self]
  rfl
theorem set_mid {α : Type} (a : List α) (x y : α) (b : List α) : (a ++ x :: b).set ((a.length : Int)).toNat y = (a ++ [y]) ++ b := by
  rw [Int.toNat_natCast, List.set_append_right _ _ (Nat.le_refl _), Nat.sub_self, List.set_cons_zero, List.append_assoc]
  rfl

end Go.Proofs.Ytgghhcifkgdpeaa.Pure
/- Plain lemmas: marks of traces. Condition: the numbers fit. -/
namespace Go.Proofs.Ytgghhcifkgdpeaa.Pure
open Go.RowKit Go.Proofs.Ytgghhcifkgdpeaa.Z Go.Proofs.YtgghhcifkgdpeaaW.PrintWords

def totT : List S61 → Nat
  | [] => 0
  | p :: ps => p.f0.length + totT ps
def markTs : Int → List S61 → List S61
  | _, [] => []
  | m, p :: ps => ⟨marked 1 (fun m => m) m p.f0.length⟩ :: markTs (m + (p.f0.length : Int)) ps

theorem mark_Ts_from : ∀ (l done : List S61) (m : Int), 0 ≤ m → m + (totT l : Int) ≤ 4611686018427387904 → done.length + l.length ≤ 4611686018427387904 → Ev (fun k => laws_markTraceS.l0 k (done ++ l) m (done.length : Int)) (m + (totT l : Int), done ++ markTs m l)
  | [], done, m, h0, h1, h2 => by
    rw [List.append_nil, markTs, List.append_nil, totT]
    refine Ev.step (fun k => by rw [laws_markTraceS.l0]) ?_
    exact Ev.ifneg (by omega) (Ev.pure (by simp))
  | r :: rs, done, m, h0, h1, h2 => by
    rw [totT] at h1
    rw [List.length_cons] at h2
    have hl : (done ++ r :: rs).length = done.length + rs.length + 1 := by simp; omega
    refine Ev.step (fun k => by rw [laws_markTraceS.l0]) ?_
    refine Ev.ifpos (by omega) (Ev.ifpos (by omega) ?_)
    rw [show rd_T61 (done ++ r :: rs) (done.length : Int) = r from getD_mid _ _ _ _]
    refine Ev.bind (pm_IntS r.f0 m (by omega) (by omega)) ?_
    rw [set_mid, wrap_succ (by omega)]
    have ih := mark_Ts_from rs (done ++ [⟨marked 1 (fun m => m) m r.f0.length⟩]) (m + (r.f0.length : Int)) (by omega) (by omega) (by rw [List.length_append, List.length_singleton]; omega)
    rw [List.length_append, List.length_singleton] at ih
    rw [markTs, totT]
    have e1 : m + ((1 * r.f0.length : Nat) : Int) = m + (r.f0.length : Int) := by omega
    have e2 : m + (r.f0.length : Int) + (totT rs : Int) = m + ((r.f0.length + totT rs : Nat) : Int) := by omega
    rw [e2] at ih
    simp only [List.append_assoc, List.singleton_append] at ih
    simp only [e1]
    rw [List.append_assoc, List.singleton_append]
    exact ih

theorem mark_TraceS (l : List S61) (m : Int) (h0 : 0 ≤ m) (h1 : m + (totT l : Int) ≤ 4611686018427387904) (h2 : l.length ≤ 4611686018427387904) : Ev (fun k => laws_markTraceS.f k l m) (m + (totT l : Int), markTs m l) := by
  unfold laws_markTraceS.f
  have := mark_Ts_from l [] m h0 h1 (by simpa using h2)
  simpa using this

theorem totT_le (n : Nat) : ∀ l : List S61, (∀ r ∈ l, r.f0.length ≤ n) → totT l ≤ n * l.length
  | [], _ => Nat.zero_le _
  | r :: rs, h => by
    have := totT_le n rs (fun x hx => h x (List.mem_cons_of_mem _ hx))
    have := h r (List.mem_cons_self ..)
    rw [totT, List.length_cons, Nat.mul_succ]
    omega

end Go.Proofs.Ytgghhcifkgdpeaa.Pure
namespace Go.Proofs.Ytgghhcifkgdpeaa.Pure
open Go.RowKit Go.Proofs.Ytgghhcifkgdpeaa.Z Go.Proofs.YtgghhcifkgdpeaaW.PrintWords

theorem FnExactMapOf : laws_FnExactMapOf.Pure := by
  intro l hl
  refine Ev.rounds ?_
  unfold laws_FnExactMapOf.f
  obtain ⟨s, hs, hs2⟩ := sz_TraceS l hl.1 (fun x hx => (hl.2 x hx).1) 1048576 (by omega) (by omega)
  by_cases hn : s < 0
  · exact Ev.bind hs (Ev.ifpos hn (Ev.now _))
  have hsm := (hs2 (by omega)).2
  have ht := to_TraceS l hsm
  have hlen : (l.map c85_61).length ≤ 1048576 := by simpa using hsm.1
  have hsm2 : (smL smS61) (l.map c85_61) := by
    refine ⟨hlen, fun x hx => ?_⟩
    obtain ⟨y, hy, rfl⟩ := List.mem_map.1 hx
    exact hsm.2 y hy
  have he := eq_TraceS (l.map c85_61) hsm2
  generalize l.map c85_61 = q at *
  have hr : ∀ t ∈ q, t.f0.length ≤ 1048576 := fun t ht => (hsm2.2 t ht).1
  obtain ⟨m, h1, h2, hml⟩ := map_both q hlen hr
  have hi := eq_LinkS m (by unfold maxLen; omega)
  have ht1 := totT_le 1048576 q hr
  have hb1 : totT q ≤ 1048576 * 1048576 := Nat.le_trans ht1 (Nat.mul_le_mul_left _ hlen)
  have hmp := mark_TraceS q 1 (by omega) (by omega) (by omega)
  have hmi := mark_LinkS m 1 (by omega) (by omega)
  have hh := held_LinkS m.length 1 (by omega) (by omega)
  refine Ev.bind hs (Ev.ifneg hn (Ev.bind ht (Ev.bind h1 (Ev.bind ht (Ev.bind h2 (Ev.bind hi (Ev.ifpos rfl (Ev.bind ht (Ev.bind he (Ev.ifpos rfl (Ev.bind hmp (Ev.ifneg (by omega) (Ev.bind hi (Ev.ifpos rfl ?_))))))))))))))
  exact Ev.bind hmi (Ev.bind hh (Ev.ifneg (by omega) (Ev.ifpos rfl (Ev.bind ht (Ev.bind h2 (Ev.bind hi (Ev.ifpos rfl (Ev.bind hh (Ev.ifneg (by omega) (Ev.ifpos rfl (Ev.now _)))))))))))

end Go.Proofs.Ytgghhcifkgdpeaa.Pure
