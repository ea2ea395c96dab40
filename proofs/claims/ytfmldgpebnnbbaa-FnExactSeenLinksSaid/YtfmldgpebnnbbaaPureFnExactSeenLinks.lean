/- The statement: for every list of probes, the program's SeenLinks answers as the reference's does, leaves the probes as they were, and its answer shares no memory with the probes or with another answer. No condition. -/
import Derived.Test.YtfmldgpebnnbbaaWWords
import Derived.Test.YtfmldgpebnnbbaaWLast
import Derived.Test.YtfmldgpebnnbbaaWMore
import Derived.Test.YtfmldgpebnnbbaaZ1
import Derived.Test.YtfmldgpebnnbbaaZ3
import Derived.Test.YtfmldgpebnnbbaaZ5
import Derived.Test.YtfmldgpebnnbbaaZ6
import Derived.Test.YtfmldgpebnnbbaaZ4
import Derived.Test.YtfmldgpebnnbbaaZ2
import Derived.Test.YtfmldgpebnnbbaaZDefFnExactSeenLinks
/- Plain lemmas for what the printed functions come to: loops that go up, indices that do not wrap, reads. No condition. -/
namespace Go.Proofs.Ytfmldgpebnnbbaa.Pure
open Go.RowKit Go.Proofs.YtfmldgpebnnbbaaW.PrintWords Go.Proofs.YtfmldgpebnnbbaaW.PrintLast Go.Proofs.YtfmldgpebnnbbaaW.PrintMore

/-- A loop that goes up to n: at each index it comes to R, if it does so one index further. -/
theorem Ev.up {σ ρ : Type} (n : Nat) (G : Nat → σ → Nat → Option ρ) (R : Nat → σ → ρ) (Inv : Nat → σ → Prop) (hend : ∀ s, Inv n s → Ev (G n s) (R n s))
    (hstep : ∀ i s, i < n → Inv i s → (∀ s', Inv (i + 1) s' → Ev (G (i + 1) s') (R (i + 1) s')) → Ev (G i s) (R i s)) : ∀ i s, i ≤ n → Inv i s → Ev (G i s) (R i s) := by
  have key : ∀ d i s, i + d = n → Inv i s → Ev (G i s) (R i s) := by
    intro d
    induction d with
    | zero => intro i s h hi; obtain rfl : i = n := by omega
              exact hend s hi
    | succ d ih => intro i s h hi; exact hstep i s (by omega) hi (fun s' hs' => ih (i + 1) s' (by omega) hs')
  intro i s h hi
  exact key (n - i) i s (by omega) hi

/-- The same without a state. -/
theorem Ev.up0 {ρ : Type} (n : Nat) (G : Nat → Nat → Option ρ) (R : Nat → ρ) (hend : Ev (G n) (R n)) (hstep : ∀ i, i < n → Ev (G (i + 1)) (R (i + 1)) → Ev (G i) (R i)) : ∀ i, i ≤ n → Ev (G i) (R i) := by
  intro i h
  exact Ev.up n (fun i (_ : Unit) => G i) (fun i _ => R i) (fun _ _ => True) (fun _ _ => hend) (fun i s hi _ hn => hstep i hi (hn () trivial)) i () h trivial

theorem Ev.det {α : Type} {g : Nat → Option α} {r q : α} (h : Ev g r) (h' : Ev g q) : r = q := by
  obtain ⟨K, h⟩ := h
  obtain ⟨K', h'⟩ := h'
  have a := h (max K K') (by omega)
  have b := h' (max K K') (by omega)
  rw [a] at b
  exact Option.some.inj b

theorem Ev.const {α : Type} {g : Nat → Option α} {r : α} (h : ∀ k, g k = some r) : Ev g r := ⟨0, fun k _ => h k⟩

theorem Ev.ifpos {α : Type} {c : Prop} [Decidable c] {g f : Nat → Option α} {r : α} (hc : c) (h : Ev g r) : Ev (fun k => if c then g k else f k) r := Ev.congr (fun k => by rw [if_pos hc]) h
theorem Ev.ifneg {α : Type} {c : Prop} [Decidable c] {g f : Nat → Option α} {r : α} (hc : ¬ c) (h : Ev f r) : Ev (fun k => if c then g k else f k) r := Ev.congr (fun k => by rw [if_neg hc]) h
theorem Ev.pure {α : Type} {a r : α} (h : a = r) : Ev (fun _ => some a) r := by subst h; exact Ev.now _

/-- A call that needs no rounds. -/
theorem Ev.bind0 {α β : Type} {g : Option α} {f : Nat → α → Option β} {a : α} {r : β} (h : g = some a) (k : Ev (fun n => f n a) r) : Ev (fun n => g.bind (f n)) r :=
  Ev.congr (fun n => by rw [h]; rfl) k

theorem wrap_in {n : Int} (h0 : -9223372036854775808 ≤ n) (h1 : n ≤ 9223372036854775807) : wrap64 n = n := by unfold wrap64; omega
theorem wrap_succ {i : Nat} (h : i < 9223372036854775807) : wrap64 ((i : Int) + 1) = ((i + 1 : Nat) : Int) := by unfold wrap64; omega

theorem rd_nat (xs : List Int) (i : Nat) : rd xs (i : Int) = xs.getD i 0 := by unfold rd; rw [Int.toNat_natCast]
theorem rd_get (xs : List Int) (i : Nat) (h : i < xs.length) : rd xs (i : Int) = xs[i] := by rw [rd_nat, List.getD_eq_getElem?_getD, List.getElem?_eq_getElem h]; rfl
theorem getD_get {α : Type} (xs : List α) (i : Nat) (z : α) (h : i < xs.length) : xs.getD (i : Int).toNat z = xs[i] := by rw [Int.toNat_natCast, List.getD_eq_getElem?_getD, List.getElem?_eq_getElem h]; rfl

theorem drop_get {α : Type} (xs : List α) (i : Nat) (h : i < xs.length) : xs.drop i = xs[i] :: xs.drop (i + 1) := List.drop_eq_getElem_cons h

theorem take_set_self {α : Type} (s : List α) (i : Nat) (a : α) : (s.set i a).take i = s.take i := by
  apply List.ext_getElem?
  intro j
  by_cases h : j < i
  · rw [List.getElem?_take, List.getElem?_take, if_pos h, if_pos h, List.getElem?_set_ne (by omega)]
  · rw [List.getElem?_take, List.getElem?_take, if_neg h, if_neg h]

/-- A loop that copies, element by element. -/
theorem copy_loop {α β : Type} (l : List α) (f : α → β) (G : Nat → List β → Nat → Option (List β)) (hend : ∀ s : List β, Ev (G l.length s) s)
    (hstep : ∀ i (hi : i < l.length) (s r : List β), s.length = l.length → Ev (G (i + 1) (s.set i (f l[i]))) r → Ev (G i s) r) (s : List β) (hs : s.length = l.length) : Ev (G 0 s) (l.map f) := by
  have key := Ev.up l.length G (fun i s => s.take i ++ (l.map f).drop i) (fun _ s => s.length = l.length)
    (fun s hs => by
      have e : s.take l.length ++ (l.map f).drop l.length = s := by rw [List.take_of_length_le (by omega), List.drop_of_length_le (by simp), List.append_nil]
      simp only [e]
      exact hend s)
    (fun i s hi hs ih => by
      have h1 := ih (s.set i (f l[i])) (by simpa using hs)
      have e : (s.set i (f l[i])).take (i + 1) ++ (l.map f).drop (i + 1) = s.take i ++ (l.map f).drop i := by
        rw [List.take_succ_eq_append_getElem (by simp; omega), List.drop_eq_getElem_cons (l := l.map f) (i := i) (by simpa using hi), take_set_self]
        simp
      simp only [e] at h1
      exact hstep i hi s _ hs h1) 0 s (Nat.zero_le _) hs
  simpa using key

/-- A loop that takes off what the elements weigh. -/
theorem sz_loop {α : Type} (l : List α) (sm : α → Prop) (G : Nat → Int → Nat → Option Int) (hend : ∀ s : Int, Ev (G l.length s) s)
    (hstep : ∀ i (hi : i < l.length) (s : Int), 0 ≤ s → s ≤ 1048576 → Ev (G i s) (-1) ∨ ∃ q : Int, 0 ≤ q ∧ q ≤ s ∧ sm l[i] ∧ ∀ r, Ev (G (i + 1) q) r → Ev (G i s) r) (s : Int) (h0 : 0 ≤ s) (h1 : s ≤ 1048576) :
    ∃ r : Int, Ev (G 0 s) r ∧ (0 ≤ r → r ≤ s ∧ ∀ x ∈ l, sm x) := by
  have key : ∀ d i (s : Int), i + d = l.length → 0 ≤ s → s ≤ 1048576 → ∃ r : Int, Ev (G i s) r ∧ (0 ≤ r → r ≤ s ∧ ∀ x ∈ l.drop i, sm x) := by
    intro d
    induction d with
    | zero =>
      intro i s hi h0 h1
      obtain rfl : i = l.length := by omega
      exact ⟨s, hend s, fun _ => ⟨Int.le_refl _, by simp⟩⟩
    | succ d ih =>
      intro i s hi h0 h1
      have hlt : i < l.length := by omega
      rcases hstep i hlt s h0 h1 with h | ⟨q, hq0, hq1, hsm, hnext⟩
      · exact ⟨-1, h, fun h => by omega⟩
      · obtain ⟨r, hr, hr2⟩ := ih (i + 1) q (by omega) hq0 (by omega)
        refine ⟨r, hnext r hr, fun h => ⟨by have := (hr2 h).1; omega, ?_⟩⟩
        rw [drop_get l i hlt]
        intro x hx
        rcases List.mem_cons.1 hx with rfl | hx
        · exact hsm
        · exact (hr2 h).2 x hx
  simpa using key l.length 0 s (by omega) h0 h1

/-- What a mark leaves: element i holds the numbers from m + c * i on. -/
def marked {α : Type} (c : Nat) (mk : Int → α) (m : Int) (n : Nat) : List α := (List.range n).map fun i => mk (m + ((c * i : Nat) : Int))
theorem marked_length {α : Type} (c : Nat) (mk : Int → α) (m : Int) (n : Nat) : (marked c mk m n).length = n := by simp [marked]
theorem marked_get {α : Type} (c : Nat) (mk : Int → α) (m : Int) (n i : Nat) (h : i < (marked c mk m n).length) : (marked c mk m n)[i] = mk (m + ((c * i : Nat) : Int)) := by simp [marked]
theorem marked_succ {α : Type} (c : Nat) (mk : Int → α) (m : Int) (n : Nat) : marked c mk m (n + 1) = mk m :: marked c mk (m + (c : Int)) n := by
  unfold marked
  rw [List.range_succ_eq_map, List.map_cons, List.map_map]
  congr 1
  · simp
  · apply List.map_congr_left
    intro i _
    show mk _ = mk _
    congr 1
    rw [Nat.mul_succ]
    omega

theorem mark_loop {α : Type} (c : Nat) (mk : Int → α) (n : Nat) (G : Nat → List α → Int → Nat → Option (Int × List α)) (hend : ∀ (s : List α) (m : Int), s.length = n → Ev (G n s m) (m, s))
    (hstep : ∀ i (s : List α) (m : Int) r, i < n → s.length = n → 0 ≤ m → m ≤ 4611686018427387904 → Ev (G (i + 1) (s.set i (mk m)) (m + (c : Int))) r → Ev (G i s m) r)
    (s : List α) (m : Int) (hs : s.length = n) (h0 : 0 ≤ m) (h1 : m + ((c * n : Nat) : Int) ≤ 4611686018427387904) : Ev (G 0 s m) (m + ((c * n : Nat) : Int), marked c mk m n) := by
  have key : ∀ d i (s : List α) (m : Int), i + d = n → s.length = n → 0 ≤ m → m + ((c * d : Nat) : Int) ≤ 4611686018427387904 → Ev (G i s m) (m + ((c * d : Nat) : Int), s.take i ++ marked c mk m d) := by
    intro d
    induction d with
    | zero =>
      intro i s m hi hs h0 h1
      obtain rfl : i = n := by omega
      have e : s.take i ++ marked c mk m 0 = s := by rw [List.take_of_length_le (by omega)]; simp [marked]
      rw [e]
      simpa using hend s m hs
    | succ d ih =>
      intro i s m hi hs h0 h1
      rw [Nat.mul_succ] at h1
      have h2 := ih (i + 1) (s.set i (mk m)) (m + (c : Int)) (by omega) (by simpa using hs) (by omega) (by omega)
      have e : (s.set i (mk m)).take (i + 1) ++ marked c mk (m + (c : Int)) d = s.take i ++ marked c mk m (d + 1) := by
        rw [List.take_succ_eq_append_getElem (by simp; omega), marked_succ, take_set_self]
        simp
      rw [e] at h2
      have e2 : m + (c : Int) + ((c * d : Nat) : Int) = m + ((c * (d + 1) : Nat) : Int) := by rw [Nat.mul_succ]; omega
      rw [e2] at h2
      exact hstep i s m _ (by omega) hs h0 (by omega) h2
  have := key n 0 s m (by omega) hs h0 h1
  simpa using this

theorem held_loop (c : Nat) (n : Nat) (m0 : Int) (G : Nat → Int → Nat → Option Int) (hend : ∀ m : Int, Ev (G n m) m)
    (hstep : ∀ i r, i < n → Ev (G (i + 1) (m0 + ((c * i : Nat) : Int) + (c : Int))) r → Ev (G i (m0 + ((c * i : Nat) : Int))) r) : Ev (G 0 m0) (m0 + ((c * n : Nat) : Int)) := by
  have key := Ev.up0 n (fun i => G i (m0 + ((c * i : Nat) : Int))) (fun _ => m0 + ((c * n : Nat) : Int)) (hend _)
    (fun i hi ih => hstep i _ hi (by
      have e : m0 + ((c * i : Nat) : Int) + (c : Int) = m0 + ((c * (i + 1) : Nat) : Int) := by rw [Nat.mul_succ]; omega
      rw [e]
      exact ih)) 0 (Nat.zero_le _)
  simpa using key

end Go.Proofs.Ytfmldgpebnnbbaa.Pure
/- Plain lemmas on the laws' own helpers: copies, comparisons, sizes, marks. No condition. -/
namespace Go.Proofs.Ytfmldgpebnnbbaa.Pure
open Go.RowKit Go.Proofs.Ytfmldgpebnnbbaa.Z Go.Proofs.YtfmldgpebnnbbaaW.PrintWords
set_option linter.unusedSimpArgs false
set_option linter.unusedVariables false
def smL {α : Type} (sm : α → Prop) (l : List α) : Prop := l.length ≤ 1048576 ∧ ∀ x ∈ l, sm x
def okLen {α : Type} (l : List α) : Prop := l.length ≤ maxLen
theorem mark_IntS (l : List Int) (m : Int) (h0 : 0 ≤ m) (h1 : m + ((1 * l.length : Nat) : Int) ≤ 4611686018427387904) : Ev (fun k => laws_markIntS.f k l m) (m + ((1 * l.length : Nat) : Int), marked 1 (fun m => m) m l.length) := by
  unfold laws_markIntS.f
  refine mark_loop 1 (fun m => m) l.length (fun i s m k => laws_markIntS.l0 k s m (i : Int)) ?_ ?_ l m rfl h0 h1
  · intro s m hs
    refine Ev.step (fun k => by rw [laws_markIntS.l0]) ?_
    exact Ev.ifneg (by omega) (Ev.now _)
  · intro i s m r hi hs h0 h1 hr
    refine Ev.step (fun k => by rw [laws_markIntS.l0]) ?_
    refine Ev.ifpos (by omega) (Ev.ifpos (by omega) ?_)
    rw [wrap_succ (by omega), wrap_in (by omega) (by omega), Int.toNat_natCast]
    exact hr
theorem eq_IntS (l : List Int) (h : l.length ≤ maxLen) : Ev (fun k => laws_eqIntS.f k l l) true := by
  unfold maxLen at h
  unfold laws_eqIntS.f
  refine Ev.ifpos rfl ?_
  exact Ev.up0 l.length (fun i k => laws_eqIntS.l0 k l l (i : Int)) (fun _ => true)
    (Ev.step (fun k => by rw [laws_eqIntS.l0]) (Ev.ifneg (by omega) (Ev.now _)))
    (fun i hi ih => by
      refine Ev.step (fun k => by rw [laws_eqIntS.l0]) ?_
      refine Ev.ifpos (by omega) (Ev.ifpos (by omega) (Ev.ifpos (by omega) ?_))
      refine Ev.ifpos rfl ?_
      rw [wrap_succ (by omega)]
      exact ih) 0 (Nat.zero_le _)
theorem held_IntS (n : Nat) (m : Int) (h0 : 0 ≤ m) (h1 : m + ((1 * n : Nat) : Int) ≤ 4611686018427387904) : Ev (fun k => laws_heldIntS.f k (marked 1 (fun m => m) m n) m) (m + ((1 * n : Nat) : Int)) := by
  unfold laws_heldIntS.f
  have hn := marked_length 1 (fun m => m) m n
  refine held_loop 1 n m (fun i q k => laws_heldIntS.l0 k (marked 1 (fun m => m) m n) q (i : Int)) ?_ ?_
  · intro q
    refine Ev.step (fun k => by rw [laws_heldIntS.l0]) ?_
    exact Ev.ifneg (by omega) (Ev.now _)
  · intro i r hi hr
    refine Ev.step (fun k => by rw [laws_heldIntS.l0]) ?_
    have hle : ((1 * i : Nat) : Int) + 1 ≤ ((1 * n : Nat) : Int) := by omega
    refine Ev.ifpos (by omega) (Ev.ifpos (by omega) ?_)
    rw [rd_get _ i (by omega), marked_get]
    have w0 : wrap64 (m + ((1 * i : Nat) : Int) + 1) = m + ((1 * i : Nat) : Int) + 1 := wrap_in (by omega) (by omega)
    simp only [w0]
    refine Ev.ifpos (by first | trivial | rfl) ?_
    rw [wrap_succ (by omega)]
    exact hr
theorem sz_IntS (l : List Int) (hl : l.length ≤ maxLen) (s : Int) (h0 : 0 ≤ s) (h1 : s ≤ 1048576) : ∃ r : Int, laws_szIntS.f l s = some r ∧ (0 ≤ r → r ≤ s ∧ (smL (fun _ => True)) l) := by
  unfold maxLen at hl
  unfold laws_szIntS.f
  rw [wrap_in (by omega) (by omega)]
  by_cases h : s - (l.length : Int) < 0
  · exact ⟨-1, by rw [if_pos h], fun h => by omega⟩
  · exact ⟨s - (l.length : Int), by rw [if_neg h], fun _ => ⟨by omega, by omega, fun _ _ => trivial⟩⟩
def smS104 (x : S104) : Prop := (fun _ => True) x.f0 ∧ (fun _ => True) x.f1 ∧ (smL (fun _ => True)) x.f2
theorem sz_Probe (x : S104) (hx : (fun x : S104 => okLen x.f2) x) (s : Int) (h0 : 0 ≤ s) (h1 : s ≤ 1048576) : ∃ r : Int, laws_szProbe.f x.f0 x.f1 x.f2 s = some r ∧ (0 ≤ r → r ≤ s ∧ smS104 x) := by
  obtain ⟨q, hq, hq2⟩ := sz_IntS x.f2 hx s h0 h1
  unfold laws_szProbe.f
  rw [hq]
  simp only [Option.bind_some]
  by_cases hneg : q < 0
  · exact ⟨-1, by rw [if_pos hneg], fun h => by omega⟩
  · exact ⟨q, by rw [if_neg hneg], fun h => ⟨(hq2 h).1, have hs := (hq2 h).2; ⟨trivial, trivial, hs⟩⟩⟩
theorem rd_T104_get (xs : List S104) (i : Nat) (h : i < xs.length) : rd_T104 xs (i : Int) = xs[i] := getD_get xs i _ h
theorem sz_ProbeS (l : List S104) (hl : l.length ≤ maxLen) (hx : ∀ x ∈ l, (fun x : S104 => okLen x.f2) x) (s : Int) (h0 : 0 ≤ s) (h1 : s ≤ 1048576) : ∃ r : Int, Ev (fun k => laws_szProbeS.f k l s) r ∧ (0 ≤ r → r ≤ s ∧ (smL smS104) l) := by
  unfold maxLen at hl
  unfold laws_szProbeS.f
  rw [wrap_in (by omega) (by omega)]
  by_cases h : s - (l.length : Int) < 0
  · exact ⟨-1, Ev.ifpos h (Ev.now _), fun h => by omega⟩
  · have key := sz_loop l smS104 (fun i s k => laws_szProbeS.l0 k l s (i : Int)) ?_ ?_ (s - (l.length : Int)) (by omega) (by omega)
    · obtain ⟨r, hr, hr2⟩ := key
      exact ⟨r, Ev.ifneg h hr, fun h => ⟨by have := (hr2 h).1; omega, by omega, (hr2 h).2⟩⟩
    · intro s
      refine Ev.step (fun k => by rw [laws_szProbeS.l0]) ?_
      exact Ev.ifneg (by omega) (Ev.now _)
    · intro i hi s h0 h1
      obtain ⟨q, hq, hq2⟩ := sz_Probe l[i] (hx _ (List.getElem_mem hi)) s h0 h1
      by_cases hneg : q < 0
      · refine .inl (Ev.step (fun k => by rw [laws_szProbeS.l0]) ?_)
        refine Ev.ifpos (by omega) (Ev.ifpos (by omega) ?_)
        rw [rd_T104_get l i hi]
        exact Ev.bind0 hq (Ev.ifpos hneg (Ev.now _))
      · refine .inr ⟨q, by omega, (hq2 (by omega)).1, (hq2 (by omega)).2, fun r hr => ?_⟩
        refine Ev.step (fun k => by rw [laws_szProbeS.l0]) ?_
        refine Ev.ifpos (by omega) (Ev.ifpos (by omega) ?_)
        rw [rd_T104_get l i hi]
        refine Ev.bind0 hq (Ev.ifneg hneg ?_)
        rw [wrap_succ (by omega)]
        exact hr
theorem to_IntS (l : List Int) (h : (smL (fun _ => True)) l) : Ev (fun k => laws_toIntS.f k l) (l) := by
  unfold laws_toIntS.f
  have hl := h.1
  refine Ev.ifpos (by omega) (Ev.ifpos (by omega) ?_)
  rw [Int.toNat_natCast]
  have key := copy_loop l id (fun i s k => laws_toIntS.l0 k l s (i : Int)) ?_ ?_ (List.replicate l.length 0) (by simp)
  · rw [List.map_id] at key; exact key
  · intro s
    refine Ev.step (fun k => by rw [laws_toIntS.l0]) ?_
    exact Ev.ifneg (by omega) (Ev.now _)
  · intro i hi s r hs hr
    refine Ev.step (fun k => by rw [laws_toIntS.l0]) ?_
    refine Ev.ifpos (by omega) (Ev.ifpos (by omega) ?_)
    refine Ev.ifpos (by omega) ?_
    rw [rd_get l i hi, wrap_succ (by omega), Int.toNat_natCast]
    exact hr
def c104_105 (x : S104) : S105 := ⟨x.f0, x.f1, x.f2⟩
theorem to_Probe (x : S104) (h : smS104 x) : Ev (fun k => laws_toProbe.f k x.f0 x.f1 x.f2) ((c104_105 x).f0, (c104_105 x).f1, (c104_105 x).f2) := by
  unfold laws_toProbe.f
  exact Ev.bind (to_IntS x.f2 h.2.2) (Ev.now _)
theorem to_ProbeS (l : List S104) (h : (smL smS104) l) : Ev (fun k => laws_toProbeS.f k l) (l.map c104_105) := by
  unfold laws_toProbeS.f
  have hl := h.1
  refine Ev.ifpos (by omega) (Ev.ifpos (by omega) ?_)
  rw [Int.toNat_natCast]
  have key := copy_loop l c104_105 (fun i s k => laws_toProbeS.l0 k l s (i : Int)) ?_ ?_ (List.replicate l.length z105) (by simp)
  · exact key
  · intro s
    refine Ev.step (fun k => by rw [laws_toProbeS.l0]) ?_
    exact Ev.ifneg (by omega) (Ev.now _)
  · intro i hi s r hs hr
    refine Ev.step (fun k => by rw [laws_toProbeS.l0]) ?_
    refine Ev.ifpos (by omega) (Ev.ifpos (by omega) ?_)
    rw [rd_T104_get l i hi]
    refine Ev.bind (to_Probe l[i] (h.2 _ (List.getElem_mem hi))) ?_
    refine Ev.ifpos (by omega) ?_
    rw [wrap_succ (by omega), Int.toNat_natCast]
    exact hr
def smS105 (x : S105) : Prop := (fun _ => True) x.f0 ∧ (fun _ => True) x.f1 ∧ (smL (fun _ => True)) x.f2
theorem eq_Probe (x : S105) (h : smS105 x) : Ev (fun k => laws_eqProbe.f k x.f0 x.f1 x.f2 x.f0 x.f1 x.f2) true := by
  unfold laws_eqProbe.f
  refine Ev.ifpos rfl ?_
  refine Ev.ifpos rfl ?_
  refine Ev.bind (eq_IntS x.f2 (Nat.le_trans (h.2.2).1 (by decide))) (Ev.ifpos rfl ?_)
  exact Ev.now _
theorem rd_T105_get (xs : List S105) (i : Nat) (h : i < xs.length) : rd_T105 xs (i : Int) = xs[i] := getD_get xs i _ h
theorem eq_ProbeS (l : List S105) (h : (smL smS105) l) : Ev (fun k => laws_eqProbeS.f k l l) true := by
  have hl := h.1
  unfold laws_eqProbeS.f
  refine Ev.ifpos rfl ?_
  exact Ev.up0 l.length (fun i k => laws_eqProbeS.l0 k l l (i : Int)) (fun _ => true)
    (Ev.step (fun k => by rw [laws_eqProbeS.l0]) (Ev.ifneg (by omega) (Ev.now _)))
    (fun i hi ih => by
      refine Ev.step (fun k => by rw [laws_eqProbeS.l0]) ?_
      refine Ev.ifpos (by omega) (Ev.ifpos (by omega) (Ev.ifpos (by omega) ?_))
      rw [rd_T105_get l i hi]
      refine Ev.bind (eq_Probe l[i] (h.2 _ (List.getElem_mem hi))) (Ev.ifpos rfl ?_)
      rw [wrap_succ (by omega)]
      exact ih) 0 (Nat.zero_le _)
end Go.Proofs.Ytfmldgpebnnbbaa.Pure
/- Plain laws of the ordered list without repeats ('sortedF'): it rises strictly, it has the members of the list, it is the only such list; it is as long as the list if and only if the list has no repeats. No condition. -/
namespace Go.Proofs.Ytfmldgpebnnbbaa.Pure
open Go.RowKit Go.Proofs.Ytfmldgpebnnbbaa.Z Go.Proofs.YtfmldgpebnnbbaaW.PrintWords

theorem ms_perm (l : List Int) : (l.mergeSort fun x y => decide (x ≤ y)).Perm l := List.mergeSort_perm l _
theorem ms_pair (l : List Int) : (l.mergeSort fun x y => decide (x ≤ y)).Pairwise (fun x y => x ≤ y) := by
  have h := List.pairwise_mergeSort (le := fun x y : Int => decide (x ≤ y)) (fun a b c h1 h2 => by simp only [decide_eq_true_eq] at *; omega) (fun a b => by simp only [Bool.or_eq_true, decide_eq_true_eq]; omega) l
  exact h.imp (fun h => by simpa using h)

theorem getB (zs : List Int) (j : Nat) (h : j < zs.length) : zs.toArray[j]! = zs[j] := by simp [h]
theorem getB' (zs : List Int) (j : Nat) : zs.toArray[j]! = zs.getD j 0 := by
  by_cases h : j < zs.length
  · rw [getB zs j h, List.getD_eq_getElem?_getD, List.getElem?_eq_getElem h]; rfl
  · simp [h]

theorem keep_iff (zs : List Int) (j : Nat) : Lib.keeps zs.toArray j = true ↔ j = 0 ∨ zs.getD j 0 ≠ zs.getD (j - 1) 0 := by
  unfold Lib.keeps
  rw [decide_eq_true_iff, getB', getB']

theorem compact_eq (zs : List Int) : Lib.compact zs = ((List.range zs.length).filter fun j => Lib.keeps zs.toArray j).map (fun j => zs.getD j 0) := by
  unfold Lib.compact Lib.compactUpTo
  apply List.map_congr_left
  intro j _
  exact getB' zs j

theorem compact_mem (zs : List Int) (x : Int) : x ∈ Lib.compact zs ↔ x ∈ zs := by
  rw [compact_eq]
  simp only [List.mem_map, List.mem_filter, List.mem_range]
  constructor
  · rintro ⟨j, ⟨hj, _⟩, rfl⟩
    rw [List.getD_eq_getElem?_getD, List.getElem?_eq_getElem hj]
    exact List.getElem_mem hj
  · intro hx
    obtain ⟨j, hj, e⟩ := List.getElem_of_mem hx
    have key : ∀ j, j < zs.length → zs.getD j 0 = x → ∃ a, (a < zs.length ∧ Lib.keeps zs.toArray a = true) ∧ zs.getD a 0 = x := by
      intro j
      induction j with
      | zero => intro h e; exact ⟨0, ⟨h, (keep_iff zs 0).2 (Or.inl rfl)⟩, e⟩
      | succ j ih =>
        intro h e
        by_cases h2 : zs.getD (j + 1) 0 = zs.getD j 0
        · exact ih (by omega) (by rw [← h2]; exact e)
        · exact ⟨j + 1, ⟨h, (keep_iff zs _).2 (Or.inr h2)⟩, e⟩
    exact key j hj (by rw [List.getD_eq_getElem?_getD, List.getElem?_eq_getElem hj]; exact e)

theorem pair_get {zs : List Int} (h : zs.Pairwise (fun x y => x ≤ y)) {i j : Nat} (hij : i ≤ j) (hj : j < zs.length) : zs.getD i 0 ≤ zs.getD j 0 := by
  rw [List.getD_eq_getElem?_getD, List.getElem?_eq_getElem (by omega), List.getD_eq_getElem?_getD, List.getElem?_eq_getElem hj]
  rcases Nat.lt_or_ge i j with h1 | h1
  · exact (List.pairwise_iff_getElem.1 h) i j (by omega) hj h1
  · obtain rfl : i = j := by omega
    exact Int.le_refl _

theorem compact_rise {zs : List Int} (h : zs.Pairwise (fun x y => x ≤ y)) : (Lib.compact zs).Pairwise (fun x y => x < y) := by
  rw [compact_eq, List.pairwise_map]
  have h2 : ((List.range zs.length).filter fun j => Lib.keeps zs.toArray j).Pairwise (fun a b => a < b) := List.Pairwise.filter _ List.pairwise_lt_range
  refine h2.imp_of_mem (fun {a b} ha hb hab => ?_)
  simp only [List.mem_filter, List.mem_range] at ha hb
  rcases (keep_iff zs b).1 hb.2 with h0 | h0
  · omega
  · have h1 := pair_get h (i := a) (j := b - 1) (by omega) (by omega)
    have h3 := pair_get h (i := b - 1) (j := b) (by omega) hb.1
    omega

theorem sorted_rise (l : List Int) : (sortedF l).Pairwise (fun x y => x < y) := compact_rise (ms_pair l)
theorem sorted_mem (l : List Int) (x : Int) : x ∈ sortedF l ↔ x ∈ l := (compact_mem _ x).trans (ms_perm l).mem_iff

/-- Two lists that rise strictly and have the same members are one. -/
theorem rise_ext : ∀ {l m : List Int}, l.Pairwise (fun x y => x < y) → m.Pairwise (fun x y => x < y) → (∀ x, x ∈ l ↔ x ∈ m) → l = m
  | [], [], _, _, _ => rfl
  | [], b :: m, _, _, h => absurd ((h b).2 (List.mem_cons_self ..)) (by simp)
  | a :: l, [], _, _, h => absurd ((h a).1 (List.mem_cons_self ..)) (by simp)
  | a :: l, b :: m, hl, hm, h => by
    rw [List.pairwise_cons] at hl hm
    have e : a = b := by
      have h1 := (h a).1 (List.mem_cons_self ..)
      have h2 := (h b).2 (List.mem_cons_self ..)
      rcases List.mem_cons.1 h1 with h1 | h1
      · exact h1
      · rcases List.mem_cons.1 h2 with h2 | h2
        · exact h2.symm
        · have := hm.1 a h1
          have := hl.1 b h2
          omega
    subst e
    rw [rise_ext hl.2 hm.2 (fun x => ?_)]
    constructor
    · intro hx
      rcases List.mem_cons.1 ((h x).1 (List.mem_cons_of_mem _ hx)) with h1 | h1
      · subst h1
        exact absurd (hl.1 _ hx) (by omega)
      · exact h1
    · intro hx
      rcases List.mem_cons.1 ((h x).2 (List.mem_cons_of_mem _ hx)) with h1 | h1
      · subst h1
        exact absurd (hm.1 _ hx) (by omega)
      · exact h1

theorem sorted_eq {l m : List Int} (hm : m.Pairwise (fun x y => x < y)) (h : ∀ x, x ∈ m ↔ x ∈ l) : sortedF l = m := rise_ext (sorted_rise l) hm (fun x => (sorted_mem l x).trans (h x).symm)

theorem sorted_len_le (l : List Int) : (sortedF l).length ≤ l.length := by
  have h := Lib.compact_length_le (l.mergeSort fun x y => decide (x ≤ y))
  rw [(ms_perm l).length_eq] at h
  exact h

theorem sorted_len (l : List Int) : (sortedF l).length = l.length ↔ l.Nodup := by
  have hlen : (l.mergeSort fun x y => decide (x ≤ y)).length = l.length := (ms_perm l).length_eq
  rw [← (ms_perm l).nodup_iff]
  constructor
  · intro h
    unfold sortedF at h
    have hall : ∀ j, j < (l.mergeSort fun x y => decide (x ≤ y)).length → Lib.keeps (l.mergeSort fun x y => decide (x ≤ y)).toArray j = true := by
      rw [compact_eq, List.length_map, ← hlen] at h
      have h2 := List.length_filter_eq_length_iff.1 (h.trans List.length_range.symm)
      intro j hj
      exact h2 j (List.mem_range.2 hj)
    have e := Lib.compact_all _ hall
    rw [← e]
    exact (compact_rise (ms_pair l)).imp (fun h => by omega)
  · intro h
    have hs := ms_pair l
    unfold sortedF
    rw [Lib.compact_all, hlen]
    intro j hj
    rw [keep_iff]
    rcases Nat.eq_zero_or_pos j with h0 | h0
    · exact Or.inl h0
    · refine Or.inr ?_
      rw [List.getD_eq_getElem?_getD, List.getElem?_eq_getElem hj, List.getD_eq_getElem?_getD, List.getElem?_eq_getElem (by omega)]
      exact fun e => (List.pairwise_iff_getElem.1 h) (j - 1) j (by omega) hj (by omega) e.symm

end Go.Proofs.Ytfmldgpebnnbbaa.Pure
/- Plain laws: a number put into a rising list at its place; many put in one after another are the ordered list without repeats. No condition. -/
namespace Go.Proofs.Ytfmldgpebnnbbaa.Pure
open Go.RowKit Go.Proofs.Ytfmldgpebnnbbaa.Z Go.Proofs.YtfmldgpebnnbbaaW.PrintWords

/-- The first place whose number is not below x. -/
def posOf (x : Int) : List Int → Nat
  | [] => 0
  | y :: ys => if y < x then posOf x ys + 1 else 0
theorem posOf_le (x : Int) : ∀ l : List Int, posOf x l ≤ l.length
  | [] => Nat.le_refl _
  | y :: ys => by
    have := posOf_le x ys
    rw [posOf, List.length_cons]
    split <;> omega
theorem posOf_lt (x : Int) : ∀ (l : List Int) (p : Nat) (hp : p < l.length), p < posOf x l → l[p] < x
  | [], p, hp, _ => absurd hp (by simp)
  | y :: ys, p, hp, h => by
    rw [posOf] at h
    by_cases c : y < x
    · rw [if_pos c] at h
      match p, hp, h with
      | 0, _, _ => exact c
      | p + 1, hp, h => exact posOf_lt x ys p (by simpa using hp) (by omega)
    · rw [if_neg c] at h; omega
theorem posOf_at (x : Int) : ∀ (l : List Int) (h : posOf x l < l.length), ¬ l[posOf x l] < x
  | [], h => absurd h (by simp)
  | y :: ys, h => by
    by_cases c : y < x
    · have e : posOf x (y :: ys) = posOf x ys + 1 := by rw [posOf, if_pos c]
      simp only [e, List.getElem_cons_succ]
      exact posOf_at x ys (by rw [e] at h; simpa using h)
    · have e : posOf x (y :: ys) = 0 := by rw [posOf, if_neg c]
      simp only [e, List.getElem_cons_zero]
      exact c

/-- x put in at its place, if it is not there. -/
def ins (x : Int) (l : List Int) : List Int := if posOf x l < l.length ∧ l.getD (posOf x l) 0 = x then l else l.take (posOf x l) ++ ([x] ++ l.drop (posOf x l))
def insAll (out : List Int) (l : List Int) : List Int := l.foldl (fun o x => ins x o) out

theorem ins_length (x : Int) (l : List Int) : (ins x l).length ≤ l.length + 1 := by
  unfold ins
  split
  · omega
  · simp; omega

theorem ins_mem (x : Int) (l : List Int) (y : Int) : y ∈ ins x l ↔ y = x ∨ y ∈ l := by
  unfold ins
  split
  · rename_i h
    constructor
    · exact .inr
    · rintro (rfl | h2)
      · have : l.getD (posOf y l) 0 ∈ l := by
          rw [List.getD_eq_getElem?_getD, List.getElem?_eq_getElem h.1]
          exact List.getElem_mem _
        rwa [h.2] at this
      · exact h2
  · have e : y ∈ l ↔ y ∈ l.take (posOf x l) ∨ y ∈ l.drop (posOf x l) := by
      rw [← List.mem_append, List.take_append_drop]
    rw [e]
    simp only [List.mem_append, List.mem_singleton]
    constructor
    · rintro (h | h | h)
      · exact .inr (.inl h)
      · exact .inl h
      · exact .inr (.inr h)
    · rintro (h | h | h)
      · exact .inr (.inl h)
      · exact .inl h
      · exact .inr (.inr h)

theorem ins_rise (x : Int) (l : List Int) (h : l.Pairwise (fun x y => x < y)) : (ins x l).Pairwise (fun x y => x < y) := by
  unfold ins
  split
  · exact h
  · rename_i hc
    have h2 := h
    rw [← List.take_append_drop (posOf x l) l, List.pairwise_append] at h2
    obtain ⟨h3, h4, h5⟩ := h2
    have hlow : ∀ a ∈ l.take (posOf x l), a < x := by
      intro a ha
      obtain ⟨i, hi, rfl⟩ := List.getElem_of_mem ha
      rw [List.length_take] at hi
      rw [List.getElem_take]
      exact posOf_lt x l i (by omega) (by omega)
    have hhigh : ∀ b ∈ l.drop (posOf x l), x < b := by
      intro b hb
      by_cases hl : posOf x l < l.length
      · have h6 : ¬ l[posOf x l] < x := posOf_at x l hl
        have h7 : l[posOf x l] ≠ x := fun e => hc ⟨hl, by rw [List.getD_eq_getElem?_getD, List.getElem?_eq_getElem hl]; exact e⟩
        rw [drop_get l _ hl] at hb h4
        rw [List.pairwise_cons] at h4
        rcases List.mem_cons.1 hb with rfl | hb
        · omega
        · have := h4.1 b hb
          omega
      · rw [List.drop_of_length_le (by omega)] at hb
        exact absurd hb (by simp)
    rw [List.pairwise_append, List.singleton_append, List.pairwise_cons]
    refine ⟨h3, ⟨fun b hb => hhigh b hb, h4⟩, fun a ha b hb => ?_⟩
    rcases List.mem_cons.1 hb with rfl | hb
    · exact hlow a ha
    · exact h5 a ha b hb

theorem insAll_spec : ∀ (l out : List Int), out.Pairwise (fun x y => x < y) → (insAll out l).Pairwise (fun x y => x < y) ∧ ∀ y, y ∈ insAll out l ↔ y ∈ out ∨ y ∈ l
  | [], out, h => ⟨h, fun y => by simp [insAll]⟩
  | x :: l, out, h => by
    obtain ⟨h1, h2⟩ := insAll_spec l (ins x out) (ins_rise x out h)
    refine ⟨h1, fun y => ?_⟩
    show y ∈ insAll (ins x out) l ↔ _
    rw [h2 y, ins_mem, List.mem_cons]
    constructor
    · rintro ((h | h) | h)
      · exact .inr (.inl h)
      · exact .inl h
      · exact .inr (.inr h)
    · rintro (h | h | h)
      · exact .inl (.inr h)
      · exact .inl (.inl h)
      · exact .inr h

theorem insAll_sorted (l : List Int) : insAll [] l = sortedF l := by
  obtain ⟨h1, h2⟩ := insAll_spec l [] List.Pairwise.nil
  exact (sorted_eq h1 (fun x => by rw [h2 x]; simp)).symm

theorem insAll_append (out a b : List Int) : insAll out (a ++ b) = insAll (insAll out a) b := by unfold insAll; rw [List.foldl_append]

/-- A loop that looks for the place. -/
theorem pos_loop {β : Type} (x : Int) (out : List Int) (G : Nat → Nat → Option β) (r : β) (hend : Ev (G (posOf x out)) r) (hskip : ∀ p (hp : p < out.length), out[p] < x → Ev (G (p + 1)) r → Ev (G p) r) : Ev (G 0) r :=
  Ev.up0 (posOf x out) G (fun _ => r) hend (fun p hp ih => hskip p (by have := posOf_le x out; omega) (posOf_lt x out p (by have := posOf_le x out; omega) hp) ih) 0 (Nat.zero_le _)

end Go.Proofs.Ytfmldgpebnnbbaa.Pure
/- Plain lemma: the links that probes cross, as the reference and the program list them. Condition: there are no more than the law's lists can hold. -/
namespace Go.Proofs.Ytfmldgpebnnbbaa.Pure
open Go.RowKit Go.Proofs.Ytfmldgpebnnbbaa.Z Go.Proofs.YtfmldgpebnnbbaaW.PrintWords

abbrev Pb := S105
def links : List Pb → List Int
  | [] => []
  | p :: l => p.f2 ++ links l

theorem rdPb (l : List Pb) (i : Nat) (h : i < l.length) : rd_T105 l (i : Int) = l[i] := getD_get l i _ h

theorem links_length_le (n : Nat) : ∀ l : List Pb, (∀ p ∈ l, p.f2.length ≤ n) → (links l).length ≤ n * l.length
  | [], _ => Nat.zero_le _
  | p :: l, h => by
    have := links_length_le n l (fun q hq => h q (List.mem_cons_of_mem _ hq))
    have := h p (List.mem_cons_self ..)
    rw [links, List.length_append, List.length_cons, Nat.mul_succ]
    omega

section
variable {xs : List Pb} (hx : xs.length ≤ 1048576) (hT : (links xs).length ≤ 1099511627776)
include hx hT

theorem spec_links_from : ∀ (i : Nat) (out : List Int), i ≤ xs.length → out.length + (links (xs.drop i)).length ≤ 1099511627776 → Ev (fun k => spec_SeenLinks.l0 k xs out (i : Int)) (insAll out (links (xs.drop i))) := by
  refine Ev.up xs.length (fun i (out : List Int) k => spec_SeenLinks.l0 k xs out (i : Int)) (fun i out => insAll out (links (xs.drop i))) (fun i out => out.length + (links (xs.drop i)).length ≤ 1099511627776) ?_ ?_
  · intro out _
    rw [List.drop_of_length_le (Nat.le_refl _)]
    refine Ev.step (fun k => by rw [spec_SeenLinks.l0]) ?_
    exact Ev.ifneg (by omega) (Ev.now _)
  · intro i out hi ho ih
    rw [drop_get xs i hi, links] at ho ⊢
    refine Ev.step (fun k => by rw [spec_SeenLinks.l0]) ?_
    refine Ev.ifpos (by omega) ?_
    have key := Ev.up xs[i].f2.length (fun c (out : List Int) k => spec_SeenLinks.l1 k xs out (i : Int) (c : Int)) (fun c out => insAll out (xs[i].f2.drop c ++ links (xs.drop (i + 1)))) (fun c out => out.length + (xs[i].f2.drop c).length + (links (xs.drop (i + 1))).length ≤ 1099511627776) ?_ ?_ 0 out (Nat.zero_le _) (by rw [List.drop_zero]; rw [List.length_append] at ho; omega)
    · rw [List.drop_zero] at key
      exact key
    · intro out ho
      rw [List.drop_of_length_le (Nat.le_refl _)] at ho ⊢
      refine Ev.step (fun k => by rw [spec_SeenLinks.l1]) ?_
      rw [rdPb xs i hi, wrap_succ (by omega)]
      exact Ev.ifpos (by omega) (Ev.ifpos (by omega) (Ev.ifneg (by omega) (ih out (by simpa using ho))))
    · intro c out hc ho ih2
      rw [drop_get _ c hc] at ho ⊢
      show Ev _ (insAll (ins xs[i].f2[c] out) (xs[i].f2.drop (c + 1) ++ links (xs.drop (i + 1))))
      rw [List.length_cons] at ho
      have hnext := ih2 (ins xs[i].f2[c] out) (by have := ins_length xs[i].f2[c] out; omega)
      refine Ev.step (fun k => by rw [spec_SeenLinks.l1]) ?_
      rw [rdPb xs i hi, rd_get _ c hc]
      refine Ev.ifpos (by omega) (Ev.ifpos (by omega) (Ev.ifpos (by omega) (Ev.ifpos (by omega) ?_)))
      have hcl : c + 1 ≤ 1099511627776 + out.length := by
        have h1 : xs[i].f2.length ≤ (links xs).length := by
          have h2 : ∀ (l : List Pb) (p : Pb), p ∈ l → p.f2.length ≤ (links l).length := by
            intro l
            induction l with
            | nil => intro p hp; cases hp
            | cons q l ih =>
              intro p hp
              rw [links, List.length_append]
              rcases List.mem_cons.1 hp with rfl | hp
              · omega
              · have := ih p hp; omega
          exact h2 xs _ (List.getElem_mem hi)
        omega
      have hcc : c + 1 ≤ 4611686018427387904 := by omega
      generalize xs[i].f2[c] = x at hnext ⊢
      generalize insAll (ins x out) (xs[i].f2.drop (c + 1) ++ links (xs.drop (i + 1))) = r at hnext ⊢
      refine pos_loop x out (fun p k => spec_SeenLinks.l2 k xs out (i : Int) (c : Int) x (p : Int)) r ?_ ?_
      · have hle := posOf_le x out
        refine Ev.step (fun k => by rw [spec_SeenLinks.l2]) ?_
        rw [wrap_succ (i := c) (by omega)]
        by_cases hl : posOf x out < out.length
        · have hat := posOf_at x out hl
          refine Ev.ifpos (by omega) (Ev.ifpos (by omega) ?_)
          rw [rd_get out _ hl]
          refine Ev.ifneg hat (Ev.ifneg (by omega) ?_)
          by_cases he : out[posOf x out] = x
          · refine Ev.ifpos he ?_
            have e : ins x out = out := by unfold ins; rw [if_pos ⟨hl, by rw [List.getD_eq_getElem?_getD, List.getElem?_eq_getElem hl]; exact he⟩]
            rw [e] at hnext
            exact hnext
          · refine Ev.ifneg he ?_
            have e : ins x out = ([] ++ out.take (posOf x out) ++ [x]) ++ out.drop (posOf x out) := by
              unfold ins
              rw [if_neg (fun h => he (by have := h.2; rw [List.getD_eq_getElem?_getD, List.getElem?_eq_getElem hl] at this; exact this))]
              simp
            rw [e] at hnext
            refine Ev.bind0 rfl (Ev.ifpos (by omega) (Ev.bind0 rfl (Ev.ifpos (by simp; omega) (Ev.bind0 rfl (Ev.bind0 rfl (Ev.ifpos (by simp; omega) (Ev.bind0 rfl (Ev.bind0 rfl (Ev.ifpos (by simp; omega) ?_)))))))))
            rw [Int.toNat_natCast]
            exact hnext
        · have hp : posOf x out = out.length := by omega
          have e : ins x out = ([] ++ out.take (posOf x out) ++ [x]) ++ out.drop (posOf x out) := by
            unfold ins
            rw [if_neg (fun h => hl h.1)]
            simp
          rw [e] at hnext
          refine Ev.ifneg (by omega) (Ev.ifpos (by omega) ?_)
          refine Ev.bind0 rfl (Ev.ifpos (by omega) (Ev.ifpos (by omega) (Ev.bind0 rfl (Ev.ifpos (by simp; omega) (Ev.bind0 rfl (Ev.bind0 rfl (Ev.ifpos (by simp; omega) (Ev.bind0 rfl (Ev.bind0 rfl (Ev.ifpos (by simp; omega) ?_))))))))))
          rw [Int.toNat_natCast]
          exact hnext
      · intro p hp hlt hr
        refine Ev.step (fun k => by rw [spec_SeenLinks.l2]) ?_
        refine Ev.ifpos (by omega) (Ev.ifpos (by omega) ?_)
        rw [rd_get out p hp, wrap_succ (i := p) (by omega)]
        exact Ev.ifpos hlt hr

theorem spec_seenLinks : Ev (fun k => spec_SeenLinks.f k xs) (sortedF (links xs)) := by
  have h := spec_links_from hx hT 0 [] (Nat.zero_le _) (by rw [List.drop_zero]; simpa using hT)
  rw [List.drop_zero, insAll_sorted] at h
  unfold spec_SeenLinks.f
  exact h

theorem impl_seenLinks : Ev (fun k => impl_SeenLinks.f k xs) (sortedF (links xs)) := by
  unfold impl_SeenLinks.f
  have key := Ev.up xs.length (fun i (out : List Int) k => impl_SeenLinks.l0 k out xs (xs.length : Int) (i : Int)) (fun i out => sortedF (out ++ links (xs.drop i))) (fun i out => out.length + (links (xs.drop i)).length ≤ 1099511627776) ?_ ?_ 0 [] (Nat.zero_le _) (by rw [List.drop_zero]; simpa using hT)
  · rw [List.drop_zero, List.nil_append] at key
    exact key
  · intro out ho
    rw [List.drop_of_length_le (Nat.le_refl _)] at ho ⊢
    refine Ev.step (fun k => by rw [impl_SeenLinks.l0]) ?_
    refine Ev.ifneg (by omega) (Ev.bind0 (a := sortedF out) ?_ ?_)
    · unfold impl_sorted.f
      rw [if_pos (by omega)]
    · exact Ev.pure (by rw [links, List.append_nil])
  · intro i out hi ho ih
    rw [drop_get xs i hi, links] at ho ⊢
    rw [List.length_append] at ho
    refine Ev.step (fun k => by rw [impl_SeenLinks.l0]) ?_
    rw [rdPb xs i hi, wrap_succ (by omega)]
    refine Ev.ifpos (by omega) (Ev.ifpos (by omega) (Ev.ifpos (by omega) (Ev.ifpos (by omega) ?_)))
    have h := ih (out ++ xs[i].f2) (by rw [List.length_append]; omega)
    rw [List.append_assoc] at h
    exact h

end

end Go.Proofs.Ytfmldgpebnnbbaa.Pure
/- Plain lemmas: marks of numbers; the middle of a list. Condition: the numbers fit. -/
namespace Go.Proofs.Ytfmldgpebnnbbaa.Pure
open Go.RowKit Go.Proofs.Ytfmldgpebnnbbaa.Z Go.Proofs.YtfmldgpebnnbbaaW.PrintWords

theorem pm_IntS (l : List Int) (m : Int) (h0 : 0 ≤ m) (h1 : m + ((1 * l.length : Nat) : Int) ≤ 4611686018427387904) : Ev (fun k => laws_markIntS.f k l m) (m + ((1 * l.length : Nat) : Int), marked 1 (fun m => m) m l.length) := by
  unfold laws_markIntS.f
  refine mark_loop 1 (fun m => m) l.length (fun i s m k => laws_markIntS.l0 k s m (i : Int)) ?_ ?_ l m rfl h0 h1
  · intro s m hs
    refine Ev.step (fun k => by rw [laws_markIntS.l0]) ?_
    exact Ev.ifneg (by omega) (Ev.now _)
  · intro i s m r hi hs h0 h1 hr
    refine Ev.step (fun k => by rw [laws_markIntS.l0]) ?_
    refine Ev.ifpos (by omega) (Ev.ifpos (by omega) ?_)
    rw [wrap_succ (by omega), wrap_in (by omega) (by omega), Int.toNat_natCast]
    exact hr

theorem getD_mid {α : Type} (a : List α) (x z : α) (b : List α) : (a ++ x :: b).getD ((a.length : Int)).toNat z = x := by
  rw [Int.toNat_natCast, List.getD_eq_getElem?_getD, List.getElem?_append_right (Nat.le_refl _), Nat.sub_self]
  rfl
theorem set_mid {α : Type} (a : List α) (x y : α) (b : List α) : (a ++ x :: b).set ((a.length : Int)).toNat y = (a ++ [y]) ++ b := by
  rw [Int.toNat_natCast, List.set_append_right _ _ (Nat.le_refl _), Nat.sub_self, List.set_cons_zero, List.append_assoc]
  rfl

end Go.Proofs.Ytfmldgpebnnbbaa.Pure
/- Plain lemmas: marks of probes. Condition: the numbers fit. -/
namespace Go.Proofs.Ytfmldgpebnnbbaa.Pure
open Go.RowKit Go.Proofs.Ytfmldgpebnnbbaa.Z Go.Proofs.YtfmldgpebnnbbaaW.PrintWords

def totP : List S105 → Nat
  | [] => 0
  | p :: ps => 2 + p.f2.length + totP ps
def markPs : Int → List S105 → List S105
  | _, [] => []
  | m, p :: ps => ⟨m, m + 1, marked 1 (fun m => m) (m + 2) p.f2.length⟩ :: markPs (m + 2 + (p.f2.length : Int)) ps
theorem markPs_length : ∀ (m : Int) (l : List S105), (markPs m l).length = l.length
  | _, [] => rfl
  | m, r :: rs => by rw [markPs, List.length_cons, markPs_length, List.length_cons]

theorem mark_Ps_from : ∀ (l done : List S105) (m : Int), 0 ≤ m → m + (totP l : Int) ≤ 4611686018427387904 → done.length + l.length ≤ 4611686018427387904 → Ev (fun k => laws_markProbeS.l0 k (done ++ l) m (done.length : Int)) (m + (totP l : Int), done ++ markPs m l)
  | [], done, m, h0, h1, h2 => by
    rw [List.append_nil, markPs, List.append_nil, totP]
    refine Ev.step (fun k => by rw [laws_markProbeS.l0]) ?_
    exact Ev.ifneg (by omega) (Ev.pure (by simp))
  | r :: rs, done, m, h0, h1, h2 => by
    rw [totP] at h1
    rw [List.length_cons] at h2
    have hl : (done ++ r :: rs).length = done.length + rs.length + 1 := by simp; omega
    refine Ev.step (fun k => by rw [laws_markProbeS.l0]) ?_
    refine Ev.ifpos (by omega) (Ev.ifpos (by omega) ?_)
    have w1 : wrap64 (m + 1) = m + 1 := wrap_in (by omega) (by omega)
    have w2 : wrap64 (m + 1 + 1) = m + 2 := by rw [wrap_in (by omega) (by omega)]; omega
    rw [w1, w2, show rd_T105 (done ++ r :: rs) (done.length : Int) = r from getD_mid _ _ _ _]
    refine Ev.bind (pm_IntS r.f2 (m + 2) (by omega) (by omega)) ?_
    rw [set_mid, wrap_succ (by omega)]
    have ih := mark_Ps_from rs (done ++ [⟨m, m + 1, marked 1 (fun m => m) (m + 2) r.f2.length⟩]) (m + 2 + (r.f2.length : Int)) (by omega) (by omega) (by rw [List.length_append, List.length_singleton]; omega)
    rw [List.length_append, List.length_singleton] at ih
    rw [markPs, totP]
    have e1 : m + 2 + ((1 * r.f2.length : Nat) : Int) = m + 2 + (r.f2.length : Int) := by omega
    have e2 : m + 2 + (r.f2.length : Int) + (totP rs : Int) = m + ((2 + r.f2.length + totP rs : Nat) : Int) := by omega
    rw [e2] at ih
    simp only [List.append_assoc, List.singleton_append] at ih
    simp only [e1]
    rw [List.append_assoc, List.singleton_append]
    exact ih

theorem mark_ProbeS (l : List S105) (m : Int) (h0 : 0 ≤ m) (h1 : m + (totP l : Int) ≤ 4611686018427387904) (h2 : l.length ≤ 4611686018427387904) : Ev (fun k => laws_markProbeS.f k l m) (m + (totP l : Int), markPs m l) := by
  unfold laws_markProbeS.f
  have := mark_Ps_from l [] m h0 h1 (by simpa using h2)
  simpa using this

theorem totP_le (n : Nat) : ∀ l : List S105, (∀ r ∈ l, r.f2.length ≤ n) → totP l ≤ (n + 2) * l.length
  | [], _ => Nat.zero_le _
  | r :: rs, h => by
    have := totP_le n rs (fun x hx => h x (List.mem_cons_of_mem _ hx))
    have := h r (List.mem_cons_self ..)
    rw [totP, List.length_cons, Nat.mul_succ]
    omega

end Go.Proofs.Ytfmldgpebnnbbaa.Pure
namespace Go.Proofs.Ytfmldgpebnnbbaa.Pure
open Go.RowKit Go.Proofs.Ytfmldgpebnnbbaa.Z Go.Proofs.YtfmldgpebnnbbaaW.PrintWords

theorem FnExactSeenLinks : laws_FnExactSeenLinks.Pure := by
  intro l hl
  refine Ev.rounds ?_
  unfold laws_FnExactSeenLinks.f
  obtain ⟨s, hs, hs2⟩ := sz_ProbeS l hl.1 (fun x hx => (hl.2 x hx).2.2.1) 1048576 (by omega) (by omega)
  by_cases hn : s < 0
  · exact Ev.bind hs (Ev.ifpos hn (Ev.now _))
  have hsm := (hs2 (by omega)).2
  have ht := to_ProbeS l hsm
  have hlen : (l.map c104_105).length ≤ 1048576 := by simpa using hsm.1
  have hsm2 : (smL smS105) (l.map c104_105) := by
    refine ⟨hlen, fun x hx => ?_⟩
    obtain ⟨y, hy, rfl⟩ := List.mem_map.1 hx
    exact hsm.2 y hy
  have hp : ∀ p ∈ l.map c104_105, p.f2.length ≤ 1048576 := fun p hp => (hsm2.2 p hp).2.2.1
  have he := eq_ProbeS (l.map c104_105) hsm2
  generalize l.map c104_105 = q at *
  have hT0 := links_length_le 1048576 q hp
  have hT : (links q).length ≤ 1099511627776 := Nat.le_trans hT0 (Nat.le_trans (Nat.mul_le_mul_left _ hlen) (by omega))
  have h1 := spec_seenLinks hlen hT
  have h2 := impl_seenLinks hlen hT
  have hrl := Nat.le_trans (sorted_len_le (links q)) hT
  generalize sortedF (links q) = m at h1 h2 hrl
  have hi := eq_IntS m (by unfold maxLen; omega)
  have ht1 := totP_le 1048576 q hp
  have hb1 : totP q ≤ 1048578 * 1048576 := Nat.le_trans ht1 (Nat.mul_le_mul_left _ hlen)
  have hmp := mark_ProbeS q 1 (by omega) (by omega) (by omega)
  have hmi := mark_IntS m 1 (by omega) (by omega)
  have hh := held_IntS m.length 1 (by omega) (by omega)
  refine Ev.bind hs (Ev.ifneg hn (Ev.bind ht (Ev.bind h1 (Ev.bind ht (Ev.bind h2 (Ev.bind hi (Ev.ifpos rfl (Ev.bind ht (Ev.bind he (Ev.ifpos rfl (Ev.bind hmp (Ev.ifneg (by omega) (Ev.bind hi (Ev.ifpos rfl ?_))))))))))))))
  exact Ev.bind hmi (Ev.bind hh (Ev.ifneg (by omega) (Ev.ifpos rfl (Ev.bind ht (Ev.bind h2 (Ev.bind hi (Ev.ifpos rfl (Ev.bind hh (Ev.ifneg (by omega) (Ev.ifpos rfl (Ev.now _)))))))))))

end Go.Proofs.Ytfmldgpebnnbbaa.Pure
