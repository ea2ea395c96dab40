/- The statement: for every network and all hosts, the program's ProbesOf answers as the reference's does, leaves network and hosts as they were, and its answer shares no memory with them or with another answer. No condition. -/
import Derived.Test.YtcdlhjfiboomkaaWWords
import Derived.Test.YtcdlhjfiboomkaaWLast
import Derived.Test.YtcdlhjfiboomkaaWMore
import Derived.Test.YtcdlhjfiboomkaaZ2
import Derived.Test.YtcdlhjfiboomkaaZ7
import Derived.Test.YtcdlhjfiboomkaaZ11
import Derived.Test.YtcdlhjfiboomkaaZ12
import Derived.Test.YtcdlhjfiboomkaaZ13
import Derived.Test.YtcdlhjfiboomkaaZ14
import Derived.Test.YtcdlhjfiboomkaaZ0
import Derived.Test.YtcdlhjfiboomkaaZFirst
import Derived.Test.YtcdlhjfiboomkaaZ8
import Derived.Test.YtcdlhjfiboomkaaZ9
import Derived.Test.YtcdlhjfiboomkaaZ3
import Derived.Test.YtcdlhjfiboomkaaZ4
import Derived.Test.YtcdlhjfiboomkaaZ10
import Derived.Test.YtcdlhjfiboomkaaZ5
import Derived.Test.YtcdlhjfiboomkaaZ6
import Derived.Test.YtcdlhjfiboomkaaZDefFnExactProbesOf
/- Plain lemmas for what the printed functions come to: loops that go up, indices that do not wrap, reads. No condition. -/
namespace Go.Proofs.Ytcdlhjfiboomkaa.Pure
open Go.RowKit Go.Proofs.YtcdlhjfiboomkaaW.PrintWords Go.Proofs.YtcdlhjfiboomkaaW.PrintLast Go.Proofs.YtcdlhjfiboomkaaW.PrintMore

/-- A loop that goes up to n: at each index it comes to R, if it does so one index further. -/
theorem Ev.up {σ ρ : Type} (n : Nat) (G : Nat → σ → Nat → Option ρ) (R : Nat → σ → ρ) (Inv : Nat → σ → Prop) (hend : ∀ s, Inv n s → Ev (G n s) (R n s))
    (hstep : ∀ i s, i < n → Inv i s → (∀ s', Inv (i + 1) s' → Ev (G (i + 1) s') (R (i + 1) s')) → Ev (G i s) (R i s)) : ∀ i s, i ≤ n → Inv i s → Ev (G i s) (R i s) := by
  have key : ∀ d i s, i + d = n → Inv i s → Ev (G i s) (R i s) := by
    intro d
    induction d with
    | zero => intro i s h hi; obtain rfl : i = n := by omega
              exact hend s hi
    | succ d ih => intro i s h hi; exact hstep i s (by omega) hi (fun s' hs' => ih (i + 1) s' (by omega) hs')
  intro i s h hi
  exact key (n - i) i s (by omega) hi

/-- The same without a state. -/
theorem Ev.up0 {ρ : Type} (n : Nat) (G : Nat → Nat → Option ρ) (R : Nat → ρ) (hend : Ev (G n) (R n)) (hstep : ∀ i, i < n → Ev (G (i + 1)) (R (i + 1)) → Ev (G i) (R i)) : ∀ i, i ≤ n → Ev (G i) (R i) := by
  intro i h
  exact Ev.up n (fun i (_ : Unit) => G i) (fun i _ => R i) (fun _ _ => True) (fun _ _ => hend) (fun i s hi _ hn => hstep i hi (hn () trivial)) i () h trivial

theorem Ev.det {α : Type} {g : Nat → Option α} {r q : α} (h : Ev g r) (h' : Ev g q) : r = q := by
  obtain ⟨K, h⟩ := h
  obtain ⟨K', h'⟩ := h'
  have a := h (max K K') (by omega)
  have b := h' (max K K') (by omega)
  rw [a] at b
  exact Option.some.inj b

theorem Ev.const {α : Type} {g : Nat → Option α} {r : α} (h : ∀ k, g k = some r) : Ev g r := ⟨0, fun k _ => h k⟩

theorem Ev.ifpos {α : Type} {c : Prop} [Decidable c] {g f : Nat → Option α} {r : α} (hc : c) (h : Ev g r) : Ev (fun k => if c then g k else f k) r := Ev.congr (fun k => by rw [if_pos hc]) h
theorem Ev.ifneg {α : Type} {c : Prop} [Decidable c] {g f : Nat → Option α} {r : α} (hc : ¬ c) (h : Ev f r) : Ev (fun k => if c then g k else f k) r := Ev.congr (fun k => by rw [if_neg hc]) h
theorem Ev.pure {α : Type} {a r : α} (h : a = r) : Ev (fun _ => some a) r := by subst h; exact Ev.now _

/-- A call that needs no rounds. -/
theorem Ev.bind0 {α β : Type} {g : Option α} {f : Nat → α → Option β} {a : α} {r : β} (h : g = some a) (k : Ev (fun n => f n a) r) : Ev (fun n => g.bind (f n)) r :=
  Ev.congr (fun n => by rw [h]; rfl) k

theorem wrap_in {n : Int} (h0 : -9223372036854775808 ≤ n) (h1 : n ≤ 9223372036854775807) : wrap64 n = n := by unfold wrap64; omega
theorem wrap_succ {i : Nat} (h : i < 9223372036854775807) : wrap64 ((i : Int) + 1) = ((i + 1 : Nat) : Int) := by unfold wrap64; omega

theorem rd_nat (xs : List Int) (i : Nat) : rd xs (i : Int) = xs.getD i 0 := by unfold rd; rw [Int.toNat_natCast]
theorem rd_get (xs : List Int) (i : Nat) (h : i < xs.length) : rd xs (i : Int) = xs[i] := by rw [rd_nat, List.getD_eq_getElem?_getD, List.getElem?_eq_getElem h]; rfl
theorem getD_get {α : Type} (xs : List α) (i : Nat) (z : α) (h : i < xs.length) : xs.getD (i : Int).toNat z = xs[i] := by rw [Int.toNat_natCast, List.getD_eq_getElem?_getD, List.getElem?_eq_getElem h]; rfl

theorem drop_get {α : Type} (xs : List α) (i : Nat) (h : i < xs.length) : xs.drop i = xs[i] :: xs.drop (i + 1) := List.drop_eq_getElem_cons h

theorem take_set_self {α : Type} (s : List α) (i : Nat) (a : α) : (s.set i a).take i = s.take i := by
  apply List.ext_getElem?
  intro j
  by_cases h : j < i
  · rw [List.getElem?_take, List.getElem?_take, if_pos h, if_pos h, List.getElem?_set_ne (by omega)]
  · rw [List.getElem?_take, List.getElem?_take, if_neg h, if_neg h]

/-- A loop that copies, element by element. -/
theorem copy_loop {α β : Type} (l : List α) (f : α → β) (G : Nat → List β → Nat → Option (List β)) (hend : ∀ s : List β, Ev (G l.length s) s)
    (hstep : ∀ i (hi : i < l.length) (s r : List β), s.length = l.length → Ev (G (i + 1) (s.set i (f l[i]))) r → Ev (G i s) r) (s : List β) (hs : s.length = l.length) : Ev (G 0 s) (l.map f) := by
  have key := Ev.up l.length G (fun i s => s.take i ++ (l.map f).drop i) (fun _ s => s.length = l.length)
    (fun s hs => by
      have e : s.take l.length ++ (l.map f).drop l.length = s := by rw [List.take_of_length_le (by omega), List.drop_of_length_le (by simp), List.append_nil]
      simp only [e]
      exact hend s)
    (fun i s hi hs ih => by
      have h1 := ih (s.set i (f l[i])) (by simpa using hs)
      have e : (s.set i (f l[i])).take (i + 1) ++ (l.map f).drop (i + 1) = s.take i ++ (l.map f).drop i := by
        rw [List.take_succ_eq_append_getElem (by simp; omega), List.drop_eq_getElem_cons (l := l.map f) (i := i) (by simpa using hi), take_set_self]
        simp
      simp only [e] at h1
      exact hstep i hi s _ hs h1) 0 s (Nat.zero_le _) hs
  simpa using key

/-- A loop that takes off what the elements weigh. -/
theorem sz_loop {α : Type} (l : List α) (sm : α → Prop) (G : Nat → Int → Nat → Option Int) (hend : ∀ s : Int, Ev (G l.length s) s)
    (hstep : ∀ i (hi : i < l.length) (s : Int), 0 ≤ s → s ≤ 1048576 → Ev (G i s) (-1) ∨ ∃ q : Int, 0 ≤ q ∧ q ≤ s ∧ sm l[i] ∧ ∀ r, Ev (G (i + 1) q) r → Ev (G i s) r) (s : Int) (h0 : 0 ≤ s) (h1 : s ≤ 1048576) :
    ∃ r : Int, Ev (G 0 s) r ∧ (0 ≤ r → r ≤ s ∧ ∀ x ∈ l, sm x) := by
  have key : ∀ d i (s : Int), i + d = l.length → 0 ≤ s → s ≤ 1048576 → ∃ r : Int, Ev (G i s) r ∧ (0 ≤ r → r ≤ s ∧ ∀ x ∈ l.drop i, sm x) := by
    intro d
    induction d with
    | zero =>
      intro i s hi h0 h1
      obtain rfl : i = l.length := by omega
      exact ⟨s, hend s, fun _ => ⟨Int.le_refl _, by simp⟩⟩
    | succ d ih =>
      intro i s hi h0 h1
      have hlt : i < l.length := by omega
      rcases hstep i hlt s h0 h1 with h | ⟨q, hq0, hq1, hsm, hnext⟩
      · exact ⟨-1, h, fun h => by omega⟩
      · obtain ⟨r, hr, hr2⟩ := ih (i + 1) q (by omega) hq0 (by omega)
        refine ⟨r, hnext r hr, fun h => ⟨by have := (hr2 h).1; omega, ?_⟩⟩
        rw [drop_get l i hlt]
        intro x hx
        rcases List.mem_cons.1 hx with rfl | hx
        · exact hsm
        · exact (hr2 h).2 x hx
  simpa using key l.length 0 s (by omega) h0 h1

/-- What a mark leaves: element i holds the numbers from m + c * i on. -/
def marked {α : Type} (c : Nat) (mk : Int → α) (m : Int) (n : Nat) : List α := (List.range n).map fun i => mk (m + ((c * i : Nat) : Int))
theorem marked_length {α : Type} (c : Nat) (mk : Int → α) (m : Int) (n : Nat) : (marked c mk m n).length = n := by simp [marked]
theorem marked_get {α : Type} (c : Nat) (mk : Int → α) (m : Int) (n i : Nat) (h : i < (marked c mk m n).length) : (marked c mk m n)[i] = mk (m + ((c * i : Nat) : Int)) := by simp [marked]
theorem marked_succ {α : Type} (c : Nat) (mk : Int → α) (m : Int) (n : Nat) : marked c mk m (n + 1) = mk m :: marked c mk (m + (c : Int)) n := by
  unfold marked
  rw [List.range_succ_eq_map, List.map_cons, List.map_map]
  congr 1
  · simp
  · apply List.map_congr_left
    intro i _
    show mk _ = mk _
    congr 1
    rw [Nat.mul_succ]
    omega

theorem mark_loop {α : Type} (c : Nat) (mk : Int → α) (n : Nat) (G : Nat → List α → Int → Nat → Option (Int × List α)) (hend : ∀ (s : List α) (m : Int), s.length = n → Ev (G n s m) (m, s))
    (hstep : ∀ i (s : List α) (m : Int) r, i < n → s.length = n → 0 ≤ m → m ≤ 4611686018427387904 → Ev (G (i + 1) (s.set i (mk m)) (m + (c : Int))) r → Ev (G i s m) r)
    (s : List α) (m : Int) (hs : s.length = n) (h0 : 0 ≤ m) (h1 : m + ((c * n : Nat) : Int) ≤ 4611686018427387904) : Ev (G 0 s m) (m + ((c * n : Nat) : Int), marked c mk m n) := by
  have key : ∀ d i (s : List α) (m : Int), i + d = n → s.length = n → 0 ≤ m → m + ((c * d : Nat) : Int) ≤ 4611686018427387904 → Ev (G i s m) (m + ((c * d : Nat) : Int), s.take i ++ marked c mk m d) := by
    intro d
    induction d with
    | zero =>
      intro i s m hi hs h0 h1
      obtain rfl : i = n := by omega
      have e : s.take i ++ marked c mk m 0 = s := by rw [List.take_of_length_le (by omega)]; simp [marked]
      rw [e]
      simpa using hend s m hs
    | succ d ih =>
      intro i s m hi hs h0 h1
      rw [Nat.mul_succ] at h1
      have h2 := ih (i + 1) (s.set i (mk m)) (m + (c : Int)) (by omega) (by simpa using hs) (by omega) (by omega)
      have e : (s.set i (mk m)).take (i + 1) ++ marked c mk (m + (c : Int)) d = s.take i ++ marked c mk m (d + 1) := by
        rw [List.take_succ_eq_append_getElem (by simp; omega), marked_succ, take_set_self]
        simp
      rw [e] at h2
      have e2 : m + (c : Int) + ((c * d : Nat) : Int) = m + ((c * (d + 1) : Nat) : Int) := by rw [Nat.mul_succ]; omega
      rw [e2] at h2
      exact hstep i s m _ (by omega) hs h0 (by omega) h2
  have := key n 0 s m (by omega) hs h0 h1
  simpa using this

theorem held_loop (c : Nat) (n : Nat) (m0 : Int) (G : Nat → Int → Nat → Option Int) (hend : ∀ m : Int, Ev (G n m) m)
    (hstep : ∀ i r, i < n → Ev (G (i + 1) (m0 + ((c * i : Nat) : Int) + (c : Int))) r → Ev (G i (m0 + ((c * i : Nat) : Int))) r) : Ev (G 0 m0) (m0 + ((c * n : Nat) : Int)) := by
  have key := Ev.up0 n (fun i => G i (m0 + ((c * i : Nat) : Int))) (fun _ => m0 + ((c * n : Nat) : Int)) (hend _)
    (fun i hi ih => hstep i _ hi (by
      have e : m0 + ((c * i : Nat) : Int) + (c : Int) = m0 + ((c * (i + 1) : Nat) : Int) := by rw [Nat.mul_succ]; omega
      rw [e]
      exact ih)) 0 (Nat.zero_le _)
  simpa using key

end Go.Proofs.Ytcdlhjfiboomkaa.Pure
/- Plain lemmas on the laws' own helpers: copies, comparisons, sizes, marks. No condition. -/
namespace Go.Proofs.Ytcdlhjfiboomkaa.Pure
open Go.RowKit Go.Proofs.Ytcdlhjfiboomkaa.Z Go.Proofs.YtcdlhjfiboomkaaW.PrintWords
set_option linter.unusedSimpArgs false
set_option linter.unusedVariables false
def smL {α : Type} (sm : α → Prop) (l : List α) : Prop := l.length ≤ 1048576 ∧ ∀ x ∈ l, sm x
def okLen {α : Type} (l : List α) : Prop := l.length ≤ maxLen
theorem mark_IntS (l : List Int) (m : Int) (h0 : 0 ≤ m) (h1 : m + ((1 * l.length : Nat) : Int) ≤ 4611686018427387904) : Ev (fun k => laws_markIntS.f k l m) (m + ((1 * l.length : Nat) : Int), marked 1 (fun m => m) m l.length) := by
  unfold laws_markIntS.f
  refine mark_loop 1 (fun m => m) l.length (fun i s m k => laws_markIntS.l0 k s m (i : Int)) ?_ ?_ l m rfl h0 h1
  · intro s m hs
    refine Ev.step (fun k => by rw [laws_markIntS.l0]) ?_
    exact Ev.ifneg (by omega) (Ev.now _)
  · intro i s m r hi hs h0 h1 hr
    refine Ev.step (fun k => by rw [laws_markIntS.l0]) ?_
    refine Ev.ifpos (by omega) (Ev.ifpos (by omega) ?_)
    rw [wrap_succ (by omega), wrap_in (by omega) (by omega), Int.toNat_natCast]
    exact hr
def smS67 (x : S67) : Prop := (fun _ => True) x.f0 ∧ (fun _ => True) x.f1
theorem sz_LinkS (l : List S67) (hl : l.length ≤ maxLen) (s : Int) (h0 : 0 ≤ s) (h1 : s ≤ 1048576) : ∃ r : Int, laws_szLinkS.f l s = some r ∧ (0 ≤ r → r ≤ s ∧ (smL smS67) l) := by
  unfold maxLen at hl
  unfold laws_szLinkS.f
  rw [wrap_in (by omega) (by omega)]
  by_cases h : s - (l.length : Int) < 0
  · exact ⟨-1, by rw [if_pos h], fun h => by omega⟩
  · exact ⟨s - (l.length : Int), by rw [if_neg h], fun _ => ⟨by omega, by omega, fun _ _ => ⟨trivial, trivial⟩⟩⟩
def smS24 (x : S24) : Prop := (fun _ => True) x.f0 ∧ (smL smS67) x.f1
theorem sz_Net (x : S24) (hx : (fun x : S24 => okLen x.f1) x) (s : Int) (h0 : 0 ≤ s) (h1 : s ≤ 1048576) : ∃ r : Int, laws_szNet.f x.f0 x.f1 s = some r ∧ (0 ≤ r → r ≤ s ∧ smS24 x) := by
  obtain ⟨q, hq, hq2⟩ := sz_LinkS x.f1 hx s h0 h1
  unfold laws_szNet.f
  rw [hq]
  simp only [Option.bind_some]
  by_cases hneg : q < 0
  · exact ⟨-1, by rw [if_pos hneg], fun h => by omega⟩
  · exact ⟨q, by rw [if_neg hneg], fun h => ⟨(hq2 h).1, have hs := (hq2 h).2; ⟨trivial, hs⟩⟩⟩
def c67_64 (x : S67) : S64 := ⟨x.f0, x.f1⟩
theorem to_Link (x : S67) : laws_toLink.f x.f0 x.f1 = some ((c67_64 x).f0, (c67_64 x).f1) := rfl
theorem rd_T67_get (xs : List S67) (i : Nat) (h : i < xs.length) : rd_T67 xs (i : Int) = xs[i] := getD_get xs i _ h
theorem to_LinkS (l : List S67) (h : (smL smS67) l) : Ev (fun k => laws_toLinkS.f k l) (l.map c67_64) := by
  unfold laws_toLinkS.f
  have hl := h.1
  refine Ev.ifpos (by omega) (Ev.ifpos (by omega) ?_)
  rw [Int.toNat_natCast]
  have key := copy_loop l c67_64 (fun i s k => laws_toLinkS.l0 k l s (i : Int)) ?_ ?_ (List.replicate l.length z64) (by simp)
  · exact key
  · intro s
    refine Ev.step (fun k => by rw [laws_toLinkS.l0]) ?_
    exact Ev.ifneg (by omega) (Ev.now _)
  · intro i hi s r hs hr
    refine Ev.step (fun k => by rw [laws_toLinkS.l0]) ?_
    refine Ev.ifpos (by omega) (Ev.ifpos (by omega) ?_)
    rw [rd_T67_get l i hi]
    refine Ev.bind0 (to_Link l[i]) ?_
    refine Ev.ifpos (by omega) ?_
    rw [wrap_succ (by omega), Int.toNat_natCast]
    exact hr
def c24_31 (x : S24) : S31 := ⟨x.f0, (List.map c67_64) x.f1⟩
theorem to_Net (x : S24) (h : smS24 x) : Ev (fun k => laws_toNet.f k x.f0 x.f1) ((c24_31 x).f0, (c24_31 x).f1) := by
  unfold laws_toNet.f
  exact Ev.bind (to_LinkS x.f1 h.2) (Ev.now _)
theorem to_IntS (l : List Int) (h : (smL (fun _ => True)) l) : Ev (fun k => laws_toIntS.f k l) (l) := by
  unfold laws_toIntS.f
  have hl := h.1
  refine Ev.ifpos (by omega) (Ev.ifpos (by omega) ?_)
  rw [Int.toNat_natCast]
  have key := copy_loop l id (fun i s k => laws_toIntS.l0 k l s (i : Int)) ?_ ?_ (List.replicate l.length 0) (by simp)
  · rw [List.map_id] at key; exact key
  · intro s
    refine Ev.step (fun k => by rw [laws_toIntS.l0]) ?_
    exact Ev.ifneg (by omega) (Ev.now _)
  · intro i hi s r hs hr
    refine Ev.step (fun k => by rw [laws_toIntS.l0]) ?_
    refine Ev.ifpos (by omega) (Ev.ifpos (by omega) ?_)
    refine Ev.ifpos (by omega) ?_
    rw [rd_get l i hi, wrap_succ (by omega), Int.toNat_natCast]
    exact hr
theorem eq_IntS (l : List Int) (h : l.length ≤ maxLen) : Ev (fun k => laws_eqIntS.f k l l) true := by
  unfold maxLen at h
  unfold laws_eqIntS.f
  refine Ev.ifpos rfl ?_
  exact Ev.up0 l.length (fun i k => laws_eqIntS.l0 k l l (i : Int)) (fun _ => true)
    (Ev.step (fun k => by rw [laws_eqIntS.l0]) (Ev.ifneg (by omega) (Ev.now _)))
    (fun i hi ih => by
      refine Ev.step (fun k => by rw [laws_eqIntS.l0]) ?_
      refine Ev.ifpos (by omega) (Ev.ifpos (by omega) (Ev.ifpos (by omega) ?_))
      refine Ev.ifpos rfl ?_
      rw [wrap_succ (by omega)]
      exact ih) 0 (Nat.zero_le _)
def smS58 (x : S58) : Prop := (fun _ => True) x.f0 ∧ (fun _ => True) x.f1 ∧ (smL (fun _ => True)) x.f2
theorem eq_Probe (x : S58) (h : smS58 x) : Ev (fun k => laws_eqProbe.f k x.f0 x.f1 x.f2 x.f0 x.f1 x.f2) true := by
  unfold laws_eqProbe.f
  refine Ev.ifpos rfl ?_
  refine Ev.ifpos rfl ?_
  refine Ev.bind (eq_IntS x.f2 (Nat.le_trans (h.2.2).1 (by decide))) (Ev.ifpos rfl ?_)
  exact Ev.now _
theorem rd_T58_get (xs : List S58) (i : Nat) (h : i < xs.length) : rd_T58 xs (i : Int) = xs[i] := getD_get xs i _ h
theorem eq_ProbeS (l : List S58) (h : (smL smS58) l) : Ev (fun k => laws_eqProbeS.f k l l) true := by
  have hl := h.1
  unfold laws_eqProbeS.f
  refine Ev.ifpos rfl ?_
  exact Ev.up0 l.length (fun i k => laws_eqProbeS.l0 k l l (i : Int)) (fun _ => true)
    (Ev.step (fun k => by rw [laws_eqProbeS.l0]) (Ev.ifneg (by omega) (Ev.now _)))
    (fun i hi ih => by
      refine Ev.step (fun k => by rw [laws_eqProbeS.l0]) ?_
      refine Ev.ifpos (by omega) (Ev.ifpos (by omega) (Ev.ifpos (by omega) ?_))
      rw [rd_T58_get l i hi]
      refine Ev.bind (eq_Probe l[i] (h.2 _ (List.getElem_mem hi))) (Ev.ifpos rfl ?_)
      rw [wrap_succ (by omega)]
      exact ih) 0 (Nat.zero_le _)
theorem eq_Link (x : S64) : laws_eqLink.f x.f0 x.f1 x.f0 x.f1 = some true := by
  unfold laws_eqLink.f
  simp
theorem rd_T64_get (xs : List S64) (i : Nat) (h : i < xs.length) : rd_T64 xs (i : Int) = xs[i] := getD_get xs i _ h
theorem eq_LinkS (l : List S64) (h : l.length ≤ maxLen) : Ev (fun k => laws_eqLinkS.f k l l) true := by
  unfold maxLen at h
  unfold laws_eqLinkS.f
  refine Ev.ifpos rfl ?_
  exact Ev.up0 l.length (fun i k => laws_eqLinkS.l0 k l l (i : Int)) (fun _ => true)
    (Ev.step (fun k => by rw [laws_eqLinkS.l0]) (Ev.ifneg (by omega) (Ev.now _)))
    (fun i hi ih => by
      refine Ev.step (fun k => by rw [laws_eqLinkS.l0]) ?_
      refine Ev.ifpos (by omega) (Ev.ifpos (by omega) (Ev.ifpos (by omega) ?_))
      rw [rd_T64_get l i hi]
      refine Ev.bind0 (eq_Link l[i]) (Ev.ifpos rfl ?_)
      rw [wrap_succ (by omega)]
      exact ih) 0 (Nat.zero_le _)
def smS64 (x : S64) : Prop := (fun _ => True) x.f0 ∧ (fun _ => True) x.f1
def smS31 (x : S31) : Prop := (fun _ => True) x.f0 ∧ (smL smS64) x.f1
theorem eq_Net (x : S31) (h : smS31 x) : Ev (fun k => laws_eqNet.f k x.f0 x.f1 x.f0 x.f1) true := by
  unfold laws_eqNet.f
  refine Ev.ifpos rfl ?_
  refine Ev.bind (eq_LinkS x.f1 (Nat.le_trans (h.2).1 (by decide))) (Ev.ifpos rfl ?_)
  exact Ev.now _
theorem rd_T64_set (s : List S64) (i : Nat) (v : S64) (h : i < s.length) : rd_T64 (s.set i v) (i : Int) = v := by
  rw [rd_T64_get _ i (by simpa using h)]
  simp
theorem mark_LinkS (l : List S64) (m : Int) (h0 : 0 ≤ m) (h1 : m + ((2 * l.length : Nat) : Int) ≤ 4611686018427387904) : Ev (fun k => laws_markLinkS.f k l m) (m + ((2 * l.length : Nat) : Int), marked 2 (fun m => (⟨m, m + 1⟩ : S64)) m l.length) := by
  unfold laws_markLinkS.f
  refine mark_loop 2 (fun m => (⟨m, m + 1⟩ : S64)) l.length (fun i s m k => laws_markLinkS.l0 k s m (i : Int)) ?_ ?_ l m rfl h0 h1
  · intro s m hs
    refine Ev.step (fun k => by rw [laws_markLinkS.l0]) ?_
    exact Ev.ifneg (by omega) (Ev.now _)
  · intro i s m r hi hs h0 h1 hr
    refine Ev.step (fun k => by rw [laws_markLinkS.l0]) ?_
    refine Ev.ifpos (by omega) (Ev.ifpos (by omega) ?_)
    have ht : (i : Int).toNat = i := Int.toNat_natCast i
    have w1 : wrap64 (m + 1 + 1) = m + 2 := by rw [wrap_in (by omega) (by omega)]; omega
    have w0 : wrap64 (m + 1) = m + 1 := wrap_in (by omega) (by omega)
    simp only [Option.bind_some, ht, w0, w1, rd_T64_set s i _ (by omega), List.set_set]
    rw [wrap_succ (by omega)]
    exact hr
theorem held_IntS (n : Nat) (m : Int) (h0 : 0 ≤ m) (h1 : m + ((1 * n : Nat) : Int) ≤ 4611686018427387904) : Ev (fun k => laws_heldIntS.f k (marked 1 (fun m => m) m n) m) (m + ((1 * n : Nat) : Int)) := by
  unfold laws_heldIntS.f
  have hn := marked_length 1 (fun m => m) m n
  refine held_loop 1 n m (fun i q k => laws_heldIntS.l0 k (marked 1 (fun m => m) m n) q (i : Int)) ?_ ?_
  · intro q
    refine Ev.step (fun k => by rw [laws_heldIntS.l0]) ?_
    exact Ev.ifneg (by omega) (Ev.now _)
  · intro i r hi hr
    refine Ev.step (fun k => by rw [laws_heldIntS.l0]) ?_
    have hle : ((1 * i : Nat) : Int) + 1 ≤ ((1 * n : Nat) : Int) := by omega
    refine Ev.ifpos (by omega) (Ev.ifpos (by omega) ?_)
    rw [rd_get _ i (by omega), marked_get]
    have w0 : wrap64 (m + ((1 * i : Nat) : Int) + 1) = m + ((1 * i : Nat) : Int) + 1 := wrap_in (by omega) (by omega)
    simp only [w0]
    refine Ev.ifpos (by first | trivial | rfl) ?_
    rw [wrap_succ (by omega)]
    exact hr
end Go.Proofs.Ytcdlhjfiboomkaa.Pure
/- Plain words: probes, read. No condition. -/
namespace Go.Proofs.Ytcdlhjfiboomkaa.Pure
open Go.RowKit Go.Proofs.Ytcdlhjfiboomkaa.Z Go.Proofs.YtcdlhjfiboomkaaW.PrintWords

abbrev Pb := S58
theorem rdPb (l : List Pb) (i : Nat) (h : i < l.length) : rd_T58 l (i : Int) = l[i] := getD_get l i _ h

end Go.Proofs.Ytcdlhjfiboomkaa.Pure
/- Plain lemmas: loops that search. No condition. -/
namespace Go.Proofs.Ytcdlhjfiboomkaa.Pure
open Go.RowKit Go.Proofs.Ytcdlhjfiboomkaa.Z Go.Proofs.YtcdlhjfiboomkaaW.PrintWords

theorem firstAt_cons {α : Type} (p : α → Bool) (x : α) (xs : List α) : firstAt p (x :: xs) = if p x = true then 0 else if firstAt p xs < 0 then -1 else firstAt p xs + 1 := by
  unfold firstAt
  rw [List.findIdx_cons]
  cases h : p x
  · simp only [cond_false, List.length_cons, Bool.false_eq_true, if_false]
    by_cases h2 : xs.findIdx p < xs.length
    · rw [if_pos (by omega), if_pos h2, if_neg (by omega)]
      omega
    · rw [if_neg (by omega), if_neg h2]
      simp
  · simp

/-- A loop that searches from the front comes to the first place. -/
theorem first_loop {α : Type} (p : α → Bool) (xs : List α) (G : Nat → Nat → Option Int) (hend : Ev (G xs.length) (-1)) (hhit : ∀ i (hi : i < xs.length), p xs[i] = true → Ev (G i) (i : Int))
    (hmiss : ∀ i (hi : i < xs.length) r, p xs[i] = false → Ev (G (i + 1)) r → Ev (G i) r) : Ev (G 0) (firstAt p xs) := by
  have key := Ev.up0 xs.length G (fun i => if firstAt p (xs.drop i) < 0 then -1 else firstAt p (xs.drop i) + (i : Int))
    (by rw [List.drop_of_length_le (Nat.le_refl _)]; simpa [firstAt] using hend)
    (fun i hi ih => by
      rw [drop_get xs i hi, firstAt_cons]
      cases h : p xs[i]
      · simp only [Bool.false_eq_true, if_false]
        refine hmiss i hi _ h ?_
        by_cases h2 : firstAt p (xs.drop (i + 1)) < 0
        · rw [if_pos h2, if_pos (by omega)]
          rwa [if_pos h2] at ih
        · rw [if_neg h2, if_neg (by omega)]
          rw [if_neg h2] at ih
          have e : firstAt p (xs.drop (i + 1)) + ((i + 1 : Nat) : Int) = firstAt p (xs.drop (i + 1)) + 1 + (i : Int) := by omega
          rwa [e] at ih
      · simp only [if_true]
        rw [if_neg (by omega)]
        have := hhit i hi h
        simpa using this) 0 (Nat.zero_le _)
  rw [List.drop_zero] at key
  by_cases h : firstAt p xs < 0
  · have e : firstAt p xs = -1 := by
      unfold firstAt at h ⊢
      split at h
      · omega
      · rename_i h2; rw [if_neg h2]
    rw [if_pos h] at key
    rw [e]
    exact key
  · rw [if_neg h] at key
    simpa using key

/-- A loop that asks whether one holds. -/
theorem any_loop {α : Type} (p : α → Bool) (xs : List α) (G : Nat → Nat → Option Bool) (hend : Ev (G xs.length) false) (hhit : ∀ i (hi : i < xs.length), p xs[i] = true → Ev (G i) true)
    (hmiss : ∀ i (hi : i < xs.length) r, p xs[i] = false → Ev (G (i + 1)) r → Ev (G i) r) : Ev (G 0) (xs.any p) := by
  have key := Ev.up0 xs.length G (fun i => (xs.drop i).any p)
    (by rw [List.drop_of_length_le (Nat.le_refl _)]; simpa using hend)
    (fun i hi ih => by
      rw [drop_get xs i hi, List.any_cons]
      cases h : p xs[i]
      · simpa using hmiss i hi _ h ih
      · simpa using hhit i hi h) 0 (Nat.zero_le _)
  simpa using key

/-- A loop that asks whether all hold. -/
theorem all_loop {α : Type} (p : α → Bool) (xs : List α) (G : Nat → Nat → Option Bool) (r0 : Bool) (hend : Ev (G xs.length) r0) (hbad : ∀ i (hi : i < xs.length), p xs[i] = false → Ev (G i) false)
    (hgood : ∀ i (hi : i < xs.length) r, p xs[i] = true → Ev (G (i + 1)) r → Ev (G i) r) : Ev (G 0) (xs.all p && r0) := by
  have key := Ev.up0 xs.length G (fun i => (xs.drop i).all p && r0)
    (by rw [List.drop_of_length_le (Nat.le_refl _)]; simpa using hend)
    (fun i hi ih => by
      rw [drop_get xs i hi, List.all_cons]
      cases h : p xs[i]
      · simpa using hbad i hi h
      · simpa using hgood i hi _ h ih) 0 (Nat.zero_le _)
  simpa using key

end Go.Proofs.Ytcdlhjfiboomkaa.Pure
/- Plain lemma: what the reference's LinkOf returns: the first link that connects the two. Condition: the list is not longer than a list can be. -/
namespace Go.Proofs.Ytcdlhjfiboomkaa.Pure
open Go.RowKit Go.Proofs.Ytcdlhjfiboomkaa.Z Go.Proofs.YtcdlhjfiboomkaaW.PrintWords

theorem rdLink (xs : List S64) (i : Nat) (h : i < xs.length) : rd_T64 xs (i : Int) = xs[i] := getD_get xs i _ h

theorem spec_linkOf (n : Int) (l : List S64) (a b : Int) (hl : l.length ≤ 9223372036854775806) : Ev (fun k => spec_LinkOf.f k n l a b) (firstAt (isLink a b) l) := by
  unfold spec_LinkOf.f
  refine first_loop (isLink a b) l (fun i k => spec_LinkOf.l0 k a b (i : Int) n l) ?_ ?_ ?_
  · refine Ev.step (fun k => by rw [spec_LinkOf.l0]) ?_
    exact Ev.ifneg (by omega) (Ev.now _)
  · intro i hi h
    refine Ev.step (fun k => by rw [spec_LinkOf.l0]) ?_
    refine Ev.ifpos (by omega) (Ev.ifpos (by omega) ?_)
    rw [rdLink l i hi]
    unfold isLink at h
    by_cases h1 : (l[i].f0 == a && l[i].f1 == b) = true
    · exact Ev.ifpos h1 (Ev.now _)
    · refine Ev.ifneg h1 (Ev.ifpos ?_ (Ev.now _))
      simpa [h1] using h
  · intro i hi r h hr
    refine Ev.step (fun k => by rw [spec_LinkOf.l0]) ?_
    refine Ev.ifpos (by omega) (Ev.ifpos (by omega) ?_)
    rw [rdLink l i hi]
    unfold isLink at h
    rw [Bool.or_eq_false_iff] at h
    refine Ev.ifneg (by rw [h.1]; exact Bool.noConfusion) (Ev.ifneg (by rw [h.2]; exact Bool.noConfusion) ?_)
    rw [wrap_succ (by omega)]
    exact hr

end Go.Proofs.Ytcdlhjfiboomkaa.Pure
/- Plain lemma: what the reference's range test answers. No condition. -/
namespace Go.Proofs.Ytcdlhjfiboomkaa.Pure
open Go.RowKit Go.Proofs.Ytcdlhjfiboomkaa.Z Go.Proofs.YtcdlhjfiboomkaaW.PrintWords

theorem spec_in (n a b : Int) : spec_l1In.f n a b = some (decide (a ≤ n ∧ n ≤ b)) := by
  unfold spec_l1In.f
  by_cases h : a ≤ n <;> simp [h]

end Go.Proofs.Ytcdlhjfiboomkaa.Pure
/- Plain lemmas: what the program's and the reference's IsNet answer. Condition: the list is not longer than a list can be. -/
namespace Go.Proofs.Ytcdlhjfiboomkaa.Pure
open Go.RowKit Go.Proofs.Ytcdlhjfiboomkaa.Z Go.Proofs.YtcdlhjfiboomkaaW.PrintWords

abbrev Lk := S64

theorem firstAt_le {α : Type} (p : α → Bool) (xs : List α) (i : Nat) (h : i < xs.length) (hp : p xs[i] = true) : 0 ≤ firstAt p xs ∧ firstAt p xs ≤ (i : Int) := by
  have h1 : xs.findIdx p ≤ i := by
    rcases Nat.lt_or_ge i (xs.findIdx p) with hlt | hge
    · have := List.not_of_lt_findIdx hlt
      rw [hp] at this
      exact Bool.noConfusion this
    · exact hge
  unfold firstAt
  rw [if_pos (by omega)]
  omega

/-- Does link i of the network lead between two nodes, and is it the first that connects them? -/
def linkOk (n : Int) (l : List Lk) (i : Nat) : Bool :=
  decide (0 ≤ (rd_T64 l (i : Int)).f0 ∧ (rd_T64 l (i : Int)).f0 < n) && (decide (0 ≤ (rd_T64 l (i : Int)).f1 ∧ (rd_T64 l (i : Int)).f1 < n) &&
    (decide ((rd_T64 l (i : Int)).f0 ≠ (rd_T64 l (i : Int)).f1) && decide (firstAt (isLink (rd_T64 l (i : Int)).f0 (rd_T64 l (i : Int)).f1) l = (i : Int))))

def isNet (n : Int) (l : List Lk) : Bool := decide (1 ≤ n ∧ n ≤ 8) && (decide (1 ≤ l.length ∧ l.length ≤ 6) && (List.range l.length).all (linkOk n l))

theorem isLink_self (k : Lk) : isLink k.f0 k.f1 k = true := by unfold isLink; simp

theorem spec_net_from (n : Int) (l : List Lk) (h1 : 1 ≤ n) (h2 : n ≤ 8) (hl : l.length ≤ 9223372036854775806) : ∀ i, i ≤ l.length → Ev (fun k => spec_IsNet.l0 k (i : Int) n l) (((List.range l.length).drop i).all (linkOk n l)) := by
  have hw : wrap64 (n - 1) = n - 1 := wrap_in (by omega) (by omega)
  refine Ev.up0 l.length (fun i k => spec_IsNet.l0 k (i : Int) n l) (fun i => ((List.range l.length).drop i).all (linkOk n l)) ?_ ?_
  · rw [List.drop_of_length_le (by simp)]
    refine Ev.step (fun k => by rw [spec_IsNet.l0]) ?_
    exact Ev.ifneg (by omega) (Ev.now _)
  · intro i hi ih
    rw [drop_get _ i (by simpa using hi), List.all_cons, List.getElem_range]
    generalize ((List.range l.length).drop (i + 1)).all (linkOk n l) = r at ih ⊢
    refine Ev.step (fun k => by rw [spec_IsNet.l0]) ?_
    refine Ev.ifpos (by omega) (Ev.ifpos (by omega) ?_)
    unfold linkOk
    rw [rdLink l i hi, hw]
    refine Ev.bind0 (spec_in _ _ _) ?_
    by_cases a1 : 0 ≤ l[i].f0 ∧ l[i].f0 < n
    · refine Ev.ifpos (decide_eq_true (by omega)) (Ev.bind0 (spec_in _ _ _) ?_)
      by_cases a2 : 0 ≤ l[i].f1 ∧ l[i].f1 < n
      · refine Ev.ifpos (decide_eq_true (by omega)) ?_
        by_cases a3 : l[i].f0 = l[i].f1
        · exact Ev.ifpos a3 (Ev.pure (by simp [a3]))
        · refine Ev.ifneg a3 (Ev.bind (spec_linkOf n l _ _ hl) ?_)
          have hf := firstAt_le (isLink l[i].f0 l[i].f1) l i hi (isLink_self _)
          by_cases a4 : firstAt (isLink l[i].f0 l[i].f1) l < (i : Int)
          · refine Ev.ifpos a4 (Ev.pure ?_)
            have : ¬ firstAt (isLink l[i].f0 l[i].f1) l = (i : Int) := by omega
            simp [this]
          · refine Ev.ifneg a4 ?_
            have : firstAt (isLink l[i].f0 l[i].f1) l = (i : Int) := by omega
            rw [wrap_succ (by omega)]
            simpa [a1, a2, a3, this] using ih
      · refine Ev.ifneg (by rw [decide_eq_true_eq]; omega) (Ev.pure ?_)
        rw [decide_eq_false a2]
        simp
    · refine Ev.ifneg (by rw [decide_eq_true_eq]; omega) (Ev.pure ?_)
      rw [decide_eq_false a1]
      simp

theorem spec_net (n : Int) (l : List Lk) (hl : l.length ≤ 9223372036854775806) : Ev (fun k => spec_IsNet.f k n l) (isNet n l) := by
  unfold spec_IsNet.f isNet
  refine Ev.bind0 (spec_in _ _ _) ?_
  by_cases h1 : 1 ≤ n ∧ n ≤ 8
  · refine Ev.ifpos (decide_eq_true h1) (Ev.bind0 (spec_in _ _ _) ?_)
    by_cases h2 : 1 ≤ l.length ∧ l.length ≤ 6
    · have e : decide (1 ≤ (l.length : Int) ∧ (l.length : Int) ≤ 6) = true := decide_eq_true (by omega)
      rw [e, decide_eq_true h1, decide_eq_true h2]
      refine Ev.step (fun k => by rw [spec_IsNet.j0]) (Ev.ifneg (by decide) ?_)
      simpa using spec_net_from n l h1.1 h1.2 hl 0 (Nat.zero_le _)
    · have e : decide (1 ≤ (l.length : Int) ∧ (l.length : Int) ≤ 6) = false := decide_eq_false (by omega)
      rw [e, decide_eq_false h2]
      refine Ev.step (fun k => by rw [spec_IsNet.j0]) ?_
      exact Ev.ifpos rfl (Ev.pure (by simp))
  · rw [decide_eq_false h1]
    exact Ev.ifneg (by decide) (Ev.step (fun k => by rw [spec_IsNet.j0]) (Ev.ifpos rfl (Ev.pure (by simp))))

theorem impl_at_eq (i n : Int) : impl_at.f i n = some (decide (0 ≤ i ∧ i < n)) := by
  unfold impl_at.f
  by_cases h : 0 ≤ i <;> simp [h]

theorem impl_in (n a b : Int) : impl_InRange.f n a b = some (decide (a ≤ n ∧ n ≤ b)) := by
  unfold impl_InRange.f
  by_cases h : a ≤ n <;> simp [h]

theorem impl_net_from (n : Int) (l : List Lk) (hl : l.length ≤ 9223372036854775806) : ∀ i, i ≤ l.length → Ev (fun k => impl_IsNet.l0 k l (l.length : Int) (i : Int) n l) (((List.range l.length).drop i).all (linkOk n l)) := by
  refine Ev.up0 l.length (fun i k => impl_IsNet.l0 k l (l.length : Int) (i : Int) n l) (fun i => ((List.range l.length).drop i).all (linkOk n l)) ?_ ?_
  · rw [List.drop_of_length_le (by simp)]
    refine Ev.step (fun k => by rw [impl_IsNet.l0]) ?_
    exact Ev.ifneg (by omega) (Ev.now _)
  · intro i hi ih
    rw [drop_get _ i (by simpa using hi), List.all_cons, List.getElem_range]
    generalize ((List.range l.length).drop (i + 1)).all (linkOk n l) = r at ih ⊢
    refine Ev.step (fun k => by rw [impl_IsNet.l0]) ?_
    refine Ev.ifpos (by omega) (Ev.ifpos (by omega) (Ev.ifpos (by omega) ?_))
    unfold linkOk
    rw [rdLink l i hi]
    by_cases a3 : l[i].f0 = l[i].f1
    · exact Ev.ifpos a3 (Ev.pure (by simp [a3]))
    · refine Ev.ifneg a3 (Ev.bind0 (impl_at_eq _ _) ?_)
      by_cases a1 : 0 ≤ l[i].f0 ∧ l[i].f0 < n
      · refine Ev.ifpos (decide_eq_true a1) (Ev.bind0 (impl_at_eq _ _) ?_)
        by_cases a2 : 0 ≤ l[i].f1 ∧ l[i].f1 < n
        · refine Ev.ifpos (decide_eq_true a2) (Ev.bind0 rfl ?_)
          by_cases a4 : firstAt (isLink l[i].f0 l[i].f1) l = (i : Int)
          · refine Ev.ifpos a4 ?_
            rw [wrap_succ (by omega)]
            simpa [a1, a2, a3, a4] using ih
          · exact Ev.ifneg a4 (Ev.pure (by simp [a4]))
        · refine Ev.ifneg (by rw [decide_eq_true_eq]; omega) (Ev.pure ?_)
          rw [decide_eq_false a2]
          simp
      · refine Ev.ifneg (by rw [decide_eq_true_eq]; omega) (Ev.pure ?_)
        rw [decide_eq_false a1]
        simp

theorem impl_net (n : Int) (l : List Lk) (hl : l.length ≤ 9223372036854775806) : Ev (fun k => impl_IsNet.f k n l) (isNet n l) := by
  unfold impl_IsNet.f isNet
  refine Ev.bind0 (impl_in _ _ _) ?_
  by_cases h1 : 1 ≤ n ∧ n ≤ 8
  · refine Ev.ifpos (decide_eq_true h1) (Ev.bind0 (impl_in _ _ _) ?_)
    by_cases h2 : 1 ≤ l.length ∧ l.length ≤ 6
    · have e : decide (1 ≤ (l.length : Int) ∧ (l.length : Int) ≤ 6) = true := decide_eq_true (by omega)
      rw [e, decide_eq_true h1, decide_eq_true h2]
      refine Ev.step (fun k => by rw [impl_IsNet.j0]) (Ev.ifneg (by decide) ?_)
      simpa using impl_net_from n l hl 0 (Nat.zero_le _)
    · have e : decide (1 ≤ (l.length : Int) ∧ (l.length : Int) ≤ 6) = false := decide_eq_false (by omega)
      rw [e, decide_eq_false h2]
      refine Ev.step (fun k => by rw [impl_IsNet.j0]) ?_
      exact Ev.ifpos rfl (Ev.pure (by simp))
  · rw [decide_eq_false h1]
    exact Ev.ifneg (by decide) (Ev.step (fun k => by rw [impl_IsNet.j0]) (Ev.ifpos rfl (Ev.pure (by simp))))

end Go.Proofs.Ytcdlhjfiboomkaa.Pure
/- Plain words: where a path leads. No condition. -/
namespace Go.Proofs.Ytcdlhjfiboomkaa.Pure
open Go.RowKit Go.Proofs.Ytcdlhjfiboomkaa.Z Go.Proofs.YtcdlhjfiboomkaaW.PrintWords

/-- Where the path leads from x on; -1 where it leaves the network. -/
def endOf (ls : List S64) : Int → List Int → Int
  | x, [] => x
  | x, i :: is => if 0 ≤ i ∧ i < ls.length then (if x = (rd_T64 ls i).f0 then endOf ls (rd_T64 ls i).f1 is else if x = (rd_T64 ls i).f1 then endOf ls (rd_T64 ls i).f0 is else -1) else -1

end Go.Proofs.Ytcdlhjfiboomkaa.Pure
/- Plain law: how far each node is from a node, and the route that follows the distances down. No program in sight. -/
namespace Go.Proofs.Ytcdlhjfiboomkaa.Pure
open Go.RowKit Go.Proofs.Ytcdlhjfiboomkaa.Z Go.Proofs.YtcdlhjfiboomkaaW.PrintWords

def across (l : Lk) (x : Int) : Int := if x = l.f0 then l.f1 else if x = l.f1 then l.f0 else -1
def relax1 (n : Int) (d : List Int) (a b : Int) : List Int := if rd d a = n ∧ rd d b < 0 then d.set b.toNat (n + 1) else d
def relaxL (n : Int) (d : List Int) (l : Lk) : List Int := relax1 n (relax1 n d l.f0 l.f1) l.f1 l.f0
def sweep (ls : List Lk) (d : List Int) (n : Nat) : List Int := ls.foldl (relaxL (n : Int)) d
def dist (N : Nat) (ls : List Lk) (b : Int) : List Int := (List.range N).foldl (sweep ls) ((List.replicate N (-1)).set b.toNat 0)
def stepOk (d : List Int) (x : Int) (l : Lk) : Bool := decide (0 ≤ across l x ∧ rd d (across l x) = rd d x - 1)
def routeF (d : List Int) (ls : List Lk) : Nat → Int → List Int
  | 0, _ => []
  | m + 1, x => firstAt (stepOk d x) ls :: routeF d ls m (across (rd_T64 ls (firstAt (stepOk d x) ls)) x)

theorem rd_set (d : List Int) (b v x : Int) (hb : 0 ≤ b) (hb2 : b < d.length) (hv : 0 ≤ v) : rd (d.set b.toNat x) v = if v = b then x else rd d v := by
  unfold rd
  rw [List.getD_eq_getElem?_getD, List.getD_eq_getElem?_getD]
  by_cases h : v = b
  · subst h
    rw [if_pos rfl, List.getElem?_set_self (by omega)]
    rfl
  · rw [if_neg h, List.getElem?_set_ne (by omega)]

/-- Links between two nodes of N. -/
def Links (N : Nat) (ls : List Lk) : Prop := ∀ l ∈ ls, 0 ≤ l.f0 ∧ l.f0 < N ∧ 0 ≤ l.f1 ∧ l.f1 < N ∧ l.f0 ≠ l.f1

/-- What the distances are at each stage: each node that has one greater than 0 has a neighbour one nearer. -/
structure Good (N : Nat) (ls : List Lk) (tg : Int) (d : List Int) : Prop where
  len : d.length = N
  lo : ∀ v : Int, 0 ≤ v → v < N → -1 ≤ rd d v ∧ rd d v ≤ N
  zero : ∀ v : Int, 0 ≤ v → v < N → rd d v = 0 → v = tg
  t0 : 0 ≤ tg ∧ tg < N
  own : rd d tg = 0
  near : ∀ v : Int, 0 ≤ v → v < N → 0 < rd d v → ∃ l ∈ ls, 0 ≤ across l v ∧ across l v < N ∧ rd d (across l v) = rd d v - 1

theorem relax1_good {N : Nat} {ls : List Lk} {tg : Int} {d : List Int} (h : Good N ls tg d) {n a b : Int} {l : Lk} (hl : l ∈ ls) (hn : 0 ≤ n) (hN : n < N) (ha : 0 ≤ a ∧ a < N) (hb : 0 ≤ b ∧ b < N) (hc : across l b = a) : Good N ls tg (relax1 n d a b) := by
  unfold relax1
  by_cases hif : rd d a = n ∧ rd d b < 0
  · rw [if_pos hif]
    have hlen := h.len
    have hrd : ∀ v : Int, 0 ≤ v → rd (d.set b.toNat (n + 1)) v = if v = b then n + 1 else rd d v := fun v hv => rd_set d b v (n + 1) hb.1 (by omega) hv
    refine ⟨by simpa using hlen, fun v hv hv2 => ?_, fun v hv hv2 => ?_, h.t0, by rw [hrd tg h.t0.1, if_neg (fun e => by have := h.own; rw [e] at this; omega)]; exact h.own, fun v hv hv2 => ?_⟩
    · rw [hrd v hv]
      split
      · omega
      · exact h.lo v hv hv2
    · rw [hrd v hv]
      split
      · intro h0; omega
      · exact h.zero v hv hv2
    · rw [hrd v hv]
      split
      · rename_i hvb
        intro _
        refine ⟨l, hl, ?_⟩
        rw [hvb, hc, hrd a ha.1, if_neg (fun e => by rw [e] at hif; omega)]
        exact ⟨ha.1, ha.2, by omega⟩
      · intro hpos
        obtain ⟨l', hl', h1, h2, h3⟩ := h.near v hv hv2 hpos
        refine ⟨l', hl', h1, h2, ?_⟩
        rw [hrd _ h1, if_neg (fun e => by rw [e] at h3; omega)]
        exact h3
  · rw [if_neg hif]
    exact h

theorem relaxL_good {N : Nat} {ls : List Lk} {tg : Int} {d : List Int} (hv : Links N ls) (h : Good N ls tg d) {n : Int} {l : Lk} (hl : l ∈ ls) (hn : 0 ≤ n) (hN : n < N) : Good N ls tg (relaxL n d l) := by
  have h1 := hv l hl
  unfold relaxL
  refine relax1_good (relax1_good h hl hn hN ⟨h1.1, h1.2.1⟩ ⟨h1.2.2.1, h1.2.2.2.1⟩ ?_) hl hn hN ⟨h1.2.2.1, h1.2.2.2.1⟩ ⟨h1.1, h1.2.1⟩ ?_
  · unfold across
    rw [if_neg (fun e => h1.2.2.2.2 e.symm), if_pos rfl]
  · unfold across
    rw [if_pos rfl]

theorem start_good {N : Nat} {ls : List Lk} {tg : Int} (h0 : 0 ≤ tg) (h1 : tg < N) : Good N ls tg ((List.replicate N (-1)).set tg.toNat 0) := by
  have hlen : ((List.replicate N (-1 : Int)).set tg.toNat 0).length = N := by simp
  have hrd : ∀ v : Int, 0 ≤ v → v < N → rd ((List.replicate N (-1)).set tg.toNat 0) v = if v = tg then 0 else -1 := by
    intro v hv hv2
    rw [rd_set _ tg v 0 h0 (by simp; omega) hv]
    congr 1
    unfold rd
    rw [List.getD_eq_getElem?_getD, List.getElem?_replicate, if_pos (by omega)]
    rfl
  refine ⟨hlen, fun v hv hv2 => ?_, fun v hv hv2 => ?_, ⟨h0, h1⟩, by rw [hrd tg h0 h1, if_pos rfl], fun v hv hv2 => ?_⟩
  · rw [hrd v hv hv2]
    split <;> omega
  · rw [hrd v hv hv2]
    split
    · intro _; assumption
    · intro h; omega
  · rw [hrd v hv hv2]
    split <;> (intro h; omega)

theorem links_of {n : Int} {ls : List Lk} (h : isNet n ls = true) : (1 ≤ n ∧ n ≤ 8) ∧ (1 ≤ ls.length ∧ ls.length ≤ 6) ∧ Links n.toNat ls := by
  unfold isNet at h
  simp only [Bool.and_eq_true, decide_eq_true_eq, List.all_eq_true, List.mem_range] at h
  refine ⟨h.1, h.2.1, fun l hl => ?_⟩
  obtain ⟨i, hi, rfl⟩ := List.getElem_of_mem hl
  have h2 := h.2.2 i hi
  unfold linkOk at h2
  simp only [Bool.and_eq_true, decide_eq_true_eq] at h2
  have e : rd_T64 ls (i : Int) = ls[i] := getD_get ls i _ hi
  rw [e] at h2
  have := h2.1
  have := h2.2.1
  exact ⟨by omega, by omega, by omega, by omega, h2.2.2.1⟩

/-- At a node that is m + 1 away the first link that leads nearer is there. -/
theorem near_first {N : Nat} {ls : List Lk} {tg : Int} {d : List Int} (hv : Links N ls) (h : Good N ls tg d) {x : Int} (h0 : 0 ≤ x) (h1 : x < N) {m : Nat} (hm : rd d x = (m : Int) + 1) :
    ∃ f, ∃ hf : f < ls.length, firstAt (stepOk d x) ls = (f : Int) ∧ rd_T64 ls (f : Int) = ls[f] ∧ 0 ≤ across ls[f] x ∧ across ls[f] x < N ∧ rd d (across ls[f] x) = (m : Int) ∧ ∀ j (hj : j < ls.length), j < f → stepOk d x ls[j] = false := by
  obtain ⟨l, hl, a1, a2, a3⟩ := h.near x h0 h1 (by omega)
  obtain ⟨i, hi, rfl⟩ := List.getElem_of_mem hl
  have hs : stepOk d x ls[i] = true := decide_eq_true ⟨a1, a3⟩
  have hle : ls.findIdx (stepOk d x) ≤ i := by
    rcases Nat.lt_or_ge i (ls.findIdx (stepOk d x)) with hlt | hge
    · have := List.not_of_lt_findIdx hlt
      rw [hs] at this
      exact Bool.noConfusion this
    · exact hge
  have hf : ls.findIdx (stepOk d x) < ls.length := by omega
  have hok : stepOk d x ls[ls.findIdx (stepOk d x)] = true := List.findIdx_getElem
  have hok2 := of_decide_eq_true hok
  refine ⟨ls.findIdx (stepOk d x), hf, ?_, getD_get ls _ _ hf, hok2.1, ?_, by omega, fun j hj hjf => ?_⟩
  · unfold firstAt
    rw [if_pos hf]
  · have hlk := hv _ (List.getElem_mem hf)
    have := hok2.1
    unfold across at this ⊢
    split
    · omega
    · split <;> omega
  · have := List.not_of_lt_findIdx hjf
    simpa using this

theorem across_lt {N : Nat} {ls : List Lk} (hv : Links N ls) {l : Lk} (hl : l ∈ ls) (x : Int) : across l x < N ∧ (0 ≤ across l x ∨ across l x = -1) := by
  have h := hv l hl
  unfold across
  split
  · omega
  · split <;> omega

end Go.Proofs.Ytcdlhjfiboomkaa.Pure
/- Plain words: the route. No condition. -/
namespace Go.Proofs.Ytcdlhjfiboomkaa.Pure
open Go.RowKit Go.Proofs.Ytcdlhjfiboomkaa.Z Go.Proofs.YtcdlhjfiboomkaaW.PrintWords

/-- The route, where the distances are d. -/
def routeOf (d : List Int) (ls : List Lk) (a : Int) : List Int := if rd d a < 0 then [] else routeF d ls (rd d a).toNat a
/-- What is left of the sweeps, then the route. -/
def afterR (N : Nat) (ls : List Lk) (a : Int) (n : Nat) (d : List Int) : List Int := routeOf (((List.range N).drop n).foldl (sweep ls) d) ls a
def routeTo (n : Int) (ls : List Lk) (a b : Int) : List Int := if isNet n ls = true ∧ (0 ≤ a ∧ a < n) ∧ (0 ≤ b ∧ b < n) then routeOf (dist n.toNat ls b) ls a else []

theorem afterR_end (N : Nat) (ls : List Lk) (a : Int) (d : List Int) : afterR N ls a N d = routeOf d ls a := by
  unfold afterR
  rw [List.drop_of_length_le (by simp)]
  rfl
theorem afterR_step (N : Nat) (ls : List Lk) (a : Int) (n : Nat) (d : List Int) (h : n < N) : afterR N ls a n d = afterR N ls a (n + 1) (sweep ls d n) := by
  unfold afterR
  rw [drop_get _ n (by simpa using h), List.foldl_cons, List.getElem_range]

theorem relax_good_len {N : Nat} {ls : List Lk} {tg : Int} {d : List Int} (h : Good N ls tg d) : d.length = N := h.len

end Go.Proofs.Ytcdlhjfiboomkaa.Pure
/- Plain lemma: the node at the end of a path, as the reference finds it. Condition: the lists are not longer than lists can be. -/
namespace Go.Proofs.Ytcdlhjfiboomkaa.Pure
open Go.RowKit Go.Proofs.Ytcdlhjfiboomkaa.Z Go.Proofs.YtcdlhjfiboomkaaW.PrintWords

theorem spec_endOf (n : Int) (ls : List S64) (p : List Int) (x : Int) (hl : ls.length ≤ 9223372036854775806) (hp : p.length ≤ 9223372036854775806) : Ev (fun k => spec_EndOf.f k n ls p x) (endOf ls x p) := by
  unfold spec_EndOf.f
  have hw : wrap64 ((ls.length : Int) - 1) = (ls.length : Int) - 1 := wrap_in (by omega) (by omega)
  refine Ev.up p.length (fun i (s : Int) k => spec_EndOf.l0 k p s (i : Int) n ls) (fun i s => endOf ls s (p.drop i)) (fun _ _ => True) ?_ ?_ 0 x (Nat.zero_le _) trivial
  · intro s _
    rw [List.drop_of_length_le (Nat.le_refl _)]
    refine Ev.step (fun k => by rw [spec_EndOf.l0]) ?_
    exact Ev.ifneg (by omega) (Ev.now _)
  · intro i s hi _ ih
    rw [drop_get _ i hi, endOf]
    refine Ev.step (fun k => by rw [spec_EndOf.l0]) ?_
    refine Ev.ifpos (by omega) (Ev.ifpos (by omega) ?_)
    rw [rd_get p i hi, hw]
    refine Ev.bind0 (spec_in _ _ _) ?_
    by_cases h : 0 ≤ p[i] ∧ p[i] < ls.length
    · rw [if_pos h]
      refine Ev.ifpos (decide_eq_true (by omega)) (Ev.ifpos (by omega) (Ev.ifpos (by omega) ?_))
      rw [wrap_succ (by omega)]
      by_cases h1 : s = (rd_T64 ls p[i]).f0
      · rw [if_pos h1]
        exact Ev.ifpos h1 (ih _ trivial)
      · rw [if_neg h1]
        refine Ev.ifneg h1 ?_
        by_cases h2 : s = (rd_T64 ls p[i]).f1
        · rw [if_pos h2]
          exact Ev.ifpos h2 (ih _ trivial)
        · rw [if_neg h2]
          exact Ev.ifneg h2 (Ev.now _)
    · rw [if_neg h]
      exact Ev.ifneg (by rw [decide_eq_true_iff]; omega) (Ev.now _)

end Go.Proofs.Ytcdlhjfiboomkaa.Pure
/- Plain lemma: what the reference's RouteTo answers. Condition: the list is not longer than a list can be. -/
namespace Go.Proofs.Ytcdlhjfiboomkaa.Pure
open Go.RowKit Go.Proofs.Ytcdlhjfiboomkaa.Z Go.Proofs.YtcdlhjfiboomkaaW.PrintWords

section spec
variable {N : Nat} {ls : List Lk} {a b : Int}

theorem spec_end (x : Int) (i : Nat) (hi : i < ls.length) (hl : ls.length ≤ 9223372036854775806) : Ev (fun k => spec_EndOf.f k (N : Int) ls [(i : Int)] x) (across ls[i] x) := by
  have h := spec_endOf (N : Int) ls [(i : Int)] x hl (by simp)
  have e : endOf ls x [(i : Int)] = across ls[i] x := by
    simp only [endOf]
    rw [if_pos (by omega), show rd_T64 ls (i : Int) = ls[i] from getD_get ls i _ hi]
    unfold across
    split
    · rfl
    · split <;> rfl
  rw [e] at h
  exact h

/-- Following the distances down. -/
theorem spec_walk {d : List Int} (hv : Links N ls) (hg : Good N ls b d) (hl : ls.length ≤ 6) (_hN : N ≤ 8) : ∀ (m : Nat) (x : Int) (out : List Int), 0 ≤ x → x < N → rd d x = (m : Int) → out.length + m ≤ 8 →
    Ev (fun k => spec_RouteTo.l3 k b out d x (N : Int) ls) (out ++ routeF d ls m x) := by
  intro m
  induction m with
  | zero =>
    intro x out h0 h1 hm ho
    rw [routeF, List.append_nil]
    refine Ev.step (fun k => by rw [spec_RouteTo.l3]) ?_
    exact Ev.ifpos (hg.zero x h0 h1 hm) (Ev.now _)
  | succ m ih =>
    intro x out h0 h1 hm ho
    have hlen := hg.len
    obtain ⟨f, hf, e1, e2, a0, a1, a2, hmiss⟩ := near_first hv hg h0 h1 (m := m) (by rw [hm]; omega)
    rw [routeF, e1, e2]
    have hnext := ih (across ls[f] x) (out ++ [(f : Int)]) a0 a1 a2 (by rw [List.length_append, List.length_singleton]; omega)
    rw [List.append_assoc, List.singleton_append] at hnext
    have hne : ¬ x = b := fun e => by have := hg.own; rw [← e] at this; omega
    refine Ev.step (fun k => by rw [spec_RouteTo.l3]) ?_
    refine Ev.ifneg hne ?_
    have hfound : Ev (fun k => spec_RouteTo.l4 k b out d x (f : Int) ((f + 1 : Nat) : Int) (N : Int) ls) (out ++ (f : Int) :: routeF d ls m (across ls[f] x)) := by
      have hj : Ev (fun k => spec_RouteTo.j7 k b out d x (f : Int) ((f + 1 : Nat) : Int) false (N : Int) ls) (out ++ (f : Int) :: routeF d ls m (across ls[f] x)) := by
        refine Ev.step (fun k => by rw [spec_RouteTo.j7]) ?_
        refine Ev.ifneg (by decide) (Ev.ifpos (by omega) ?_)
        exact Ev.bind (spec_end x f hf (by omega)) hnext
      refine Ev.step (fun k => by rw [spec_RouteTo.l4]) ?_
      have hdec : decide ((f : Int) < 0) = false := decide_eq_false (by omega)
      by_cases h : ((f + 1 : Nat) : Int) < (ls.length : Int)
      · refine Ev.ifpos h ?_
        rw [hdec]
        exact hj
      · exact Ev.ifneg h hj
    refine Ev.up0 f (fun i k => spec_RouteTo.l4 k b out d x (-1) (i : Int) (N : Int) ls) (fun _ => out ++ (f : Int) :: routeF d ls m (across ls[f] x)) ?_ ?_ 0 (Nat.zero_le _)
    · refine Ev.step (fun k => by rw [spec_RouteTo.l4]) ?_
      refine Ev.ifpos (by omega) ?_
      refine Ev.step (fun k => by rw [spec_RouteTo.j7]) ?_
      refine Ev.ifpos (by decide) (Ev.bind (spec_end x f hf (by omega)) ?_)
      refine Ev.ifpos a0 (Ev.ifpos a0 (Ev.ifpos (by omega) (Ev.ifpos h0 (Ev.ifpos (by omega) (Ev.ifpos ?_ ?_)))))
      · rw [a2, hm, wrap_in (by omega) (by omega)]
        omega
      · rw [wrap_succ (by omega)]
        exact hfound
    · intro i hi hnx
      have hil : i < ls.length := by omega
      have hno := of_decide_eq_false (hmiss i hil hi)
      have hal := across_lt hv (List.getElem_mem hil) x
      have hlo := hg.lo x h0 h1
      refine Ev.step (fun k => by rw [spec_RouteTo.l4]) ?_
      refine Ev.ifpos (by omega) ?_
      refine Ev.step (fun k => by rw [spec_RouteTo.j7]) ?_
      refine Ev.ifpos (by decide) (Ev.bind (spec_end x i hil (by omega)) ?_)
      rw [wrap_succ (by omega)]
      by_cases ha : across ls[i] x ≥ 0
      · refine Ev.ifpos ha (Ev.ifpos ha (Ev.ifpos (by omega) (Ev.ifpos h0 (Ev.ifpos (by omega) (Ev.ifneg ?_ hnx)))))
        rw [wrap_in (by omega) (by omega)]
        exact fun e => hno ⟨ha, e⟩
      · exact Ev.ifneg ha hnx

/-- One link's turn. -/
theorem spec_relax {d : List Int} (hv : Links N ls) (hg : Good N ls b d) (hl : ls.length ≤ 6) (hN : N ≤ 8) (n i : Nat) (hn : n < N) (hi : i < ls.length) (r : List Int) (hr : Ev (fun k => spec_RouteTo.l2 k a b [] (relaxL (n : Int) d ls[i]) (n : Int) ((i + 1 : Nat) : Int) (N : Int) ls) r) :
    Ev (fun k => spec_RouteTo.l2 k a b [] d (n : Int) (i : Int) (N : Int) ls) r := by
  have hlen := hg.len
  have hlk := hv _ (List.getElem_mem hi)
  have hd1 := relax1_good (n := (n : Int)) (a := ls[i].f0) (b := ls[i].f1) hg (List.getElem_mem hi) (by omega) (by omega) ⟨hlk.1, hlk.2.1⟩ ⟨hlk.2.2.1, hlk.2.2.2.1⟩ (by unfold across; rw [if_neg (fun e => hlk.2.2.2.2 e.symm), if_pos rfl])
  have hlen1 := hd1.len
  unfold relaxL at hr
  have hj : ∀ q : Bool, relax1 (n : Int) d ls[i].f0 ls[i].f1 = (if q = true then d.set ls[i].f1.toNat ((n : Int) + 1) else d) → Ev (fun k => spec_RouteTo.j4 k a b [] d (n : Int) (i : Int) ls[i].f0 ls[i].f1 q (N : Int) ls) r := by
    intro q hq
    rw [hq] at hr hlen1
    refine Ev.step (fun k => by rw [spec_RouteTo.j4]) ?_
    cases q
    · rw [if_neg (by decide)] at hr
      refine Ev.ifneg (by decide) (Ev.ifpos hlk.2.2.1 (Ev.ifpos (by omega) ?_))
      have e1 : wrap64 ((n : Int) + 1) = (n : Int) + 1 := wrap_in (by omega) (by omega)
      have e2 : wrap64 ((i : Int) + 1) = ((i + 1 : Nat) : Int) := wrap_succ (by omega)
      rw [e1, e2]
      unfold relax1 at hr
      by_cases h1 : rd d ls[i].f1 = (n : Int)
      · refine Ev.ifpos h1 (Ev.ifpos hlk.1 (Ev.ifpos (by omega) ?_))
        by_cases h2 : rd d ls[i].f0 < 0
        · rw [if_pos ⟨h1, h2⟩] at hr
          exact Ev.ifpos h2 hr
        · rw [if_neg (fun h => h2 h.2)] at hr
          exact Ev.ifneg h2 hr
      · rw [if_neg (fun h => h1 h.1)] at hr
        exact Ev.ifneg h1 hr
    · rw [if_pos rfl] at hr hlen1
      refine Ev.ifpos rfl (Ev.ifpos hlk.2.2.1 (Ev.ifpos (by omega) ?_))
      have e1 : wrap64 ((n : Int) + 1) = (n : Int) + 1 := wrap_in (by omega) (by omega)
      refine Ev.bind0 (a := d.set ls[i].f1.toNat ((n : Int) + 1)) (by rw [e1]) ?_
      generalize hd' : d.set ls[i].f1.toNat ((n : Int) + 1) = d' at hr hlen1 ⊢
      have e2 : wrap64 ((i : Int) + 1) = ((i + 1 : Nat) : Int) := wrap_succ (by omega)
      rw [e1, e2]
      unfold relax1 at hr
      have hlen2 : d.length = d'.length := by rw [← hd']; simp
      by_cases h1 : rd d' ls[i].f1 = (n : Int)
      · refine Ev.ifpos h1 (Ev.ifpos hlk.1 (Ev.ifpos (by omega) ?_))
        by_cases h2 : rd d' ls[i].f0 < 0
        · rw [if_pos ⟨h1, h2⟩] at hr
          exact Ev.ifpos h2 hr
        · rw [if_neg (fun h => h2 h.2)] at hr
          exact Ev.ifneg h2 hr
      · rw [if_neg (fun h => h1 h.1)] at hr
        exact Ev.ifneg h1 hr
  refine Ev.step (fun k => by rw [spec_RouteTo.l2]) ?_
  refine Ev.ifpos (by omega) (Ev.ifpos (by omega) ?_)
  rw [show rd_T64 ls (i : Int) = ls[i] from getD_get ls i _ hi]
  refine Ev.ifpos hlk.1 (Ev.ifpos (by omega) ?_)
  by_cases h1 : rd d ls[i].f0 = (n : Int)
  · refine Ev.ifpos h1 (Ev.ifpos hlk.2.2.1 (Ev.ifpos (by omega) (hj _ ?_)))
    unfold relax1
    by_cases h2 : rd d ls[i].f1 < 0
    · rw [if_pos ⟨h1, h2⟩, if_pos (decide_eq_true h2)]
    · rw [if_neg (fun h => h2 h.2), if_neg (by rw [decide_eq_true_iff]; exact h2)]
  · refine Ev.ifneg h1 (hj _ ?_)
    unfold relax1
    rw [if_neg (fun h => h1 h.1), if_neg (by decide)]

theorem spec_after (hv : Links N ls) (hl : ls.length ≤ 6) (hN : N ≤ 8) (ha : 0 ≤ a ∧ a < N):
    ∀ (n : Nat) (d : List Int), n ≤ N → Good N ls b d → Ev (fun k => spec_RouteTo.l1 k a b [] d (n : Int) (N : Int) ls) (afterR N ls a n d) := by
  refine Ev.up N (fun n d k => spec_RouteTo.l1 k a b [] d (n : Int) (N : Int) ls) (fun n d => afterR N ls a n d) (fun _ d => Good N ls b d) ?_ ?_
  · intro d hg
    rw [afterR_end]
    have hlen := hg.len
    refine Ev.step (fun k => by rw [spec_RouteTo.l1]) ?_
    refine Ev.ifneg (by omega) (Ev.ifpos ha.1 (Ev.ifpos (by omega) ?_))
    unfold routeOf
    by_cases h : rd d a < 0
    · rw [if_pos h]
      exact Ev.ifpos h (Ev.now _)
    · rw [if_neg h]
      have hlo := hg.lo a ha.1 ha.2
      have := spec_walk (b := b) hv hg hl hN (rd d a).toNat a [] ha.1 ha.2 (by omega) (by simp; omega)
      exact Ev.ifneg h this
  · intro n d hn hg ih
    rw [afterR_step _ _ _ _ _ hn]
    refine Ev.step (fun k => by rw [spec_RouteTo.l1]) ?_
    refine Ev.ifpos (by omega) ?_
    refine Ev.up ls.length (fun i d k => spec_RouteTo.l2 k a b [] d (n : Int) (i : Int) (N : Int) ls) (fun i d => afterR N ls a (n + 1) ((ls.drop i).foldl (relaxL (n : Int)) d)) (fun _ d => Good N ls b d) ?_ ?_ 0 d (Nat.zero_le _) hg
    · intro d hg
      rw [List.drop_of_length_le (Nat.le_refl _)]
      refine Ev.step (fun k => by rw [spec_RouteTo.l2]) ?_
      refine Ev.ifneg (by omega) ?_
      rw [wrap_succ (by omega)]
      exact ih d hg
    · intro i d hi hg ih2
      rw [drop_get _ i hi, List.foldl_cons]
      exact spec_relax hv hg hl hN n i hn hi _ (ih2 _ (relaxL_good hv hg (List.getElem_mem hi) (by omega) (by omega)))

theorem spec_fill : ∀ (i : Nat) (s : List Int), i ≤ N → s = List.replicate i (-1) → N ≤ 8 → 0 ≤ b ∧ b < N → ∀ r, Ev (fun k => spec_RouteTo.l1 k a b [] ((List.replicate N (-1)).set b.toNat 0) 0 (N : Int) ls) r → Ev (fun k => spec_RouteTo.l0 k a b [] s (i : Int) (N : Int) ls) r := by
  intro i s hi hs hN hb r hr
  refine Ev.up N (fun i s k => spec_RouteTo.l0 k a b [] s (i : Int) (N : Int) ls) (fun _ _ => r) (fun i s => s = List.replicate i (-1)) ?_ ?_ i s hi hs
  · rintro s rfl
    refine Ev.step (fun k => by rw [spec_RouteTo.l0]) ?_
    exact Ev.ifneg (by omega) (Ev.ifpos hb.1 (Ev.ifpos (by simp; omega) hr))
  · rintro i s hi rfl ih
    refine Ev.step (fun k => by rw [spec_RouteTo.l0]) ?_
    refine Ev.ifpos (by omega) (Ev.ifpos (by simp; omega) ?_)
    rw [wrap_succ (by omega)]
    exact ih _ (by rw [List.replicate_succ'])

end spec

theorem spec_routeTo (n : Int) (ls : List Lk) (a b : Int) (hl : ls.length ≤ 9223372036854775806) : Ev (fun k => spec_RouteTo.f k n ls a b) (routeTo n ls a b) := by
  unfold spec_RouteTo.f
  refine Ev.bind0 (a := []) rfl (Ev.bind (spec_net n ls hl) ?_)
  by_cases hn : isNet n ls = true
  · obtain ⟨h1, h2, h3⟩ := links_of hn
    have hw : wrap64 (n - 1) = n - 1 := wrap_in (by omega) (by omega)
    rw [hw]
    refine Ev.ifpos hn (Ev.bind0 (spec_in _ _ _) ?_)
    have hbad : ∀ r : List Int, r = [] → Ev (fun k => spec_RouteTo.j0 k a b [] true n ls) r := fun r hr => by
      refine Ev.step (fun k => by rw [spec_RouteTo.j0]) ?_
      exact Ev.ifpos rfl (Ev.pure hr.symm)
    by_cases ha : 0 ≤ a ∧ a ≤ n - 1
    · refine Ev.ifpos (decide_eq_true ha) (Ev.bind0 (spec_in _ _ _) ?_)
      by_cases hb : 0 ≤ b ∧ b ≤ n - 1
      · rw [decide_eq_true hb]
        unfold routeTo
        rw [if_pos ⟨hn, ⟨ha.1, by omega⟩, hb.1, by omega⟩]
        obtain ⟨N, rfl⟩ : ∃ N : Nat, n = (N : Int) := ⟨n.toNat, by omega⟩
        rw [Int.toNat_natCast] at h3 ⊢
        refine Ev.step (fun k => by rw [spec_RouteTo.j0]) ?_
        refine Ev.ifneg (by decide) ?_
        refine spec_fill (ls := ls) (a := a) (b := b) 0 [] (Nat.zero_le _) rfl (by omega) ⟨hb.1, by omega⟩ _ ?_
        exact spec_after h3 h2.2 (by omega) ⟨ha.1, by omega⟩ 0 _ (Nat.zero_le _) (start_good hb.1 (by omega))
      · rw [decide_eq_false hb]
        exact hbad _ (if_neg (fun h => hb ⟨h.2.2.1, by omega⟩))
    · exact Ev.ifneg (by rw [decide_eq_true_iff]; exact ha) (hbad _ (if_neg (fun h => ha ⟨h.2.1.1, by omega⟩)))
  · refine Ev.ifneg hn ?_
    refine Ev.step (fun k => by rw [spec_RouteTo.j0]) ?_
    exact Ev.ifpos rfl (Ev.pure (if_neg (fun h => hn h.1)).symm)

end Go.Proofs.Ytcdlhjfiboomkaa.Pure
/- Plain lemma: what the program's RouteTo answers. Condition: the list is not longer than a list can be. -/
namespace Go.Proofs.Ytcdlhjfiboomkaa.Pure
open Go.RowKit Go.Proofs.Ytcdlhjfiboomkaa.Z Go.Proofs.YtcdlhjfiboomkaaW.PrintWords

section spec
variable {N : Nat} {ls : List Lk} {a b : Int}

theorem impl_across (l : Lk) (x : Int) : impl_Link_across.f l.f0 l.f1 x = some (across l x) := by
  unfold impl_Link_across.f across
  split
  · rfl
  · split <;> rfl

theorem impl_turn {d : List Int} (hlen : d.length = N) (n i : Nat) (hi : i < ls.length) (z j : Int) (u v : Int) (hu : rd [ls[i].f0, ls[i].f1] j = u) (hv : across ls[i] u = v) (hj : 0 ≤ j ∧ j < 2) (hu0 : 0 ≤ u ∧ u < N) (hv0 : 0 ≤ v ∧ v < N) (hn : n < 9) (r : List Int)
    (hr : Ev (fun k => impl_RouteTo.l3 k a b (relax1 (n : Int) d u v) (n : Int) (N : Int) (n : Int) ls (ls.length : Int) z [ls[i].f0, ls[i].f1] 2 (j + 1) (N : Int) ls ls[i].f0 ls[i].f1) r) :
    Ev (fun k => impl_RouteTo.l3 k a b d (n : Int) (N : Int) (n : Int) ls (ls.length : Int) z [ls[i].f0, ls[i].f1] 2 j (N : Int) ls ls[i].f0 ls[i].f1) r := by
  refine Ev.step (fun k => by rw [impl_RouteTo.l3]) ?_
  refine Ev.ifpos (by omega) (Ev.ifpos (by omega) (Ev.ifpos (by simp; omega) ?_))
  rw [hu]
  refine Ev.bind0 (impl_across ls[i] u) ?_
  rw [hv]
  have e1 : wrap64 (j + 1) = j + 1 := wrap_in (by omega) (by omega)
  have e2 : wrap64 ((n : Int) + 1) = (n : Int) + 1 := wrap_in (by omega) (by omega)
  rw [e1, e2]
  unfold relax1 at hr
  refine Ev.ifpos (by omega) (Ev.ifpos (by omega) ?_)
  by_cases h1 : rd d u = (n : Int)
  · refine Ev.ifpos h1 (Ev.ifpos (by omega) (Ev.ifpos (by omega) ?_))
    by_cases h2 : rd d v < 0
    · rw [if_pos ⟨h1, h2⟩] at hr
      exact Ev.ifpos h2 hr
    · rw [if_neg (fun h => h2 h.2)] at hr
      exact Ev.ifneg h2 hr
  · rw [if_neg (fun h => h1 h.1)] at hr
    exact Ev.ifneg h1 hr

theorem impl_relax {d : List Int} (hv : Links N ls) (hg : Good N ls b d) (hl : ls.length ≤ 6) (hN : N ≤ 8) (n i : Nat) (hn : n < N) (hi : i < ls.length) (r : List Int)
    (hr : Ev (fun k => impl_RouteTo.l2 k a b (relaxL (n : Int) d ls[i]) (n : Int) (N : Int) (n : Int) ls (ls.length : Int) ((i + 1 : Nat) : Int) (N : Int) ls) r) :
    Ev (fun k => impl_RouteTo.l2 k a b d (n : Int) (N : Int) (n : Int) ls (ls.length : Int) (i : Int) (N : Int) ls) r := by
  have hlen := hg.len
  have hlk := hv _ (List.getElem_mem hi)
  have c0 : across ls[i] ls[i].f0 = ls[i].f1 := by unfold across; rw [if_pos rfl]
  have c1 : across ls[i] ls[i].f1 = ls[i].f0 := by unfold across; rw [if_neg (fun e => hlk.2.2.2.2 e.symm), if_pos rfl]
  have hlen1 := (relax1_good (n := (n : Int)) (a := ls[i].f0) (b := ls[i].f1) hg (List.getElem_mem hi) (by omega) (by omega) ⟨hlk.1, hlk.2.1⟩ ⟨hlk.2.2.1, hlk.2.2.2.1⟩ c1).len
  refine Ev.step (fun k => by rw [impl_RouteTo.l2]) ?_
  refine Ev.ifpos (by omega) (Ev.ifpos (by omega) (Ev.ifpos (by omega) ?_))
  rw [show rd_T64 ls (i : Int) = ls[i] from getD_get ls i _ hi]
  refine Ev.bind0 (a := [ls[i].f0, ls[i].f1]) rfl ?_
  show Ev (fun k => impl_RouteTo.l3 k a b d (n : Int) (N : Int) (n : Int) ls (ls.length : Int) (i : Int) [ls[i].f0, ls[i].f1] 2 0 (N : Int) ls ls[i].f0 ls[i].f1) r
  refine impl_turn hlen n i hi _ 0 ls[i].f0 ls[i].f1 rfl c0 (by omega) ⟨hlk.1, hlk.2.1⟩ ⟨hlk.2.2.1, hlk.2.2.2.1⟩ (by omega) r ?_
  refine impl_turn hlen1 n i hi _ (0 + 1) ls[i].f1 ls[i].f0 rfl c1 (by omega) ⟨hlk.2.2.1, hlk.2.2.2.1⟩ ⟨hlk.1, hlk.2.1⟩ (by omega) r ?_
  refine Ev.step (fun k => by rw [impl_RouteTo.l3]) ?_
  refine Ev.ifneg (by omega) ?_
  rw [wrap_succ (by omega)]
  exact hr

theorem impl_walk {d : List Int} (hv : Links N ls) (hg : Good N ls b d) (hl : ls.length ≤ 6) (_hN : N ≤ 8) : ∀ (m : Nat) (x : Int) (out : List Int), 0 ≤ x → x < N → rd d x = (m : Int) → out.length + m ≤ 8 →
    Ev (fun k => impl_RouteTo.l4 k b d out x (N : Int) ls) (out ++ routeF d ls m x) := by
  intro m
  induction m with
  | zero =>
    intro x out h0 h1 hm ho
    rw [routeF, List.append_nil]
    refine Ev.step (fun k => by rw [impl_RouteTo.l4]) ?_
    exact Ev.ifpos (hg.zero x h0 h1 hm) (Ev.now _)
  | succ m ih =>
    intro x out h0 h1 hm ho
    have hlen := hg.len
    obtain ⟨f, hf, e1, e2, a0, a1, a2, hmiss⟩ := near_first hv hg h0 h1 (m := m) (by rw [hm]; omega)
    rw [routeF, e1, e2]
    have hnext := ih (across ls[f] x) (out ++ [(f : Int)]) a0 a1 a2 (by rw [List.length_append, List.length_singleton]; omega)
    rw [List.append_assoc, List.singleton_append] at hnext
    have hne : ¬ x = b := fun e => by have := hg.own; rw [← e] at this; omega
    refine Ev.step (fun k => by rw [impl_RouteTo.l4]) ?_
    refine Ev.ifneg hne ?_
    refine Ev.up0 f (fun i k => impl_RouteTo.l5 k b d out x ls (ls.length : Int) (i : Int) (N : Int) ls) (fun _ => out ++ (f : Int) :: routeF d ls m (across ls[f] x)) ?_ ?_ 0 (Nat.zero_le _)
    · refine Ev.step (fun k => by rw [impl_RouteTo.l5]) ?_
      refine Ev.ifpos (by omega) (Ev.ifpos (by omega) (Ev.ifpos (by omega) ?_))
      rw [show rd_T64 ls (f : Int) = ls[f] from getD_get ls f _ hf]
      refine Ev.bind0 (impl_across ls[f] x) ?_
      refine Ev.ifpos a0 (Ev.ifpos a0 (Ev.ifpos (by omega) (Ev.ifpos h0 (Ev.ifpos (by omega) (Ev.ifpos ?_ (Ev.ifpos (by omega) hnext))))))
      rw [a2, hm, wrap_in (by omega) (by omega)]
      omega
    · intro i hi hnx
      have hil : i < ls.length := by omega
      have hno := of_decide_eq_false (hmiss i hil hi)
      have hal := across_lt hv (List.getElem_mem hil) x
      have hlo := hg.lo x h0 h1
      refine Ev.step (fun k => by rw [impl_RouteTo.l5]) ?_
      refine Ev.ifpos (by omega) (Ev.ifpos (by omega) (Ev.ifpos (by omega) ?_))
      rw [show rd_T64 ls (i : Int) = ls[i] from getD_get ls i _ hil, wrap_succ (by omega)]
      refine Ev.bind0 (impl_across ls[i] x) ?_
      by_cases ha : across ls[i] x ≥ 0
      · refine Ev.ifpos ha (Ev.ifpos ha (Ev.ifpos (by omega) (Ev.ifpos h0 (Ev.ifpos (by omega) (Ev.ifneg ?_ hnx)))))
        rw [wrap_in (by omega) (by omega)]
        exact fun e => hno ⟨ha, e⟩
      · exact Ev.ifneg ha hnx

theorem impl_after (hv : Links N ls) (hl : ls.length ≤ 6) (hN : N ≤ 8) (ha : 0 ≤ a ∧ a < N) :
    ∀ (n : Nat) (d : List Int), n ≤ N → Good N ls b d → Ev (fun k => impl_RouteTo.l1 k a b d (N : Int) (n : Int) (N : Int) ls) (afterR N ls a n d) := by
  refine Ev.up N (fun n d k => impl_RouteTo.l1 k a b d (N : Int) (n : Int) (N : Int) ls) (fun n d => afterR N ls a n d) (fun _ d => Good N ls b d) ?_ ?_
  · intro d hg
    rw [afterR_end]
    have hlen := hg.len
    refine Ev.step (fun k => by rw [impl_RouteTo.l1]) ?_
    refine Ev.ifneg (by omega) (Ev.ifpos ha.1 (Ev.ifpos (by omega) ?_))
    unfold routeOf
    by_cases h : rd d a < 0
    · rw [if_pos h]
      exact Ev.ifpos h (Ev.now _)
    · rw [if_neg h]
      have hlo := hg.lo a ha.1 ha.2
      have := impl_walk (b := b) hv hg hl hN (rd d a).toNat a [] ha.1 ha.2 (by omega) (by simp; omega)
      exact Ev.ifneg h this
  · intro n d hn hg ih
    rw [afterR_step _ _ _ _ _ hn]
    refine Ev.step (fun k => by rw [impl_RouteTo.l1]) ?_
    refine Ev.ifpos (by omega) ?_
    refine Ev.up ls.length (fun i d k => impl_RouteTo.l2 k a b d (n : Int) (N : Int) (n : Int) ls (ls.length : Int) (i : Int) (N : Int) ls) (fun i d => afterR N ls a (n + 1) ((ls.drop i).foldl (relaxL (n : Int)) d)) (fun _ d => Good N ls b d) ?_ ?_ 0 d (Nat.zero_le _) hg
    · intro d hg
      rw [List.drop_of_length_le (Nat.le_refl _)]
      refine Ev.step (fun k => by rw [impl_RouteTo.l2]) ?_
      refine Ev.ifneg (by omega) ?_
      rw [wrap_succ (by omega)]
      exact ih d hg
    · intro i d hi hg ih2
      rw [drop_get _ i hi, List.foldl_cons]
      exact impl_relax hv hg hl hN n i hn hi _ (ih2 _ (relaxL_good hv hg (List.getElem_mem hi) (by omega) (by omega)))

theorem take_set_next (s : List Int) (i : Nat) (x : Int) (h : i < s.length) (hs : s.take i = List.replicate i x) : (s.set i x).take (i + 1) = List.replicate (i + 1) x := by
  rw [List.take_succ_eq_append_getElem (by simpa using h), take_set_self, hs, List.replicate_succ']
  simp

theorem impl_fill (hN : N ≤ 8) (hb : 0 ≤ b ∧ b < N) (r : List Int) (hr : Ev (fun k => impl_RouteTo.l1 k a b ((List.replicate N (-1)).set b.toNat 0) (N : Int) 0 (N : Int) ls) r) :
    Ev (fun k => impl_RouteTo.l0 k a b (List.replicate N 0) (N : Int) 0 (N : Int) ls) r := by
  refine Ev.up N (fun i s k => impl_RouteTo.l0 k a b s (N : Int) (i : Int) (N : Int) ls) (fun _ _ => r) (fun i s => s.length = N ∧ s.take i = List.replicate i (-1)) ?_ ?_ 0 _ (Nat.zero_le _) ⟨by simp, rfl⟩
  · rintro s ⟨h1, h2⟩
    rw [List.take_of_length_le (by omega)] at h2
    subst h2
    refine Ev.step (fun k => by rw [impl_RouteTo.l0]) ?_
    exact Ev.ifneg (by omega) (Ev.ifpos hb.1 (Ev.ifpos (by simp; omega) hr))
  · rintro i s hi ⟨h1, h2⟩ ih
    refine Ev.step (fun k => by rw [impl_RouteTo.l0]) ?_
    refine Ev.ifpos (by omega) (Ev.ifpos (by omega) (Ev.ifpos (by omega) ?_))
    rw [wrap_succ (by omega), Int.toNat_natCast]
    exact ih _ ⟨by simpa using h1, take_set_next s i (-1) (by omega) h2⟩

end spec

theorem impl_routeTo (n : Int) (ls : List Lk) (a b : Int) (hl : ls.length ≤ 9223372036854775806) : Ev (fun k => impl_RouteTo.f k n ls a b) (routeTo n ls a b) := by
  unfold impl_RouteTo.f
  refine Ev.bind (impl_net n ls hl) ?_
  have hbad : ∀ r : List Int, r = [] → Ev (fun k => impl_RouteTo.j0 k a b true n ls) r := fun r hr => by
    refine Ev.step (fun k => by rw [impl_RouteTo.j0]) ?_
    exact Ev.ifpos rfl (Ev.pure hr.symm)
  by_cases hn : isNet n ls = true
  · obtain ⟨h1, h2, h3⟩ := links_of hn
    refine Ev.ifpos hn (Ev.bind0 (impl_at_eq _ _) ?_)
    by_cases ha : 0 ≤ a ∧ a < n
    · refine Ev.ifpos (decide_eq_true ha) (Ev.bind0 (impl_at_eq _ _) ?_)
      by_cases hb : 0 ≤ b ∧ b < n
      · rw [decide_eq_true hb]
        unfold routeTo
        rw [if_pos ⟨hn, ha, hb⟩]
        obtain ⟨N, rfl⟩ : ∃ N : Nat, n = (N : Int) := ⟨n.toNat, by omega⟩
        rw [Int.toNat_natCast] at h3 ⊢
        refine Ev.step (fun k => by rw [impl_RouteTo.j0]) ?_
        refine Ev.ifneg (by decide) (Ev.ifpos (by omega) (Ev.ifpos (by omega) (Ev.bind0 (a := List.replicate N 0) rfl ?_)))
        rw [List.length_replicate]
        refine impl_fill (by omega) hb _ ?_
        exact impl_after h3 h2.2 (by omega) ha 0 _ (Nat.zero_le _) (start_good hb.1 (by omega))
      · rw [decide_eq_false hb]
        exact hbad _ (if_neg (fun h => hb h.2.2))
    · exact Ev.ifneg (by rw [decide_eq_true_iff]; exact ha) (hbad _ (if_neg (fun h => ha h.2.1)))
  · exact Ev.ifneg hn (hbad _ (if_neg (fun h => hn h.1)))

end Go.Proofs.Ytcdlhjfiboomkaa.Pure
/- Plain lemma: what ProbeFor answers. Condition: the list is not longer than a list can be. -/
namespace Go.Proofs.Ytcdlhjfiboomkaa.Pure
open Go.RowKit Go.Proofs.Ytcdlhjfiboomkaa.Z Go.Proofs.YtcdlhjfiboomkaaW.PrintWords

def probeFor (n : Int) (ls : List Lk) (a b : Int) : Int × Int × List Int × Bool := if routeTo n ls a b = [] then (0, 0, [], false) else (a, b, routeTo n ls a b, true)
theorem spec_probeFor (n : Int) (ls : List Lk) (a b : Int) (hl : ls.length ≤ 9223372036854775806) : Ev (fun k => spec_ProbeFor.f k n ls a b) (probeFor n ls a b) := by
  unfold spec_ProbeFor.f probeFor
  refine Ev.bind (spec_routeTo n ls a b hl) ?_
  by_cases h : routeTo n ls a b = []
  · rw [if_pos h]
    exact Ev.ifpos (by rw [h]; rfl) (Ev.now _)
  · rw [if_neg h]
    have := List.length_pos_iff.2 h
    exact Ev.ifneg (by omega) (Ev.now _)
theorem impl_probeFor (n : Int) (ls : List Lk) (a b : Int) (hl : ls.length ≤ 9223372036854775806) : Ev (fun k => impl_ProbeFor.f k n ls a b) (probeFor n ls a b) := by
  unfold impl_ProbeFor.f probeFor
  refine Ev.bind (impl_routeTo n ls a b hl) ?_
  by_cases h : routeTo n ls a b = []
  · rw [if_pos h]
    exact Ev.ifpos (by rw [h]; rfl) (Ev.now _)
  · rw [if_neg h]
    have := List.length_pos_iff.2 h
    exact Ev.ifneg (by omega) (Ev.now _)

end Go.Proofs.Ytcdlhjfiboomkaa.Pure
/- Plain lemma: the probes between hosts, as the reference and the program list them. Condition: the lists are not longer than the law's can be. -/
namespace Go.Proofs.Ytcdlhjfiboomkaa.Pure
open Go.RowKit Go.Proofs.Ytcdlhjfiboomkaa.Z Go.Proofs.YtcdlhjfiboomkaaW.PrintWords

def pStep (n : Int) (ls : List Lk) (a : Int) (out : List Pb) (b : Int) : List Pb := if routeTo n ls a b ≠ [] ∧ out.length < 12 then out ++ [⟨a, b, routeTo n ls a b⟩] else out
def pAll (n : Int) (ls : List Lk) : List Int → List Pb → List Pb
  | [], out => out
  | a :: hs, out => pAll n ls hs (hs.foldl (pStep n ls a) out)

theorem pStep_len (n : Int) (ls : List Lk) (a : Int) (out : List Pb) (b : Int) (h : out.length ≤ 12) : (pStep n ls a out b).length ≤ 12 := by
  unfold pStep
  split
  · rw [List.length_append, List.length_singleton]; omega
  · exact h
theorem pFold_len (n : Int) (ls : List Lk) (a : Int) : ∀ (hs : List Int) (out : List Pb), out.length ≤ 12 → (hs.foldl (pStep n ls a) out).length ≤ 12
  | [], _, h => h
  | b :: hs, out, h => pFold_len n ls a hs _ (pStep_len n ls a out b h)
theorem pAll_len (n : Int) (ls : List Lk) : ∀ (hs : List Int) (out : List Pb), out.length ≤ 12 → (pAll n ls hs out).length ≤ 12
  | [], _, h => h
  | a :: hs, out, h => pAll_len n ls hs _ (pFold_len n ls a hs out h)
/-- Each probe goes the route between its ends. -/
def OnRoute (n : Int) (ls : List Lk) (out : List Pb) : Prop := ∀ p ∈ out, p.f2 = routeTo n ls p.f0 p.f1 ∧ p.f2 ≠ []
theorem pStep_on {n : Int} {ls : List Lk} (a : Int) {out : List Pb} (b : Int) (h : OnRoute n ls out) : OnRoute n ls (pStep n ls a out b) := by
  unfold pStep
  split
  · rename_i hc
    intro p hp
    rcases List.mem_append.1 hp with hp | hp
    · exact h p hp
    · obtain rfl := List.mem_singleton.1 hp
      exact ⟨rfl, hc.1⟩
  · exact h
theorem pFold_on {n : Int} {ls : List Lk} (a : Int) : ∀ (hs : List Int) {out : List Pb}, OnRoute n ls out → OnRoute n ls (hs.foldl (pStep n ls a) out)
  | [], _, h => h
  | b :: hs, _, h => pFold_on a hs (pStep_on a b h)
theorem pAll_on {n : Int} {ls : List Lk} : ∀ (hs : List Int) {out : List Pb}, OnRoute n ls out → OnRoute n ls (pAll n ls hs out)
  | [], _, h => h
  | a :: hs, _, h => pAll_on hs (pFold_on a hs h)

theorem pStep_next {n : Int} {ls : List Lk} {a b : Int} {out : List Pb} {β : Type} {G : Nat → List Pb → Option β} {r : β} (ho : out.length ≤ 12) (h : Ev (fun k => G k (pStep n ls a out b)) r) : Ev (fun k => if (probeFor n ls a b).2.2.2 = true then (if (out.length : Int) < 12 then (if out.length < 3518437208883 then G k (out ++ [⟨(probeFor n ls a b).1, (probeFor n ls a b).2.1, (probeFor n ls a b).2.2.1⟩]) else none) else G k out) else G k out) r := by
  unfold pStep at h
  by_cases hr : routeTo n ls a b = []
  · rw [if_neg (fun q => q.1 hr)] at h
    have e : (probeFor n ls a b).2.2.2 = false := by unfold probeFor; rw [if_pos hr]
    exact Ev.ifneg (by rw [e]; decide) h
  · have e : probeFor n ls a b = (a, b, routeTo n ls a b, true) := by unfold probeFor; rw [if_neg hr]
    rw [e]
    refine Ev.ifpos rfl ?_
    by_cases hl : out.length < 12
    · rw [if_pos ⟨hr, hl⟩] at h
      exact Ev.ifpos (by omega) (Ev.ifpos (by omega) h)
    · rw [if_neg (fun q => hl q.2)] at h
      exact Ev.ifneg (by omega) h

theorem spec_probesOf (n : Int) (ls : List Lk) (hs : List Int) (hl : ls.length ≤ 9223372036854775806) (hh : hs.length ≤ 1048576) : Ev (fun k => spec_ProbesOf.f k n ls hs) (pAll n ls hs []) := by
  unfold spec_ProbesOf.f
  have key := Ev.up hs.length (fun i (out : List Pb) k => spec_ProbesOf.l0 k hs out (i : Int) n ls) (fun i out => pAll n ls (hs.drop i) out) (fun _ out => out.length ≤ 12) ?_ ?_ 0 [] (Nat.zero_le _) (by simp)
  · rw [List.drop_zero] at key
    exact key
  · intro out _
    rw [List.drop_of_length_le (Nat.le_refl _)]
    refine Ev.step (fun k => by rw [spec_ProbesOf.l0]) ?_
    exact Ev.ifneg (by omega) (Ev.now _)
  · intro i out hi ho ih
    rw [drop_get hs i hi, pAll]
    refine Ev.step (fun k => by rw [spec_ProbesOf.l0]) ?_
    rw [wrap_succ (by omega)]
    refine Ev.ifpos (by omega) ?_
    refine Ev.up hs.length (fun j (out : List Pb) k => spec_ProbesOf.l1 k hs out (i : Int) (j : Int) n ls) (fun j out => pAll n ls (hs.drop (i + 1)) ((hs.drop j).foldl (pStep n ls hs[i]) out)) (fun _ out => out.length ≤ 12) ?_ ?_ (i + 1) out (by omega) ho
    · intro out ho
      rw [List.drop_of_length_le (i := hs.length) (Nat.le_refl _)]
      refine Ev.step (fun k => by rw [spec_ProbesOf.l1]) ?_
      rw [wrap_succ (i := i) (by omega)]
      exact Ev.ifneg (by omega) (ih out ho)
    · intro j out hj ho ih2
      rw [drop_get hs j hj, List.foldl_cons]
      refine Ev.step (fun k => by rw [spec_ProbesOf.l1]) ?_
      rw [wrap_succ (i := j) (by omega), rd_get hs i hi, rd_get hs j hj]
      refine Ev.ifpos (by omega) (Ev.ifpos (by omega) (Ev.ifpos (by omega) (Ev.ifpos (by omega) (Ev.bind (spec_probeFor n ls _ _ hl) ?_))))
      exact pStep_next (G := fun k out => spec_ProbesOf.l1 k hs out (i : Int) ((j + 1 : Nat) : Int) n ls) ho (ih2 _ (pStep_len n ls _ out _ ho))

theorem impl_probesOf (n : Int) (ls : List Lk) (hs : List Int) (hl : ls.length ≤ 9223372036854775806) (hh : hs.length ≤ 1048576) : Ev (fun k => impl_ProbesOf.f k n ls hs) (pAll n ls hs []) := by
  unfold impl_ProbesOf.f
  have key := Ev.up hs.length (fun i (out : List Pb) k => impl_ProbesOf.l0 k hs out hs (hs.length : Int) (i : Int) n ls) (fun i out => pAll n ls (hs.drop i) out) (fun _ out => out.length ≤ 12) ?_ ?_ 0 [] (Nat.zero_le _) (by simp)
  · rw [List.drop_zero] at key
    exact key
  · intro out _
    rw [List.drop_of_length_le (Nat.le_refl _)]
    refine Ev.step (fun k => by rw [impl_ProbesOf.l0]) ?_
    exact Ev.ifneg (by omega) (Ev.now _)
  · intro i out hi ho ih
    rw [drop_get hs i hi, pAll]
    refine Ev.step (fun k => by rw [impl_ProbesOf.l0]) ?_
    rw [wrap_succ (by omega), Int.toNat_natCast, rd_get hs i hi]
    refine Ev.ifpos (by omega) (Ev.ifpos (by omega) (Ev.ifpos (by omega) (Ev.ifpos (by omega) (Ev.ifpos (by omega) ?_))))
    generalize hq : hs.drop (i + 1) = q
    have hql : q.length ≤ 1048576 := by rw [← hq, List.length_drop]; omega
    rw [hq] at ih
    refine Ev.up q.length (fun j (out : List Pb) k => impl_ProbesOf.l1 k hs out hs[i] hs (hs.length : Int) (i : Int) q (q.length : Int) (j : Int) n ls) (fun j out => pAll n ls q ((q.drop j).foldl (pStep n ls hs[i]) out)) (fun _ out => out.length ≤ 12) ?_ ?_ 0 out (Nat.zero_le _) ho
    · intro out ho
      rw [List.drop_of_length_le (Nat.le_refl _)]
      refine Ev.step (fun k => by rw [impl_ProbesOf.l1]) ?_
      rw [wrap_succ (i := i) (by omega)]
      exact Ev.ifneg (by omega) (ih out ho)
    · intro j out hj ho ih2
      rw [drop_get q j hj, List.foldl_cons]
      refine Ev.step (fun k => by rw [impl_ProbesOf.l1]) ?_
      rw [wrap_succ (i := j) (by omega), rd_get q j hj]
      refine Ev.ifpos (by omega) (Ev.ifpos (by omega) (Ev.ifpos (by omega) (Ev.bind (impl_probeFor n ls _ _ hl) ?_)))
      exact pStep_next (G := fun k out => impl_ProbesOf.l1 k hs out hs[i] hs (hs.length : Int) (i : Int) q (q.length : Int) ((j + 1 : Nat) : Int) n ls) ho (ih2 _ (pStep_len n ls _ out _ ho))

end Go.Proofs.Ytcdlhjfiboomkaa.Pure
/- Plain lemma: a route has at most eight links. No condition. -/
namespace Go.Proofs.Ytcdlhjfiboomkaa.Pure
open Go.RowKit Go.Proofs.Ytcdlhjfiboomkaa.Z Go.Proofs.YtcdlhjfiboomkaaW.PrintWords

theorem routeF_len (d : List Int) (ls : List Lk) : ∀ m x, (routeF d ls m x).length = m
  | 0, _ => rfl
  | m + 1, x => by rw [routeF, List.length_cons, routeF_len d ls m]

theorem fold_good {N : Nat} {ls : List Lk} {tg : Int} (hv : Links N ls) (n : Nat) (hn : n < N) : ∀ (l : List Lk) (d : List Int), (∀ x ∈ l, x ∈ ls) → Good N ls tg d → Good N ls tg (l.foldl (relaxL (n : Int)) d)
  | [], _, _, h => h
  | x :: l, d, hl, h => by
    rw [List.foldl_cons]
    exact fold_good hv n hn l _ (fun y hy => hl y (List.mem_cons_of_mem _ hy)) (relaxL_good hv h (hl x (List.mem_cons_self ..)) (by omega) (by omega))

theorem sweeps_good {N : Nat} {ls : List Lk} {tg : Int} (hv : Links N ls) : ∀ (q : List Nat) (d : List Int), (∀ x ∈ q, x < N) → Good N ls tg d → Good N ls tg (q.foldl (sweep ls) d)
  | [], _, _, h => h
  | x :: q, d, hl, h => by
    rw [List.foldl_cons]
    exact sweeps_good hv q _ (fun y hy => hl y (List.mem_cons_of_mem _ hy)) (fold_good hv x (hl x (List.mem_cons_self ..)) ls d (fun _ h => h) h)

theorem routeTo_len (n : Int) (ls : List Lk) (a b : Int) : (routeTo n ls a b).length ≤ 8 := by
  unfold routeTo
  split
  · rename_i h
    obtain ⟨h1, h2, h3⟩ := links_of h.1
    have hg := sweeps_good h3 (List.range n.toNat) _ (fun x hx => List.mem_range.1 hx) (start_good (ls := ls) (tg := b) h.2.2.1 (by omega))
    have hlo := hg.lo a h.2.1.1 (by omega)
    unfold routeOf
    split
    · simp
    · rw [routeF_len]
      unfold dist
      omega
  · simp

end Go.Proofs.Ytcdlhjfiboomkaa.Pure
/- Plain lemmas: marks of numbers; the middle of a list. Condition: the numbers fit. -/
namespace Go.Proofs.Ytcdlhjfiboomkaa.Pure
open Go.RowKit Go.Proofs.Ytcdlhjfiboomkaa.Z Go.Proofs.YtcdlhjfiboomkaaW.PrintWords

theorem pm_IntS (l : List Int) (m : Int) (h0 : 0 ≤ m) (h1 : m + ((1 * l.length : Nat) : Int) ≤ 4611686018427387904) : Ev (fun k => laws_markIntS.f k l m) (m + ((1 * l.length : Nat) : Int), marked 1 (fun m => m) m l.length) := by
  unfold laws_markIntS.f
  refine mark_loop 1 (fun m => m) l.length (fun i s m k => laws_markIntS.l0 k s m (i : Int)) ?_ ?_ l m rfl h0 h1
  · intro s m hs
    refine Ev.step (fun k => by rw [laws_markIntS.l0]) ?_
    exact Ev.ifneg (by omega) (Ev.now _)
  · intro i s m r hi hs h0 h1 hr
    refine Ev.step (fun k => by rw [laws_markIntS.l0]) ?_
    refine Ev.ifpos (by omega) (Ev.ifpos (by omega) ?_)
    rw [wrap_succ (by omega), wrap_in (by omega) (by omega), Int.toNat_natCast]
    exact hr

theorem getD_mid {α : Type} (a : List α) (x z : α) (b : List α) : (a ++ x :: b).getD ((a.length : Int)).toNat z = x := by
  rw [Int.toNat_natCast, List.getD_eq_getElem?_getD, List.getElem?_append_right (Nat.le_refl _), Nat.sub_self]
  rfl
theorem set_mid {α : Type} (a : List α) (x y : α) (b : List α) : (a ++ x :: b).set ((a.length : Int)).toNat y = (a ++ [y]) ++ b := by
  rw [Int.toNat_natCast, List.set_append_right _ _ (Nat.le_refl _), Nat.sub_self, List.set_cons_zero, List.append_assoc]
  rfl

end Go.Proofs.Ytcdlhjfiboomkaa.Pure
/- Plain lemmas: marks of probes. Condition: the numbers fit. -/
namespace Go.Proofs.Ytcdlhjfiboomkaa.Pure
open Go.RowKit Go.Proofs.Ytcdlhjfiboomkaa.Z Go.Proofs.YtcdlhjfiboomkaaW.PrintWords

def totP : List S58 → Nat
  | [] => 0
  | p :: ps => 2 + p.f2.length + totP ps
def markPs : Int → List S58 → List S58
  | _, [] => []
  | m, p :: ps => ⟨m, m + 1, marked 1 (fun m => m) (m + 2) p.f2.length⟩ :: markPs (m + 2 + (p.f2.length : Int)) ps
theorem markPs_length : ∀ (m : Int) (l : List S58), (markPs m l).length = l.length
  | _, [] => rfl
  | m, r :: rs => by rw [markPs, List.length_cons, markPs_length, List.length_cons]

theorem mark_Ps_from : ∀ (l done : List S58) (m : Int), 0 ≤ m → m + (totP l : Int) ≤ 4611686018427387904 → done.length + l.length ≤ 4611686018427387904 → Ev (fun k => laws_markProbeS.l0 k (done ++ l) m (done.length : Int)) (m + (totP l : Int), done ++ markPs m l)
  | [], done, m, h0, h1, h2 => by
    rw [List.append_nil, markPs, List.append_nil, totP]
    refine Ev.step (fun k => by rw [laws_markProbeS.l0]) ?_
    exact Ev.ifneg (by omega) (Ev.pure (by simp))
  | r :: rs, done, m, h0, h1, h2 => by
    rw [totP] at h1
    rw [List.length_cons] at h2
    have hl : (done ++ r :: rs).length = done.length + rs.length + 1 := by simp; omega
    refine Ev.step (fun k => by rw [laws_markProbeS.l0]) ?_
    refine Ev.ifpos (by omega) (Ev.ifpos (by omega) ?_)
    have w1 : wrap64 (m + 1) = m + 1 := wrap_in (by omega) (by omega)
    have w2 : wrap64 (m + 1 + 1) = m + 2 := by rw [wrap_in (by omega) (by omega)]; omega
    rw [w1, w2, show rd_T58 (done ++ r :: rs) (done.length : Int) = r from getD_mid _ _ _ _]
    refine Ev.bind (pm_IntS r.f2 (m + 2) (by omega) (by omega)) ?_
    rw [set_mid, wrap_succ (by omega)]
    have ih := mark_Ps_from rs (done ++ [⟨m, m + 1, marked 1 (fun m => m) (m + 2) r.f2.length⟩]) (m + 2 + (r.f2.length : Int)) (by omega) (by omega) (by rw [List.length_append, List.length_singleton]; omega)
    rw [List.length_append, List.length_singleton] at ih
    rw [markPs, totP]
    have e1 : m + 2 + ((1 * r.f2.length : Nat) : Int) = m + 2 + (r.f2.length : Int) := by omega
    have e2 : m + 2 + (r.f2.length : Int) + (totP rs : Int) = m + ((2 + r.f2.length + totP rs : Nat) : Int) := by omega
    rw [e2] at ih
    simp only [List.append_assoc, List.singleton_append] at ih
    simp only [e1]
    rw [List.append_assoc, List.singleton_append]
    exact ih

theorem mark_ProbeS (l : List S58) (m : Int) (h0 : 0 ≤ m) (h1 : m + (totP l : Int) ≤ 4611686018427387904) (h2 : l.length ≤ 4611686018427387904) : Ev (fun k => laws_markProbeS.f k l m) (m + (totP l : Int), markPs m l) := by
  unfold laws_markProbeS.f
  have := mark_Ps_from l [] m h0 h1 (by simpa using h2)
  simpa using this

theorem totP_le (n : Nat) : ∀ l : List S58, (∀ r ∈ l, r.f2.length ≤ n) → totP l ≤ (n + 2) * l.length
  | [], _ => Nat.zero_le _
  | r :: rs, h => by
    have := totP_le n rs (fun x hx => h x (List.mem_cons_of_mem _ hx))
    have := h r (List.mem_cons_self ..)
    rw [totP, List.length_cons, Nat.mul_succ]
    omega

end Go.Proofs.Ytcdlhjfiboomkaa.Pure
/- Plain lemma: what holds the marks of numbers. Condition: the numbers fit. -/
namespace Go.Proofs.Ytcdlhjfiboomkaa.Pure
open Go.RowKit Go.Proofs.Ytcdlhjfiboomkaa.Z Go.Proofs.YtcdlhjfiboomkaaW.PrintWords

theorem ph_IntS (n : Nat) (m : Int) (h0 : 0 ≤ m) (h1 : m + ((1 * n : Nat) : Int) ≤ 4611686018427387904) : Ev (fun k => laws_heldIntS.f k (marked 1 (fun m => m) m n) m) (m + ((1 * n : Nat) : Int)) := by
  unfold laws_heldIntS.f
  have hn := marked_length 1 (fun m => m) m n
  refine held_loop 1 n m (fun i q k => laws_heldIntS.l0 k (marked 1 (fun m => m) m n) q (i : Int)) ?_ ?_
  · intro q
    refine Ev.step (fun k => by rw [laws_heldIntS.l0]) ?_
    exact Ev.ifneg (by omega) (Ev.now _)
  · intro i r hi hr
    refine Ev.step (fun k => by rw [laws_heldIntS.l0]) ?_
    have hle : ((1 * i : Nat) : Int) + 1 ≤ ((1 * n : Nat) : Int) := by omega
    refine Ev.ifpos (by omega) (Ev.ifpos (by omega) ?_)
    rw [rd_get _ i (by omega), marked_get]
    have w0 : wrap64 (m + ((1 * i : Nat) : Int) + 1) = m + ((1 * i : Nat) : Int) + 1 := wrap_in (by omega) (by omega)
    simp only [w0]
    refine Ev.ifpos (by first | trivial | rfl) ?_
    rw [wrap_succ (by omega)]
    exact hr

end Go.Proofs.Ytcdlhjfiboomkaa.Pure
/- Plain lemma: what holds the marks of probes. Condition: the numbers fit. -/
namespace Go.Proofs.Ytcdlhjfiboomkaa.Pure
open Go.RowKit Go.Proofs.Ytcdlhjfiboomkaa.Z Go.Proofs.YtcdlhjfiboomkaaW.PrintWords

theorem held_Ps_from : ∀ (l done : List S58) (m : Int), 0 ≤ m → m + (totP l : Int) ≤ 4611686018427387904 → done.length + l.length ≤ 4611686018427387904 → Ev (fun k => laws_heldProbeS.l0 k (done ++ markPs m l) m (done.length : Int)) (m + (totP l : Int))
  | [], done, m, h0, h1, h2 => by
    rw [markPs, List.append_nil, totP]
    refine Ev.step (fun k => by rw [laws_heldProbeS.l0]) ?_
    exact Ev.ifneg (by omega) (Ev.pure (by simp))
  | r :: rs, done, m, h0, h1, h2 => by
    rw [totP] at h1
    rw [List.length_cons] at h2
    rw [markPs, totP]
    have hl : (done ++ (⟨m, m + 1, marked 1 (fun m => m) (m + 2) r.f2.length⟩ : S58) :: markPs (m + 2 + (r.f2.length : Int)) rs).length = done.length + rs.length + 1 := by simp [markPs_length]; omega
    refine Ev.step (fun k => by rw [laws_heldProbeS.l0]) ?_
    refine Ev.ifpos (by omega) (Ev.ifpos (by omega) ?_)
    have w1 : wrap64 (m + 1) = m + 1 := wrap_in (by omega) (by omega)
    have w2 : wrap64 (m + 1 + 1) = m + 2 := by rw [wrap_in (by omega) (by omega)]; omega
    rw [w1, w2, show rd_T58 (done ++ (⟨m, m + 1, marked 1 (fun m => m) (m + 2) r.f2.length⟩ : S58) :: markPs (m + 2 + (r.f2.length : Int)) rs) (done.length : Int) = ⟨m, m + 1, marked 1 (fun m => m) (m + 2) r.f2.length⟩ from getD_mid _ _ _ _]
    refine Ev.ifpos rfl (Ev.ifpos rfl ?_)
    refine Ev.bind (ph_IntS r.f2.length (m + 2) (by omega) (by omega)) (Ev.ifneg (by omega) ?_)
    rw [wrap_succ (by omega)]
    have ih := held_Ps_from rs (done ++ [⟨m, m + 1, marked 1 (fun m => m) (m + 2) r.f2.length⟩]) (m + 2 + (r.f2.length : Int)) (by omega) (by omega) (by rw [List.length_append, List.length_singleton]; omega)
    rw [List.length_append, List.length_singleton, List.append_assoc, List.singleton_append] at ih
    have e1 : m + 2 + ((1 * r.f2.length : Nat) : Int) = m + 2 + (r.f2.length : Int) := by omega
    have e2 : m + 2 + (r.f2.length : Int) + (totP rs : Int) = m + ((2 + r.f2.length + totP rs : Nat) : Int) := by omega
    rw [e2] at ih
    rw [e1]
    exact ih

theorem held_ProbeS (l : List S58) (m : Int) (h0 : 0 ≤ m) (h1 : m + (totP l : Int) ≤ 4611686018427387904) (h2 : l.length ≤ 4611686018427387904) : Ev (fun k => laws_heldProbeS.f k (markPs m l) m) (m + (totP l : Int)) := by
  unfold laws_heldProbeS.f
  have := held_Ps_from l [] m h0 h1 (by simpa using h2)
  simpa using this

end Go.Proofs.Ytcdlhjfiboomkaa.Pure
namespace Go.Proofs.Ytcdlhjfiboomkaa.Pure
open Go.RowKit Go.Proofs.Ytcdlhjfiboomkaa.Z Go.Proofs.YtcdlhjfiboomkaaW.PrintWords

theorem FnExactProbesOf : laws_FnExactProbesOf.Pure := by
  intro n l q hx _ _ _
  refine Ev.rounds ?_
  unfold laws_FnExactProbesOf.f
  by_cases hq : (q.length : Int) > 1048576
  · exact Ev.ifpos hq (Ev.now _)
  refine Ev.ifneg hq ?_
  obtain ⟨s, hs, hs2⟩ := sz_Net ⟨n, l⟩ hx.2.1 1048576 (by omega) (by omega)
  by_cases hn : s < 0
  · exact Ev.bind0 hs (Ev.ifpos hn (Ev.now _))
  have hsm := (hs2 (by omega)).2
  have ht := to_Net ⟨n, l⟩ hsm
  have hlen : (l.map c67_64).length ≤ 1048576 := by simpa using hsm.2.1
  have h1 := spec_probesOf n (l.map c67_64) q (by omega) (by omega)
  have h2 := impl_probesOf n (l.map c67_64) q (by omega) (by omega)
  have he := eq_Net ⟨n, l.map c67_64⟩ ⟨trivial, hlen, fun _ _ => ⟨trivial, trivial⟩⟩
  have hl12 := pAll_len n (l.map c67_64) q [] (by simp)
  have hon : OnRoute n (l.map c67_64) (pAll n (l.map c67_64) q []) := pAll_on q (fun _ h => by cases h)
  have h8 : ∀ p ∈ pAll n (l.map c67_64) q [], p.f2.length ≤ 8 := fun p hp => by
    rw [(hon p hp).1]
    exact routeTo_len _ _ _ _
  clear hon
  have hm := mark_LinkS (l.map c67_64) 1 (by omega) (by omega)
  have hmn : Ev (fun k => laws_markNet.f k n (l.map c67_64) 1) (1 + ((2 * (l.map c67_64).length : Nat) : Int), marked 2 (fun m => (⟨m, m + 1⟩ : S64)) 1 (l.map c67_64).length) := by
    unfold laws_markNet.f
    exact Ev.bind hm (Ev.now _)
  generalize pAll n (l.map c67_64) q [] = o at h1 h2 hl12 h8
  have hi := eq_ProbeS o ⟨by omega, fun p hp => ⟨trivial, trivial, (by have := h8 p hp; omega : p.f2.length ≤ 1048576), fun _ _ => trivial⟩⟩
  have hti := to_IntS q ⟨by omega, fun _ _ => trivial⟩
  have hei := eq_IntS q (by unfold maxLen; omega)
  have hmi := mark_IntS q (1 + ((2 * (l.map c67_64).length : Nat) : Int)) (by omega) (by omega)
  have ht1 := totP_le 8 o h8
  have hmp := mark_ProbeS o 1 (by omega) (by omega) (by omega)
  have hhp := held_ProbeS o 1 (by omega) (by omega) (by omega)
  refine Ev.bind0 hs (Ev.ifneg hn (Ev.bind ht (Ev.bind hti (Ev.bind h1 (Ev.bind ht (Ev.bind hti (Ev.bind h2 (Ev.bind hi (Ev.ifpos rfl ?_)))))))))
  refine Ev.bind ht (Ev.bind he (Ev.ifpos rfl (Ev.bind hti (Ev.bind hei (Ev.ifpos rfl (Ev.bind hmn (Ev.bind hmi (Ev.ifneg (by omega) (Ev.bind hi (Ev.ifpos rfl ?_))))))))))
  refine Ev.bind hmp (Ev.bind hhp (Ev.ifneg (by omega) (Ev.ifpos rfl (Ev.bind ht (Ev.bind hti (Ev.bind h2 (Ev.bind hi (Ev.ifpos rfl ?_))))))))
  exact Ev.bind hhp (Ev.ifneg (by omega) (Ev.ifpos rfl (Ev.now _)))

end Go.Proofs.Ytcdlhjfiboomkaa.Pure
