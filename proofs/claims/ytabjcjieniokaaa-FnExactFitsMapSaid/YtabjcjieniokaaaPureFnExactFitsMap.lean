/- The statement: for every network and traces, the program's FitsMap answers as the reference's does, and leaves both as they were. No condition. -/
import Derived.Test.YtabjcjieniokaaaWWords
import Derived.Test.YtabjcjieniokaaaWLast
import Derived.Test.YtabjcjieniokaaaWMore
import Derived.Test.YtabjcjieniokaaaZ5
import Derived.Test.YtabjcjieniokaaaZ9
import Derived.Test.YtabjcjieniokaaaZ10
import Derived.Test.YtabjcjieniokaaaZ12
import Derived.Test.YtabjcjieniokaaaZ13
import Derived.Test.YtabjcjieniokaaaZ6
import Derived.Test.YtabjcjieniokaaaZFirst
import Derived.Test.YtabjcjieniokaaaZ4
import Derived.Test.YtabjcjieniokaaaZ3
import Derived.Test.YtabjcjieniokaaaZ8
import Derived.Test.YtabjcjieniokaaaZ7
import Derived.Test.YtabjcjieniokaaaZ11
import Derived.Test.YtabjcjieniokaaaZDefFnExactFitsMap
/- Plain lemmas for what the printed functions come to: loops that go up, indices that do not wrap, reads. No condition. -/
namespace Go.Proofs.Ytabjcjieniokaaa.Pure
open Go.RowKit Go.Proofs.YtabjcjieniokaaaW.PrintWords Go.Proofs.YtabjcjieniokaaaW.PrintLast Go.Proofs.YtabjcjieniokaaaW.PrintMore

/-- A loop that goes up to n: at each index it comes to R, if it does so one index further. -/
theorem Ev.up {σ ρ : Type} (n : Nat) (G : Nat → σ → Nat → Option ρ) (R : Nat → σ → ρ) (Inv : Nat → σ → Prop) (hend : ∀ s, Inv n s → Ev (G n s) (R n s))
    (hstep : ∀ i s, i < n → Inv i s → (∀ s', Inv (i + 1) s' → Ev (G (i + 1) s') (R (i + 1) s')) → Ev (G i s) (R i s)) : ∀ i s, i ≤ n → Inv i s → Ev (G i s) (R i s) := by
  have key : ∀ d i s, i + d = n → Inv i s → Ev (G i s) (R i s) := by
    intro d
    induction d with
    | zero => intro i s h hi; obtain rfl : i = n := by omega
              exact hend s hi
    | succ d ih => intro i s h hi; exact hstep i s (by omega) hi (fun s' hs' => ih (i + 1) s' (by omega) hs')
  intro i s h hi
  exact key (n - i) i s (by omega) hi

/-- The same without a state. -/
theorem Ev.up0 {ρ : Type} (n : Nat) (G : Nat → Nat → Option ρ) (R : Nat → ρ) (hend : Ev (G n) (R n)) (hstep : ∀ i, i < n → Ev (G (i + 1)) (R (i + 1)) → Ev (G i) (R i)) : ∀ i, i ≤ n → Ev (G i) (R i) := by
  intro i h
  exact Ev.up n (fun i (_ : Unit) => G i) (fun i _ => R i) (fun _ _ => True) (fun _ _ => hend) (fun i s hi _ hn => hstep i hi (hn () trivial)) i () h trivial

theorem Ev.det {α : Type} {g : Nat → Option α} {r q : α} (h : Ev g r) (h' : Ev g q) : r = q := by
  obtain ⟨K, h⟩ := h
  obtain ⟨K', h'⟩ := h'
  have a := h (max K K') (by omega)
  have b := h' (max K K') (by omega)
  rw [a] at b
  exact Option.some.inj b

theorem Ev.const {α : Type} {g : Nat → Option α} {r : α} (h : ∀ k, g k = some r) : Ev g r := ⟨0, fun k _ => h k⟩

theorem Ev.ifpos {α : Type} {c : Prop} [Decidable c] {g f : Nat → Option α} {r : α} (hc : c) (h : Ev g r) : Ev (fun k => if c then g k else f k) r := Ev.congr (fun k => by rw [if_pos hc]) h
theorem Ev.ifneg {α : Type} {c : Prop} [Decidable c] {g f : Nat → Option α} {r : α} (hc : ¬ c) (h : Ev f r) : Ev (fun k => if c then g k else f k) r := Ev.congr (fun k => by rw [if_neg hc]) h
theorem Ev.pure {α : Type} {a r : α} (h : a = r) : Ev (fun _ => some a) r := by subst h; exact Ev.now _

/-- A call that needs no rounds. -/
theorem Ev.bind0 {α β : Type} {g : Option α} {f : Nat → α → Option β} {a : α} {r : β} (h : g = some a) (k : Ev (fun n => f n a) r) : Ev (fun n => g.bind (f n)) r :=
  Ev.congr (fun n => by rw [h]; rfl) k

theorem wrap_in {n : Int} (h0 : -9223372036854775808 ≤ n) (h1 : n ≤ 9223372036854775807) : wrap64 n = n := by unfold wrap64; omega
theorem wrap_succ {i : Nat} (h : i < 9223372036854775807) : wrap64 ((i : Int) + 1) = ((i + 1 : Nat) : Int) := by unfold wrap64; omega

theorem rd_nat (xs : List Int) (i : Nat) : rd xs (i : Int) = xs.getD i 0 := by unfold rd; rw [Int.toNat_natCast]
theorem rd_get (xs : List Int) (i : Nat) (h : i < xs.length) : rd xs (i : Int) = xs[i] := by rw [rd_nat, List.getD_eq_getElem?_getD, List.getElem?_eq_getElem h]; rfl
theorem getD_get {α : Type} (xs : List α) (i : Nat) (z : α) (h : i < xs.length) : xs.getD (i : Int).toNat z = xs[i] := by rw [Int.toNat_natCast, List.getD_eq_getElem?_getD, List.getElem?_eq_getElem h]; rfl

theorem drop_get {α : Type} (xs : List α) (i : Nat) (h : i < xs.length) : xs.drop i = xs[i] :: xs.drop (i + 1) := List.drop_eq_getElem_cons h

theorem take_set_self {α : Type} (s : List α) (i : Nat) (a : α) : (s.set i a).take i = s.take i := by
  apply List.ext_getElem?
  intro j
  by_cases h : j < i
  · rw [List.getElem?_take, List.getElem?_take, if_pos h, if_pos h, List.getElem?_set_ne (by omega)]
  · rw [List.getElem?_take, List.getElem?_take, if_neg h, if_neg h]

/-- A loop that copies, element by element. -/
theorem copy_loop {α β : Type} (l : List α) (f : α → β) (G : Nat → List β → Nat → Option (List β)) (hend : ∀ s : List β, Ev (G l.length s) s)
    (hstep : ∀ i (hi : i < l.length) (s r : List β), s.length = l.length → Ev (G (i + 1) (s.set i (f l[i]))) r → Ev (G i s) r) (s : List β) (hs : s.length = l.length) : Ev (G 0 s) (l.map f) := by
  have key := Ev.up l.length G (fun i s => s.take i ++ (l.map f).drop i) (fun _ s => s.length = l.length)
    (fun s hs => by
      have e : s.take l.length ++ (l.map f).drop l.length = s := by rw [List.take_of_length_le (by omega), List.drop_of_length_le (by simp), List.append_nil]
      simp only [e]
      exact hend s)
    (fun i s hi hs ih => by
      have h1 := ih (s.set i (f l[i])) (by simpa using hs)
      have e : (s.set i (f l[i])).take (i + 1) ++ (l.map f).drop (i + 1) = s.take i ++ (l.map f).drop i := by
        rw [List.take_succ_eq_append_getElem (by simp; omega), List.drop_eq_getElem_cons (l := l.map f) (i := i) (by simpa using hi), take_set_self]
        simp
      simp only [e] at h1
      exact hstep i hi s _ hs h1) 0 s (Nat.zero_le _) hs
  simpa using key

/-- A loop that takes off what the elements weigh. -/
theorem sz_loop {α : Type} (l : List α) (sm : α → Prop) (G : Nat → Int → Nat → Option Int) (hend : ∀ s : Int, Ev (G l.length s) s)
    (hstep : ∀ i (hi : i < l.length) (s : Int), 0 ≤ s → s ≤ 1048576 → Ev (G i s) (-1) ∨ ∃ q : Int, 0 ≤ q ∧ q ≤ s ∧ sm l[i] ∧ ∀ r, Ev (G (i + 1) q) r → Ev (G i s) r) (s : Int) (h0 : 0 ≤ s) (h1 : s ≤ 1048576) :
    ∃ r : Int, Ev (G 0 s) r ∧ (0 ≤ r → r ≤ s ∧ ∀ x ∈ l, sm x) := by
  have key : ∀ d i (s : Int), i + d = l.length → 0 ≤ s → s ≤ 1048576 → ∃ r : Int, Ev (G i s) r ∧ (0 ≤ r → r ≤ s ∧ ∀ x ∈ l.drop i, sm x) := by
    intro d
    induction d with
    | zero =>
      intro i s hi h0 h1
      obtain rfl : i = l.length := by omega
      exact ⟨s, hend s, fun _ => ⟨Int.le_refl _, by simp⟩⟩
    | succ d ih =>
      intro i s hi h0 h1
      have hlt : i < l.length := by omega
      rcases hstep i hlt s h0 h1 with h | ⟨q, hq0, hq1, hsm, hnext⟩
      · exact ⟨-1, h, fun h => by omega⟩
      · obtain ⟨r, hr, hr2⟩ := ih (i + 1) q (by omega) hq0 (by omega)
        refine ⟨r, hnext r hr, fun h => ⟨by have := (hr2 h).1; omega, ?_⟩⟩
        rw [drop_get l i hlt]
        intro x hx
        rcases List.mem_cons.1 hx with rfl | hx
        · exact hsm
        · exact (hr2 h).2 x hx
  simpa using key l.length 0 s (by omega) h0 h1

/-- What a mark leaves: element i holds the numbers from m + c * i on. -/
def marked {α : Type} (c : Nat) (mk : Int → α) (m : Int) (n : Nat) : List α := (List.range n).map fun i => mk (m + ((c * i : Nat) : Int))
theorem marked_length {α : Type} (c : Nat) (mk : Int → α) (m : Int) (n : Nat) : (marked c mk m n).length = n := by simp [marked]
theorem marked_get {α : Type} (c : Nat) (mk : Int → α) (m : Int) (n i : Nat) (h : i < (marked c mk m n).length) : (marked c mk m n)[i] = mk (m + ((c * i : Nat) : Int)) := by simp [marked]
theorem marked_succ {α : Type} (c : Nat) (mk : Int → α) (m : Int) (n : Nat) : marked c mk m (n + 1) = mk m :: marked c mk (m + (c : Int)) n := by
  unfold marked
  rw [List.range_succ_eq_map, List.map_cons, List.map_map]
  congr 1
  · simp
  · apply List.map_congr_left
    intro i _
    show mk _ = mk _
    congr 1
    rw [Nat.mul_succ]
    omega

theorem mark_loop {α : Type} (c : Nat) (mk : Int → α) (n : Nat) (G : Nat → List α → Int → Nat → Option (Int × List α)) (hend : ∀ (s : List α) (m : Int), s.length = n → Ev (G n s m) (m, s))
    (hstep : ∀ i (s : List α) (m : Int) r, i < n → s.length = n → 0 ≤ m → m ≤ 4611686018427387904 → Ev (G (i + 1) (s.set i (mk m)) (m + (c : Int))) r → Ev (G i s m) r)
    (s : List α) (m : Int) (hs : s.length = n) (h0 : 0 ≤ m) (h1 : m + ((c * n : Nat) : Int) ≤ 4611686018427387904) : Ev (G 0 s m) (m + ((c * n : Nat) : Int), marked c mk m n) := by
  have key : ∀ d i (s : List α) (m : Int), i + d = n → s.length = n → 0 ≤ m → m + ((c * d : Nat) : Int) ≤ 4611686018427387904 → Ev (G i s m) (m + ((c * d : Nat) : Int), s.take i ++ marked c mk m d) := by
    intro d
    induction d with
    | zero =>
      intro i s m hi hs h0 h1
      obtain rfl : i = n := by omega
      have e : s.take i ++ marked c mk m 0 = s := by rw [List.take_of_length_le (by omega)]; simp [marked]
      rw [e]
      simpa using hend s m hs
    | succ d ih =>
      intro i s m hi hs h0 h1
      rw [Nat.mul_succ] at h1
      have h2 := ih (i + 1) (s.set i (mk m)) (m + (c : Int)) (by omega) (by simpa using hs) (by omega) (by omega)
      have e : (s.set i (mk m)).take (i + 1) ++ marked c mk (m + (c : Int)) d = s.take i ++ marked c mk m (d + 1) := by
        rw [List.take_succ_eq_append_getElem (by simp; omega), marked_succ, take_set_self]
        simp
      rw [e] at h2
      have e2 : m + (c : Int) + ((c * d : Nat) : Int) = m + ((c * (d + 1) : Nat) : Int) := by rw [Nat.mul_succ]; omega
      rw [e2] at h2
      exact hstep i s m _ (by omega) hs h0 (by omega) h2
  have := key n 0 s m (by omega) hs h0 h1
  simpa using this

theorem held_loop (c : Nat) (n : Nat) (m0 : Int) (G : Nat → Int → Nat → Option Int) (hend : ∀ m : Int, Ev (G n m) m)
    (hstep : ∀ i r, i < n → Ev (G (i + 1) (m0 + ((c * i : Nat) : Int) + (c : Int))) r → Ev (G i (m0 + ((c * i : Nat) : Int))) r) : Ev (G 0 m0) (m0 + ((c * n : Nat) : Int)) := by
  have key := Ev.up0 n (fun i => G i (m0 + ((c * i : Nat) : Int))) (fun _ => m0 + ((c * n : Nat) : Int)) (hend _)
    (fun i hi ih => hstep i _ hi (by
      have e : m0 + ((c * i : Nat) : Int) + (c : Int) = m0 + ((c * (i + 1) : Nat) : Int) := by rw [Nat.mul_succ]; omega
      rw [e]
      exact ih)) 0 (Nat.zero_le _)
  simpa using key

end Go.Proofs.Ytabjcjieniokaaa.Pure
/- Plain lemmas on the laws' own helpers: copies, comparisons, sizes, marks. No condition. -/
namespace Go.Proofs.Ytabjcjieniokaaa.Pure
open Go.RowKit Go.Proofs.Ytabjcjieniokaaa.Z Go.Proofs.YtabjcjieniokaaaW.PrintWords
set_option linter.unusedSimpArgs false
set_option linter.unusedVariables false
def smL {α : Type} (sm : α → Prop) (l : List α) : Prop := l.length ≤ 1048576 ∧ ∀ x ∈ l, sm x
def okLen {α : Type} (l : List α) : Prop := l.length ≤ maxLen
def smS96 (x : S96) : Prop := (fun _ => True) x.f0 ∧ (fun _ => True) x.f1
theorem sz_LinkS (l : List S96) (hl : l.length ≤ maxLen) (s : Int) (h0 : 0 ≤ s) (h1 : s ≤ 1048576) : ∃ r : Int, laws_szLinkS.f l s = some r ∧ (0 ≤ r → r ≤ s ∧ (smL smS96) l) := by
  unfold maxLen at hl
  unfold laws_szLinkS.f
  rw [wrap_in (by omega) (by omega)]
  by_cases h : s - (l.length : Int) < 0
  · exact ⟨-1, by rw [if_pos h], fun h => by omega⟩
  · exact ⟨s - (l.length : Int), by rw [if_neg h], fun _ => ⟨by omega, by omega, fun _ _ => ⟨trivial, trivial⟩⟩⟩
def smS24 (x : S24) : Prop := (fun _ => True) x.f0 ∧ (smL smS96) x.f1
theorem sz_Net (x : S24) (hx : (fun x : S24 => okLen x.f1) x) (s : Int) (h0 : 0 ≤ s) (h1 : s ≤ 1048576) : ∃ r : Int, laws_szNet.f x.f0 x.f1 s = some r ∧ (0 ≤ r → r ≤ s ∧ smS24 x) := by
  obtain ⟨q, hq, hq2⟩ := sz_LinkS x.f1 hx s h0 h1
  unfold laws_szNet.f
  rw [hq]
  simp only [Option.bind_some]
  by_cases hneg : q < 0
  · exact ⟨-1, by rw [if_pos hneg], fun h => by omega⟩
  · exact ⟨q, by rw [if_neg hneg], fun h => ⟨(hq2 h).1, have hs := (hq2 h).2; ⟨trivial, hs⟩⟩⟩
theorem sz_IntS (l : List Int) (hl : l.length ≤ maxLen) (s : Int) (h0 : 0 ≤ s) (h1 : s ≤ 1048576) : ∃ r : Int, laws_szIntS.f l s = some r ∧ (0 ≤ r → r ≤ s ∧ (smL (fun _ => True)) l) := by
  unfold maxLen at hl
  unfold laws_szIntS.f
  rw [wrap_in (by omega) (by omega)]
  by_cases h : s - (l.length : Int) < 0
  · exact ⟨-1, by rw [if_pos h], fun h => by omega⟩
  · exact ⟨s - (l.length : Int), by rw [if_neg h], fun _ => ⟨by omega, by omega, fun _ _ => trivial⟩⟩
def smS62 (x : S62) : Prop := (smL (fun _ => True)) x.f0
theorem sz_Trace (x : S62) (hx : (fun x : S62 => okLen x.f0) x) (s : Int) (h0 : 0 ≤ s) (h1 : s ≤ 1048576) : ∃ r : Int, laws_szTrace.f x.f0 s = some r ∧ (0 ≤ r → r ≤ s ∧ smS62 x) := by
  obtain ⟨q, hq, hq2⟩ := sz_IntS x.f0 hx s h0 h1
  unfold laws_szTrace.f
  rw [hq]
  simp only [Option.bind_some]
  by_cases hneg : q < 0
  · exact ⟨-1, by rw [if_pos hneg], fun h => by omega⟩
  · exact ⟨q, by rw [if_neg hneg], fun h => ⟨(hq2 h).1, have hs := (hq2 h).2; hs⟩⟩
theorem rd_T62_get (xs : List S62) (i : Nat) (h : i < xs.length) : rd_T62 xs (i : Int) = xs[i] := getD_get xs i _ h
theorem sz_TraceS (l : List S62) (hl : l.length ≤ maxLen) (hx : ∀ x ∈ l, (fun x : S62 => okLen x.f0) x) (s : Int) (h0 : 0 ≤ s) (h1 : s ≤ 1048576) : ∃ r : Int, Ev (fun k => laws_szTraceS.f k l s) r ∧ (0 ≤ r → r ≤ s ∧ (smL smS62) l) := by
  unfold maxLen at hl
  unfold laws_szTraceS.f
  rw [wrap_in (by omega) (by omega)]
  by_cases h : s - (l.length : Int) < 0
  · exact ⟨-1, Ev.ifpos h (Ev.now _), fun h => by omega⟩
  · have key := sz_loop l smS62 (fun i s k => laws_szTraceS.l0 k l s (i : Int)) ?_ ?_ (s - (l.length : Int)) (by omega) (by omega)
    · obtain ⟨r, hr, hr2⟩ := key
      exact ⟨r, Ev.ifneg h hr, fun h => ⟨by have := (hr2 h).1; omega, by omega, (hr2 h).2⟩⟩
    · intro s
      refine Ev.step (fun k => by rw [laws_szTraceS.l0]) ?_
      exact Ev.ifneg (by omega) (Ev.now _)
    · intro i hi s h0 h1
      obtain ⟨q, hq, hq2⟩ := sz_Trace l[i] (hx _ (List.getElem_mem hi)) s h0 h1
      by_cases hneg : q < 0
      · refine .inl (Ev.step (fun k => by rw [laws_szTraceS.l0]) ?_)
        refine Ev.ifpos (by omega) (Ev.ifpos (by omega) ?_)
        rw [rd_T62_get l i hi]
        exact Ev.bind0 hq (Ev.ifpos hneg (Ev.now _))
      · refine .inr ⟨q, by omega, (hq2 (by omega)).1, (hq2 (by omega)).2, fun r hr => ?_⟩
        refine Ev.step (fun k => by rw [laws_szTraceS.l0]) ?_
        refine Ev.ifpos (by omega) (Ev.ifpos (by omega) ?_)
        rw [rd_T62_get l i hi]
        refine Ev.bind0 hq (Ev.ifneg hneg ?_)
        rw [wrap_succ (by omega)]
        exact hr
def c96_68 (x : S96) : S68 := ⟨x.f0, x.f1⟩
theorem to_Link (x : S96) : laws_toLink.f x.f0 x.f1 = some ((c96_68 x).f0, (c96_68 x).f1) := rfl
theorem rd_T96_get (xs : List S96) (i : Nat) (h : i < xs.length) : rd_T96 xs (i : Int) = xs[i] := getD_get xs i _ h
theorem to_LinkS (l : List S96) (h : (smL smS96) l) : Ev (fun k => laws_toLinkS.f k l) (l.map c96_68) := by
  unfold laws_toLinkS.f
  have hl := h.1
  refine Ev.ifpos (by omega) (Ev.ifpos (by omega) ?_)
  rw [Int.toNat_natCast]
  have key := copy_loop l c96_68 (fun i s k => laws_toLinkS.l0 k l s (i : Int)) ?_ ?_ (List.replicate l.length z68) (by simp)
  · exact key
  · intro s
    refine Ev.step (fun k => by rw [laws_toLinkS.l0]) ?_
    exact Ev.ifneg (by omega) (Ev.now _)
  · intro i hi s r hs hr
    refine Ev.step (fun k => by rw [laws_toLinkS.l0]) ?_
    refine Ev.ifpos (by omega) (Ev.ifpos (by omega) ?_)
    rw [rd_T96_get l i hi]
    refine Ev.bind0 (to_Link l[i]) ?_
    refine Ev.ifpos (by omega) ?_
    rw [wrap_succ (by omega), Int.toNat_natCast]
    exact hr
def c24_31 (x : S24) : S31 := ⟨x.f0, (List.map c96_68) x.f1⟩
theorem to_Net (x : S24) (h : smS24 x) : Ev (fun k => laws_toNet.f k x.f0 x.f1) ((c24_31 x).f0, (c24_31 x).f1) := by
  unfold laws_toNet.f
  exact Ev.bind (to_LinkS x.f1 h.2) (Ev.now _)
theorem to_IntS (l : List Int) (h : (smL (fun _ => True)) l) : Ev (fun k => laws_toIntS.f k l) (l) := by
  unfold laws_toIntS.f
  have hl := h.1
  refine Ev.ifpos (by omega) (Ev.ifpos (by omega) ?_)
  rw [Int.toNat_natCast]
  have key := copy_loop l id (fun i s k => laws_toIntS.l0 k l s (i : Int)) ?_ ?_ (List.replicate l.length 0) (by simp)
  · rw [List.map_id] at key; exact key
  · intro s
    refine Ev.step (fun k => by rw [laws_toIntS.l0]) ?_
    exact Ev.ifneg (by omega) (Ev.now _)
  · intro i hi s r hs hr
    refine Ev.step (fun k => by rw [laws_toIntS.l0]) ?_
    refine Ev.ifpos (by omega) (Ev.ifpos (by omega) ?_)
    refine Ev.ifpos (by omega) ?_
    rw [rd_get l i hi, wrap_succ (by omega), Int.toNat_natCast]
    exact hr
def c62_70 (x : S62) : S70 := ⟨x.f0⟩
theorem to_Trace (x : S62) (h : smS62 x) : Ev (fun k => laws_toTrace.f k x.f0) (c62_70 x).f0 := by
  unfold laws_toTrace.f
  exact Ev.bind (to_IntS x.f0 h) (Ev.now _)
theorem to_TraceS (l : List S62) (h : (smL smS62) l) : Ev (fun k => laws_toTraceS.f k l) (l.map c62_70) := by
  unfold laws_toTraceS.f
  have hl := h.1
  refine Ev.ifpos (by omega) (Ev.ifpos (by omega) ?_)
  rw [Int.toNat_natCast]
  have key := copy_loop l c62_70 (fun i s k => laws_toTraceS.l0 k l s (i : Int)) ?_ ?_ (List.replicate l.length z70) (by simp)
  · exact key
  · intro s
    refine Ev.step (fun k => by rw [laws_toTraceS.l0]) ?_
    exact Ev.ifneg (by omega) (Ev.now _)
  · intro i hi s r hs hr
    refine Ev.step (fun k => by rw [laws_toTraceS.l0]) ?_
    refine Ev.ifpos (by omega) (Ev.ifpos (by omega) ?_)
    rw [rd_T62_get l i hi]
    refine Ev.bind (to_Trace l[i] (h.2 _ (List.getElem_mem hi))) ?_
    refine Ev.ifpos (by omega) ?_
    rw [wrap_succ (by omega), Int.toNat_natCast]
    exact hr
theorem eq_Link (x : S68) : laws_eqLink.f x.f0 x.f1 x.f0 x.f1 = some true := by
  unfold laws_eqLink.f
  simp
theorem rd_T68_get (xs : List S68) (i : Nat) (h : i < xs.length) : rd_T68 xs (i : Int) = xs[i] := getD_get xs i _ h
theorem eq_LinkS (l : List S68) (h : l.length ≤ maxLen) : Ev (fun k => laws_eqLinkS.f k l l) true := by
  unfold maxLen at h
  unfold laws_eqLinkS.f
  refine Ev.ifpos rfl ?_
  exact Ev.up0 l.length (fun i k => laws_eqLinkS.l0 k l l (i : Int)) (fun _ => true)
    (Ev.step (fun k => by rw [laws_eqLinkS.l0]) (Ev.ifneg (by omega) (Ev.now _)))
    (fun i hi ih => by
      refine Ev.step (fun k => by rw [laws_eqLinkS.l0]) ?_
      refine Ev.ifpos (by omega) (Ev.ifpos (by omega) (Ev.ifpos (by omega) ?_))
      rw [rd_T68_get l i hi]
      refine Ev.bind0 (eq_Link l[i]) (Ev.ifpos rfl ?_)
      rw [wrap_succ (by omega)]
      exact ih) 0 (Nat.zero_le _)
def smS68 (x : S68) : Prop := (fun _ => True) x.f0 ∧ (fun _ => True) x.f1
def smS31 (x : S31) : Prop := (fun _ => True) x.f0 ∧ (smL smS68) x.f1
theorem eq_Net (x : S31) (h : smS31 x) : Ev (fun k => laws_eqNet.f k x.f0 x.f1 x.f0 x.f1) true := by
  unfold laws_eqNet.f
  refine Ev.ifpos rfl ?_
  refine Ev.bind (eq_LinkS x.f1 (Nat.le_trans (h.2).1 (by decide))) (Ev.ifpos rfl ?_)
  exact Ev.now _
theorem eq_IntS (l : List Int) (h : l.length ≤ maxLen) : Ev (fun k => laws_eqIntS.f k l l) true := by
  unfold maxLen at h
  unfold laws_eqIntS.f
  refine Ev.ifpos rfl ?_
  exact Ev.up0 l.length (fun i k => laws_eqIntS.l0 k l l (i : Int)) (fun _ => true)
    (Ev.step (fun k => by rw [laws_eqIntS.l0]) (Ev.ifneg (by omega) (Ev.now _)))
    (fun i hi ih => by
      refine Ev.step (fun k => by rw [laws_eqIntS.l0]) ?_
      refine Ev.ifpos (by omega) (Ev.ifpos (by omega) (Ev.ifpos (by omega) ?_))
      refine Ev.ifpos rfl ?_
      rw [wrap_succ (by omega)]
      exact ih) 0 (Nat.zero_le _)
def smS70 (x : S70) : Prop := (smL (fun _ => True)) x.f0
theorem eq_Trace (x : S70) (h : smS70 x) : Ev (fun k => laws_eqTrace.f k x.f0 x.f0) true := by
  unfold laws_eqTrace.f
  refine Ev.bind (eq_IntS x.f0 (Nat.le_trans (h).1 (by decide))) (Ev.ifpos rfl ?_)
  exact Ev.now _
theorem rd_T70_get (xs : List S70) (i : Nat) (h : i < xs.length) : rd_T70 xs (i : Int) = xs[i] := getD_get xs i _ h
theorem eq_TraceS (l : List S70) (h : (smL smS70) l) : Ev (fun k => laws_eqTraceS.f k l l) true := by
  have hl := h.1
  unfold laws_eqTraceS.f
  refine Ev.ifpos rfl ?_
  exact Ev.up0 l.length (fun i k => laws_eqTraceS.l0 k l l (i : Int)) (fun _ => true)
    (Ev.step (fun k => by rw [laws_eqTraceS.l0]) (Ev.ifneg (by omega) (Ev.now _)))
    (fun i hi ih => by
      refine Ev.step (fun k => by rw [laws_eqTraceS.l0]) ?_
      refine Ev.ifpos (by omega) (Ev.ifpos (by omega) (Ev.ifpos (by omega) ?_))
      rw [rd_T70_get l i hi]
      refine Ev.bind (eq_Trace l[i] (h.2 _ (List.getElem_mem hi))) (Ev.ifpos rfl ?_)
      rw [wrap_succ (by omega)]
      exact ih) 0 (Nat.zero_le _)
end Go.Proofs.Ytabjcjieniokaaa.Pure
/- Plain lemma: a loop that goes on while the elements are well. No condition. -/
namespace Go.Proofs.Ytabjcjieniokaaa.Pure
open Go.RowKit Go.Proofs.YtabjcjieniokaaaW.PrintWords

theorem all_step {α : Type} (p : α → Bool) (xs : List α) (G : Nat → Nat → Option Bool) (r0 : Bool) (hend : Ev (G xs.length) r0) (hstep : ∀ i (hi : i < xs.length) r, Ev (G (i + 1)) r → Ev (G i) (p xs[i] && r)) : Ev (G 0) (xs.all p && r0) := by
  have key := Ev.up0 xs.length G (fun i => (xs.drop i).all p && r0)
    (by rw [List.drop_of_length_le (Nat.le_refl _)]; simpa using hend)
    (fun i hi ih => by
      rw [drop_get xs i hi, List.all_cons, Bool.and_assoc]
      exact hstep i hi _ ih) 0 (Nat.zero_le _)
  simpa using key

/-- The same over the places. -/
theorem all_places (n : Nat) (p : Nat → Bool) (G : Nat → Nat → Option Bool) (r0 : Bool) (hend : Ev (G n) r0) (hstep : ∀ i, i < n → ∀ r, Ev (G (i + 1)) r → Ev (G i) (p i && r)) : Ev (G 0) ((List.range n).all p && r0) := by
  refine all_step p (List.range n) G r0 (by rw [List.length_range]; exact hend) (fun i hi r hr => ?_)
  rw [List.getElem_range]
  exact hstep i (by simpa using hi) r hr

end Go.Proofs.Ytabjcjieniokaaa.Pure
/- Plain lemma: what the reference's range test answers. No condition. -/
namespace Go.Proofs.Ytabjcjieniokaaa.Pure
open Go.RowKit Go.Proofs.Ytabjcjieniokaaa.Z Go.Proofs.YtabjcjieniokaaaW.PrintWords

theorem spec_in (n a b : Int) : spec_l1In.f n a b = some (decide (a ≤ n ∧ n ≤ b)) := by
  unfold spec_l1In.f
  by_cases h : a ≤ n <;> simp [h]

end Go.Proofs.Ytabjcjieniokaaa.Pure
/- Plain lemmas: loops that search. No condition. -/
namespace Go.Proofs.Ytabjcjieniokaaa.Pure
open Go.RowKit Go.Proofs.Ytabjcjieniokaaa.Z Go.Proofs.YtabjcjieniokaaaW.PrintWords

theorem firstAt_cons {α : Type} (p : α → Bool) (x : α) (xs : List α) : firstAt p (x :: xs) = if p x = true then 0 else if firstAt p xs < 0 then -1 else firstAt p xs + 1 := by
  unfold firstAt
  rw [List.findIdx_cons]
  cases h : p x
  · simp only [cond_false, List.length_cons, Bool.false_eq_true, if_false]
    by_cases h2 : xs.findIdx p < xs.length
    · rw [if_pos (by omega), if_pos h2, if_neg (by omega)]
      omega
    · rw [if_neg (by omega), if_neg h2]
      simp
  · simp

/-- A loop that searches from the front comes to the first place. -/
theorem first_loop {α : Type} (p : α → Bool) (xs : List α) (G : Nat → Nat → Option Int) (hend : Ev (G xs.length) (-1)) (hhit : ∀ i (hi : i < xs.length), p xs[i] = true → Ev (G i) (i : Int))
    (hmiss : ∀ i (hi : i < xs.length) r, p xs[i] = false → Ev (G (i + 1)) r → Ev (G i) r) : Ev (G 0) (firstAt p xs) := by
  have key := Ev.up0 xs.length G (fun i => if firstAt p (xs.drop i) < 0 then -1 else firstAt p (xs.drop i) + (i : Int))
    (by rw [List.drop_of_length_le (Nat.le_refl _)]; simpa [firstAt] using hend)
    (fun i hi ih => by
      rw [drop_get xs i hi, firstAt_cons]
      cases h : p xs[i]
      · simp only [Bool.false_eq_true, if_false]
        refine hmiss i hi _ h ?_
        by_cases h2 : firstAt p (xs.drop (i + 1)) < 0
        · rw [if_pos h2, if_pos (by omega)]
          rwa [if_pos h2] at ih
        · rw [if_neg h2, if_neg (by omega)]
          rw [if_neg h2] at ih
          have e : firstAt p (xs.drop (i + 1)) + ((i + 1 : Nat) : Int) = firstAt p (xs.drop (i + 1)) + 1 + (i : Int) := by omega
          rwa [e] at ih
      · simp only [if_true]
        rw [if_neg (by omega)]
        have := hhit i hi h
        simpa using this) 0 (Nat.zero_le _)
  rw [List.drop_zero] at key
  by_cases h : firstAt p xs < 0
  · have e : firstAt p xs = -1 := by
      unfold firstAt at h ⊢
      split at h
      · omega
      · rename_i h2; rw [if_neg h2]
    rw [if_pos h] at key
    rw [e]
    exact key
  · rw [if_neg h] at key
    simpa using key

/-- A loop that asks whether one holds. -/
theorem any_loop {α : Type} (p : α → Bool) (xs : List α) (G : Nat → Nat → Option Bool) (hend : Ev (G xs.length) false) (hhit : ∀ i (hi : i < xs.length), p xs[i] = true → Ev (G i) true)
    (hmiss : ∀ i (hi : i < xs.length) r, p xs[i] = false → Ev (G (i + 1)) r → Ev (G i) r) : Ev (G 0) (xs.any p) := by
  have key := Ev.up0 xs.length G (fun i => (xs.drop i).any p)
    (by rw [List.drop_of_length_le (Nat.le_refl _)]; simpa using hend)
    (fun i hi ih => by
      rw [drop_get xs i hi, List.any_cons]
      cases h : p xs[i]
      · simpa using hmiss i hi _ h ih
      · simpa using hhit i hi h) 0 (Nat.zero_le _)
  simpa using key

/-- A loop that asks whether all hold. -/
theorem all_loop {α : Type} (p : α → Bool) (xs : List α) (G : Nat → Nat → Option Bool) (r0 : Bool) (hend : Ev (G xs.length) r0) (hbad : ∀ i (hi : i < xs.length), p xs[i] = false → Ev (G i) false)
    (hgood : ∀ i (hi : i < xs.length) r, p xs[i] = true → Ev (G (i + 1)) r → Ev (G i) r) : Ev (G 0) (xs.all p && r0) := by
  have key := Ev.up0 xs.length G (fun i => (xs.drop i).all p && r0)
    (by rw [List.drop_of_length_le (Nat.le_refl _)]; simpa using hend)
    (fun i hi ih => by
      rw [drop_get xs i hi, List.all_cons]
      cases h : p xs[i]
      · simpa using hbad i hi h
      · simpa using hgood i hi _ h ih) 0 (Nat.zero_le _)
  simpa using key

end Go.Proofs.Ytabjcjieniokaaa.Pure
/- Plain lemma: the reference's search in a list of numbers. Condition: the list is not longer than a list can be. -/
namespace Go.Proofs.Ytabjcjieniokaaa.Pure
open Go.RowKit Go.Proofs.Ytabjcjieniokaaa.Z Go.Proofs.YtabjcjieniokaaaW.PrintWords

theorem spec_has (l : List Int) (x : Int) (hl : l.length ≤ 9223372036854775806) : Ev (fun k => spec_l7Has.f k l x) (l.any fun y => decide (y = x)) := by
  unfold spec_l7Has.f
  refine any_loop (fun y => decide (y = x)) l (fun i k => spec_l7Has.l0 k l x (i : Int)) ?_ ?_ ?_
  · refine Ev.step (fun k => by rw [spec_l7Has.l0]) ?_
    exact Ev.ifneg (by omega) (Ev.now _)
  · intro i hi h
    refine Ev.step (fun k => by rw [spec_l7Has.l0]) ?_
    refine Ev.ifpos (by omega) (Ev.ifpos (by omega) ?_)
    rw [rd_get l i hi]
    exact Ev.ifpos (of_decide_eq_true h) (Ev.now _)
  · intro i hi r h hr
    refine Ev.step (fun k => by rw [spec_l7Has.l0]) ?_
    refine Ev.ifpos (by omega) (Ev.ifpos (by omega) ?_)
    rw [rd_get l i hi, wrap_succ (by omega)]
    exact Ev.ifneg (of_decide_eq_false h) hr

end Go.Proofs.Ytabjcjieniokaaa.Pure
/- Plain lemma: the standard search in a list of numbers. Condition: the list is not longer than a list can be. -/
namespace Go.Proofs.Ytabjcjieniokaaa.Pure
open Go.RowKit Go.Proofs.Ytabjcjieniokaaa.Z Go.Proofs.YtabjcjieniokaaaW.PrintWords

theorem impl_index (l : List Int) (x : Int) (hl : l.length ≤ 9223372036854775806) : Ev (fun k => slices_Index_Sint.f k l x) (firstAt (fun y => decide (y = x)) l) := by
  unfold slices_Index_Sint.f
  refine first_loop (fun y => decide (y = x)) l (fun i k => slices_Index_Sint.l0 k l x (l.length : Int) (i : Int)) ?_ ?_ ?_
  · refine Ev.step (fun k => by rw [slices_Index_Sint.l0]) ?_
    exact Ev.ifneg (by omega) (Ev.now _)
  · intro i hi h
    refine Ev.step (fun k => by rw [slices_Index_Sint.l0]) ?_
    refine Ev.ifpos (by omega) (Ev.ifpos (by omega) (Ev.ifpos (by omega) ?_))
    rw [rd_get l i hi]
    exact Ev.ifpos (of_decide_eq_true h).symm (Ev.now _)
  · intro i hi r h hr
    refine Ev.step (fun k => by rw [slices_Index_Sint.l0]) ?_
    refine Ev.ifpos (by omega) (Ev.ifpos (by omega) (Ev.ifpos (by omega) ?_))
    rw [rd_get l i hi, wrap_succ (by omega)]
    exact Ev.ifneg (fun e => of_decide_eq_false h e.symm) hr

theorem impl_has (l : List Int) (x : Int) (hl : l.length ≤ 9223372036854775806) : Ev (fun k => slices_Contains_Sint.f k l x) (l.any fun y => decide (y = x)) := by
  unfold slices_Contains_Sint.f
  refine Ev.bind (impl_index l x hl) (Ev.pure ?_)
  exact firstAt_any _ _

end Go.Proofs.Ytabjcjieniokaaa.Pure
/- Plain law: a list has no repeats if no element stands among those before it. No condition. -/
namespace Go.Proofs.Ytabjcjieniokaaa.Pure
open Go.RowKit Go.Proofs.YtabjcjieniokaaaW.PrintWords

def dupOf (p : List Int) (i : Nat) : Bool := (p.take i).any fun y => decide (y = p.getD i 0)
theorem dupOf_get (p : List Int) (i : Nat) (h : i < p.length) : dupOf p i = (p.take i).any fun y => decide (y = p[i]) := by
  unfold dupOf
  rw [List.getD_eq_getElem?_getD, List.getElem?_eq_getElem h]
  rfl
theorem dupOf_iff (p : List Int) (i : Nat) (h : i < p.length) : dupOf p i = true ↔ ∃ j, ∃ hj : j < i, p[j] = p[i] := by
  rw [dupOf_get p i h, List.any_eq_true]
  constructor
  · rintro ⟨x, hx, e⟩
    obtain ⟨j, hj, e2⟩ := List.getElem_of_mem hx
    rw [List.length_take] at hj
    refine ⟨j, by omega, ?_⟩
    rw [List.getElem_take] at e2
    rw [e2]
    exact of_decide_eq_true e
  · rintro ⟨j, hj, e⟩
    refine ⟨p[j], ?_, decide_eq_true e⟩
    have : (p.take i)[j]'(by rw [List.length_take]; omega) = p[j] := List.getElem_take
    rw [← this]
    exact List.getElem_mem _
theorem nodup_iff_dup (p : List Int) : p.Nodup ↔ ∀ i, i < p.length → dupOf p i = false := by
  constructor
  · intro h i hi
    rw [Bool.eq_false_iff]
    intro hd
    obtain ⟨j, hj, e⟩ := (dupOf_iff p i hi).1 hd
    exact (List.pairwise_iff_getElem.1 h) j i (by omega) hi hj e
  · intro h
    refine List.pairwise_iff_getElem.2 (fun i j hi hj hij e => ?_)
    have h1 := h j hj
    rw [Bool.eq_false_iff] at h1
    exact h1 ((dupOf_iff p j hj).2 ⟨i, hij, e⟩)

end Go.Proofs.Ytabjcjieniokaaa.Pure
/- Plain lemma: what the program's allIn answers. Condition: the list is not longer than a list can be. -/
namespace Go.Proofs.Ytabjcjieniokaaa.Pure
open Go.RowKit Go.Proofs.Ytabjcjieniokaaa.Z Go.Proofs.YtabjcjieniokaaaW.PrintWords

theorem impl_allIn (l : List Int) (a b : Int) (hl : l.length ≤ 9223372036854775807) : Ev (fun k => impl_allIn.f k l a b) (l.all fun n => decide (a ≤ n ∧ n ≤ b)) := by
  unfold impl_allIn.f
  have key := all_loop (fun n : Int => decide (a ≤ n ∧ n ≤ b)) l (fun i k => impl_allIn.l0 k a b l (l.length : Int) (i : Int)) true ?_ ?_ ?_
  · simpa using key
  · refine Ev.step (fun k => by rw [impl_allIn.l0]) ?_
    exact Ev.ifneg (by omega) (Ev.now _)
  · intro i hi h
    refine Ev.step (fun k => by rw [impl_allIn.l0]) ?_
    refine Ev.ifpos (by omega) (Ev.ifpos (by omega) (Ev.ifpos (by omega) ?_))
    rw [rd_get l i hi]
    refine Ev.bind0 (a := false) ?_ (Ev.ifneg (by decide) (Ev.now _))
    simp only [decide_eq_false_iff_not] at h
    unfold impl_InRange.f
    by_cases h1 : a ≤ l[i]
    · rw [if_pos h1]
      simp only [Option.some.injEq, decide_eq_false_iff_not]
      omega
    · rw [if_neg h1]
  · intro i hi r h hr
    refine Ev.step (fun k => by rw [impl_allIn.l0]) ?_
    refine Ev.ifpos (by omega) (Ev.ifpos (by omega) (Ev.ifpos (by omega) ?_))
    rw [rd_get l i hi]
    simp only [decide_eq_true_eq] at h
    refine Ev.bind0 (a := true) ?_ (Ev.ifpos rfl ?_)
    · unfold impl_InRange.f
      rw [if_pos h.1]
      simp [h.2]
    · rw [wrap_succ (by omega)]
      exact hr

end Go.Proofs.Ytabjcjieniokaaa.Pure
/- Plain lemma: what the reference's and the program's AreTraces answer. Condition: the lists are not longer than the law's can be. -/
namespace Go.Proofs.Ytabjcjieniokaaa.Pure
open Go.RowKit Go.Proofs.Ytabjcjieniokaaa.Z Go.Proofs.YtabjcjieniokaaaW.PrintWords

abbrev Tr := S70
theorem rdTr (l : List Tr) (i : Nat) (h : i < l.length) : rd_T70 l (i : Int) = l[i] := getD_get l i _ h
def hopIn (p : List Int) (i : Nat) : Bool := decide (-1 ≤ p.getD i 0 ∧ p.getD i 0 ≤ 7)
def hopNew (p : List Int) (i : Nat) : Bool := !(decide (0 ≤ p.getD i 0) && dupOf p i)
def okTrace (t : Tr) : Bool := decide (t.f0.length ≤ 8) && (List.range t.f0.length).all (fun i => hopIn t.f0 i && hopNew t.f0 i)
def areTraces (l : List Tr) : Bool := l.all okTrace && decide (l.length ≤ 8)

theorem rd_nat' (p : List Int) (i : Nat) : rd p (i : Int) = p.getD i 0 := by
  unfold rd
  rw [Int.toNat_natCast]

theorem spec_areTraces (l : List Tr) (hl : l.length ≤ 1048576) (hr : ∀ t ∈ l, t.f0.length ≤ 1048576) : Ev (fun k => spec_AreTraces.f k l) (areTraces l) := by
  unfold spec_AreTraces.f areTraces
  refine all_step okTrace l (fun i k => spec_AreTraces.l0 k l (i : Int)) (decide (l.length ≤ 8)) ?_ ?_
  · refine Ev.step (fun k => by rw [spec_AreTraces.l0]) ?_
    exact Ev.ifneg (by omega) (Ev.pure (decide_eq_decide.2 (by omega)))
  · intro i hi r ih
    have hlen := hr l[i] (List.getElem_mem hi)
    refine Ev.step (fun k => by rw [spec_AreTraces.l0]) ?_
    rw [rdTr l i hi]
    refine Ev.ifpos (by omega) (Ev.ifpos (by omega) ?_)
    unfold okTrace
    by_cases h8 : (l[i].f0.length : Int) > 8
    · refine Ev.ifpos h8 (Ev.pure ?_)
      rw [decide_eq_false (by omega), Bool.false_and, Bool.false_and]
    · rw [decide_eq_true (by omega), Bool.true_and]
      refine Ev.ifneg h8 ?_
      generalize l[i].f0 = p at hlen h8
      refine all_places p.length (fun i => hopIn p i && hopNew p i) (fun j k => spec_AreTraces.l1 k l (i : Int) p (j : Int)) r ?_ ?_
      · refine Ev.step (fun k => by rw [spec_AreTraces.l1]) ?_
        rw [wrap_succ (i := i) (by omega)]
        exact Ev.ifneg (by omega) ih
      · intro j hj r2 ih2
        refine Ev.step (fun k => by rw [spec_AreTraces.l1]) ?_
        rw [wrap_succ (i := j) (by omega), rd_nat', Int.toNat_natCast]
        refine Ev.ifpos (by omega) (Ev.ifpos (by omega) (Ev.bind0 (spec_in _ _ _) ?_))
        show Ev (fun k => if hopIn p j = true then _ else _) _
        cases hopIn p j
        · exact Ev.ifneg (by decide) (Ev.pure (by simp))
        · refine Ev.ifpos rfl ?_
          rw [Bool.true_and]
          unfold hopNew
          by_cases h0 : p.getD j 0 ≥ 0
          · have h0' : 0 ≤ p.getD j 0 := h0
            refine Ev.ifpos h0 (Ev.ifpos (by omega) (Ev.bind (spec_has (p.take j) (p.getD j 0) (by rw [List.length_take]; omega)) ?_))
            rw [decide_eq_true h0', Bool.true_and]
            show Ev (fun k => if dupOf p j = true then _ else _) _
            cases dupOf p j
            · exact Ev.ifneg (by decide) (by simpa using ih2)
            · exact Ev.ifpos rfl (Ev.pure (by simp))
          · have h0' : ¬ 0 ≤ p.getD j 0 := h0
            rw [decide_eq_false h0']
            exact Ev.ifneg h0 (by simpa using ih2)

theorem hops_all (p : List Int) : (List.range p.length).all (fun i => hopIn p i && hopNew p i) = (p.all (fun n => decide (-1 ≤ n ∧ n ≤ 7)) && (List.range p.length).all (hopNew p)) := by
  rw [Bool.eq_iff_iff]
  simp only [List.all_eq_true, List.mem_range, Bool.and_eq_true]
  constructor
  · intro h
    refine ⟨fun n hn => ?_, fun i hi => (h i hi).2⟩
    obtain ⟨i, hi, rfl⟩ := List.getElem_of_mem hn
    have h1 := (h i hi).1
    unfold hopIn at h1
    rwa [List.getD_eq_getElem?_getD, List.getElem?_eq_getElem hi] at h1
  · rintro ⟨h1, h2⟩ i hi
    refine ⟨?_, h2 i hi⟩
    unfold hopIn
    rw [List.getD_eq_getElem?_getD, List.getElem?_eq_getElem hi]
    exact h1 _ (List.getElem_mem hi)

theorem impl_areTraces (l : List Tr) (hl : l.length ≤ 1048576) (hr : ∀ t ∈ l, t.f0.length ≤ 1048576) : Ev (fun k => impl_AreTraces.f k l) (areTraces l) := by
  unfold impl_AreTraces.f areTraces
  by_cases h12 : (l.length : Int) > 8
  · rw [decide_eq_false (by omega), Bool.and_false]
    exact Ev.ifpos h12 (Ev.now _)
  rw [decide_eq_true (by omega)]
  refine Ev.ifneg h12 ?_
  refine all_step okTrace l (fun i k => impl_AreTraces.l0 k l (l.length : Int) (i : Int)) true ?_ ?_
  · refine Ev.step (fun k => by rw [impl_AreTraces.l0]) ?_
    exact Ev.ifneg (by omega) (Ev.now _)
  · intro i hi r ih
    have hlen := hr l[i] (List.getElem_mem hi)
    refine Ev.step (fun k => by rw [impl_AreTraces.l0]) ?_
    rw [rdTr l i hi]
    refine Ev.ifpos (by omega) (Ev.ifpos (by omega) (Ev.ifpos (by omega) ?_))
    unfold okTrace
    generalize l[i].f0 = p at hlen
    have hbad : ∀ q : Bool, q = false → Ev (fun k => impl_AreTraces.j1 k l (l.length : Int) (i : Int) true p) q := fun q hq => by
      refine Ev.step (fun k => by rw [impl_AreTraces.j1]) ?_
      exact Ev.ifpos rfl (Ev.pure hq.symm)
    by_cases h8 : (p.length : Int) > 8
    · refine Ev.ifpos h8 (hbad _ ?_)
      rw [decide_eq_false (by omega), Bool.false_and, Bool.false_and]
    · rw [decide_eq_true (by omega), Bool.true_and, hops_all]
      refine Ev.ifneg h8 (Ev.bind (impl_allIn p (-1) 7 (by omega)) ?_)
      cases hb : p.all (fun n => decide (-1 ≤ n ∧ n ≤ 7)) with
      | false => exact hbad _ (by simp)
      | true =>
        refine Ev.step (fun k => by rw [impl_AreTraces.j1]) ?_
        refine Ev.ifneg (by decide) ?_
        rw [Bool.true_and]
        refine all_places p.length (hopNew p) (fun j k => impl_AreTraces.l1 k l (l.length : Int) (i : Int) p (p.length : Int) (j : Int) p) r ?_ ?_
        · refine Ev.step (fun k => by rw [impl_AreTraces.l1]) ?_
          rw [wrap_succ (i := i) (by omega)]
          exact Ev.ifneg (by omega) ih
        · intro j hj r2 ih2
          have hin := List.all_eq_true.1 hb p[j] (List.getElem_mem hj)
          have hin := of_decide_eq_true hin
          have eg : p.getD j 0 = p[j] := by rw [List.getD_eq_getElem?_getD, List.getElem?_eq_getElem hj]; rfl
          refine Ev.step (fun k => by rw [impl_AreTraces.l1]) ?_
          rw [wrap_succ (i := j) (by omega), rd_nat', Int.toNat_natCast]
          refine Ev.ifpos (by omega) (Ev.ifpos (by omega) (Ev.ifpos (by omega) ?_))
          unfold hopNew
          by_cases h0 : p.getD j 0 = -1
          · rw [decide_eq_false (by omega)]
            exact Ev.ifpos h0 (by simpa using ih2)
          · rw [decide_eq_true (by omega), Bool.true_and]
            refine Ev.ifneg h0 (Ev.ifpos (by omega) (Ev.bind (impl_has (p.take j) (p.getD j 0) (by rw [List.length_take]; omega)) ?_))
            show Ev (fun k => if dupOf p j = true then _ else _) _
            cases dupOf p j
            · exact Ev.ifneg (by decide) (by simpa using ih2)
            · exact Ev.ifpos rfl (Ev.pure (by simp))

end Go.Proofs.Ytabjcjieniokaaa.Pure
/- Plain lemma: what the reference's LinkOf returns: the first link that connects the two. Condition: the list is not longer than a list can be. -/
namespace Go.Proofs.Ytabjcjieniokaaa.Pure
open Go.RowKit Go.Proofs.Ytabjcjieniokaaa.Z Go.Proofs.YtabjcjieniokaaaW.PrintWords

theorem rdLink (xs : List S68) (i : Nat) (h : i < xs.length) : rd_T68 xs (i : Int) = xs[i] := getD_get xs i _ h

theorem spec_linkOf (n : Int) (l : List S68) (a b : Int) (hl : l.length ≤ 9223372036854775806) : Ev (fun k => spec_LinkOf.f k n l a b) (firstAt (isLink a b) l) := by
  unfold spec_LinkOf.f
  refine first_loop (isLink a b) l (fun i k => spec_LinkOf.l0 k a b (i : Int) n l) ?_ ?_ ?_
  · refine Ev.step (fun k => by rw [spec_LinkOf.l0]) ?_
    exact Ev.ifneg (by omega) (Ev.now _)
  · intro i hi h
    refine Ev.step (fun k => by rw [spec_LinkOf.l0]) ?_
    refine Ev.ifpos (by omega) (Ev.ifpos (by omega) ?_)
    rw [rdLink l i hi]
    unfold isLink at h
    by_cases h1 : (l[i].f0 == a && l[i].f1 == b) = true
    · exact Ev.ifpos h1 (Ev.now _)
    · refine Ev.ifneg h1 (Ev.ifpos ?_ (Ev.now _))
      simpa [h1] using h
  · intro i hi r h hr
    refine Ev.step (fun k => by rw [spec_LinkOf.l0]) ?_
    refine Ev.ifpos (by omega) (Ev.ifpos (by omega) ?_)
    rw [rdLink l i hi]
    unfold isLink at h
    rw [Bool.or_eq_false_iff] at h
    refine Ev.ifneg (by rw [h.1]; exact Bool.noConfusion) (Ev.ifneg (by rw [h.2]; exact Bool.noConfusion) ?_)
    rw [wrap_succ (by omega)]
    exact hr

end Go.Proofs.Ytabjcjieniokaaa.Pure
/- Plain lemmas: what the program's and the reference's IsNet answer. Condition: the list is not longer than a list can be. -/
namespace Go.Proofs.Ytabjcjieniokaaa.Pure
open Go.RowKit Go.Proofs.Ytabjcjieniokaaa.Z Go.Proofs.YtabjcjieniokaaaW.PrintWords

abbrev Lk := S68

theorem firstAt_le {α : Type} (p : α → Bool) (xs : List α) (i : Nat) (h : i < xs.length) (hp : p xs[i] = true) : 0 ≤ firstAt p xs ∧ firstAt p xs ≤ (i : Int) := by
  have h1 : xs.findIdx p ≤ i := by
    rcases Nat.lt_or_ge i (xs.findIdx p) with hlt | hge
    · have := List.not_of_lt_findIdx hlt
      rw [hp] at this
      exact Bool.noConfusion this
    · exact hge
  unfold firstAt
  rw [if_pos (by omega)]
  omega

/-- Does link i of the network lead between two nodes, and is it the first that connects them? -/
def linkOk (n : Int) (l : List Lk) (i : Nat) : Bool :=
  decide (0 ≤ (rd_T68 l (i : Int)).f0 ∧ (rd_T68 l (i : Int)).f0 < n) && (decide (0 ≤ (rd_T68 l (i : Int)).f1 ∧ (rd_T68 l (i : Int)).f1 < n) &&
    (decide ((rd_T68 l (i : Int)).f0 ≠ (rd_T68 l (i : Int)).f1) && decide (firstAt (isLink (rd_T68 l (i : Int)).f0 (rd_T68 l (i : Int)).f1) l = (i : Int))))

def isNet (n : Int) (l : List Lk) : Bool := decide (1 ≤ n ∧ n ≤ 8) && (decide (1 ≤ l.length ∧ l.length ≤ 6) && (List.range l.length).all (linkOk n l))

theorem isLink_self (k : Lk) : isLink k.f0 k.f1 k = true := by unfold isLink; simp

theorem spec_net_from (n : Int) (l : List Lk) (h1 : 1 ≤ n) (h2 : n ≤ 8) (hl : l.length ≤ 9223372036854775806) : ∀ i, i ≤ l.length → Ev (fun k => spec_IsNet.l0 k (i : Int) n l) (((List.range l.length).drop i).all (linkOk n l)) := by
  have hw : wrap64 (n - 1) = n - 1 := wrap_in (by omega) (by omega)
  refine Ev.up0 l.length (fun i k => spec_IsNet.l0 k (i : Int) n l) (fun i => ((List.range l.length).drop i).all (linkOk n l)) ?_ ?_
  · rw [List.drop_of_length_le (by simp)]
    refine Ev.step (fun k => by rw [spec_IsNet.l0]) ?_
    exact Ev.ifneg (by omega) (Ev.now _)
  · intro i hi ih
    rw [drop_get _ i (by simpa using hi), List.all_cons, List.getElem_range]
    generalize ((List.range l.length).drop (i + 1)).all (linkOk n l) = r at ih ⊢
    refine Ev.step (fun k => by rw [spec_IsNet.l0]) ?_
    refine Ev.ifpos (by omega) (Ev.ifpos (by omega) ?_)
    unfold linkOk
    rw [rdLink l i hi, hw]
    refine Ev.bind0 (spec_in _ _ _) ?_
    by_cases a1 : 0 ≤ l[i].f0 ∧ l[i].f0 < n
    · refine Ev.ifpos (decide_eq_true (by omega)) (Ev.bind0 (spec_in _ _ _) ?_)
      by_cases a2 : 0 ≤ l[i].f1 ∧ l[i].f1 < n
      · refine Ev.ifpos (decide_eq_true (by omega)) ?_
        by_cases a3 : l[i].f0 = l[i].f1
        · exact Ev.ifpos a3 (Ev.pure (by simp [a3]))
        · refine Ev.ifneg a3 (Ev.bind (spec_linkOf n l _ _ hl) ?_)
          have hf := firstAt_le (isLink l[i].f0 l[i].f1) l i hi (isLink_self _)
          by_cases a4 : firstAt (isLink l[i].f0 l[i].f1) l < (i : Int)
          · refine Ev.ifpos a4 (Ev.pure ?_)
            have : ¬ firstAt (isLink l[i].f0 l[i].f1) l = (i : Int) := by omega
            simp [this]
          · refine Ev.ifneg a4 ?_
            have : firstAt (isLink l[i].f0 l[i].f1) l = (i : Int) := by omega
            rw [wrap_succ (by omega)]
            simpa [a1, a2, a3, this] using ih
      · refine Ev.ifneg (by rw [decide_eq_true_eq]; omega) (Ev.pure ?_)
        rw [decide_eq_false a2]
        simp
    · refine Ev.ifneg (by rw [decide_eq_true_eq]; omega) (Ev.pure ?_)
      rw [decide_eq_false a1]
      simp

theorem spec_net (n : Int) (l : List Lk) (hl : l.length ≤ 9223372036854775806) : Ev (fun k => spec_IsNet.f k n l) (isNet n l) := by
  unfold spec_IsNet.f isNet
  refine Ev.bind0 (spec_in _ _ _) ?_
  by_cases h1 : 1 ≤ n ∧ n ≤ 8
  · refine Ev.ifpos (decide_eq_true h1) (Ev.bind0 (spec_in _ _ _) ?_)
    by_cases h2 : 1 ≤ l.length ∧ l.length ≤ 6
    · have e : decide (1 ≤ (l.length : Int) ∧ (l.length : Int) ≤ 6) = true := decide_eq_true (by omega)
      rw [e, decide_eq_true h1, decide_eq_true h2]
      refine Ev.step (fun k => by rw [spec_IsNet.j0]) (Ev.ifneg (by decide) ?_)
      simpa using spec_net_from n l h1.1 h1.2 hl 0 (Nat.zero_le _)
    · have e : decide (1 ≤ (l.length : Int) ∧ (l.length : Int) ≤ 6) = false := decide_eq_false (by omega)
      rw [e, decide_eq_false h2]
      refine Ev.step (fun k => by rw [spec_IsNet.j0]) ?_
      exact Ev.ifpos rfl (Ev.pure (by simp))
  · rw [decide_eq_false h1]
    exact Ev.ifneg (by decide) (Ev.step (fun k => by rw [spec_IsNet.j0]) (Ev.ifpos rfl (Ev.pure (by simp))))

theorem impl_at_eq (i n : Int) : impl_at.f i n = some (decide (0 ≤ i ∧ i < n)) := by
  unfold impl_at.f
  by_cases h : 0 ≤ i <;> simp [h]

theorem impl_in (n a b : Int) : impl_InRange.f n a b = some (decide (a ≤ n ∧ n ≤ b)) := by
  unfold impl_InRange.f
  by_cases h : a ≤ n <;> simp [h]

theorem impl_net_from (n : Int) (l : List Lk) (hl : l.length ≤ 9223372036854775806) : ∀ i, i ≤ l.length → Ev (fun k => impl_IsNet.l0 k l (l.length : Int) (i : Int) n l) (((List.range l.length).drop i).all (linkOk n l)) := by
  refine Ev.up0 l.length (fun i k => impl_IsNet.l0 k l (l.length : Int) (i : Int) n l) (fun i => ((List.range l.length).drop i).all (linkOk n l)) ?_ ?_
  · rw [List.drop_of_length_le (by simp)]
    refine Ev.step (fun k => by rw [impl_IsNet.l0]) ?_
    exact Ev.ifneg (by omega) (Ev.now _)
  · intro i hi ih
    rw [drop_get _ i (by simpa using hi), List.all_cons, List.getElem_range]
    generalize ((List.range l.length).drop (i + 1)).all (linkOk n l) = r at ih ⊢
    refine Ev.step (fun k => by rw [impl_IsNet.l0]) ?_
    refine Ev.ifpos (by omega) (Ev.ifpos (by omega) (Ev.ifpos (by omega) ?_))
    unfold linkOk
    rw [rdLink l i hi]
    by_cases a3 : l[i].f0 = l[i].f1
    · exact Ev.ifpos a3 (Ev.pure (by simp [a3]))
    · refine Ev.ifneg a3 (Ev.bind0 (impl_at_eq _ _) ?_)
      by_cases a1 : 0 ≤ l[i].f0 ∧ l[i].f0 < n
      · refine Ev.ifpos (decide_eq_true a1) (Ev.bind0 (impl_at_eq _ _) ?_)
        by_cases a2 : 0 ≤ l[i].f1 ∧ l[i].f1 < n
        · refine Ev.ifpos (decide_eq_true a2) (Ev.bind0 rfl ?_)
          by_cases a4 : firstAt (isLink l[i].f0 l[i].f1) l = (i : Int)
          · refine Ev.ifpos a4 ?_
            rw [wrap_succ (by omega)]
            simpa [a1, a2, a3, a4] using ih
          · exact Ev.ifneg a4 (Ev.pure (by simp [a4]))
        · refine Ev.ifneg (by rw [decide_eq_true_eq]; omega) (Ev.pure ?_)
          rw [decide_eq_false a2]
          simp
      · refine Ev.ifneg (by rw [decide_eq_true_eq]; omega) (Ev.pure ?_)
        rw [decide_eq_false a1]
        simp

theorem impl_net (n : Int) (l : List Lk) (hl : l.length ≤ 9223372036854775806) : Ev (fun k => impl_IsNet.f k n l) (isNet n l) := by
  unfold impl_IsNet.f isNet
  refine Ev.bind0 (impl_in _ _ _) ?_
  by_cases h1 : 1 ≤ n ∧ n ≤ 8
  · refine Ev.ifpos (decide_eq_true h1) (Ev.bind0 (impl_in _ _ _) ?_)
    by_cases h2 : 1 ≤ l.length ∧ l.length ≤ 6
    · have e : decide (1 ≤ (l.length : Int) ∧ (l.length : Int) ≤ 6) = true := decide_eq_true (by omega)
      rw [e, decide_eq_true h1, decide_eq_true h2]
      refine Ev.step (fun k => by rw [impl_IsNet.j0]) (Ev.ifneg (by decide) ?_)
      simpa using impl_net_from n l hl 0 (Nat.zero_le _)
    · have e : decide (1 ≤ (l.length : Int) ∧ (l.length : Int) ≤ 6) = false := decide_eq_false (by omega)
      rw [e, decide_eq_false h2]
      refine Ev.step (fun k => by rw [impl_IsNet.j0]) ?_
      exact Ev.ifpos rfl (Ev.pure (by simp))
  · rw [decide_eq_false h1]
    exact Ev.ifneg (by decide) (Ev.step (fun k => by rw [impl_IsNet.j0]) (Ev.ifpos rfl (Ev.pure (by simp))))

end Go.Proofs.Ytabjcjieniokaaa.Pure
/- Plain lemmas: the reference's FitsMap (a map made of the traces) and the program's (their steps) agree. Conditions: lists not longer than the law's. -/
namespace Go.Proofs.Ytabjcjieniokaaa.Pure
open Go.RowKit Go.Proofs.Ytabjcjieniokaaa.Z Go.Proofs.YtabjcjieniokaaaW.PrintWords

theorem put_len (l : List Lk) (a b : Int) : (putL l a b).length ≤ l.length + 1 := by
  unfold putL
  split
  · omega
  · have := posL_le a b l
    simp only [List.length_append, List.length_take, List.length_cons, List.length_drop]
    omega

theorem put_all (g : Lk → Bool) (l : List Lk) (a b : Int) : (putL l a b).all g = (l.all g && g ⟨a, b⟩) := by
  unfold putL
  split
  · rename_i h
    rw [Bool.and_eq_true, Bool.and_eq_true, decide_eq_true_eq, beq_iff_eq, beq_iff_eq] at h
    obtain ⟨h1, h2, h3⟩ := h
    rw [rdLink l _ h1] at h2 h3
    cases hg : l.all g
    · simp
    · have := List.all_eq_true.1 hg _ (List.getElem_mem h1)
      have e : l[posL a b l] = (⟨a, b⟩ : Lk) := by
        generalize l[posL a b l] = z at h2 h3
        subst h2 h3
        rfl
      rw [e] at this
      rw [this]; rfl
  · have e : l.all g = ((l.take (posL a b l)).all g && (l.drop (posL a b l)).all g) := by
      rw [← List.all_append, List.take_append_drop]
    rw [e, List.all_append, List.all_cons]
    cases (l.take (posL a b l)).all g <;> cases g ⟨a, b⟩ <;> cases (l.drop (posL a b l)).all g <;> rfl

theorem min_max (a b : Int) : ∃ u v, spec_Min.f a b = some u ∧ spec_Max.f a b = some v ∧ ((u = a ∧ v = b) ∨ (u = b ∧ v = a)) := by
  unfold spec_Min.f spec_Max.f
  by_cases h : b < a
  · exact ⟨b, a, if_pos h, if_neg (by omega), .inr ⟨rfl, rfl⟩⟩
  · by_cases h2 : b > a
    · exact ⟨a, b, if_neg h, if_pos h2, .inl ⟨rfl, rfl⟩⟩
    · exact ⟨a, a, if_neg h, if_neg h2, .inl ⟨rfl, by omega⟩⟩

theorem wrap_prev {j : Nat} (h : j ≤ 1048576) : wrap64 (((j + 1 : Nat) : Int) - 1) = (j : Int) := by
  have := wrap_succ (i := j) (by omega)
  unfold wrap64 at *
  omega

/-- The inner loops, side by side. -/
theorem inner_both (g : Lk → Bool) (hg : ∀ a b, g ⟨a, b⟩ = g ⟨b, a⟩) (l : List Tr) (i : Nat) (p : List Int) (hp : p.length ≤ 8) (hr : ∀ j, j < p.length → -1 ≤ p.getD j 0)
    (next : ∀ x y : List Lk, x.length ≤ 8 * (i + 1) → y.length ≤ 8 * (i + 1) → x.all g = y.all g → ∃ M S, Ev (fun k => spec_MapOf.l0 k l x (wrap64 ((i : Int) + 1))) M ∧ Ev (fun k => impl_steps.l0 k y l (l.length : Int) (wrap64 ((i : Int) + 1))) S ∧ M.all g = S.all g ∧ M.length ≤ 64) (hi : i ≤ 8) :
    ∀ m j, p.length ≤ m + (j + 1) → ∀ x y : List Lk, x.length ≤ 8 * i + min j 8 → y.length ≤ 8 * i + min j 8 → x.all g = y.all g →
      ∃ M S, Ev (fun k => spec_MapOf.l1 k l x (i : Int) p ((j + 1 : Nat) : Int)) M ∧ Ev (fun k => impl_steps.l1 k y ((j + 1 : Nat) : Int) l (l.length : Int) (i : Int) p) S ∧ M.all g = S.all g ∧ M.length ≤ 64 := by
  intro m
  induction m with
  | zero =>
    intro j hj x y hx hy he
    obtain ⟨M, S, h1, h2, h3⟩ := next x y (by omega) (by omega) he
    refine ⟨M, S, ?_, ?_, h3⟩
    · refine Ev.step (fun k => by rw [spec_MapOf.l1]) ?_
      exact Ev.ifneg (by omega) h1
    · refine Ev.step (fun k => by rw [impl_steps.l1]) ?_
      exact Ev.ifneg (by omega) h2
  | succ m ih =>
    intro j hj x y hx hy he
    by_cases hlt : j + 1 < p.length
    · have w1 := wrap_prev (j := j) (by omega)
      have w2 := wrap_succ (i := j + 1) (by omega)
      have r1 := hr j (by omega)
      have r2 := hr (j + 1) hlt
      by_cases hc : 0 ≤ p.getD j 0 ∧ 0 ≤ p.getD (j + 1) 0
      · obtain ⟨u, v, hu, hv, huv⟩ := min_max (p.getD j 0) (p.getD (j + 1) 0)
        have hgu : g ⟨u, v⟩ = g ⟨p.getD j 0, p.getD (j + 1) 0⟩ := by
          rcases huv with ⟨rfl, rfl⟩ | ⟨rfl, rfl⟩
          · rfl
          · exact hg _ _
        have hput := put_len x u v
        obtain ⟨M, S, h1, h2, h3⟩ := ih (j + 1) (by omega) (putL x u v) (y ++ [⟨p.getD j 0, p.getD (j + 1) 0⟩]) (by omega) (by rw [List.length_append, List.length_singleton]; omega) (by rw [put_all, List.all_append, he, hgu]; simp)
        refine ⟨M, S, ?_, ?_, h3⟩
        · refine Ev.step (fun k => by rw [spec_MapOf.l1]) ?_
          rw [w1, rd_nat', rd_nat']
          refine Ev.ifpos (by omega) (Ev.ifpos (by omega) (Ev.ifpos (by omega) (Ev.ifpos hc.1 (Ev.ifpos (by omega) ?_))))
          refine Ev.step (fun k => by rw [spec_MapOf.j2]) ?_
          rw [w1, w2, rd_nat', rd_nat', hu, hv]
          refine Ev.ifpos (decide_eq_true hc.2) (Ev.ifpos (by omega) (Ev.ifpos (by omega) (Ev.ifpos (by omega) (Ev.ifpos (by omega) ?_))))
          refine Ev.bind0 rfl (Ev.bind0 rfl (Ev.bind0 (a := putL x u v) (by unfold spec_l13Put.f; rw [if_pos (by omega)]) h1))
        · refine Ev.step (fun k => by rw [impl_steps.l1]) ?_
          rw [w1, w2, rd_nat', rd_nat']
          exact Ev.ifpos (by omega) (Ev.ifpos (by omega) (Ev.ifpos (by omega) (Ev.ifpos (by omega) (Ev.ifneg (by omega) (Ev.ifneg (by omega) (Ev.ifpos (by omega) h2))))))
      · obtain ⟨M, S, h1, h2, h3⟩ := ih (j + 1) (by omega) x y (by omega) (by omega) he
        have hj2 : Ev (fun k => spec_MapOf.j2 k l x (i : Int) p ((j + 1 : Nat) : Int) false) M := by
          refine Ev.step (fun k => by rw [spec_MapOf.j2]) ?_
          rw [w2]
          exact Ev.ifneg (by decide) h1
        refine ⟨M, S, ?_, ?_, h3⟩
        · refine Ev.step (fun k => by rw [spec_MapOf.l1]) ?_
          rw [w1, rd_nat', rd_nat']
          refine Ev.ifpos (by omega) (Ev.ifpos (by omega) (Ev.ifpos (by omega) ?_))
          by_cases h0 : p.getD j 0 ≥ 0
          · rw [decide_eq_false (show ¬ p.getD (j + 1) 0 ≥ 0 by omega)]
            exact Ev.ifpos h0 (Ev.ifpos (by omega) hj2)
          · exact Ev.ifneg h0 hj2
        · refine Ev.step (fun k => by rw [impl_steps.l1]) ?_
          rw [w1, w2, rd_nat', rd_nat']
          refine Ev.ifpos (by omega) (Ev.ifpos (by omega) (Ev.ifpos (by omega) (Ev.ifpos (by omega) ?_)))
          by_cases h0 : p.getD j 0 = -1
          · exact Ev.ifpos h0 h2
          · exact Ev.ifneg h0 (Ev.ifpos (by omega) h2)
    · obtain ⟨M, S, h1, h2, h3⟩ := next x y (by omega) (by omega) he
      refine ⟨M, S, ?_, ?_, h3⟩
      · refine Ev.step (fun k => by rw [spec_MapOf.l1]) ?_
        exact Ev.ifneg (by omega) h1
      · refine Ev.step (fun k => by rw [impl_steps.l1]) ?_
        exact Ev.ifneg (by omega) h2

theorem okTrace_hops (t : Tr) (h : okTrace t = true) : t.f0.length ≤ 8 ∧ ∀ j, j < t.f0.length → -1 ≤ t.f0.getD j 0 := by
  unfold okTrace at h
  rw [Bool.and_eq_true, decide_eq_true_eq] at h
  refine ⟨h.1, fun j hj => ?_⟩
  have := List.all_eq_true.1 h.2 j (List.mem_range.2 hj)
  rw [Bool.and_eq_true] at this
  have := this.1
  unfold hopIn at this
  exact (of_decide_eq_true this).1

theorem outer_both (g : Lk → Bool) (hg : ∀ a b, g ⟨a, b⟩ = g ⟨b, a⟩) (l : List Tr) (h8 : l.length ≤ 8) (hk : ∀ t ∈ l, okTrace t = true) :
    ∀ m i, l.length ≤ m + i → i ≤ l.length → ∀ x y : List Lk, x.length ≤ 8 * i → y.length ≤ 8 * i → x.all g = y.all g →
      ∃ M S, Ev (fun k => spec_MapOf.l0 k l x (i : Int)) M ∧ Ev (fun k => impl_steps.l0 k y l (l.length : Int) (i : Int)) S ∧ M.all g = S.all g ∧ M.length ≤ 64 := by
  intro m
  induction m with
  | zero =>
    intro i hm hi x y hx hy he
    refine ⟨x, y, ?_, ?_, he, by omega⟩
    · refine Ev.step (fun k => by rw [spec_MapOf.l0]) ?_
      exact Ev.ifneg (by omega) (Ev.now _)
    · refine Ev.step (fun k => by rw [impl_steps.l0]) ?_
      exact Ev.ifneg (by omega) (Ev.now _)
  | succ m ih =>
    intro i hm hi x y hx hy he
    by_cases hlt : i < l.length
    · obtain ⟨hp, hr⟩ := okTrace_hops l[i] (hk _ (List.getElem_mem hlt))
      have hin := inner_both g hg l i l[i].f0 hp hr (by
        intro x' y' hx' hy' he'
        rw [wrap_succ (i := i) (by omega)]
        exact ih (i + 1) (by omega) (by omega) x' y' hx' hy' he') (by omega) l[i].f0.length 0 (by omega) x y (by omega) (by omega) he
      rw [show ((0 + 1 : Nat) : Int) = 1 from rfl] at hin
      obtain ⟨M, S, h1, h2, h3⟩ := hin
      refine ⟨M, S, ?_, ?_, h3⟩
      · refine Ev.step (fun k => by rw [spec_MapOf.l0]) ?_
        rw [rdTr l i hlt]
        exact Ev.ifpos (by omega) (Ev.ifpos (by omega) h1)
      · refine Ev.step (fun k => by rw [impl_steps.l0]) ?_
        rw [rdTr l i hlt]
        exact Ev.ifpos (by omega) (Ev.ifpos (by omega) (Ev.ifpos (by omega) h2))
    · refine ⟨x, y, ?_, ?_, he, by omega⟩
      · refine Ev.step (fun k => by rw [spec_MapOf.l0]) ?_
        exact Ev.ifneg (by omega) (Ev.now _)
      · refine Ev.step (fun k => by rw [impl_steps.l0]) ?_
        exact Ev.ifneg (by omega) (Ev.now _)

theorem fits_loop (n : Int) (l : List Lk) (hl : l.length ≤ 1048576) (M : List Lk) (hM : M.length ≤ 64) : Ev (fun k => spec_FitsMap.l0 k M 0 n l) (M.all (fun x => !badStep l x) && true) := by
  refine all_step (fun x => !badStep l x) M (fun i k => spec_FitsMap.l0 k M (i : Int) n l) true ?_ ?_
  · refine Ev.step (fun k => by rw [spec_FitsMap.l0]) ?_
    exact Ev.ifneg (by omega) (Ev.now _)
  · intro i hi r ih
    refine Ev.step (fun k => by rw [spec_FitsMap.l0]) ?_
    rw [rdLink M i hi]
    refine Ev.ifpos (by omega) (Ev.ifpos (by omega) (Ev.bind (spec_linkOf n l _ _ (by omega)) ?_))
    unfold badStep
    by_cases hb : firstAt (isLink M[i].f0 M[i].f1) l < 0
    · rw [decide_eq_true hb]
      exact Ev.ifpos hb (Ev.now _)
    · rw [decide_eq_false hb, wrap_succ (i := i) (by omega)]
      exact Ev.ifneg hb (by simpa using ih)

theorem isLink_swap (a b : Int) : isLink a b = isLink b a := by
  funext k
  unfold isLink
  exact Bool.or_comm _ _

theorem not_any (l : List Lk) (s : List Lk) : (!(s.any (badStep l))) = s.all (fun x => !badStep l x) := by
  induction s with
  | nil => rfl
  | cons x s ih => rw [List.any_cons, List.all_cons, ← ih, Bool.not_or]

theorem fits_both (n : Int) (l : List Lk) (ts : List Tr) (hl : l.length ≤ 1048576) (ht : ts.length ≤ 1048576) (hr : ∀ t ∈ ts, t.f0.length ≤ 1048576) :
    ∃ r, Ev (fun k => spec_FitsMap.f k n l ts) r ∧ Ev (fun k => impl_FitsMap.f k n l ts) r := by
  have s1 := spec_net n l (by omega)
  have i1 := impl_net n l (by omega)
  have s2 := spec_areTraces ts ht hr
  have i2 := impl_areTraces ts ht hr
  unfold spec_FitsMap.f impl_FitsMap.f
  have hno : Ev (fun k => spec_FitsMap.j0 k ts true n l) false := by
    refine Ev.step (fun k => by rw [spec_FitsMap.j0]) ?_
    exact Ev.ifpos rfl (Ev.now _)
  cases hN : isNet n l with
  | false =>
    rw [hN] at s1 i1
    exact ⟨false, Ev.bind s1 (Ev.ifneg (by decide) hno), Ev.bind i1 (Ev.ifneg (by decide) (Ev.now _))⟩
  | true =>
    rw [hN] at s1 i1
    cases hT : areTraces ts with
    | false =>
      rw [hT] at s2 i2
      exact ⟨false, Ev.bind s1 (Ev.ifpos rfl (Ev.bind s2 hno)), Ev.bind i1 (Ev.ifpos rfl (Ev.bind i2 (Ev.ifneg (by decide) (Ev.now _))))⟩
    | true =>
      rw [hT] at s2 i2
      have hA := hT
      unfold areTraces at hA
      rw [Bool.and_eq_true, decide_eq_true_eq] at hA
      obtain ⟨M, S, h1, h2, h3, h4⟩ := outer_both (fun x => !badStep l x) (fun a b => by show (!badStep l _) = (!badStep l _); unfold badStep; rw [isLink_swap a b]) ts hA.2 (List.all_eq_true.1 hA.1) ts.length 0 (by omega) (by omega) [] [] (by simp) (by simp) rfl
      refine ⟨M.all (fun x => !badStep l x) && true, Ev.bind s1 (Ev.ifpos rfl (Ev.bind s2 ?_)), Ev.bind i1 (Ev.ifpos rfl (Ev.bind i2 (Ev.ifpos rfl (Ev.bind (show Ev (fun k => impl_steps.f k ts) S from h2) ?_))))⟩
      · refine Ev.step (fun k => by rw [spec_FitsMap.j0]) ?_
        refine Ev.ifneg (by decide) (Ev.bind (a := M) ?_ (fits_loop n l hl M h4))
        unfold spec_MapOf.f
        exact Ev.bind0 rfl (Ev.bind s2 (Ev.ifpos rfl h1))
      · refine Ev.pure ?_
        rw [not_any, Bool.and_true, h3]

end Go.Proofs.Ytabjcjieniokaaa.Pure
namespace Go.Proofs.Ytabjcjieniokaaa.Pure
open Go.RowKit Go.Proofs.Ytabjcjieniokaaa.Z Go.Proofs.YtabjcjieniokaaaW.PrintWords

theorem FnExactFitsMap : laws_FnExactFitsMap.Pure := by
  intro n l ps hx hp
  refine Ev.rounds ?_
  unfold laws_FnExactFitsMap.f
  obtain ⟨s, hs, hs2⟩ := sz_Net ⟨n, l⟩ hx.2.1 1048576 (by omega) (by omega)
  by_cases hn : s < 0
  · exact Ev.bind0 hs (Ev.ifpos hn (Ev.now _))
  · have hq := hs2 (by omega)
    have hsm := hq.2
    obtain ⟨y, hy, hy2⟩ := sz_TraceS ps hp.1 (fun x hx => (hp.2 x hx).1) s (by omega) (by omega)
    by_cases hn2 : y < 0
    · exact Ev.bind0 hs (Ev.ifneg hn (Ev.bind hy (Ev.ifpos hn2 (Ev.now _))))
    · have hsp := (hy2 (by omega)).2
      have ht := to_Net ⟨n, l⟩ hsm
      have tp := to_TraceS ps hsp
      have hlen : (l.map c96_68).length ≤ 1048576 := by simpa using hsm.2.1
      have hlp : (ps.map c62_70).length ≤ 1048576 := by simpa using hsp.1
      have hsm2 : (smL smS70) (ps.map c62_70) := by
        refine ⟨hlp, fun x hx => ?_⟩
        obtain ⟨y, hy, rfl⟩ := List.mem_map.1 hx
        exact hsp.2 y hy
      obtain ⟨r, h1, h2⟩ := fits_both n (l.map c96_68) (ps.map c62_70) hlen hlp (fun t ht => (hsm2.2 t ht).1)
      have he := eq_Net ⟨n, l.map c96_68⟩ ⟨trivial, hlen, fun _ _ => ⟨trivial, trivial⟩⟩
      have ep := eq_TraceS (ps.map c62_70) hsm2
      refine Ev.bind0 hs (Ev.ifneg hn (Ev.bind hy (Ev.ifneg hn2 (Ev.bind ht (Ev.bind tp (Ev.bind h1 (Ev.bind ht (Ev.bind tp (Ev.bind h2 ?_)))))))))
      exact Ev.ifneg (by simp) (Ev.bind ht (Ev.bind he (Ev.ifpos rfl (Ev.bind tp (Ev.bind ep (Ev.ifpos rfl (Ev.now _)))))))

end Go.Proofs.Ytabjcjieniokaaa.Pure
