/- The statement: for every list of traces, the program's AreTraces answers as the reference's does, and leaves the traces as they were. No condition. -/
import Derived.Test.YtlplegdcpgbbbaaWWords
import Derived.Test.YtlplegdcpgbbbaaWLast
import Derived.Test.YtlplegdcpgbbbaaWMore
import Derived.Test.YtlplegdcpgbbbaaZ1
import Derived.Test.YtlplegdcpgbbbaaZ2
import Derived.Test.YtlplegdcpgbbbaaZ3
import Derived.Test.YtlplegdcpgbbbaaZFirst
import Derived.Test.YtlplegdcpgbbbaaZDefFnExactAreTraces
/- Plain lemmas for what the printed functions come to: loops that go up, indices that do not wrap, reads. No condition. -/
namespace Go.Proofs.Ytlplegdcpgbbbaa.Pure
open Go.RowKit Go.Proofs.YtlplegdcpgbbbaaW.PrintWords Go.Proofs.YtlplegdcpgbbbaaW.PrintLast Go.Proofs.YtlplegdcpgbbbaaW.PrintMore

/-- A loop that goes up to n: at each index it comes to R, if it does so one index further. -/
theorem Ev.up {σ ρ : Type} (n : Nat) (G : Nat → σ → Nat → Option ρ) (R : Nat → σ → ρ) (Inv : Nat → σ → Prop) (hend : ∀ s, Inv n s → Ev (G n s) (R n s))
    (hstep : ∀ i s, i < n → Inv i s → (∀ s', Inv (i + 1) s' → Ev (G (i + 1) s') (R (i + 1) s')) → Ev (G i s) (R i s)) : ∀ i s, i ≤ n → Inv i s → Ev (G i s) (R i s) := by
  have key : ∀ d i s, i + d = n → Inv i s → Ev (G i s) (R i s) := by
    intro d
    induction d with
    | zero => intro i s h hi; obtain rfl : i = n := by omega
              exact hend s hi
    | succ d ih => intro i s h hi; exact hstep i s (by omega) hi (fun s' hs' => ih (i + 1) s' (by omega) hs')
  intro i s h hi
  exact key (n - i) i s (by omega) hi

/-- The same without a state. -/
theorem Ev.up0 {ρ : Type} (n : Nat) (G : Nat → Nat → Option ρ) (R : Nat → ρ) (hend : Ev (G n) (R n)) (hstep : ∀ i, i < n → Ev (G (i + 1)) (R (i + 1)) → Ev (G i) (R i)) : ∀ i, i ≤ n → Ev (G i) (R i) := by
  intro i h
  exact Ev.up n (fun i (_ : Unit) => G i) (fun i _ => R i) (fun _ _ => True) (fun _ _ => hend) (fun i s hi _ hn => hstep i hi (hn () trivial)) i () h trivial

theorem Ev.det {α : Type} {g : Nat → Option α} {r q : α} (h : Ev g r) (h' : Ev g q) : r = q := by
  obtain ⟨K, h⟩ := h
  obtain ⟨K', h'⟩ := h'
  have a := h (max K K') (by omega)
  have b := h' (max K K') (by omega)
  rw [a] at b
  exact Option.some.inj b

theorem Ev.const {α : Type} {g : Nat → Option α} {r : α} (h : ∀ k, g k = some r) : Ev g r := ⟨0, fun k _ => h k⟩

theorem Ev.ifpos {α : Type} {c : Prop} [Decidable c] {g f : Nat → Option α} {r : α} (hc : c) (h : Ev g r) : Ev (fun k => if c then g k else f k) r := Ev.congr (fun k => by rw [if_pos hc]) h
theorem Ev.ifneg {α : Type} {c : Prop} [Decidable c] {g f : Nat → Option α} {r : α} (hc : ¬ c) (h : Ev f r) : Ev (fun k => if c then g k else f k) r := Ev.congr (fun k => by rw [if_neg hc]) h
theorem Ev.pure {α : Type} {a r : α} (h : a = r) : Ev (fun _ => some a) r := by subst h; exact Ev.now _

/-- A call that needs no rounds. -/
theorem Ev.bind0 {α β : Type} {g : Option α} {f : Nat → α → Option β} {a : α} {r : β} (h : g = some a) (k : Ev (fun n => f n a) r) : Ev (fun n => g.bind (f n)) r :=
  Ev.congr (fun n => by rw [h]; rfl) k

theorem wrap_in {n : Int} (h0 : -9223372036854775808 ≤ n) (h1 : n ≤ 9223372036854775807) : wrap64 n = n := by unfold wrap64; omega
theorem wrap_succ {i : Nat} (h : i < 9223372036854775807) : wrap64 ((i : Int) + 1) = ((i + 1 : Nat) : Int) := by unfold wrap64; omega

theorem rd_nat (xs : List Int) (i : Nat) : rd xs (i : Int) = xs.getD i 0 := by unfold rd; rw [Int.toNat_natCast]
theorem rd_get (xs : List Int) (i : Nat) (h : i < xs.length) : rd xs (i : Int) = xs[i] := by rw [rd_nat, List.getD_eq_getElem?_getD, List.getElem?_eq_getElem h]; rfl
theorem getD_get {α : Type} (xs : List α) (i : Nat) (z : α) (h : i < xs.length) : xs.getD (i : Int).toNat z = xs[i] := by rw [Int.toNat_natCast, List.getD_eq_getElem?_getD, List.getElem?_eq_getElem h]; rfl

theorem drop_get {α : Type} (xs : List α) (i : Nat) (h : i < xs.length) : xs.drop i = xs[i] :: xs.drop (i + 1) := List.drop_eq_getElem_cons h

theorem take_set_self {α : Type} (s : List α) (i : Nat) (a : α) : (s.set i a).take i = s.take i := by
  apply List.ext_getElem?
  intro j
  by_cases h : j < i
  · rw [List.getElem?_take, List.getElem?_take, if_pos h, if_pos h, List.getElem?_set_ne (by omega)]
  · rw [List.getElem?_take, List.getElem?_take, if_neg h, if_neg h]

/-- A loop that copies, element by element. -/
theorem copy_loop {α β : Type} (l : List α) (f : α → β) (G : Nat → List β → Nat → Option (List β)) (hend : ∀ s : List β, Ev (G l.length s) s)
    (hstep : ∀ i (hi : i < l.length) (s r : List β), s.length = l.length → Ev (G (i + 1) (s.set i (f l[i]))) r → Ev (G i s) r) (s : List β) (hs : s.length = l.length) : Ev (G 0 s) (l.map f) := by
  have key := Ev.up l.length G (fun i s => s.take i ++ (l.map f).drop i) (fun _ s => s.length = l.length)
    (fun s hs => by
      have e : s.take l.length ++ (l.map f).drop l.length = s := by rw [List.take_of_length_le (by omega), List.drop_of_length_le (by simp), List.append_nil]
      simp only [e]
      exact hend s)
    (fun i s hi hs ih => by
      have h1 := ih (s.set i (f l[i])) (by simpa using hs)
      have e : (s.set i (f l[i])).take (i + 1) ++ (l.map f).drop (i + 1) = s.take i ++ (l.map f).drop i := by
        rw [List.take_succ_eq_append_getElem (by simp; omega), List.drop_eq_getElem_cons (l := l.map f) (i := i) (by simpa using hi), take_set_self]
        simp
      simp only [e] at h1
      exact hstep i hi s _ hs h1) 0 s (Nat.zero_le _) hs
  simpa using key

/-- A loop that takes off what the elements weigh. -/
theorem sz_loop {α : Type} (l : List α) (sm : α → Prop) (G : Nat → Int → Nat → Option Int) (hend : ∀ s : Int, Ev (G l.length s) s)
    (hstep : ∀ i (hi : i < l.length) (s : Int), 0 ≤ s → s ≤ 1048576 → Ev (G i s) (-1) ∨ ∃ q : Int, 0 ≤ q ∧ q ≤ s ∧ sm l[i] ∧ ∀ r, Ev (G (i + 1) q) r → Ev (G i s) r) (s : Int) (h0 : 0 ≤ s) (h1 : s ≤ 1048576) :
    ∃ r : Int, Ev (G 0 s) r ∧ (0 ≤ r → r ≤ s ∧ ∀ x ∈ l, sm x) := by
  have key : ∀ d i (s : Int), i + d = l.length → 0 ≤ s → s ≤ 1048576 → ∃ r : Int, Ev (G i s) r ∧ (0 ≤ r → r ≤ s ∧ ∀ x ∈ l.drop i, sm x) := by
    intro d
    induction d with
    | zero =>
      intro i s hi h0 h1
      obtain rfl : i = l.length := by omega
      exact ⟨s, hend s, fun _ => ⟨Int.le_refl _, by simp⟩⟩
    | succ d ih =>
      intro i s hi h0 h1
      have hlt : i < l.length := by omega
      rcases hstep i hlt s h0 h1 with h | ⟨q, hq0, hq1, hsm, hnext⟩
      · exact ⟨-1, h, fun h => by omega⟩
      · obtain ⟨r, hr, hr2⟩ := ih (i + 1) q (by omega) hq0 (by omega)
        refine ⟨r, hnext r hr, fun h => ⟨by have := (hr2 h).1; omega, ?_⟩⟩
        rw [drop_get l i hlt]
        intro x hx
        rcases List.mem_cons.1 hx with rfl | hx
        · exact hsm
        · exact (hr2 h).2 x hx
  simpa using key l.length 0 s (by omega) h0 h1

/-- What a mark leaves: element i holds the numbers from m + c * i on. -/
def marked {α : Type} (c : Nat) (mk : Int → α) (m : Int) (n : Nat) : List α := (List.range n).map fun i => mk (m + ((c * i : Nat) : Int))
theorem marked_length {α : Type} (c : Nat) (mk : Int → α) (m : Int) (n : Nat) : (marked c mk m n).length = n := by simp [marked]
theorem marked_get {α : Type} (c : Nat) (mk : Int → α) (m : Int) (n i : Nat) (h : i < (marked c mk m n).length) : (marked c mk m n)[i] = mk (m + ((c * i : Nat) : Int)) := by simp [marked]
theorem marked_succ {α : Type} (c : Nat) (mk : Int → α) (m : Int) (n : Nat) : marked c mk m (n + 1) = mk m :: marked c mk (m + (c : Int)) n := by
  unfold marked
  rw [List.range_succ_eq_map, List.map_cons, List.map_map]
  congr 1
  · simp
  · apply List.map_congr_left
    intro i _
    show mk _ = mk _
    congr 1
    rw [Nat.mul_succ]
    omega

theorem mark_loop {α : Type} (c : Nat) (mk : Int → α) (n : Nat) (G : Nat → List α → Int → Nat → Option (Int × List α)) (hend : ∀ (s : List α) (m : Int), s.length = n → Ev (G n s m) (m, s))
    (hstep : ∀ i (s : List α) (m : Int) r, i < n → s.length = n → 0 ≤ m → m ≤ 4611686018427387904 → Ev (G (i + 1) (s.set i (mk m)) (m + (c : Int))) r → Ev (G i s m) r)
    (s : List α) (m : Int) (hs : s.length = n) (h0 : 0 ≤ m) (h1 : m + ((c * n : Nat) : Int) ≤ 4611686018427387904) : Ev (G 0 s m) (m + ((c * n : Nat) : Int), marked c mk m n) := by
  have key : ∀ d i (s : List α) (m : Int), i + d = n → s.length = n → 0 ≤ m → m + ((c * d : Nat) : Int) ≤ 4611686018427387904 → Ev (G i s m) (m + ((c * d : Nat) : Int), s.take i ++ marked c mk m d) := by
    intro d
    induction d with
    | zero =>
      intro i s m hi hs h0 h1
      obtain rfl : i = n := by omega
      have e : s.take i ++ marked c mk m 0 = s := by rw [List.take_of_length_le (by omega)]; simp [marked]
      rw [e]
      simpa using hend s m hs
    | succ d ih =>
      intro i s m hi hs h0 h1
      rw [Nat.mul_succ] at h1
      have h2 := ih (i + 1) (s.set i (mk m)) (m + (c : Int)) (by omega) (by simpa using hs) (by omega) (by omega)
      have e : (s.set i (mk m)).take (i + 1) ++ marked c mk (m + (c : Int)) d = s.take i ++ marked c mk m (d + 1) := by
        rw [List.take_succ_eq_append_getElem (by simp; omega), marked_succ, take_set_self]
        simp
      rw [e] at h2
      have e2 : m + (c : Int) + ((c * d : Nat) : Int) = m + ((c * (d + 1) : Nat) : Int) := by rw [Nat.mul_succ]; omega
      rw [e2] at h2
      exact hstep i s m _ (by omega) hs h0 (by omega) h2
  have := key n 0 s m (by omega) hs h0 h1
  simpa using this

theorem held_loop (c : Nat) (n : Nat) (m0 : Int) (G : Nat → Int → Nat → Option Int) (hend : ∀ m : Int, Ev (G n m) m)
    (hstep : ∀ i r, i < n → Ev (G (i + 1) (m0 + ((c * i : Nat) : Int) + (c : Int))) r → Ev (G i (m0 + ((c * i : Nat) : Int))) r) : Ev (G 0 m0) (m0 + ((c * n : Nat) : Int)) := by
  have key := Ev.up0 n (fun i => G i (m0 + ((c * i : Nat) : Int))) (fun _ => m0 + ((c * n : Nat) : Int)) (hend _)
    (fun i hi ih => hstep i _ hi (by
      have e : m0 + ((c * i : Nat) : Int) + (c : Int) = m0 + ((c * (i + 1) : Nat) : Int) := by rw [Nat.mul_succ]; omega
      rw [e]
      exact ih)) 0 (Nat.zero_le _)
  simpa using key

end Go.Proofs.Ytlplegdcpgbbbaa.Pure
/- Plain lemmas on the laws' own helpers: copies, comparisons, sizes, marks. No condition. -/
namespace Go.Proofs.Ytlplegdcpgbbbaa.Pure
open Go.RowKit Go.Proofs.Ytlplegdcpgbbbaa.Z Go.Proofs.YtlplegdcpgbbbaaW.PrintWords
set_option linter.unusedSimpArgs false
set_option linter.unusedVariables false
def smL {α : Type} (sm : α → Prop) (l : List α) : Prop := l.length ≤ 1048576 ∧ ∀ x ∈ l, sm x
def okLen {α : Type} (l : List α) : Prop := l.length ≤ maxLen
theorem sz_IntS (l : List Int) (hl : l.length ≤ maxLen) (s : Int) (h0 : 0 ≤ s) (h1 : s ≤ 1048576) : ∃ r : Int, laws_szIntS.f l s = some r ∧ (0 ≤ r → r ≤ s ∧ (smL (fun _ => True)) l) := by
  unfold maxLen at hl
  unfold laws_szIntS.f
  rw [wrap_in (by omega) (by omega)]
  by_cases h : s - (l.length : Int) < 0
  · exact ⟨-1, by rw [if_pos h], fun h => by omega⟩
  · exact ⟨s - (l.length : Int), by rw [if_neg h], fun _ => ⟨by omega, by omega, fun _ _ => trivial⟩⟩
def smS102 (x : S102) : Prop := (smL (fun _ => True)) x.f0
theorem sz_Trace (x : S102) (hx : (fun x : S102 => okLen x.f0) x) (s : Int) (h0 : 0 ≤ s) (h1 : s ≤ 1048576) : ∃ r : Int, laws_szTrace.f x.f0 s = some r ∧ (0 ≤ r → r ≤ s ∧ smS102 x) := by
  obtain ⟨q, hq, hq2⟩ := sz_IntS x.f0 hx s h0 h1
  unfold laws_szTrace.f
  rw [hq]
  simp only [Option.bind_some]
  by_cases hneg : q < 0
  · exact ⟨-1, by rw [if_pos hneg], fun h => by omega⟩
  · exact ⟨q, by rw [if_neg hneg], fun h => ⟨(hq2 h).1, have hs := (hq2 h).2; hs⟩⟩
theorem rd_T102_get (xs : List S102) (i : Nat) (h : i < xs.length) : rd_T102 xs (i : Int) = xs[i] := getD_get xs i _ h
theorem sz_TraceS (l : List S102) (hl : l.length ≤ maxLen) (hx : ∀ x ∈ l, (fun x : S102 => okLen x.f0) x) (s : Int) (h0 : 0 ≤ s) (h1 : s ≤ 1048576) : ∃ r : Int, Ev (fun k => laws_szTraceS.f k l s) r ∧ (0 ≤ r → r ≤ s ∧ (smL smS102) l) := by
  unfold maxLen at hl
  unfold laws_szTraceS.f
  rw [wrap_in (by omega) (by omega)]
  by_cases h : s - (l.length : Int) < 0
  · exact ⟨-1, Ev.ifpos h (Ev.now _), fun h => by omega⟩
  · have key := sz_loop l smS102 (fun i s k => laws_szTraceS.l0 k l s (i : Int)) ?_ ?_ (s - (l.length : Int)) (by omega) (by omega)
    · obtain ⟨r, hr, hr2⟩ := key
      exact ⟨r, Ev.ifneg h hr, fun h => ⟨by have := (hr2 h).1; omega, by omega, (hr2 h).2⟩⟩
    · intro s
      refine Ev.step (fun k => by rw [laws_szTraceS.l0]) ?_
      exact Ev.ifneg (by omega) (Ev.now _)
    · intro i hi s h0 h1
      obtain ⟨q, hq, hq2⟩ := sz_Trace l[i] (hx _ (List.getElem_mem hi)) s h0 h1
      by_cases hneg : q < 0
      · refine .inl (Ev.step (fun k => by rw [laws_szTraceS.l0]) ?_)
        refine Ev.ifpos (by omega) (Ev.ifpos (by omega) ?_)
        rw [rd_T102_get l i hi]
        exact Ev.bind0 hq (Ev.ifpos hneg (Ev.now _))
      · refine .inr ⟨q, by omega, (hq2 (by omega)).1, (hq2 (by omega)).2, fun r hr => ?_⟩
        refine Ev.step (fun k => by rw [laws_szTraceS.l0]) ?_
        refine Ev.ifpos (by omega) (Ev.ifpos (by omega) ?_)
        rw [rd_T102_get l i hi]
        refine Ev.bind0 hq (Ev.ifneg hneg ?_)
        rw [wrap_succ (by omega)]
        exact hr
theorem to_IntS (l : List Int) (h : (smL (fun _ => True)) l) : Ev (fun k => laws_toIntS.f k l) (l) := by
  unfold laws_toIntS.f
  have hl := h.1
  refine Ev.ifpos (by omega) (Ev.ifpos (by omega) ?_)
  rw [Int.toNat_natCast]
  have key := copy_loop l id (fun i s k => laws_toIntS.l0 k l s (i : Int)) ?_ ?_ (List.replicate l.length 0) (by simp)
  · rw [List.map_id] at key; exact key
  · intro s
    refine Ev.step (fun k => by rw [laws_toIntS.l0]) ?_
    exact Ev.ifneg (by omega) (Ev.now _)
  · intro i hi s r hs hr
    refine Ev.step (fun k => by rw [laws_toIntS.l0]) ?_
    refine Ev.ifpos (by omega) (Ev.ifpos (by omega) ?_)
    refine Ev.ifpos (by omega) ?_
    rw [rd_get l i hi, wrap_succ (by omega), Int.toNat_natCast]
    exact hr
def c102_103 (x : S102) : S103 := ⟨x.f0⟩
theorem to_Trace (x : S102) (h : smS102 x) : Ev (fun k => laws_toTrace.f k x.f0) (c102_103 x).f0 := by
  unfold laws_toTrace.f
  exact Ev.bind (to_IntS x.f0 h) (Ev.now _)
theorem to_TraceS (l : List S102) (h : (smL smS102) l) : Ev (fun k => laws_toTraceS.f k l) (l.map c102_103) := by
  unfold laws_toTraceS.f
  have hl := h.1
  refine Ev.ifpos (by omega) (Ev.ifpos (by omega) ?_)
  rw [Int.toNat_natCast]
  have key := copy_loop l c102_103 (fun i s k => laws_toTraceS.l0 k l s (i : Int)) ?_ ?_ (List.replicate l.length z103) (by simp)
  · exact key
  · intro s
    refine Ev.step (fun k => by rw [laws_toTraceS.l0]) ?_
    exact Ev.ifneg (by omega) (Ev.now _)
  · intro i hi s r hs hr
    refine Ev.step (fun k => by rw [laws_toTraceS.l0]) ?_
    refine Ev.ifpos (by omega) (Ev.ifpos (by omega) ?_)
    rw [rd_T102_get l i hi]
    refine Ev.bind (to_Trace l[i] (h.2 _ (List.getElem_mem hi))) ?_
    refine Ev.ifpos (by omega) ?_
    rw [wrap_succ (by omega), Int.toNat_natCast]
    exact hr
theorem eq_IntS (l : List Int) (h : l.length ≤ maxLen) : Ev (fun k => laws_eqIntS.f k l l) true := by
  unfold maxLen at h
  unfold laws_eqIntS.f
  refine Ev.ifpos rfl ?_
  exact Ev.up0 l.length (fun i k => laws_eqIntS.l0 k l l (i : Int)) (fun _ => true)
    (Ev.step (fun k => by rw [laws_eqIntS.l0]) (Ev.ifneg (by omega) (Ev.now _)))
    (fun i hi ih => by
      refine Ev.step (fun k => by rw [laws_eqIntS.l0]) ?_
      refine Ev.ifpos (by omega) (Ev.ifpos (by omega) (Ev.ifpos (by omega) ?_))
      refine Ev.ifpos rfl ?_
      rw [wrap_succ (by omega)]
      exact ih) 0 (Nat.zero_le _)
def smS103 (x : S103) : Prop := (smL (fun _ => True)) x.f0
theorem eq_Trace (x : S103) (h : smS103 x) : Ev (fun k => laws_eqTrace.f k x.f0 x.f0) true := by
  unfold laws_eqTrace.f
  refine Ev.bind (eq_IntS x.f0 (Nat.le_trans (h).1 (by decide))) (Ev.ifpos rfl ?_)
  exact Ev.now _
theorem rd_T103_get (xs : List S103) (i : Nat) (h : i < xs.length) : rd_T103 xs (i : Int) = xs[i] := getD_get xs i _ h
theorem eq_TraceS (l : List S103) (h : (smL smS103) l) : Ev (fun k => laws_eqTraceS.f k l l) true := by
  have hl := h.1
  unfold laws_eqTraceS.f
  refine Ev.ifpos rfl ?_
  exact Ev.up0 l.length (fun i k => laws_eqTraceS.l0 k l l (i : Int)) (fun _ => true)
    (Ev.step (fun k => by rw [laws_eqTraceS.l0]) (Ev.ifneg (by omega) (Ev.now _)))
    (fun i hi ih => by
      refine Ev.step (fun k => by rw [laws_eqTraceS.l0]) ?_
      refine Ev.ifpos (by omega) (Ev.ifpos (by omega) (Ev.ifpos (by omega) ?_))
      rw [rd_T103_get l i hi]
      refine Ev.bind (eq_Trace l[i] (h.2 _ (List.getElem_mem hi))) (Ev.ifpos rfl ?_)
      rw [wrap_succ (by omega)]
      exact ih) 0 (Nat.zero_le _)
end Go.Proofs.Ytlplegdcpgbbbaa.Pure
/- Plain lemma: a loop that goes on while the elements are well. No condition. -/
namespace Go.Proofs.Ytlplegdcpgbbbaa.Pure
open Go.RowKit Go.Proofs.YtlplegdcpgbbbaaW.PrintWords

theorem all_step {α : Type} (p : α → Bool) (xs : List α) (G : Nat → Nat → Option Bool) (r0 : Bool) (hend : Ev (G xs.length) r0) (hstep : ∀ i (hi : i < xs.length) r, Ev (G (i + 1)) r → Ev (G i) (p xs[i] && r)) : Ev (G 0) (xs.all p && r0) := by
  have key := Ev.up0 xs.length G (fun i => (xs.drop i).all p && r0)
    (by rw [List.drop_of_length_le (Nat.le_refl _)]; simpa using hend)
    (fun i hi ih => by
      rw [drop_get xs i hi, List.all_cons, Bool.and_assoc]
      exact hstep i hi _ ih) 0 (Nat.zero_le _)
  simpa using key

/-- The same over the places. -/
theorem all_places (n : Nat) (p : Nat → Bool) (G : Nat → Nat → Option Bool) (r0 : Bool) (hend : Ev (G n) r0) (hstep : ∀ i, i < n → ∀ r, Ev (G (i + 1)) r → Ev (G i) (p i && r)) : Ev (G 0) ((List.range n).all p && r0) := by
  refine all_step p (List.range n) G r0 (by rw [List.length_range]; exact hend) (fun i hi r hr => ?_)
  rw [List.getElem_range]
  exact hstep i (by simpa using hi) r hr

end Go.Proofs.Ytlplegdcpgbbbaa.Pure
/- Plain lemma: what the reference's range test answers. No condition. -/
namespace Go.Proofs.Ytlplegdcpgbbbaa.Pure
open Go.RowKit Go.Proofs.Ytlplegdcpgbbbaa.Z Go.Proofs.YtlplegdcpgbbbaaW.PrintWords

theorem spec_in (n a b : Int) : spec_l1In.f n a b = some (decide (a ≤ n ∧ n ≤ b)) := by
  unfold spec_l1In.f
  by_cases h : a ≤ n <;> simp [h]

end Go.Proofs.Ytlplegdcpgbbbaa.Pure
/- Plain lemmas: loops that search. No condition. -/
namespace Go.Proofs.Ytlplegdcpgbbbaa.Pure
open Go.RowKit Go.Proofs.Ytlplegdcpgbbbaa.Z Go.Proofs.YtlplegdcpgbbbaaW.PrintWords

theorem firstAt_cons {α : Type} (p : α → Bool) (x : α) (xs : List α) : firstAt p (x :: xs) = if p x = true then 0 else if firstAt p xs < 0 then -1 else firstAt p xs + 1 := by
  unfold firstAt
  rw [List.findIdx_cons]
  cases h : p x
  · simp only [cond_false, List.length_cons, Bool.false_eq_true, if_false]
    by_cases h2 : xs.findIdx p < xs.length
    · rw [if_pos (by omega), if_pos h2, if_neg (by omega)]
      omega
    · rw [if_neg (by omega), if_neg h2]
      simp
  · simp

/-- A loop that searches from the front comes to the first place. -/
theorem first_loop {α : Type} (p : α → Bool) (xs : List α) (G : Nat → Nat → Option Int) (hend : Ev (G xs.length) (-1)) (hhit : ∀ i (hi : i < xs.length), p xs[i] = true → Ev (G i) (i : Int))
    (hmiss : ∀ i (hi : i < xs.length) r, p xs[i] = false → Ev (G (i + 1)) r → Ev (G i) r) : Ev (G 0) (firstAt p xs) := by
  have key := Ev.up0 xs.length G (fun i => if firstAt p (xs.drop i) < 0 then -1 else firstAt p (xs.drop i) + (i : Int))
    (by rw [List.drop_of_length_le (Nat.le_refl _)]; simpa [firstAt] using hend)
    (fun i hi ih => by
      rw [drop_get xs i hi, firstAt_cons]
      cases h : p xs[i]
      · simp only [Bool.false_eq_true, if_false]
        refine hmiss i hi _ h ?_
        by_cases h2 : firstAt p (xs.drop (i + 1)) < 0
        · rw [if_pos h2, if_pos (by omega)]
          rwa [if_pos h2] at ih
        · rw [if_neg h2, if_neg (by omega)]
          rw [if_neg h2] at ih
          have e : firstAt p (xs.drop (i + 1)) + ((i + 1 : Nat) : Int) = firstAt p (xs.drop (i + 1)) + 1 + (i : Int) := by omega
          rwa [e] at ih
      · simp only [if_true]
        rw [if_neg (by omega)]
        have := hhit i hi h
        simpa using this) 0 (Nat.zero_le _)
  rw [List.drop_zero] at key
  by_cases h : firstAt p xs < 0
  · have e : firstAt p xs = -1 := by
      unfold firstAt at h ⊢
      split at h
      · omega
      · rename_i h2; rw [if_neg h2]
    rw [if_pos h] at key
    rw [e]
    exact key
  · rw [if_neg h] at key
    simpa using key

/-- A loop that asks whether one holds. -/
theorem any_loop {α : Type} (p : α → Bool) (xs : List α) (G : Nat → Nat → Option Bool) (hend : Ev (G xs.length) false) (hhit : ∀ i (hi : i < xs.length), p xs[i] = true → Ev (G i) true)
    (hmiss : ∀ i (hi : i < xs.length) r, p xs[i] = false → Ev (G (i + 1)) r → Ev (G i) r) : Ev (G 0) (xs.any p) := by
  have key := Ev.up0 xs.length G (fun i => (xs.drop i).any p)
    (by rw [List.drop_of_length_le (Nat.le_refl _)]; simpa using hend)
    (fun i hi ih => by
      rw [drop_get xs i hi, List.any_cons]
      cases h : p xs[i]
      · simpa using hmiss i hi _ h ih
      · simpa using hhit i hi h) 0 (Nat.zero_le _)
  simpa using key

/-- A loop that asks whether all hold. -/
theorem all_loop {α : Type} (p : α → Bool) (xs : List α) (G : Nat → Nat → Option Bool) (r0 : Bool) (hend : Ev (G xs.length) r0) (hbad : ∀ i (hi : i < xs.length), p xs[i] = false → Ev (G i) false)
    (hgood : ∀ i (hi : i < xs.length) r, p xs[i] = true → Ev (G (i + 1)) r → Ev (G i) r) : Ev (G 0) (xs.all p && r0) := by
  have key := Ev.up0 xs.length G (fun i => (xs.drop i).all p && r0)
    (by rw [List.drop_of_length_le (Nat.le_refl _)]; simpa using hend)
    (fun i hi ih => by
      rw [drop_get xs i hi, List.all_cons]
      cases h : p xs[i]
      · simpa using hbad i hi h
      · simpa using hgood i hi _ h ih) 0 (Nat.zero_le _)
  simpa using key

end Go.Proofs.Ytlplegdcpgbbbaa.Pure
/- Plain lemma: the reference's search in a list of numbers. Condition: the list is not longer than a list can be. -/
namespace Go.Proofs.Ytlplegdcpgbbbaa.Pure
open Go.RowKit Go.Proofs.Ytlplegdcpgbbbaa.Z Go.Proofs.YtlplegdcpgbbbaaW.PrintWords

theorem spec_has (l : List Int) (x : Int) (hl : l.length ≤ 9223372036854775806) : Ev (fun k => spec_l7Has.f k l x) (l.any fun y => decide (y = x)) := by
  unfold spec_l7Has.f
  refine any_loop (fun y => decide (y = x)) l (fun i k => spec_l7Has.l0 k l x (i : Int)) ?_ ?_ ?_
  · refine Ev.step (fun k => by rw [spec_l7Has.l0]) ?_
    exact Ev.ifneg (by omega) (Ev.now _)
  · intro i hi h
    refine Ev.step (fun k => by rw [spec_l7Has.l0]) ?_
    refine Ev.ifpos (by omega) (Ev.ifpos (by omega) ?_)
    rw [rd_get l i hi]
    exact Ev.ifpos (of_decide_eq_true h) (Ev.now _)
  · intro i hi r h hr
    refine Ev.step (fun k => by rw [spec_l7Has.l0]) ?_
    refine Ev.ifpos (by omega) (Ev.ifpos (by omega) ?_)
    rw [rd_get l i hi, wrap_succ (by omega)]
    exact Ev.ifneg (of_decide_eq_false h) hr

end Go.Proofs.Ytlplegdcpgbbbaa.Pure
/- Plain lemma: the standard search in a list of numbers. Condition: the list is not longer than a list can be. -/
namespace Go.Proofs.Ytlplegdcpgbbbaa.Pure
open Go.RowKit Go.Proofs.Ytlplegdcpgbbbaa.Z Go.Proofs.YtlplegdcpgbbbaaW.PrintWords

theorem impl_index (l : List Int) (x : Int) (hl : l.length ≤ 9223372036854775806) : Ev (fun k => slices_Index_Sint.f k l x) (firstAt (fun y => decide (y = x)) l) := by
  unfold slices_Index_Sint.f
  refine first_loop (fun y => decide (y = x)) l (fun i k => slices_Index_Sint.l0 k l x (l.length : Int) (i : Int)) ?_ ?_ ?_
  · refine Ev.step (fun k => by rw [slices_Index_Sint.l0]) ?_
    exact Ev.ifneg (by omega) (Ev.now _)
  · intro i hi h
    refine Ev.step (fun k => by rw [slices_Index_Sint.l0]) ?_
    refine Ev.ifpos (by omega) (Ev.ifpos (by omega) (Ev.ifpos (by omega) ?_))
    rw [rd_get l i hi]
    exact Ev.ifpos (of_decide_eq_true h).symm (Ev.now _)
  · intro i hi r h hr
    refine Ev.step (fun k => by rw [slices_Index_Sint.l0]) ?_
    refine Ev.ifpos (by omega) (Ev.ifpos (by omega) (Ev.ifpos (by omega) ?_))
    rw [rd_get l i hi, wrap_succ (by omega)]
    exact Ev.ifneg (fun e => of_decide_eq_false h e.symm) hr

theorem impl_has (l : List Int) (x : Int) (hl : l.length ≤ 9223372036854775806) : Ev (fun k => slices_Contains_Sint.f k l x) (l.any fun y => decide (y = x)) := by
  unfold slices_Contains_Sint.f
  refine Ev.bind (impl_index l x hl) (Ev.pure ?_)
  exact firstAt_any _ _

end Go.Proofs.Ytlplegdcpgbbbaa.Pure
/- Plain law: a list has no repeats if no element stands among those before it. No condition. -/
namespace Go.Proofs.Ytlplegdcpgbbbaa.Pure
open Go.RowKit Go.Proofs.YtlplegdcpgbbbaaW.PrintWords

def dupOf (p : List Int) (i : Nat) : Bool := (p.take i).any fun y => decide (y = p.getD i 0)
theorem dupOf_get (p : List Int) (i : Nat) (h : i < p.length) : dupOf p i = (p.take i).any fun y => decide (y = p[i]) := by
  unfold dupOf
  rw [List.getD_eq_getElem?_getD, List.getElem?_eq_getElem h]
  rfl
theorem dupOf_iff (p : List Int) (i : Nat) (h : i < p.length) : dupOf p i = true ↔ ∃ j, ∃ hj : j < i, p[j] = p[i] := by
  rw [dupOf_get p i h, List.any_eq_true]
  constructor
  · rintro ⟨x, hx, e⟩
    obtain ⟨j, hj, e2⟩ := List.getElem_of_mem hx
    rw [List.length_take] at hj
    refine ⟨j, by omega, ?_⟩
    rw [List.getElem_take] at e2
    rw [e2]
    exact of_decide_eq_true e
  · rintro ⟨j, hj, e⟩
    refine ⟨p[j], ?_, decide_eq_true e⟩
    have : (p.take i)[j]'(by rw [List.length_take]; omega) = p[j] := List.getElem_take
    rw [← this]
    exact List.getElem_mem _
theorem nodup_iff_dup (p : List Int) : p.Nodup ↔ ∀ i, i < p.length → dupOf p i = false := by
  constructor
  · intro h i hi
    rw [Bool.eq_false_iff]
    intro hd
    obtain ⟨j, hj, e⟩ := (dupOf_iff p i hi).1 hd
    exact (List.pairwise_iff_getElem.1 h) j i (by omega) hi hj e
  · intro h
    refine List.pairwise_iff_getElem.2 (fun i j hi hj hij e => ?_)
    have h1 := h j hj
    rw [Bool.eq_false_iff] at h1
    exact h1 ((dupOf_iff p j hj).2 ⟨i, hij, e⟩)

end Go.Proofs.Ytlplegdcpgbbbaa.Pure
/- Plain lemma: what the program's allIn answers. Condition: the list is not longer than a list can be. -/
namespace Go.Proofs.Ytlplegdcpgbbbaa.Pure
open Go.RowKit Go.Proofs.Ytlplegdcpgbbbaa.Z Go.Proofs.YtlplegdcpgbbbaaW.PrintWords

theorem impl_allIn (l : List Int) (a b : Int) (hl : l.length ≤ 9223372036854775807) : Ev (fun k => impl_allIn.f k l a b) (l.all fun n => decide (a ≤ n ∧ n ≤ b)) := by
  unfold impl_allIn.f
  have key := all_loop (fun n : Int => decide (a ≤ n ∧ n ≤ b)) l (fun i k => impl_allIn.l0 k a b l (l.length : Int) (i : Int)) true ?_ ?_ ?_
  · simpa using key
  · refine Ev.step (fun k => by rw [impl_allIn.l0]) ?_
    exact Ev.ifneg (by omega) (Ev.now _)
  · intro i hi h
    refine Ev.step (fun k => by rw [impl_allIn.l0]) ?_
    refine Ev.ifpos (by omega) (Ev.ifpos (by omega) (Ev.ifpos (by omega) ?_))
    rw [rd_get l i hi]
    refine Ev.bind0 (a := false) ?_ (Ev.ifneg (by decide) (Ev.now _))
    simp only [decide_eq_false_iff_not] at h
    unfold impl_InRange.f
    by_cases h1 : a ≤ l[i]
    · rw [if_pos h1]
      simp only [Option.some.injEq, decide_eq_false_iff_not]
      omega
    · rw [if_neg h1]
  · intro i hi r h hr
    refine Ev.step (fun k => by rw [impl_allIn.l0]) ?_
    refine Ev.ifpos (by omega) (Ev.ifpos (by omega) (Ev.ifpos (by omega) ?_))
    rw [rd_get l i hi]
    simp only [decide_eq_true_eq] at h
    refine Ev.bind0 (a := true) ?_ (Ev.ifpos rfl ?_)
    · unfold impl_InRange.f
      rw [if_pos h.1]
      simp [h.2]
    · rw [wrap_succ (by omega)]
      exact hr

end Go.Proofs.Ytlplegdcpgbbbaa.Pure
/- Plain lemma: what the reference's and the program's AreTraces answer. Condition: the lists are not longer than the law's can be. -/
namespace Go.Proofs.Ytlplegdcpgbbbaa.Pure
open Go.RowKit Go.Proofs.Ytlplegdcpgbbbaa.Z Go.Proofs.YtlplegdcpgbbbaaW.PrintWords

abbrev Tr := S103
theorem rdTr (l : List Tr) (i : Nat) (h : i < l.length) : rd_T103 l (i : Int) = l[i] := getD_get l i _ h
def hopIn (p : List Int) (i : Nat) : Bool := decide (-1 ≤ p.getD i 0 ∧ p.getD i 0 ≤ 7)
def hopNew (p : List Int) (i : Nat) : Bool := !(decide (0 ≤ p.getD i 0) && dupOf p i)
def okTrace (t : Tr) : Bool := decide (t.f0.length ≤ 8) && (List.range t.f0.length).all (fun i => hopIn t.f0 i && hopNew t.f0 i)
def areTraces (l : List Tr) : Bool := l.all okTrace && decide (l.length ≤ 8)

theorem rd_nat' (p : List Int) (i : Nat) : rd p (i : Int) = p.getD i 0 := by
  unfold rd
  rw [Int.toNat_natCast]

theorem spec_areTraces (l : List Tr) (hl : l.length ≤ 1048576) (hr : ∀ t ∈ l, t.f0.length ≤ 1048576) : Ev (fun k => spec_AreTraces.f k l) (areTraces l) := by
  unfold spec_AreTraces.f areTraces
  refine all_step okTrace l (fun i k => spec_AreTraces.l0 k l (i : Int)) (decide (l.length ≤ 8)) ?_ ?_
  · refine Ev.step (fun k => by rw [spec_AreTraces.l0]) ?_
    exact Ev.ifneg (by omega) (Ev.pure (decide_eq_decide.2 (by omega)))
  · intro i hi r ih
    have hlen := hr l[i] (List.getElem_mem hi)
    refine Ev.step (fun k => by rw [spec_AreTraces.l0]) ?_
    rw [rdTr l i hi]
    refine Ev.ifpos (by omega) (Ev.ifpos (by omega) ?_)
    unfold okTrace
    by_cases h8 : (l[i].f0.length : Int) > 8
    · refine Ev.ifpos h8 (Ev.pure ?_)
      rw [decide_eq_false (by omega), Bool.false_and, Bool.false_and]
    · rw [decide_eq_true (by omega), Bool.true_and]
      refine Ev.ifneg h8 ?_
      generalize l[i].f0 = p at hlen h8
      refine all_places p.length (fun i => hopIn p i && hopNew p i) (fun j k => spec_AreTraces.l1 k l (i : Int) p (j : Int)) r ?_ ?_
      · refine Ev.step (fun k => by rw [spec_AreTraces.l1]) ?_
        rw [wrap_succ (i := i) (by omega)]
        exact Ev.ifneg (by omega) ih
      · intro j hj r2 ih2
        refine Ev.step (fun k => by rw [spec_AreTraces.l1]) ?_
        rw [wrap_succ (i := j) (by omega), rd_nat', Int.toNat_natCast]
        refine Ev.ifpos (by omega) (Ev.ifpos (by omega) (Ev.bind0 (spec_in _ _ _) ?_))
        show Ev (fun k => if hopIn p j = true then _ else _) _
        cases hopIn p j
        · exact Ev.ifneg (by decide) (Ev.pure (by simp))
        · refine Ev.ifpos rfl ?_
          rw [Bool.true_and]
          unfold hopNew
          by_cases h0 : p.getD j 0 ≥ 0
          · have h0' : 0 ≤ p.getD j 0 := h0
            refine Ev.ifpos h0 (Ev.ifpos (by omega) (Ev.bind (spec_has (p.take j) (p.getD j 0) (by rw [List.length_take]; omega)) ?_))
            rw [decide_eq_true h0', Bool.true_and]
            show Ev (fun k => if dupOf p j = true then _ else _) _
            cases dupOf p j
            · exact Ev.ifneg (by decide) (by simpa using ih2)
            · exact Ev.ifpos rfl (Ev.pure (by simp))
          · have h0' : ¬ 0 ≤ p.getD j 0 := h0
            rw [decide_eq_false h0']
            exact Ev.ifneg h0 (by simpa using ih2)

theorem hops_all (p : List Int) : (List.range p.length).all (fun i => hopIn p i && hopNew p i) = (p.all (fun n => decide (-1 ≤ n ∧ n ≤ 7)) && (List.range p.length).all (hopNew p)) := by
  rw [Bool.eq_iff_iff]
  simp only [List.all_eq_true, List.mem_range, Bool.and_eq_true]
  constructor
  · intro h
    refine ⟨fun n hn => ?_, fun i hi => (h i hi).2⟩
    obtain ⟨i, hi, rfl⟩ := List.getElem_of_mem hn
    have h1 := (h i hi).1
    unfold hopIn at h1
    rwa [List.getD_eq_getElem?_getD, List.getElem?_eq_getElem hi] at h1
  · rintro ⟨h1, h2⟩ i hi
    refine ⟨?_, h2 i hi⟩
    unfold hopIn
    rw [List.getD_eq_getElem?_getD, List.getElem?_eq_getElem hi]
    exact h1 _ (List.getElem_mem hi)

theorem impl_areTraces (l : List Tr) (hl : l.length ≤ 1048576) (hr : ∀ t ∈ l, t.f0.length ≤ 1048576) : Ev (fun k => impl_AreTraces.f k l) (areTraces l) := by
  unfold impl_AreTraces.f areTraces
  by_cases h12 : (l.length : Int) > 8
  · rw [decide_eq_false (by omega), Bool.and_false]
    exact Ev.ifpos h12 (Ev.now _)
  rw [decide_eq_true (by omega)]
  refine Ev.ifneg h12 ?_
  refine all_step okTrace l (fun i k => impl_AreTraces.l0 k l (l.length : Int) (i : Int)) true ?_ ?_
  · refine Ev.step (fun k => by rw [impl_AreTraces.l0]) ?_
    exact Ev.ifneg (by omega) (Ev.now _)
  · intro i hi r ih
    have hlen := hr l[i] (List.getElem_mem hi)
    refine Ev.step (fun k => by rw [impl_AreTraces.l0]) ?_
    rw [rdTr l i hi]
    refine Ev.ifpos (by omega) (Ev.ifpos (by omega) (Ev.ifpos (by omega) ?_))
    unfold okTrace
    generalize l[i].f0 = p at hlen
    have hbad : ∀ q : Bool, q = false → Ev (fun k => impl_AreTraces.j1 k l (l.length : Int) (i : Int) true p) q := fun q hq => by
      refine Ev.step (fun k => by rw [impl_AreTraces.j1]) ?_
      exact Ev.ifpos rfl (Ev.pure hq.symm)
    by_cases h8 : (p.length : Int) > 8
    · refine Ev.ifpos h8 (hbad _ ?_)
      rw [decide_eq_false (by omega), Bool.false_and, Bool.false_and]
    · rw [decide_eq_true (by omega), Bool.true_and, hops_all]
      refine Ev.ifneg h8 (Ev.bind (impl_allIn p (-1) 7 (by omega)) ?_)
      cases hb : p.all (fun n => decide (-1 ≤ n ∧ n ≤ 7)) with
      | false => exact hbad _ (by simp)
      | true =>
        refine Ev.step (fun k => by rw [impl_AreTraces.j1]) ?_
        refine Ev.ifneg (by decide) ?_
        rw [Bool.true_and]
        refine all_places p.length (hopNew p) (fun j k => impl_AreTraces.l1 k l (l.length : Int) (i : Int) p (p.length : Int) (j : Int) p) r ?_ ?_
        · refine Ev.step (fun k => by rw [impl_AreTraces.l1]) ?_
          rw [wrap_succ (i := i) (by omega)]
          exact Ev.ifneg (by omega) ih
        · intro j hj r2 ih2
          have hin := List.all_eq_true.1 hb p[j] (List.getElem_mem hj)
          have hin := of_decide_eq_true hin
          have eg : p.getD j 0 = p[j] := by rw [List.getD_eq_getElem?_getD, List.getElem?_eq_getElem hj]; rfl
          refine Ev.step (fun k => by rw [impl_AreTraces.l1]) ?_
          rw [wrap_succ (i := j) (by omega), rd_nat', Int.toNat_natCast]
          refine Ev.ifpos (by omega) (Ev.ifpos (by omega) (Ev.ifpos (by omega) ?_))
          unfold hopNew
          by_cases h0 : p.getD j 0 = -1
          · rw [decide_eq_false (by omega)]
            exact Ev.ifpos h0 (by simpa using ih2)
          · rw [decide_eq_true (by omega), Bool.true_and]
            refine Ev.ifneg h0 (Ev.ifpos (by omega) (Ev.bind (impl_has (p.take j) (p.getD j 0) (by rw [List.length_take]; omega)) ?_))
            show Ev (fun k => if dupOf p j = true then _ else _) _
            cases dupOf p j
            · exact Ev.ifneg (by decide) (by simpa using ih2)
            · exact Ev.ifpos rfl (Ev.pure (by simp))

end Go.Proofs.Ytlplegdcpgbbbaa.Pure
namespace Go.Proofs.Ytlplegdcpgbbbaa.Pure
open Go.RowKit Go.Proofs.Ytlplegdcpgbbbaa.Z Go.Proofs.YtlplegdcpgbbbaaW.PrintWords

theorem FnExactAreTraces : laws_FnExactAreTraces.Pure := by
  intro l hl
  refine Ev.rounds ?_
  unfold laws_FnExactAreTraces.f
  obtain ⟨s, hs, hs2⟩ := sz_TraceS l hl.1 (fun x hx => (hl.2 x hx).1) 1048576 (by omega) (by omega)
  by_cases hn : s < 0
  · exact Ev.bind hs (Ev.ifpos hn (Ev.now _))
  have hsm := (hs2 (by omega)).2
  have ht := to_TraceS l hsm
  have hlen : (l.map c102_103).length ≤ 1048576 := by simpa using hsm.1
  have hsm2 : (smL smS103) (l.map c102_103) := by
    refine ⟨hlen, fun x hx => ?_⟩
    obtain ⟨y, hy, rfl⟩ := List.mem_map.1 hx
    exact hsm.2 y hy
  have he := eq_TraceS (l.map c102_103) hsm2
  generalize l.map c102_103 = q at *
  have hr : ∀ t ∈ q, t.f0.length ≤ 1048576 := fun t ht => (hsm2.2 t ht).1
  have h1 := spec_areTraces q hlen hr
  have h2 := impl_areTraces q hlen hr
  refine Ev.bind hs (Ev.ifneg hn (Ev.bind ht (Ev.bind h1 (Ev.bind ht (Ev.bind h2 (Ev.ifneg (by simp) (Ev.bind ht (Ev.bind he (Ev.ifpos rfl (Ev.now _))))))))))

end Go.Proofs.Ytlplegdcpgbbbaa.Pure
