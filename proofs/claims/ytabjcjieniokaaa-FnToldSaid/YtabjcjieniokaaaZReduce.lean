/- What impl.reduceAny computes, over a row's tidying: definitions, monotony, lengths. No condition. -/
import Derived.Test.YtabjcjieniokaaaZFirst
import Derived.Test.YtabjcjieniokaaaZ0
namespace Go.Proofs.Ytabjcjieniokaaa.Z
open Go.RowKit Go.Proofs.YtabjcjieniokaaaW.PrintWords

/-- Each row, one after another. -/
def mapO {α β : Type} (f : α → Option β) : List α → Option (List β)
  | [] => some []
  | x :: l => (f x).bind fun y => (mapO f l).bind fun q => some (y :: q)
theorem mapO_mono {α β : Type} {f g : α → Option β} (h : ∀ x, LeO (f x) (g x)) : ∀ l, LeO (mapO f l) (mapO g l)
  | [] => LeO.refl _
  | x :: l => LeO.bind (h x) (fun _ => LeO.bind (mapO_mono h l) (fun _ => LeO.refl _))
theorem mapO_len {α β : Type} {f : α → Option β} : ∀ {l : List α} {q : List β}, mapO f l = some q → q.length = l.length
  | [], q, h => by obtain rfl := Option.some.inj h; rfl
  | x :: l, q, h => by
    obtain ⟨y, _, h⟩ := Option.bind_eq_some_iff.1 h
    obtain ⟨r, hr, h⟩ := Option.bind_eq_some_iff.1 h
    obtain rfl := Option.some.inj h
    rw [List.length_cons, List.length_cons, mapO_len hr]
theorem mapO_at {α β : Type} {f : α → Option β} : ∀ {l : List α} {q : List β}, mapO f l = some q → ∀ (i : Nat) (h1 : i < l.length) (h2 : i < q.length), f l[i] = some q[i]
  | [], q, _, i, h1, _ => absurd h1 (Nat.not_lt_zero _)
  | x :: l, q, h, i, h1, h2 => by
    obtain ⟨y, hy, h⟩ := Option.bind_eq_some_iff.1 h
    obtain ⟨r, hr, h⟩ := Option.bind_eq_some_iff.1 h
    obtain rfl := Option.some.inj h
    cases i with
    | zero => exact hy
    | succ i => exact mapO_at hr i (by simpa using h1) (by simpa using h2)

/-- Element i of a row, cleared by the pivot. -/
def elimAt (p : List Int) (c : Nat) (r : List Int) (f : Int) (i : Nat) : Int := wrap64 (wrap64 (r.getD i 0 * p.getD c 0) - wrap64 (p.getD i 0 * f))
def elimRow (p : List Int) (c : Nat) (r : List Int) : List Int := (List.range r.length).map (elimAt p c r (r.getD c 0))
theorem elimRow_len (p : List Int) (c : Nat) (r : List Int) : (elimRow p c r).length = r.length := by unfold elimRow; simp
/-- The row while the loop clears it: the first i places are cleared. -/
def elimTo (p : List Int) (c : Nat) (r : List Int) (i : Nat) : List Int := (List.range i).map (elimAt p c r (r.getD c 0)) ++ r.drop i
theorem elimTo_zero (p : List Int) (c : Nat) (r : List Int) : elimTo p c r 0 = r := by unfold elimTo; simp
theorem elimTo_all (p : List Int) (c : Nat) (r : List Int) : elimTo p c r r.length = elimRow p c r := by unfold elimTo elimRow; simp
theorem elimTo_len (p : List Int) (c : Nat) (r : List Int) (i : Nat) (h : i ≤ r.length) : (elimTo p c r i).length = r.length := by unfold elimTo; simp; omega
theorem elimTo_at (p : List Int) (c : Nat) (r : List Int) (i : Nat) : (elimTo p c r i).getD i 0 = r.getD i 0 := by
  unfold elimTo
  rw [List.getD_eq_getElem?_getD, List.getElem?_append_right (by simp), List.getD_eq_getElem?_getD]
  simp
theorem elimTo_set (p : List Int) (c : Nat) (r : List Int) (i : Nat) (h : i < r.length) : (elimTo p c r i).set i (elimAt p c r (r.getD c 0) i) = elimTo p c r (i + 1) := by
  unfold elimTo
  have hl : ((List.range i).map (elimAt p c r (r.getD c 0))).length = i := by simp
  rw [List.set_append_right _ _ (by omega), hl, Nat.sub_self, List.drop_eq_getElem_cons h, List.set_cons_zero, List.range_succ, List.map_append, List.append_assoc]
  rfl

/-- A row cleared of column c by p, then tidied. -/
def clrO (tidy : List Int → Option (List Int)) (p : List Int) (c : Nat) (r : List Int) : Option (List Int) := if r.getD c 0 = 0 then some r else (tidy (elimRow p c r)).bind fun t => if t.length = r.length then some t else none
def leadIs (c : Nat) (r : List Int) : Bool := decide (firstAt (fun n => !decide (n = 0)) r = (c : Int))
/-- One column: rows that remain, rows with a pivot. -/
def colO (tidy : List Int → Option (List Int)) (c : Nat) (s : List (List Int) × List (List Int)) : Option (List (List Int) × List (List Int)) :=
  if firstAt (leadIs c) s.1 < 0 then some s else (mapO (clrO tidy (s.1.getD (firstAt (leadIs c) s.1).toNat []) c) (s.1.eraseIdx (firstAt (leadIs c) s.1).toNat)).bind fun R => (mapO (clrO tidy (s.1.getD (firstAt (leadIs c) s.1).toNat []) c) s.2).bind fun O => some (R, O ++ [s.1.getD (firstAt (leadIs c) s.1).toNat []])
def colsO (tidy : List Int → Option (List Int)) : Nat → Nat → List (List Int) × List (List Int) → Option (List (List Int))
  | 0, _, s => some s.2
  | d + 1, c, s => (colO tidy c s).bind fun s' => colsO tidy d (c + 1) s'

theorem clrO_mono {f g : List Int → Option (List Int)} (h : ∀ x, LeO (f x) (g x)) (p : List Int) (c : Nat) (r : List Int) : LeO (clrO f p c r) (clrO g p c r) := LeO.ite (LeO.refl _) (LeO.bind (h _) (fun _ => LeO.refl _))
theorem colO_mono {f g : List Int → Option (List Int)} (h : ∀ x, LeO (f x) (g x)) (c : Nat) (s : List (List Int) × List (List Int)) : LeO (colO f c s) (colO g c s) := LeO.ite (LeO.refl _) (LeO.bind (mapO_mono (clrO_mono h _ _) _) (fun _ => LeO.bind (mapO_mono (clrO_mono h _ _) _) (fun _ => LeO.refl _)))
theorem colsO_mono {f g : List Int → Option (List Int)} (h : ∀ x, LeO (f x) (g x)) : ∀ (d c : Nat) (s : List (List Int) × List (List Int)), LeO (colsO f d c s) (colsO g d c s)
  | 0, _, _ => LeO.refl _
  | d + 1, c, s => LeO.bind (colO_mono h c s) (fun s' => colsO_mono h d (c + 1) s')

theorem clrO_len {f : List Int → Option (List Int)} {p : List Int} {c : Nat} {r t : List Int} (h : clrO f p c r = some t) : t.length = r.length := by
  unfold clrO at h
  split at h
  · obtain rfl := Option.some.inj h; rfl
  · obtain ⟨u, _, h⟩ := Option.bind_eq_some_iff.1 h
    split at h
    · rename_i hl
      obtain rfl := Option.some.inj h
      exact hl
    · cases h

/-- The list while a loop replaces its elements: the first q are new. -/
def mixL {α : Type} (L' L : List α) (q : Nat) : List α := L'.take q ++ L.drop q
theorem mixL_zero {α : Type} (L' L : List α) : mixL L' L 0 = L := by unfold mixL; simp
theorem mixL_all {α : Type} (L' L : List α) {m : Nat} (h : L'.length = m) (h2 : L.length = m) : mixL L' L m = L' := by
  unfold mixL
  rw [List.take_of_length_le (by omega), List.drop_of_length_le (by omega), List.append_nil]
theorem mixL_len {α : Type} (L' L : List α) {q : Nat} (h : L'.length = L.length) (hq : q ≤ L.length) : (mixL L' L q).length = L.length := by
  unfold mixL
  rw [List.length_append, List.length_take, List.length_drop]
  omega
theorem mixL_at {α : Type} (L' L : List α) (z : α) {q : Nat} (h : L'.length = L.length) (hq : q < L.length) : (mixL L' L q).getD q z = L[q] := by
  unfold mixL
  rw [List.getD_eq_getElem?_getD, List.getElem?_append_right (by rw [List.length_take]; omega), List.length_take, show q - min q L'.length = 0 by omega, List.getElem?_drop, Nat.add_zero, List.getElem?_eq_getElem hq]
  rfl
theorem mixL_set {α : Type} (L' L : List α) {q : Nat} (h : L'.length = L.length) (hq : q < L.length) : (mixL L' L q).set q (L'[q]'(by omega)) = mixL L' L (q + 1) := by
  unfold mixL
  have hl : (L'.take q).length = q := by rw [List.length_take]; omega
  rw [List.set_append_right _ _ (by omega), hl, Nat.sub_self, List.drop_eq_getElem_cons hq, List.set_cons_zero, List.take_succ_eq_append_getElem (by omega), List.append_assoc]
  rfl
theorem mixL_same {α : Type} (L' L : List α) {q : Nat} (h : L'.length = L.length) (hq : q < L.length) (e : L'[q]'(by omega) = L[q]) : mixL L' L (q + 1) = mixL L' L q := by
  rw [← mixL_set L' L h hq, e]
  unfold mixL
  have hl : (L'.take q).length = q := by rw [List.length_take]; omega
  rw [List.set_append_right _ _ (by omega), hl, Nat.sub_self, List.drop_eq_getElem_cons hq, List.set_cons_zero]

theorem colO_some {tidy : List Int → Option (List Int)} {c : Nat} {R O : List (List Int)} {s : List (List Int) × List (List Int)} (h : colO tidy c (R, O) = some s) :
    (firstAt (leadIs c) R < 0 ∧ s = (R, O)) ∨ ∃ kk : Nat, firstAt (leadIs c) R = (kk : Int) ∧ kk < R.length ∧ ∃ R' O', mapO (clrO tidy (R.getD kk []) c) (R.eraseIdx kk) = some R' ∧ mapO (clrO tidy (R.getD kk []) c) O = some O' ∧ s = (R', O' ++ [R.getD kk []]) := by
  unfold colO at h
  by_cases hf : firstAt (leadIs c) R < 0
  · rw [if_pos hf] at h
    exact .inl ⟨hf, (Option.some.inj h).symm⟩
  · rw [if_neg hf] at h
    obtain ⟨kk, hk⟩ : ∃ kk : Nat, firstAt (leadIs c) R = (kk : Int) := ⟨(firstAt (leadIs c) R).toNat, by omega⟩
    have hl : kk < R.length := by
      unfold firstAt at hk
      split at hk <;> omega
    rw [hk, Int.toNat_natCast] at h
    obtain ⟨R', h1, h⟩ := Option.bind_eq_some_iff.1 h
    obtain ⟨O', h2, h⟩ := Option.bind_eq_some_iff.1 h
    exact .inr ⟨kk, hk, hl, R', O', h1, h2, (Option.some.inj h).symm⟩
theorem colsO_some {tidy : List Int → Option (List Int)} {d c : Nat} {s : List (List Int) × List (List Int)} {r : List (List Int)} (h : colsO tidy (d + 1) c s = some r) : ∃ s', colO tidy c s = some s' ∧ colsO tidy d (c + 1) s' = some r := Option.bind_eq_some_iff.1 h
theorem mem_erase {α : Type} {x : α} {l : List α} {k : Nat} (h : x ∈ l.eraseIdx k) : x ∈ l := List.mem_of_mem_eraseIdx h
theorem clr_all {n : Nat} {tidy : List Int → Option (List Int)} {p : List Int} {c : Nat} : ∀ {L L' : List (List Int)}, mapO (clrO tidy p c) L = some L' → (∀ x ∈ L, x.length = n) → ∀ x ∈ L', x.length = n := by
  intro L L' h hl x hx
  obtain ⟨i, hi, rfl⟩ := List.mem_iff_getElem.1 hx
  have hil : i < L.length := by rw [← mapO_len h]; exact hi
  rw [clrO_len (mapO_at h i hil hi)]
  exact hl _ (List.getElem_mem hil)
/-- A row that is cleared: nothing is done, or the row is cleared and tidied. -/
theorem clrO_some {f : List Int → Option (List Int)} {p : List Int} {c : Nat} {r t : List Int} (h : clrO f p c r = some t) : (rd r (c : Int) = 0 ∧ t = r) ∨ (rd r (c : Int) ≠ 0 ∧ f (elimRow p c r) = some t ∧ t.length = r.length) := by
  have hl := clrO_len h
  unfold clrO at h
  have e : rd r (c : Int) = r.getD c 0 := by unfold rd; rw [Int.toNat_natCast]
  split at h
  · rename_i h0
    exact .inl ⟨by rw [e]; exact h0, (Option.some.inj h).symm⟩
  · rename_i h0
    obtain ⟨u, hu, h⟩ := Option.bind_eq_some_iff.1 h
    split at h
    · obtain rfl := Option.some.inj h
      exact .inr ⟨by rw [e]; exact h0, hu, hl⟩
    · cases h

end Go.Proofs.Ytabjcjieniokaaa.Z
