/- What impl.reduceAny computes, over a row's tidying: definitions, monotony, lengths. No condition. -/
import Derived.Test.YtcdlhjfiboomkaaZFirst
import Derived.Test.YtcdlhjfiboomkaaZ0
import Derived.Deep.RegionLaw
import Derived.Lib.SliceRun
namespace Go.Proofs.Ytcdlhjfiboomkaa.Z
open Go.RowKit Go.Proofs.YtcdlhjfiboomkaaW.PrintWords

/-- Each row, one after another. -/
def mapO {α β : Type} (f : α → Option β) : List α → Option (List β)
  | [] => some []
  | x :: l => (f x).bind fun y => (mapO f l).bind fun q => some (y :: q)
theorem mapO_mono {α β : Type} {f g : α → Option β} (h : ∀ x, LeO (f x) (g x)) : ∀ l, LeO (mapO f l) (mapO g l)
  | [] => LeO.refl _
  | x :: l => LeO.bind (h x) (fun _ => LeO.bind (mapO_mono h l) (fun _ => LeO.refl _))
theorem mapO_len {α β : Type} {f : α → Option β} : ∀ {l : List α} {q : List β}, mapO f l = some q → q.length = l.length
  | [], q, h => by obtain rfl := Option.some.inj h; rfl
  | x :: l, q, h => by
    obtain ⟨y, _, h⟩ := Option.bind_eq_some_iff.1 h
    obtain ⟨r, hr, h⟩ := Option.bind_eq_some_iff.1 h
    obtain rfl := Option.some.inj h
    rw [List.length_cons, List.length_cons, mapO_len hr]
theorem mapO_at {α β : Type} {f : α → Option β} : ∀ {l : List α} {q : List β}, mapO f l = some q → ∀ (i : Nat) (h1 : i < l.length) (h2 : i < q.length), f l[i] = some q[i]
  | [], q, _, i, h1, _ => absurd h1 (Nat.not_lt_zero _)
  | x :: l, q, h, i, h1, h2 => by
    obtain ⟨y, hy, h⟩ := Option.bind_eq_some_iff.1 h
    obtain ⟨r, hr, h⟩ := Option.bind_eq_some_iff.1 h
    obtain rfl := Option.some.inj h
    cases i with
    | zero => exact hy
    | succ i => exact mapO_at hr i (by simpa using h1) (by simpa using h2)

/-- Element i of a row, cleared by the pivot. -/
def elimAt (p : List Int) (c : Nat) (r : List Int) (f : Int) (i : Nat) : Int := wrap64 (wrap64 (r.getD i 0 * p.getD c 0) - wrap64 (p.getD i 0 * f))
def elimRow (p : List Int) (c : Nat) (r : List Int) : List Int := (List.range r.length).map (elimAt p c r (r.getD c 0))
theorem elimRow_len (p : List Int) (c : Nat) (r : List Int) : (elimRow p c r).length = r.length := by unfold elimRow; simp
/-- The row while the loop clears it: the first i places are cleared. -/
def elimTo (p : List Int) (c : Nat) (r : List Int) (i : Nat) : List Int := (List.range i).map (elimAt p c r (r.getD c 0)) ++ r.drop i
theorem elimTo_zero (p : List Int) (c : Nat) (r : List Int) : elimTo p c r 0 = r := by unfold elimTo; simp
theorem elimTo_all (p : List Int) (c : Nat) (r : List Int) : elimTo p c r r.length = elimRow p c r := by unfold elimTo elimRow; simp
theorem elimTo_len (p : List Int) (c : Nat) (r : List Int) (i : Nat) (h : i ≤ r.length) : (elimTo p c r i).length = r.length := by unfold elimTo; simp; omega
theorem elimTo_at (p : List Int) (c : Nat) (r : List Int) (i : Nat) : (elimTo p c r i).getD i 0 = r.getD i 0 := by
  unfold elimTo
  rw [List.getD_eq_getElem?_getD, List.getElem?_append_right (by simp), List.getD_eq_getElem?_getD]
  simp
theorem elimTo_set (p : List Int) (c : Nat) (r : List Int) (i : Nat) (h : i < r.length) : (elimTo p c r i).set i (elimAt p c r (r.getD c 0) i) = elimTo p c r (i + 1) := by
  unfold elimTo
  have hl : ((List.range i).map (elimAt p c r (r.getD c 0))).length = i := by simp
  rw [List.set_append_right _ _ (by omega), hl, Nat.sub_self, List.drop_eq_getElem_cons h, List.set_cons_zero, List.range_succ, List.map_append, List.append_assoc]
  rfl

/-- A row cleared of column c by p, then tidied. -/
def clrO (tidy : List Int → Option (List Int)) (p : List Int) (c : Nat) (r : List Int) : Option (List Int) := if r.getD c 0 = 0 then some r else (tidy (elimRow p c r)).bind fun t => if t.length = r.length then some t else none
def leadIs (c : Nat) (r : List Int) : Bool := decide (firstAt (fun n => !decide (n = 0)) r = (c : Int))
/-- One column: rows that remain, rows with a pivot. -/
def colO (tidy : List Int → Option (List Int)) (c : Nat) (s : List (List Int) × List (List Int)) : Option (List (List Int) × List (List Int)) :=
  if firstAt (leadIs c) s.1 < 0 then some s else (mapO (clrO tidy (s.1.getD (firstAt (leadIs c) s.1).toNat []) c) (s.1.eraseIdx (firstAt (leadIs c) s.1).toNat)).bind fun R => (mapO (clrO tidy (s.1.getD (firstAt (leadIs c) s.1).toNat []) c) s.2).bind fun O => some (R, O ++ [s.1.getD (firstAt (leadIs c) s.1).toNat []])
def colsO (tidy : List Int → Option (List Int)) : Nat → Nat → List (List Int) × List (List Int) → Option (List (List Int))
  | 0, _, s => some s.2
  | d + 1, c, s => (colO tidy c s).bind fun s' => colsO tidy d (c + 1) s'

theorem clrO_mono {f g : List Int → Option (List Int)} (h : ∀ x, LeO (f x) (g x)) (p : List Int) (c : Nat) (r : List Int) : LeO (clrO f p c r) (clrO g p c r) := LeO.ite (LeO.refl _) (LeO.bind (h _) (fun _ => LeO.refl _))
theorem colO_mono {f g : List Int → Option (List Int)} (h : ∀ x, LeO (f x) (g x)) (c : Nat) (s : List (List Int) × List (List Int)) : LeO (colO f c s) (colO g c s) := LeO.ite (LeO.refl _) (LeO.bind (mapO_mono (clrO_mono h _ _) _) (fun _ => LeO.bind (mapO_mono (clrO_mono h _ _) _) (fun _ => LeO.refl _)))
theorem colsO_mono {f g : List Int → Option (List Int)} (h : ∀ x, LeO (f x) (g x)) : ∀ (d c : Nat) (s : List (List Int) × List (List Int)), LeO (colsO f d c s) (colsO g d c s)
  | 0, _, _ => LeO.refl _
  | d + 1, c, s => LeO.bind (colO_mono h c s) (fun s' => colsO_mono h d (c + 1) s')

theorem clrO_len {f : List Int → Option (List Int)} {p : List Int} {c : Nat} {r t : List Int} (h : clrO f p c r = some t) : t.length = r.length := by
  unfold clrO at h
  split at h
  · obtain rfl := Option.some.inj h; rfl
  · obtain ⟨u, _, h⟩ := Option.bind_eq_some_iff.1 h
    split at h
    · rename_i hl
      obtain rfl := Option.some.inj h
      exact hl
    · cases h

/-- The list while a loop replaces its elements: the first q are new. -/
def mixL {α : Type} (L' L : List α) (q : Nat) : List α := L'.take q ++ L.drop q
theorem mixL_zero {α : Type} (L' L : List α) : mixL L' L 0 = L := by unfold mixL; simp
theorem mixL_all {α : Type} (L' L : List α) {m : Nat} (h : L'.length = m) (h2 : L.length = m) : mixL L' L m = L' := by
  unfold mixL
  rw [List.take_of_length_le (by omega), List.drop_of_length_le (by omega), List.append_nil]
theorem mixL_len {α : Type} (L' L : List α) {q : Nat} (h : L'.length = L.length) (hq : q ≤ L.length) : (mixL L' L q).length = L.length := by
  unfold mixL
  rw [List.length_append, List.length_take, List.length_drop]
  omega
theorem mixL_at {α : Type} (L' L : List α) (z : α) {q : Nat} (h : L'.length = L.length) (hq : q < L.length) : (mixL L' L q).getD q z = L[q] := by
  unfold mixL
  rw [List.getD_eq_getElem?_getD, List.getElem?_append_right (by rw [List.length_take]; omega), List.length_take, show q - min q L'.length = 0 by omega, List.getElem?_drop, Nat.add_zero, List.getElem?_eq_getElem hq]
  rfl
theorem mixL_set {α : Type} (L' L : List α) {q : Nat} (h : L'.length = L.length) (hq : q < L.length) : (mixL L' L q).set q (L'[q]'(by omega)) = mixL L' L (q + 1) := by
  unfold mixL
  have hl : (L'.take q).length = q := by rw [List.length_take]; omega
  rw [List.set_append_right _ _ (by omega), hl, Nat.sub_self, List.drop_eq_getElem_cons hq, List.set_cons_zero, List.take_succ_eq_append_getElem (by omega), List.append_assoc]
  rfl
theorem mixL_same {α : Type} (L' L : List α) {q : Nat} (h : L'.length = L.length) (hq : q < L.length) (e : L'[q]'(by omega) = L[q]) : mixL L' L (q + 1) = mixL L' L q := by
  rw [← mixL_set L' L h hq, e]
  unfold mixL
  have hl : (L'.take q).length = q := by rw [List.length_take]; omega
  rw [List.set_append_right _ _ (by omega), hl, Nat.sub_self, List.drop_eq_getElem_cons hq, List.set_cons_zero]

theorem colO_some {tidy : List Int → Option (List Int)} {c : Nat} {R O : List (List Int)} {s : List (List Int) × List (List Int)} (h : colO tidy c (R, O) = some s) :
    (firstAt (leadIs c) R < 0 ∧ s = (R, O)) ∨ ∃ kk : Nat, firstAt (leadIs c) R = (kk : Int) ∧ kk < R.length ∧ ∃ R' O', mapO (clrO tidy (R.getD kk []) c) (R.eraseIdx kk) = some R' ∧ mapO (clrO tidy (R.getD kk []) c) O = some O' ∧ s = (R', O' ++ [R.getD kk []]) := by
  unfold colO at h
  by_cases hf : firstAt (leadIs c) R < 0
  · rw [if_pos hf] at h
    exact .inl ⟨hf, (Option.some.inj h).symm⟩
  · rw [if_neg hf] at h
    obtain ⟨kk, hk⟩ : ∃ kk : Nat, firstAt (leadIs c) R = (kk : Int) := ⟨(firstAt (leadIs c) R).toNat, by omega⟩
    have hl : kk < R.length := by
      unfold firstAt at hk
      split at hk <;> omega
    rw [hk, Int.toNat_natCast] at h
    obtain ⟨R', h1, h⟩ := Option.bind_eq_some_iff.1 h
    obtain ⟨O', h2, h⟩ := Option.bind_eq_some_iff.1 h
    exact .inr ⟨kk, hk, hl, R', O', h1, h2, (Option.some.inj h).symm⟩
theorem colsO_some {tidy : List Int → Option (List Int)} {d c : Nat} {s : List (List Int) × List (List Int)} {r : List (List Int)} (h : colsO tidy (d + 1) c s = some r) : ∃ s', colO tidy c s = some s' ∧ colsO tidy d (c + 1) s' = some r := Option.bind_eq_some_iff.1 h
theorem mem_erase {α : Type} {x : α} {l : List α} {k : Nat} (h : x ∈ l.eraseIdx k) : x ∈ l := List.mem_of_mem_eraseIdx h
theorem clr_all {n : Nat} {tidy : List Int → Option (List Int)} {p : List Int} {c : Nat} : ∀ {L L' : List (List Int)}, mapO (clrO tidy p c) L = some L' → (∀ x ∈ L, x.length = n) → ∀ x ∈ L', x.length = n := by
  intro L L' h hl x hx
  obtain ⟨i, hi, rfl⟩ := List.mem_iff_getElem.1 hx
  have hil : i < L.length := by rw [← mapO_len h]; exact hi
  rw [clrO_len (mapO_at h i hil hi)]
  exact hl _ (List.getElem_mem hil)
/-- A row that is cleared: nothing is done, or the row is cleared and tidied. -/
theorem clrO_some {f : List Int → Option (List Int)} {p : List Int} {c : Nat} {r t : List Int} (h : clrO f p c r = some t) : (rd r (c : Int) = 0 ∧ t = r) ∨ (rd r (c : Int) ≠ 0 ∧ f (elimRow p c r) = some t ∧ t.length = r.length) := by
  have hl := clrO_len h
  unfold clrO at h
  have e : rd r (c : Int) = r.getD c 0 := by unfold rd; rw [Int.toNat_natCast]
  split at h
  · rename_i h0
    exact .inl ⟨by rw [e]; exact h0, (Option.some.inj h).symm⟩
  · rename_i h0
    obtain ⟨u, hu, h⟩ := Option.bind_eq_some_iff.1 h
    split at h
    · obtain rfl := Option.some.inj h
      exact .inr ⟨by rw [e]; exact h0, hu, hl⟩
    · cases h

end Go.Proofs.Ytcdlhjfiboomkaa.Z
/- Lists of rows whose rows are another's: what is copied or appended is the rows' places alone. No condition. -/
namespace Go.Proofs.Ytcdlhjfiboomkaa.Z
open Go.RowKit Go.Proofs.YtcdlhjfiboomkaaW.PrintWords

/-- A row that was read in the world w0. -/
def KW (w0 : World) : Kd (List Int) where
  sz := 1
  E := []
  K := fun _ x cs => (Kd.slice 3 (Kd.int .i64)).K w0 x cs
  M := fun _ _ _ x cs => (Kd.slice 3 (Kd.int .i64)).K w0 x cs
  K_len := fun h => (Kd.slice 3 (Kd.int .i64)).K_len h
  K_one := fun h => (Kd.slice 3 (Kd.int .i64)).K_one h
  K_below := fun _ h => h
  K_of_M := fun h => h
  M_mono := fun _ h => h
  M_bound := fun h => h
  M_move := fun _ h => h
  M_lower := fun _ h => h
theorem KW_reads {w w1 : World} {e base n c : Nat} {ok : Nat → Prop} {A : Option Addr} {xs : List (List Int)} (h : (KW w).R e w1 base ok (.slice A n c) xs) (hb : Below w.heap.size w w1) : n = xs.length ∧ n ≤ c ∧ Kd.C (Kd.slice 3 (Kd.int .i64)) w1 A xs.length xs := by
  obtain ⟨h1, h2, h3⟩ := Kd.R_reads' h
  exact ⟨h1, h2, ReadsRow.imp_ h3 (Below.refl _ _) (fun _ _ hp => (Kd.slice 3 (Kd.int .i64)).K_below hb hp)⟩
theorem C_KW {w w1 : World} {n : Nat} {A : Option Addr} {xs : List (List Int)} (h : Kd.C (Kd.slice 3 (Kd.int .i64)) w A n xs) (hb : Below w.heap.size w w1) : ReadsRow ((Kd.slice 3 (Kd.int .i64)).K w) 1 w1 A n xs := ReadsRow.imp_ h hb (fun _ _ hp => hp)
theorem C_oneRow {W : World} {g t c : Nat} {A : Option Addr} {x : List Int} (h : W.heap[g]? = some (.cells #[.slice A x.length c] t (0, 0))) (hc : x.length ≤ c) (hr : Kd.C (Kd.int .i64) W A x.length x) : Kd.C (Kd.slice 3 (Kd.int .i64)) W (some ⟨g, 0, none⟩) 1 [x] := by
  refine ⟨rfl, by decide, fun _ => ⟨⟨g, 0, none⟩, rfl, fun j p hj => ?_⟩⟩
  match j, hj with
  | 0, hj =>
    obtain rfl := Option.some.inj hj
    refine ⟨[.slice A x.length c], rfl, ⟨A, c, rfl, hc, hr⟩, fun i u hi => ?_⟩
    match i, hi with
    | 0, hi =>
      obtain rfl := Option.some.inj hi
      rw [Nat.zero_mul, Nat.add_zero, Addr.add_zero']
      exact (blk_cell h 0).trans rfl
    | i + 1, hi => simp at hi
  | j + 1, hj => simp at hj

end Go.Proofs.Ytcdlhjfiboomkaa.Z
/- The library's Delete of one row of rows that the call owns; the row itself stays apart. Condition: the row is lent. -/
namespace Go.Proofs.Ytcdlhjfiboomkaa.Z
open Go.RowKit Go.Proofs.YtcdlhjfiboomkaaW.PrintWords Go.Proofs.YtcdlhjfiboomkaaW.PrintLast Go.Proofs.YtcdlhjfiboomkaaW.PrintMore

abbrev KR : Kd (List Int) := Kd.slice 3 (Kd.int .i64)

theorem H_erase {e base : Nat} {w : World} {ok : Nat → Prop} {v : Value} {xs : List (List Int)} {f : Nat → Nat} {k : Nat} {c : List Value} (h : (Kd.gap f KR k c).R e w base ok v (xs.zipIdx.eraseIdx k)) : Kd.S KR e w base ok v (xs.eraseIdx k) := by
  obtain ⟨h0, inner, ho, hr⟩ := h
  have hl : (xs.zipIdx.eraseIdx k).length = (xs.eraseIdx k).length := by simp only [List.length_eraseIdx, List.length_zipIdx]
  rw [hl] at ho
  refine ⟨fun b => if k < f b then f b - 1 else f b, h0, inner, by rw [List.length_zipIdx]; exact ho, by rw [List.length_zipIdx, ← hl]; exact hr.1, fun j p hj => ?_⟩
  rw [List.getElem?_zipIdx, Nat.zero_add] at hj
  obtain ⟨x, hx, rfl⟩ := Option.map_eq_some_iff.1 hj
  rw [List.getElem?_eraseIdx] at hx
  by_cases hjk : j < k
  · rw [if_pos hjk] at hx
    refine KR.M_mono (fun b hb => ⟨hb.1, ?_⟩) ((hr.2 j (x, j) (by rw [List.getElem?_eraseIdx, if_pos hjk]; exact Kd.zip_at hx)).2 (by show j ≠ k; omega))
    have h2 : f b = j := hb.2
    show (if k < f b then f b - 1 else f b) = j
    rw [if_neg (by omega)]; exact h2
  · rw [if_neg hjk] at hx
    refine KR.M_mono (fun b hb => ⟨hb.1, ?_⟩) ((hr.2 j (x, j + 1) (by rw [List.getElem?_eraseIdx, if_neg hjk]; exact Kd.zip_at hx)).2 (by show j + 1 ≠ k; omega))
    have h2 : f b = j + 1 := hb.2
    show (if k < f b then f b - 1 else f b) = j
    rw [if_pos (by omega)]; omega

theorem add_offR (g z : Nat) : (⟨g, 0, none⟩ : Addr).add z = ⟨g, z, none⟩ := by unfold Addr.add; split <;> simp_all
theorem row_sz : (Try.prog.info? 25).map (·.size) = some 1 := by
  obtain ⟨i, hi, hz⟩ := Option.map_eq_some_iff.1 info25
  simp only [Prod.mk.injEq] at hz
  rw [hi]
  simp [hz.2.1]
theorem S_beyond {e base g m cap j : Nat} {W : World} {ok : Nat → Prop} {xs : List (List Int)} (h : Kd.S KR e W base ok (.slice (some ⟨g, 0, none⟩) m cap) xs) (hj : m ≤ j) (u : Value) : Kd.S KR e (W.setCell ⟨g, j, none⟩ u) base ok (.slice (some ⟨g, 0, none⟩) m cap) xs := by
  have hgo : some g = (Value.slice (some ⟨g, 0, none⟩) m cap).ownBlock := by simp [Value.ownBlock]
  have hm := (Kd.R_reads' (Kd.S_R h)).1
  obtain ⟨f, h0, inner, ho, hr⟩ := h
  refine ⟨f, h0, inner, ?_, hr.1, fun q p hp => ?_⟩
  · obtain ⟨h1, h2⟩ := ho
    rcases h2 with ⟨hv, _⟩ | ⟨g', cap', cur, hv, hb, hh, hnc, hcm, hcs, ht⟩
    · cases hv
    · have hv2 := hv
      injection hv2 with ha hn hc
      injection ha with ha
      injection ha with ha
      subst ha; subst hc
      refine ⟨h1, .inr ⟨g, cap, cur.setIfInBounds j u, hv, hb, blk_set hh j u, hnc, hcm, by rw [Array.size_setIfInBounds]; exact hcs, ?_⟩⟩
      rw [← ht, Array.toList_setIfInBounds, List.take_set_of_le]
      show xs.zipIdx.length * 1 ≤ j
      rw [List.length_zipIdx]
      omega
  · exact (Kd.tag f KR).M_move (w1 := W.setCell ⟨g, j, none⟩ u) (fun b hb => Below.heap_setCell W ⟨g, j, none⟩ u b (fun e => hb.2 (by rw [e]; exact hgo))) (hr.2 q p hp)

theorem zero_row (w : World) : (zeroValue 25).run Try.prog w = .ok (.slice none 0 0) w := by
  obtain ⟨i, hi, hq⟩ := Option.map_eq_some_iff.1 info25
  simp only [Prod.mk.injEq] at hq
  simp [zeroValue, typeInfo, hi, hq.1]
set_option maxRecDepth 10000 in
theorem clear_one {f : Nat → Nat} {g n m k cap base : Nat} {ok : Nat → Prop} {cc : List Value} {W : World} {zs : List (List Int × Nat)} (h : (Kd.gap f KR k cc).R 25 W base ok (.slice (some ⟨g, 0, none⟩) m cap) zs) (hm : n - 1 = m) (hk : k < n) (hn : n ≤ cap) (ty : TypeId) :
    (Builtin.clear_ #[46] ty #[.slice (some ⟨g, m, none⟩) (n - m) (cap - m)]).run Try.prog W = .ok (.tuple #[]) (W.setCell ⟨g, m, none⟩ (.slice none 0 0)) := by
  obtain ⟨_, inner, ho, _⟩ := h
  rcases ho.2 with ⟨hv, _⟩ | ⟨g', cap', cur, hv, hb, hh, hnc, hcm, hcs, ht⟩
  · cases hv
  · injection hv with ha hn' hc
    injection ha with ha
    injection ha with ha
    subst ha; subst hc
    have hcs : cur.size = cap * 1 := hcs
    have h1 : n - m = 1 := by omega
    have hmc : m < cur.size := by omega
    have := Lib.run_clear_slice (P := Try.prog) W 46 25 ty (.slice none 0 0) Try.underlying46 zero_row rfl rfl g m (n - m) (cap - m) (by omega) (fun j hj => by
      have : j = 0 := by omega
      subst this
      rw [Nat.add_zero]
      have := (blk_cell hh m)
      rw [this, Array.getElem?_eq_getElem hmc]
      rfl) (fun j hj => blk_frozen hh _)
    rw [this, h1]
    rfl
set_option maxRecDepth 100000 in
set_option maxHeartbeats 4000000 in
theorem deleteRow_calls (w0 : World) (base g n cap k : Nat) (okR oki : Nat → Prop) (xs : List (List Int)) (cc : List Value) (w : World) (hH : Kd.H KR 25 w base okR (.slice (some ⟨g, 0, none⟩) n cap) xs (k : Int) oki cc) (hk : k < n) (hnc : n ≤ cap) (hn : n ≤ 17592186044416) (hB : Below base w0 w) (hbg : base ≤ g) (hlt : g < w.heap.size) :
    Calls Try.prog 93 #[.slice (some ⟨g, 0, none⟩) n cap, .int .i64 (k : Int), .int .i64 ((k + 1 : Nat) : Int)] w fun e w' => e = .returned (.slice (some ⟨g, 0, none⟩) (n - 1) cap) ∧ Kd.S KR 25 w' base (fun b => okR b ∧ ¬ oki b) (.slice (some ⟨g, 0, none⟩) (n - 1) cap) (xs.eraseIdx k) ∧ Below base w0 w' ∧ Kept w w' (fun b => b = g) := by
  obtain ⟨hoo, f, hRR⟩ := hH
  rw [Int.toNat_natCast] at hRR
  have HRR := Aside0.mk hRR
  have HB := Aside0.mk hB
  have HK := Aside0.mk hk
  have HNC := Aside0.mk hnc
  have HN := Aside0.mk hn
  have HLT := Aside0.mk hlt
  have HBG := Aside0.mk hbg
  obtain ⟨j, hj⟩ : ∃ j, k + 1 = j := ⟨_, rfl⟩
  rw [hj]
  have HJ := Aside0.mk hj
  obtain ⟨m, hm⟩ : ∃ m, n - 1 = m := ⟨_, rfl⟩
  have HM := Aside0.mk hm
  rw [hm]
  have y1 := eq_true (show (m : Int) ≤ (n : Int) by omega)
  have y2 := eq_true (show m ≤ n by omega)
  have y3 := eq_true (show (0 : Int) ≤ (m : Int) by omega)
  have y4 := eq_false (show ¬ cap = m by omega)
  have y5 := eq_true (show (m : Int) ≤ (cap : Int) by omega)
  have y6 := eq_true (show m ≤ cap by omega)
  clear hm
  have d1 : decide ((k : Int) = (j : Int)) = false := decide_eq_false (by omega)
  have d2 : ((k : Int) == (j : Int)) = false := beq_false_of_ne (by omega)
  have d3 : decide (k = j) = false := decide_eq_false (by omega)
  have z1 := eq_true (show (0 : Int) ≤ (k : Int) by omega)
  have z2 := eq_true (show (k : Int) ≤ (j : Int) by omega)
  have z3 := eq_true (show (j : Int) ≤ (n : Int) by omega)
  have z4 := eq_true (show (n : Int) ≤ (cap : Int) by omega)
  have z5 := eq_true (show k ≤ cap by omega)
  have z6 := eq_true (show (k : Int) ≤ (cap : Int) by omega)
  have z7 := eq_true (show j ≤ n by omega)
  have z8 := eq_true (show n ≤ cap by omega)
  have z9 := eq_true (show (k : Int) ≤ (n : Int) by omega)
  have z10 := eq_true (show k ≤ n by omega)
  have z11 := eq_true (show (0 : Int) ≤ (j : Int) by omega)
  have z12 := eq_true (show k ≤ j by omega)
  have z13 := eq_true (show j ≤ cap by omega)
  have z14 := eq_true (show (j : Int) ≤ (cap : Int) by omega)
  have z15 := eq_false (show ¬ cap = k by omega)
  have z16 := eq_false (show ¬ n = k by omega)
  clear hj
  clear hoo hRR hB hk hn hlt hbg hnc
  go_enter Try.func93, Try.ntmps93
  by_cases hcj : cap = j
  · subst hcj
    have HAA := Aside0.mk (show (some ⟨g, 0, none⟩ : Option Addr) = if cap = k + 1 then some ⟨g, 0, none⟩ else (some (⟨g, 0, none⟩ : Addr)).map (·.add ((k + 1) * (Kd.gap f KR k cc).sz)) by rw [HJ.out, if_pos rfl])
    go_wp2
    go_region_law (first | (refine Kd.R_delete_step (Kd.gap f KR k cc) (w0 := w0) base (by rfl) (.tmp 22) (.tmp 25) 46 25 (by rfl) Try.underlying46 row_sz (g := g) (n := n) (c := cap) (k := k) (by rfl) (by rfl) HAA.out (by have := HJ.out; have := HNC.out; omega) (by (with_reducible repeat (first | apply Kd.R_alloc | apply Kd.R_drewN | apply Kd.R_drew)); exact HRR.out) HK.out (by repeat (first | exact HB.out | (with_reducible first | apply below_alloc | apply pw_below_drewN | apply below_drew1))) (Nat.le_trans HBG.out (Nat.le_of_lt (by first | exact HLT.out | (simp; exact HLT.out)))) ?_; intro w1 ho1 hb1 hg1; rw [HM.out] at ho1 ⊢; have HS1 := Aside0.mk (H_erase ho1); have HB1 := Aside0.mk hb1; have HG1 := Aside0.mk (Kept.of_grown hg1 (Kept.of_below (by repeat (first | exact Below.refl _ _ | (with_reducible first | apply below_alloc | apply pw_below_drewN | apply below_drew1)) : Below w.heap.size w _) (fun b => b = g)) (fun b e_ => .inl (by injection e_ with e_; exact e_.symm))); have hcl := clear_one (n := n) ho1 HM.out HK.out HNC.out; clear ho1 hb1 hg1))
    all_goals go_wp2
    all_goals go_ret
    all_goals exact ⟨rfl, S_beyond HS1.out (Nat.le_refl _) _, HB1.out.setCell HBG.out _, Kept.setCell HG1.out (.inl rfl) _⟩
  · have HAA := Aside0.mk (show (some ⟨g, j, none⟩ : Option Addr) = if cap = k + 1 then some ⟨g, 0, none⟩ else (some (⟨g, 0, none⟩ : Addr)).map (·.add ((k + 1) * (Kd.gap f KR k cc).sz)) by rw [HJ.out, if_neg hcj]; show _ = some (Addr.add _ (j * 1)); rw [Nat.mul_one, add_offR])
    replace hcj := eq_false hcj
    go_wp2
    go_region_law (first | (refine Kd.R_delete_step (Kd.gap f KR k cc) (w0 := w0) base (by rfl) (.tmp 22) (.tmp 25) 46 25 (by rfl) Try.underlying46 row_sz (g := g) (n := n) (c := cap) (k := k) (by rfl) (by rfl) HAA.out (by have := HJ.out; have := HNC.out; omega) (by (with_reducible repeat (first | apply Kd.R_alloc | apply Kd.R_drewN | apply Kd.R_drew)); exact HRR.out) HK.out (by repeat (first | exact HB.out | (with_reducible first | apply below_alloc | apply pw_below_drewN | apply below_drew1))) (Nat.le_trans HBG.out (Nat.le_of_lt (by first | exact HLT.out | (simp; exact HLT.out)))) ?_; intro w1 ho1 hb1 hg1; rw [HM.out] at ho1 ⊢; have HS1 := Aside0.mk (H_erase ho1); have HB1 := Aside0.mk hb1; have HG1 := Aside0.mk (Kept.of_grown hg1 (Kept.of_below (by repeat (first | exact Below.refl _ _ | (with_reducible first | apply below_alloc | apply pw_below_drewN | apply below_drew1)) : Below w.heap.size w _) (fun b => b = g)) (fun b e_ => .inl (by injection e_ with e_; exact e_.symm))); have hcl := clear_one (n := n) ho1 HM.out HK.out HNC.out; clear ho1 hb1 hg1))
    all_goals go_wp2
    all_goals go_ret
    all_goals exact ⟨rfl, S_beyond HS1.out (Nat.le_refl _) _, HB1.out.setCell HBG.out _, Kept.setCell HG1.out (.inl rfl) _⟩

end Go.Proofs.Ytcdlhjfiboomkaa.Z
/- slices.IndexFunc and slices.ContainsFunc over lists of Int: the first place at which the predicate holds, or whether there is one, for whatever predicate a closure computes. Condition: the closure's own contract. -/
namespace Go.Proofs.Ytcdlhjfiboomkaa.Z
open Go.RowKit Go.Proofs.YtcdlhjfiboomkaaW.PrintWords Go.Proofs.YtcdlhjfiboomkaaW.PrintLast Go.Proofs.YtcdlhjfiboomkaaW.PrintMore
set_option linter.unusedVariables false
set_option linter.unusedSimpArgs false
def PredInt (lb : Array Value) (g : Nat) (p : Int → Bool) (xs : List Int) (w : World) : Prop :=
  ∀ (x : Int) (W : World) , x ∈ xs → Below w.heap.size w W → Calls Try.prog g (#[.int .i64 x] ++ lb) W fun e W' => e = .returned (.bool (p x)) ∧ Below W.heap.size W W'
set_option maxHeartbeats 2000000 in
set_option maxRecDepth 100000 in
theorem idxInt (A : Option Addr) (c : Nat) (xs : List Int) (w : World) (hr : Kd.C (Kd.int .i64) w A xs.length xs) (p : Int → Bool) (g : Nat) (lb : Array Value) (eg : ∀ args w, (callFunc g args).run Try.prog w = .ok (.enter g args) w) (hp : PredInt lb g p xs w) :
    Calls Try.prog 83 #[.slice A xs.length c, .func (.func g) #[] lb] w fun e w' => e = .returned (.int .i64 (firstAt p xs)) ∧ Below w.heap.size w w' := by
  have hn : xs.length ≤ 9223372036854775807 := hr.2.1
  have HR := Aside0.mk hr
  have HP := Aside0.mk hp
  clear hr hp
  obtain ⟨n, hxn⟩ : ∃ n, xs.length = n := ⟨_, rfl⟩
  rw [hxn] at HR hn ⊢
  have HN := Aside0.mk hxn
  clear hxn
  go_enter Try.func83, Try.ntmps83
  go_wp2
  go_loopg [5, 8] n (fun gg _ s8 wr => ∃ kk : Nat, kk ≤ n ∧ n - kk ≤ gg ∧ s8 = .int .i64 kk ∧ Aside0 (Below w.heap.size w wr) ∧ Aside0 (∀ j (hj : j < xs.length), j < kk → p xs[j] = false))
  case atStart => exact ⟨0, Nat.zero_le _, by omega, rfl, ⟨Below.refl _ w⟩, ⟨fun j _ hj => absurd hj (Nat.not_lt_zero _)⟩⟩
  case round =>
    obtain ⟨kk, hkk, hg, rfl, BW, AF⟩ := hrel
    by_cases hlt : kk < n
    · have hltz : (kk : Int) < (n : Int) := by omega
      have hl : kk < xs.length := by rw [HN.out]; exact hlt
      obtain ⟨ad, rfl, q0⟩ := at_int (Kd.C_below HR.out BW.out) (kk : Int) (by omega) hltz
      have hx : rd xs (kk : Int) = xs[kk] := getD_at xs kk _ hl
      simp only [Int.toNat_natCast] at q0
      rw [hx] at q0
      have hcall := HP.out xs[kk] wr  (List.getElem_mem hl) BW.out 
      clear hx 
      generalize hy : xs[kk] = y at hcall q0
      have B := Aside0.mk hy
      clear hy
      cases hq : p y with
      | true =>
        rw [hq] at hcall
        go_wp2_with (go_at_fn g; refine hcall.mono ?_; rintro e w' ⟨rfl, hb'⟩)
        go_ret
        refine ⟨?_, BW.out.trans (hb'.mono BW.out.size)⟩
        rw [firstAt_hit p xs kk hl (by rw [B.out]; exact hq) AF.out]
        rfl
      | false =>
        rw [hq] at hcall
        go_wp2_with (go_at_fn g; refine hcall.mono ?_; rintro e w' ⟨rfl, hb'⟩)
        go_roundg (n - (kk + 1))
        case measure => omega
        case rel =>
          refine ⟨kk + 1, by omega, by omega, by go_num, ⟨BW.out.trans (hb'.mono BW.out.size)⟩, ⟨fun j hj hlt2 => ?_⟩⟩
          by_cases e : j = kk
          · subst e
            rw [B.out]; exact hq
          · exact AF.out j hj (by omega)
    · have hltz : ¬ (kk : Int) < (n : Int) := by omega
      have : kk = n := by omega
      subst this
      go_wp2
      go_ret
      refine ⟨?_, BW.out⟩
      rw [firstAt_miss p xs (fun j hj => AF.out j hj (by rw [HN.out] at hj; exact hj))]
      rfl
end Go.Proofs.Ytcdlhjfiboomkaa.Z
/- slices.IndexFunc and slices.ContainsFunc over lists of Row: the first place at which the predicate holds, or whether there is one, for whatever predicate a closure computes. Condition: the closure's own contract. -/
namespace Go.Proofs.Ytcdlhjfiboomkaa.Z
open Go.RowKit Go.Proofs.YtcdlhjfiboomkaaW.PrintWords Go.Proofs.YtcdlhjfiboomkaaW.PrintLast Go.Proofs.YtcdlhjfiboomkaaW.PrintMore
set_option linter.unusedVariables false
set_option linter.unusedSimpArgs false
def PredRow (lb : Array Value) (g : Nat) (p : (List Int) → Bool) (xs : List (List Int)) (w : World) : Prop :=
  ∀ (x : (List Int)) (W : World) (A0_ : Option Addr) (c0_ : Nat), x ∈ xs → Below w.heap.size w W → x.length ≤ c0_ → Kd.C (Kd.int .i64) W A0_ x.length x → Calls Try.prog g (#[.slice A0_ x.length c0_] ++ lb) W fun e W' => e = .returned (.bool (p x)) ∧ Below W.heap.size W W'
set_option maxHeartbeats 2000000 in
set_option maxRecDepth 100000 in
theorem idxRow (A : Option Addr) (c : Nat) (xs : List (List Int)) (w : World) (hr : Kd.C (Kd.slice 3 (Kd.int .i64)) w A xs.length xs) (p : (List Int) → Bool) (g : Nat) (lb : Array Value) (eg : ∀ args w, (callFunc g args).run Try.prog w = .ok (.enter g args) w) (hp : PredRow lb g p xs w) :
    Calls Try.prog 91 #[.slice A xs.length c, .func (.func g) #[] lb] w fun e w' => e = .returned (.int .i64 (firstAt p xs)) ∧ Below w.heap.size w w' := by
  have hn : xs.length ≤ 9223372036854775807 := hr.2.1
  have HR := Aside0.mk hr
  have HP := Aside0.mk hp
  clear hr hp
  obtain ⟨n, hxn⟩ : ∃ n, xs.length = n := ⟨_, rfl⟩
  rw [hxn] at HR hn ⊢
  have HN := Aside0.mk hxn
  clear hxn
  go_enter Try.func91, Try.ntmps91
  go_wp2
  go_loopg [5, 8] n (fun gg _ s8 wr => ∃ kk : Nat, kk ≤ n ∧ n - kk ≤ gg ∧ s8 = .int .i64 kk ∧ Aside0 (Below w.heap.size w wr) ∧ Aside0 (∀ j (hj : j < xs.length), j < kk → p xs[j] = false))
  case atStart => exact ⟨0, Nat.zero_le _, by omega, rfl, ⟨Below.refl _ w⟩, ⟨fun j _ hj => absurd hj (Nat.not_lt_zero _)⟩⟩
  case round =>
    obtain ⟨kk, hkk, hg, rfl, BW, AF⟩ := hrel
    by_cases hlt : kk < n
    · have hltz : (kk : Int) < (n : Int) := by omega
      have hl : kk < xs.length := by rw [HN.out]; exact hlt
      obtain ⟨ad, A0_, c0_, rfl, q0, l0_, g0_⟩ := at_L1 (Kd.C_below HR.out BW.out) (kk : Int) (by omega) hltz
      have hx : rd_L1 xs (kk : Int) = xs[kk] := getD_at xs kk _ hl
      simp only [Int.toNat_natCast] at q0
      rw [hx] at q0 l0_ g0_
      have hcall := HP.out xs[kk] wr A0_ c0_ (List.getElem_mem hl) BW.out l0_ g0_
      clear hx l0_ g0_
      generalize hy : xs[kk] = y at hcall q0
      have B := Aside0.mk hy
      clear hy
      cases hq : p y with
      | true =>
        rw [hq] at hcall
        go_wp2_with (go_at_fn g; refine hcall.mono ?_; rintro e w' ⟨rfl, hb'⟩)
        go_ret
        refine ⟨?_, BW.out.trans (hb'.mono BW.out.size)⟩
        rw [firstAt_hit p xs kk hl (by rw [B.out]; exact hq) AF.out]
        rfl
      | false =>
        rw [hq] at hcall
        go_wp2_with (go_at_fn g; refine hcall.mono ?_; rintro e w' ⟨rfl, hb'⟩)
        go_roundg (n - (kk + 1))
        case measure => omega
        case rel =>
          refine ⟨kk + 1, by omega, by omega, by go_num, ⟨BW.out.trans (hb'.mono BW.out.size)⟩, ⟨fun j hj hlt2 => ?_⟩⟩
          by_cases e : j = kk
          · subst e
            rw [B.out]; exact hq
          · exact AF.out j hj (by omega)
    · have hltz : ¬ (kk : Int) < (n : Int) := by omega
      have : kk = n := by omega
      subst this
      go_wp2
      go_ret
      refine ⟨?_, BW.out⟩
      rw [firstAt_miss p xs (fun j hj => AF.out j hj (by rw [HN.out] at hj; exact hj))]
      rfl
end Go.Proofs.Ytcdlhjfiboomkaa.Z
