/- Groups made one address after another: what is computed. No condition. -/
import Derived.Test.YtgghhcifkgdpeaaZFirst
import Derived.Test.YtgghhcifkgdpeaaZ0
namespace Go.Proofs.Ytgghhcifkgdpeaa.Z
open Go.RowKit Go.Proofs.YtgghhcifkgdpeaaW.PrintWords

abbrev KG : Kd (List Int) := Kd.slice 3 (Kd.int .i64)
/-- x is put into the first group that takes it, or makes a new one. -/
def placeP (p : List Int → Bool) (gs : List (List Int)) (x : Int) : List (List Int) := if firstAt p gs < 0 then gs ++ [[x]] else gs.set (firstAt p gs).toNat (gs.getD (firstAt p gs).toNat [] ++ [x])
def mayP (may : List Int → Option Bool) (x : Int) (g : List Int) : Bool := (may (g ++ [x])).getD false
def groupsO (may : List Int → Option Bool) : List (List Int) → List Int → Option (List (List Int))
  | gs, [] => some gs
  | gs, x :: xs => if (gs.all fun g => (may (g ++ [x])).isSome) = true then groupsO may (placeP (mayP may x) gs x) xs else none

theorem findIdx_same {α : Type} {p q : α → Bool} : ∀ xs : List α, (∀ x ∈ xs, p x = q x) → xs.findIdx p = xs.findIdx q
  | [], _ => rfl
  | x :: xs, h => by
    rw [List.findIdx_cons, List.findIdx_cons, h x (List.mem_cons_self ..), findIdx_same xs (fun y hy => h y (List.mem_cons_of_mem _ hy))]
theorem firstAt_same {α : Type} {p q : α → Bool} (xs : List α) (h : ∀ x ∈ xs, p x = q x) : firstAt p xs = firstAt q xs := by
  unfold firstAt
  rw [findIdx_same xs h]
theorem placeP_same {p q : List Int → Bool} (gs : List (List Int)) (x : Int) (h : ∀ g ∈ gs, p g = q g) : placeP p gs x = placeP q gs x := by
  unfold placeP
  rw [firstAt_same gs h]

theorem groupsO_some {may : List Int → Option Bool} {gs : List (List Int)} {x : Int} {xs : List Int} {r : List (List Int)} (h : groupsO may gs (x :: xs) = some r) : (∀ g ∈ gs, may (g ++ [x]) = some (mayP may x g)) ∧ groupsO may (placeP (mayP may x) gs x) xs = some r := by
  unfold groupsO at h
  by_cases hc : (gs.all fun g => (may (g ++ [x])).isSome) = true
  · rw [if_pos hc] at h
    refine ⟨fun g hg => ?_, h⟩
    have := List.all_eq_true.1 hc g hg
    unfold mayP
    cases hm : may (g ++ [x]) with
    | none => rw [hm] at this; cases this
    | some b => rfl
  · rw [if_neg hc] at h
    cases h

theorem groupsO_step {may : List Int → Option Bool} {gs : List (List Int)} {x : Int} {xs : List Int} {p : List Int → Bool} (h : ∀ g ∈ gs, may (g ++ [x]) = some (p g)) : groupsO may gs (x :: xs) = groupsO may (placeP p gs x) xs := by
  have hc : (gs.all fun g => (may (g ++ [x])).isSome) = true := List.all_eq_true.2 (fun g hg => by rw [h g hg]; rfl)
  rw [groupsO, if_pos hc, placeP_same gs x (q := p) (fun g hg => by unfold mayP; rw [h g hg]; rfl)]

theorem groupsO_mono {m m' : List Int → Option Bool} (h : ∀ g, LeO (m g) (m' g)) : ∀ (xs : List Int) (gs : List (List Int)), LeO (groupsO m gs xs) (groupsO m' gs xs)
  | [], gs => LeO.refl _
  | x :: xs, gs => by
    intro r hr
    obtain ⟨h1, h2⟩ := groupsO_some hr
    rw [groupsO_step (p := mayP m x) (fun g hg => h _ _ (h1 g hg))]
    exact groupsO_mono h xs _ _ h2

theorem placeP_len (p : List Int → Bool) (gs : List (List Int)) (x : Int) : (placeP p gs x).length ≤ gs.length + 1 := by
  unfold placeP
  split
  · simp
  · rw [List.length_set]; omega
theorem placeP_each {p : List Int → Bool} {gs : List (List Int)} {x : Int} {n : Nat} (h : ∀ g ∈ gs, g.length ≤ n) : ∀ g ∈ placeP p gs x, g.length ≤ n + 1 := by
  intro g hg
  unfold placeP at hg
  split at hg
  · rcases List.mem_append.1 hg with hg | hg
    · have := h g hg; omega
    · rw [List.mem_singleton.1 hg]; simp
  · rcases List.mem_or_eq_of_mem_set hg with hg | rfl
    · have := h g hg; omega
    · rw [List.length_append, List.length_singleton, List.getD_eq_getElem?_getD]
      cases hq : gs[(firstAt p gs).toNat]? with
      | none => simp
      | some g' =>
        have := h g' (List.mem_of_getElem? hq)
        simpa using this

theorem C_oneG {W : World} {g t : Nat} {c : Int} (h : W.heap[g]? = some (.cells #[.int .i64 c] t (0, 0))) : Kd.C (Kd.int .i64) W (some ⟨g, 0, none⟩) 1 [c] := by
  refine ⟨rfl, by decide, fun _ => ⟨⟨g, 0, none⟩, rfl, fun j p hj => ?_⟩⟩
  match j, hj with
  | 0, hj =>
    obtain rfl := Option.some.inj hj
    refine ⟨[.int .i64 c], rfl, rfl, fun i u hi => ?_⟩
    match i, hi with
    | 0, hi =>
      obtain rfl := Option.some.inj hi
      rw [Nat.zero_mul, Nat.add_zero, Addr.add_zero']
      exact (blk_cell h 0).trans rfl
    | i + 1, hi => simp at hi
  | j + 1, hj => simp at hj
theorem R_oneG {W : World} {g base : Nat} {c : Int} (h : W.heap[g]? = some (.cells #[.int .i64 c] 3 (0, 0))) (hb : base ≤ g) : Kd.R (Kd.int .i64) 3 W base (fun k => k = g) (.slice (some ⟨g, 0, none⟩) 1 1) [c] := by
  refine ⟨fun k hk => ?_, [.int .i64 c], ⟨rfl, .inr ⟨g, 1, #[.int .i64 c], rfl, hb, h, Nat.le_refl _, by decide, rfl, rfl⟩⟩, rfl, fun j p hj => ?_⟩
  · have e : g = k := by simpa [Value.ownBlock] using hk
    exact e.symm
  · match j, hj with
    | 0, hj => obtain rfl := Option.some.inj hj; rfl
    | j + 1, hj => simp at hj

theorem R_blkG {α : Type} {d : Kd α} {e base g n cap : Nat} {ok : Nat → Prop} {w : World} {xs : List α} (h : d.R e w base ok (.slice (some ⟨g, 0, none⟩) n cap) xs) : ∃ cur, w.heap[g]? = some (.cells cur e (0, 0)) := by
  obtain ⟨_, inner, ho, _⟩ := h
  rcases ho.2 with ⟨hv, _⟩ | ⟨g', cap', cur, hv, hb, hh, _⟩
  · cases hv
  · injection hv with ha
    injection ha with ha
    injection ha with ha
    subst ha
    exact ⟨cur, hh⟩
theorem hole_at {base g n cap kk : Nat} {ok oki : Nat → Prop} {w : World} {gs : List (List Int)} {v : Value} (hH : Kd.H KG 37 w base ok (.slice (some ⟨g, 0, none⟩) n cap) gs (kk : Int) oki [v]) (hk : kk < n) : w.cell? ⟨g, kk, none⟩ = some v ∧ w.frozen? ⟨g, kk, none⟩ = false := by
  obtain ⟨rows, _, hraw, _, _, hcc, _⟩ := Kd.H_raw hH (by omega) (by omega)
  obtain ⟨cur, hh⟩ := R_blkG hraw
  have h := hcc 0 v rfl
  rw [show KG.sz = 1 from rfl, Int.toNat_natCast, Nat.mul_one, Nat.add_zero] at h
  exact ⟨h, blk_frozen hh _⟩
theorem put_back {base g n cap kk : Nat} {ok oki : Nat → Prop} {w : World} {gs : List (List Int)} {v v6 : Value} {row' : List Int} (hH : Kd.H KG 37 w base ok (.slice (some ⟨g, 0, none⟩) n cap) gs (kk : Int) oki [v]) (hk : kk < n) (hR : Kd.R (Kd.int .i64) 3 w base oki v6 row') (hne : ∀ k, oki k → k ≠ g) :
    Kd.S KG 37 (w.setCell ⟨g, kk, none⟩ v6) base ok (.slice (some ⟨g, 0, none⟩) n cap) (gs.set kk row') := by
  have h1 : v6.oneCell' = true := by
    obtain ⟨A6, c6, e6⟩ := Kd.R_slice hR
    subst e6; rfl
  have h := (Kd.H_seg hH (by omega) (by omega) (seg := [v6]) (j := 0) (Nat.le_refl 1) (fun q hq => by rw [List.mem_singleton.1 hq]; exact h1)).1
  have e : w.setCells g ((kk : Int).toNat * KG.sz + 0) [v6] = w.setCell ⟨g, kk, none⟩ v6 := by
    rw [show KG.sz = 1 from rfl, Int.toNat_natCast, Nat.mul_one, Nat.add_zero]; rfl
  rw [e] at h
  have h2 := Kd.H_back h (x' := row') (okp := oki) (Kd.M_row (Kd.R_far hR (fun k hk => hne k hk) v6)) (fun _ h => h)
  rw [Int.toNat_natCast] at h2
  exact h2

theorem blk_new1G (w : World) (o o' : Obj) : ((w.alloc o).alloc o').heap[w.heap.size + 1]? = some o' := by
  have h := blk_new (w.alloc o) o'
  rwa [show (w.alloc o).heap.size = w.heap.size + 1 by simp] at h
theorem R_emptyG {W : World} {g base : Nat} {ok : Nat → Prop} (h : W.heap[g]? = some (.cells #[] 3 (0, 0))) (hb : base ≤ g) (ho : ok g) : Kd.R (Kd.int .i64) 3 W base ok (.slice (some ⟨g, 0, none⟩) 0 0) ([] : List Int) := by
  refine ⟨fun k hk => ?_, [], ⟨rfl, .inr ⟨g, 0, #[], rfl, hb, h, Nat.le_refl _, by decide, rfl, rfl⟩⟩, Reps.none _ _⟩
  have e : g = k := by simpa [Value.ownBlock] using hk
  exact e ▸ ho
theorem S_emptyG {W : World} {g base : Nat} (h : W.heap[g]? = some (.cells #[] 37 (0, 0))) (hb : base ≤ g) : Kd.S KG 37 W base (fun _ => True) (.slice (some ⟨g, 0, none⟩) 0 0) ([] : List (List Int)) :=
  ⟨fun _ => 0, fun _ _ => trivial, [], ⟨rfl, .inr ⟨g, 0, #[], rfl, hb, h, Nat.le_refl _, by decide, rfl, rfl⟩⟩, Reps.none _ _⟩

end Go.Proofs.Ytgghhcifkgdpeaa.Z
