/- The library's SortFunc and Compact at links: a row of the call's own. Over the shelf's contracts; Compact and cmp.Or are walked here. No condition but those in the statements. -/
import Derived.Test.YtgghhcifkgdpeaaShelf3
import Derived.Test.YtgghhcifkgdpeaaZFirst
import Derived.Test.YtgghhcifkgdpeaaZ0
import Derived.Sort.OwnSorted
import Derived.Shelf.SlSortCmp.NoneTotal
import Derived.Lib.SlicesCompact
import Derived.Lib.SliceRun
import Derived.Laws.CopyOwn
namespace Go.Proofs.Ytgghhcifkgdpeaa.Z
open Go.Sort (putRow putRowK grow Holds HoldsK flatK putCells)
open Go.RowKit Go.Proofs.YtgghhcifkgdpeaaW.PrintWords Go.Proofs.YtgghhcifkgdpeaaW.PrintLast Go.Proofs.YtgghhcifkgdpeaaW.PrintMore

abbrev Lk0 := S63
instance : Inhabited Lk0 := ⟨z63⟩
theorem lk0_ext {x y : Lk0} (h : x.f0 = y.f0 ∧ x.f1 = y.f1) : x = y := by
  cases x; cases y
  obtain ⟨h0, h1⟩ := h
  simp only at h0 h1
  subst h0 h1; rfl
instance : DecidableEq Lk0 := fun x y => if h : x.f0 = y.f0 ∧ x.f1 = y.f1 then .isTrue (lk0_ext h) else .isFalse (fun e => h (by rw [e]; exact ⟨rfl, rfl⟩))
def encLk (x : Lk0) : List Value := [.int .i64 x.f0, .int .i64 x.f1]
def orI (a b : Int) : Int := if a = 0 then b else a
def cmpLk (x y : Lk0) : Int := orI (Lib.compareInt x.f0 y.f0) (Lib.compareInt x.f1 y.f1)
/-- Links in order, as the library sorts them. -/
def sortLk (l : List Lk0) : List Lk0 := l.mergeSort fun x y => !(ltOf cmpLk y x)
def ordL (x : Lk0) : Lk0 := ⟨min x.f0 x.f1, max x.f0 x.f1⟩

/-- The first cells are the replies'. -/
def Row2 (cur : Array Value) (l : List Lk0) : Prop := ∀ (j : Nat) (h : j < l.length), cur[2 * j]? = some (.int .i64 l[j].f0) ∧ cur[2 * j + 1]? = some (.int .i64 l[j].f1)

theorem row2_open {W : World} {base : Nat} {ok : Nat → Prop} {v : Value} {l : List Lk0} (hne : l ≠ []) (h : Kd.R k63 63 W base ok v l) : ∃ g cap cur, v = .slice (some ⟨g, 0, none⟩) l.length cap ∧ base ≤ g ∧ W.heap[g]? = some (.cells cur 63 (0, 0)) ∧ l.length ≤ cap ∧ cap ≤ maxLen ∧ cur.size = cap * 2 ∧ Row2 cur l := by
  obtain ⟨_, inner, ⟨_, ho⟩, hr⟩ := h
  have hpos := List.length_pos_iff.2 hne
  rcases ho with ⟨_, h0⟩ | ⟨g, cap, cur, hv, hb, hh, hnc, hcm, hcs, ht⟩
  · omega
  · have hcs : cur.size = cap * 2 := hcs
    have ht : cur.toList.take (l.length * 2) = inner := ht
    refine ⟨g, cap, cur, hv, hb, hh, hnc, hcm, hcs, fun j hj => ?_⟩
    have hM : k63.M W base _ l[j] ((inner.drop (j * 2)).take 2) := hr.2 j _ (List.getElem?_eq_getElem hj)
    have e := k63_openM hM
    have key : ∀ q, q < 2 → cur[2 * j + q]? = ((inner.drop (j * 2)).take 2)[q]? := fun q hq => by
      rw [List.getElem?_take, if_pos hq, List.getElem?_drop, ← ht, List.getElem?_take, if_pos (by omega), Array.getElem?_toList]
      congr 1
      omega
    have k0 := key 0 (by omega)
    have k1 := key 1 (by omega)
    rw [e] at k0 k1
    exact ⟨k0, k1⟩

theorem row2_mk {W : World} {base g cap : Nat} {cur : Array Value} {l : List Lk0} (hb : base ≤ g) (hh : W.heap[g]? = some (.cells cur 63 (0, 0))) (hnc : l.length ≤ cap) (hcm : cap ≤ maxLen) (hcs : cur.size = cap * 2) (h : Row2 cur l) :
    Kd.R k63 63 W base (fun _ => True) (.slice (some ⟨g, 0, none⟩) l.length cap) l := by
  refine ⟨fun _ _ => trivial, cur.toList.take (l.length * 2), ⟨?_, .inr ⟨g, cap, cur, rfl, hb, hh, hnc, hcm, hcs, rfl⟩⟩, ?_, fun j p hp => ?_⟩
  · rw [List.length_take, Array.length_toList]; show min (l.length * 2) cur.size = l.length * 2; omega
  · rw [List.length_take, Array.length_toList]; show min (l.length * 2) cur.size = l.length * 2; omega
  · obtain ⟨hj, rfl⟩ := List.getElem?_eq_some_iff.1 hp
    obtain ⟨h0, h1⟩ := h j hj
    have e : ((cur.toList.take (l.length * 2)).drop (j * 2)).take 2 = encLk l[j] := by
      apply List.ext_getElem?
      intro q
      rw [List.getElem?_take]
      by_cases hq : q < 2
      · rw [if_pos hq, List.getElem?_drop, List.getElem?_take, if_pos (by omega), Array.getElem?_toList]
        match q, hq with
        | 0, _ => rw [show j * 2 + 0 = 2 * j by omega, h0]; rfl
        | 1, _ => rw [show j * 2 + 1 = 2 * j + 1 by omega, h1]; rfl
      · rw [if_neg hq, List.getElem?_eq_none (by show 2 ≤ q; omega)]
    show k63.M W base _ l[j] (((cur.toList.take (l.length * 2)).drop (j * 2)).take 2)
    rw [e]
    exact k63_mkM _ _ _ _

theorem flat_get (l : Array Lk0) (q : Nat) (h : q < l.size * 2) : (flatK encLk 2 l)[q]! = (encLk l[q / 2]!)[q % 2]! := Sort.get_flatK encLk 2 l q h

theorem row2_holds {W : World} {g : Nat} {cur : Array Value} {l : List Lk0} (hh : W.heap[g]? = some (.cells cur 63 (0, 0))) (h : Row2 cur l) : HoldsK encLk 2 W g 0 l.toArray := by
  intro q hq
  have hq : q < l.length * 2 := by simpa using hq
  have hj : q / 2 < l.length := by omega
  refine ⟨?_, by simp [World.frozen?, hh]⟩
  rw [flat_get l.toArray q (by simpa using hq)]
  obtain ⟨h0, h1⟩ := h (q / 2) hj
  have el : l.toArray[q / 2]! = l[q / 2] := by simp [hj]
  rw [el]
  simp only [World.cell?, hh, Nat.zero_add]
  simp only [Option.isSome_none, Bool.false_eq_true, if_false]
  have hm : q % 2 = 0 ∨ q % 2 = 1 := by omega
  rcases hm with e | e
  · rw [e]; rw [show cur[q]? = cur[2 * (q / 2)]? by congr 1; omega]; exact h0
  · rw [e]; rw [show cur[q]? = cur[2 * (q / 2) + 1]? by congr 1; omega]; exact h1

theorem row2_put {cur : Array Value} {l : List Lk0} (hs : l.length * 2 ≤ cur.size) : Row2 (putCells id 0 (flatK encLk 2 l.toArray) cur) l := by
  intro j hj
  have key : ∀ q, q < l.length * 2 → (putCells id 0 (flatK encLk 2 l.toArray) cur)[q]? = some ((encLk l.toArray[q / 2]!)[q % 2]!) := fun q hq => by
    have hqc : q < cur.size := by omega
    have hsz : (flatK encLk 2 l.toArray).size = l.length * 2 := by simp
    unfold putCells
    rw [Array.getElem?_mapIdx, Array.getElem?_eq_getElem hqc, Option.map_some, if_pos ⟨Nat.zero_le _, by omega⟩, Nat.sub_zero]
    rw [flat_get l.toArray q (by simpa using hq)]
    rfl
  have el : l.toArray[j]! = l[j] := by simp [hj]
  refine ⟨?_, ?_⟩
  · rw [key (2 * j) (by omega), show 2 * j / 2 = j by omega, show 2 * j % 2 = 0 by omega, el]; rfl
  · rw [key (2 * j + 1) (by omega), show (2 * j + 1) / 2 = j by omega, show (2 * j + 1) % 2 = 1 by omega, el]; rfl

theorem put_heapL {W : World} {g n : Nat} {os : Array Obj} {cur : Array Value} {e : TypeId} {fr : Nat × Nat} (d : Array Value) (hb : W.heap[g]? = some (.cells cur e fr)) :
    (grow (putRow id (Sort.ahead W n) g 0 d) os).heap[g]? = some (.cells (putCells id 0 d cur) e fr) := by
  have hg : g < W.heap.size := (Array.getElem?_eq_some_iff.1 hb).1
  rw [Sort.heap_grow_old _ _ (by simpa using hg)]
  simp [putRow, Sort.mapBlock, Sort.ahead, Array.getElem?_modify, hb, Sort.onCells]

theorem put_grownL {W : World} {g n : Nat} {os : Array Obj} (d : Array Value) : W.grownBy (grow (putRow id (Sort.ahead W n) g 0 d) os) (some g) := by
  refine ⟨rfl, rfl, rfl, by simp, fun k hk hne => ?_⟩
  rw [Sort.heap_grow_old _ _ (by simpa using hk)]
  have : g ≠ k := fun e => hne (by rw [e])
  simp [putRow, Sort.mapBlock, Sort.ahead, Array.getElem?_modify, this]

set_option maxHeartbeats 1000000 in
theorem cmpOr_calls (a b : Int) (g : Nat) (W : World) (h0 : W.cell? ⟨g, 0, none⟩ = some (.int .i64 a)) (h1 : W.cell? ⟨g, 1, none⟩ = some (.int .i64 b)) : Calls Try.prog 70 #[.slice (some ⟨g, 0, none⟩) 2 2] W fun e w' => e = .returned (.int .i64 (orI a b)) ∧ w' = W := by
  unfold orI
  by_cases ha : a = 0
  · subst ha
    by_cases hb : b = 0
    · subst hb
      go_enter Try.func70, Try.ntmps70
      go_wp2
      refine wp_loop_rounds 3 ?_
      rw [rounds_succ]
      go_wp2
      rw [rounds_succ]
      go_wp2
      rw [rounds_succ]
      go_wp2
      go_ret
      exact ⟨rfl, rfl⟩
    · have hd : decide (b = 0) = false := decide_eq_false hb
      go_enter Try.func70, Try.ntmps70
      go_wp2
      refine wp_loop_rounds 3 ?_
      rw [rounds_succ]
      go_wp2
      rw [rounds_succ]
      go_wp2
      go_ret
      exact ⟨rfl, rfl⟩
  · have hd : decide (a = 0) = false := decide_eq_false ha
    rw [if_neg ha]
    go_enter Try.func70, Try.ntmps70
    go_wp2
    refine wp_loop_rounds 3 ?_
    rw [rounds_succ]
    go_wp2
    go_ret
    exact ⟨rfl, rfl⟩

set_option maxRecDepth 100000 in
set_option maxHeartbeats 4000000 in
theorem cmpLk_closure (x y : Lk0) (W : World) : Calls Try.prog 69 #[.agg #[.int .i64 x.f0, .int .i64 x.f1], .agg #[.int .i64 y.f0, .int .i64 y.f1]] W fun e w' => e = .returned (.int .i64 (cmpLk x y)) ∧ ∃ q os', w' = grow (W.drewN q) os' := by
  have hu := Try.underlying63
  have hc1 := fun W' => AnyG.cmp_Compare_int Try.cmpIntL x.f0 y.f0 W'
  change ∀ W', Calls Try.prog 61 _ _ _ at hc1
  have hc2 := fun W' => AnyG.cmp_Compare_int Try.cmpIntL x.f1 y.f1 W'
  change ∀ W', Calls Try.prog 61 _ _ _ at hc2
  unfold cmpLk
  generalize Lib.compareInt x.f0 y.f0 = r at hc1 ⊢
  generalize Lib.compareInt x.f1 y.f1 = s at hc2 ⊢
  have hor := cmpOr_calls r s
  generalize orI r s = q at hor ⊢
  go_enter Try.func69, Try.ntmps69
  go_wp2
  go_region_held3 (fun w' => w'.cell? ⟨W.heap.size, 0, none⟩ = some (.int .i64 x.f0) ∧ w'.cell? ⟨W.heap.size, 1, none⟩ = some (.int .i64 x.f1) ∧ w'.cell? ⟨W.heap.size + 1, 0, none⟩ = some (.int .i64 y.f0) ∧ w'.cell? ⟨W.heap.size + 1, 1, none⟩ = some (.int .i64 y.f1)) (go_keep) (first | (go_at_call 61; (with_reducible refine (hc1 _).mono ?_); rintro e w' ⟨rfl, rfl⟩) | (go_at_call 61; (with_reducible refine (hc2 _).mono ?_); rintro e w' ⟨rfl, rfl⟩) | (go_at_call 70; (refine (hor _ _ ?h0 ?h1).mono ?_); (case h0 => go_simp); (case h1 => go_simp); rintro e w' ⟨rfl, rfl⟩))
  all_goals go_wp2
  all_goals go_ret
  all_goals exact ⟨rfl, 1, _, by rw [Sort.alloc_eq_grow, Sort.alloc_eq_grow, Sort.alloc_eq_grow, Sort.grow_grow, Sort.grow_grow]; rfl⟩

theorem cmpLk_neg (x y : Lk0) : ltOf cmpLk x y = true ↔ x.f0 < y.f0 ∨ (x.f0 = y.f0 ∧ x.f1 < y.f1) := by
  unfold ltOf cmpLk orI Lib.compareInt
  by_cases h1 : x.f0 < y.f0
  · simp [h1]
  · by_cases h2 : y.f0 < x.f0
    · simp [h1, h2]; omega
    · have e : x.f0 = y.f0 := by omega
      by_cases h3 : x.f1 < y.f1
      · simp [e, h3]
      · by_cases h4 : y.f1 < x.f1 <;> simp [e, h3, h4]
theorem swoLk : Sort.SWO (ltOf cmpLk) where
  irrefl x := Bool.eq_false_iff.2 (fun h => by have := (cmpLk_neg x x).1 h; omega)
  trans x y z h1 h2 := by rw [cmpLk_neg] at *; omega
  ntrans x y z h1 h2 := Bool.eq_false_iff.2 (fun h => by
    have a1 : ¬ (x.f0 < y.f0 ∨ (x.f0 = y.f0 ∧ x.f1 < y.f1)) := fun q => Bool.eq_false_iff.1 h1 ((cmpLk_neg _ _).2 q)
    have a2 : ¬ (y.f0 < z.f0 ∨ (y.f0 = z.f0 ∧ y.f1 < z.f1)) := fun q => Bool.eq_false_iff.1 h2 ((cmpLk_neg _ _).2 q)
    have := (cmpLk_neg _ _).1 h
    omega)
theorem totLk (x y : Lk0) (h1 : ltOf cmpLk x y = false) (h2 : ltOf cmpLk y x = false) : x = y := by
  have a1 : ¬ (x.f0 < y.f0 ∨ (x.f0 = y.f0 ∧ x.f1 < y.f1)) := fun q => Bool.eq_false_iff.1 h1 ((cmpLk_neg _ _).2 q)
  have a2 : ¬ (y.f0 < x.f0 ∨ (y.f0 = x.f0 ∧ y.f1 < x.f1)) := fun q => Bool.eq_false_iff.1 h2 ((cmpLk_neg _ _).2 q)
  exact lk0_ext ⟨by omega, by omega⟩

theorem sortLk_len (l : List Lk0) : (sortLk l).length = l.length := by unfold sortLk; simp

set_option maxHeartbeats 1000000 in
theorem sortLk_calls (g cap : Nat) (cur : Array Value) (l : List Lk0) (W : World) (hh : W.heap[g]? = some (.cells cur 63 (0, 0))) (hnc : l.length ≤ cap) (hcs : cur.size = cap * 2) (hr : Row2 cur l) (hsz : l.length < 4611686018427387904) :
    Calls Try.prog 68 #[.slice (some ⟨g, 0, none⟩) l.length cap, .func (.func 69) #[] #[]] W fun e w' => e = .returned (.tuple #[]) ∧ (∃ cur', w'.heap[g]? = some (.cells cur' 63 (0, 0)) ∧ cur'.size = cap * 2 ∧ Row2 cur' (sortLk l)) ∧ W.grownBy w' (some g) := by
  have eg : ∀ args w, (callFunc 69 args).run Try.prog w = .ok (.enter 69 args) w := enters_of Try.func69 (by kernel_rfl) rfl
  have hblk : g < W.heap.size := (Array.getElem?_eq_some_iff.1 hh).1
  have hcon := AnyQ.slices_SortFunc_total Try.sortLk 2 Try.isAgg63 Try.sizeOf63 encLk (fun _ => rfl) (fun x v hv => by simp [encLk] at hv; rcases hv with rfl | rfl <;> rfl) cmpLk swoLk 69 #[] g 0 cap l.toArray W eg (fun _ _ _ _ x y => cmpLk_closure x y _) (row2_holds hh hr) hblk (by simpa using hsz) totLk
  change Calls Try.prog 68 _ _ _ at hcon
  refine hcon.mono ?_
  rintro e w' ⟨rfl, n, os, rfl⟩
  have hlen := sortLk_len l
  have e1 : (l.toArray.toList.mergeSort fun x y => !(ltOf cmpLk y x)) = sortLk l := rfl
  rw [e1]
  refine ⟨rfl, ⟨_, put_heapL _ hh, ?_, row2_put (by omega)⟩, put_grownL _⟩
  simp [putCells, hcs]

/-! ### Compact -/
theorem run_clear_lk (w : World) (ty : TypeId) (g o n c : Nat) (cur : Array Value) (hh : w.heap[g]? = some (.cells cur 63 (0, 0))) (hn : 0 < n) (hfit : o + n * 2 ≤ cur.size) :
    (Builtin.clear_ #[44] ty #[.slice (some ⟨g, o, none⟩) n c]).run Try.prog w = .ok (.tuple #[]) (w.setRow g (cur.toList.take o ++ List.replicate (n * 2) (Value.int .i64 0) ++ cur.toList.drop (o + n * 2)).toArray) := by
  have hzc : (Builtin.zeroCells #[.int .i64 0, .int .i64 0] n).toList = List.replicate (n * 2) (.int .i64 0) := by
    simp only [Builtin.zeroCells]
    apply List.ext_getElem
    · simp
    · intro i h1 h2
      simp
      have : i % 2 = 0 ∨ i % 2 = 1 := by omega
      rcases this with e | e <;> rw [e] <;> rfl
  have hz : ∀ w, (zeroValue 63).run Try.prog w = .ok (.agg #[.int .i64 0, .int .i64 0]) w := fun w => by
    obtain ⟨i, hi, hq⟩ := Option.map_eq_some_iff.1 info63
    simp only [Prod.mk.injEq] at hq
    simp [zeroValue, typeInfo, hi, hq.1]
  have hst := run_storeCells_at Try.prog g o 63 (List.replicate (n * 2) (.int .i64 0)) 0 cur w hh (by simpa using hfit) (by intro v hv; rw [List.eq_of_mem_replicate hv]; rfl)
  obtain ⟨m, rfl⟩ : ∃ m, n = m + 1 := ⟨n - 1, by omega⟩
  rw [Nat.add_zero, List.length_replicate] at hst
  have hcl : (Value.agg #[Value.int .i64 0, Value.int .i64 0]).cells = #[Value.int .i64 0, Value.int .i64 0] := rfl
  simp [Builtin.clear_, run_underlying Try.underlying44, hz, hcl, hzc, hst]

theorem lk_sz : (Try.prog.info? 63).map (·.size) = some 2 := by
  obtain ⟨i, hi, hz⟩ := Option.map_eq_some_iff.1 info63
  simp only [Prod.mk.injEq] at hz
  rw [hi]
  simp [hz.2.1]
theorem keeps_next {d : Array Lk0} {k : Nat} (h : ∀ j, j < k → Lib.keeps d j = true) (hk : Lib.keeps d k = true) : ∀ j, j < k + 1 → Lib.keeps d j = true := fun j hj => by
  by_cases e : j = k
  · rw [e]; exact hk
  · exact h j (by omega)
theorem add_off0 (g z : Nat) : (⟨g, 0, none⟩ : Addr).add z = ⟨g, z, none⟩ := by unfold Addr.add; split <;> simp_all
theorem rd_get (l : List Lk0) (j : Nat) : rd_T63 l (j : Int) = l.toArray[j]! := by
  unfold rd_T63
  rw [Int.toNat_natCast]
  by_cases h : j < l.length
  · simp [h]
  · simp [h]; rfl

set_option maxHeartbeats 1000000 in
theorem compactLk_none (A : Option Addr) (c : Nat) (w : World) : Calls Try.prog 71 #[.slice A 0 c] w fun e w' => e = .returned (.slice A 0 c) ∧ w' = w := by
  go_enter Try.func71, Try.ntmps71
  go_wp2
  go_ret
  exact ⟨rfl, rfl⟩

theorem compact_end {w0 wr : World} {base g cap n k kk : Nat} {l : List Lk0} {dk : Array Lk0} {cur : Array Value} (hk : k = l.length) (hn : l.length = n) (hv : Lib.CompInv l.toArray k kk dk) (hb : base ≤ g) (hh : wr.heap[g]? = some (.cells cur 63 (0, 0))) (hnc : n ≤ cap) (hcm : cap ≤ maxLen) (hcs : cur.size = cap * 2) (hr : Row2 cur dk.toList) (hB : Below base w0 wr) :
    (Lib.compact l).length = kk ∧ Kd.R k63 63 (wr.setRow g (cur.toList.take (kk * 2) ++ (List.replicate ((n - kk) * 2) (Value.int .i64 0) ++ cur.toList.drop (kk * 2 + (n - kk) * 2))).toArray) base (fun _ => True) (.slice (some ⟨g, 0, none⟩) (Lib.compact l).length cap) (Lib.compact l) ∧ Below base w0 (wr.setRow g (cur.toList.take (kk * 2) ++ (List.replicate ((n - kk) * 2) (Value.int .i64 0) ++ cur.toList.drop (kk * 2 + (n - kk) * 2))).toArray) := by
  subst hk
  have hlen : (Lib.compact l).length = kk := hv.len
  have hkn : kk < n := by have := hv.lt; omega
  have hds : dk.size = n := by have h_ := hv.size; have h3_ : l.toArray.size = l.length := rfl; omega
  have hl1 : (cur.toList.take (kk * 2)).length = kk * 2 := by rw [List.length_take, Array.length_toList]; omega
  refine ⟨hlen, row2_mk hb (setRow_heap _ g cur _ 63 _ hh) (by omega) hcm ?_ (fun j hj => ?_), below_setRow hB hb _⟩
  · rw [List.size_toArray, List.length_append, List.length_append, hl1, List.length_replicate, List.length_drop, Array.length_toList]
    omega
  · have hj2 : j < kk := by omega
    have key : ∀ q, q < kk * 2 → (cur.toList.take (kk * 2) ++ (List.replicate ((n - kk) * 2) (Value.int .i64 0) ++ cur.toList.drop (kk * 2 + (n - kk) * 2))).toArray[q]? = cur[q]? := fun q hq => by
      rw [List.getElem?_toArray, List.getElem?_append_left (by omega), List.getElem?_take, if_pos hq, Array.getElem?_toList]
    have hlow := hv.low j hj2
    have e : (Lib.compact l)[j] = dk.toList[j]'(by show j < dk.size; omega) := by
      have h1 : (Lib.compact l)[j]? = some dk[j]! := hlow
      rw [List.getElem?_eq_getElem hj] at h1
      injection h1 with h1
      rw [h1, getElem!_pos dk j (by omega)]
      rfl
    obtain ⟨r0, r1⟩ := hr j (by show j < dk.size; omega)
    rw [key _ (by omega), key _ (by omega), e]
    exact ⟨r0, r1⟩

set_option maxRecDepth 100000 in
set_option maxHeartbeats 8000000 in
theorem compactLk_calls (w0 : World) (g cap base : Nat) (l : List Lk0) (w : World) (ho : Kd.R k63 63 w base (fun _ => True) (.slice (some ⟨g, 0, none⟩) l.length cap) l) (hl : l.length ≤ 17592186044416) (hB : Below base w0 w) :
    Calls Try.prog 71 #[.slice (some ⟨g, 0, none⟩) l.length cap] w fun e w' => e = .returned (.slice (some ⟨g, 0, none⟩) (Lib.compact l).length cap) ∧ Kd.R k63 63 w' base (fun _ => True) (.slice (some ⟨g, 0, none⟩) (Lib.compact l).length cap) (Lib.compact l) ∧ Below base w0 w' := by
  have hu := Try.underlying63
  obtain ⟨n, hn⟩ : ∃ n, l.length = n := ⟨_, rfl⟩
  have hca : (∀ j, j < n → Lib.keeps l.toArray j = true) → Lib.compact l = l := fun h => Lib.compact_all l (fun j hj => h j (by omega))
  have HL := Aside0.mk hl
  have hcap := (Kd.R_reads' ho).2.1
  have HC := Aside0.mk ((Kd.R_reads' ho).2.2)
  have HO := Aside0.mk ho
  have HB := Aside0.mk hB
  have HA := Aside0.mk hca
  have HN := Aside0.mk hn
  rw [hn] at ho hl hcap ⊢
  clear ho hl hB hca
  by_cases h2 : n < 2
  · have d2 : decide ((n : Int) < 2) = true := decide_eq_true (by omega)
    have d3 : decide (n < 2) = true := decide_eq_true h2
    have d4 : (n : Int) < 2 := by omega
    have HE := Aside0.mk (HA.out (fun j hj => Lib.keeps_lt_one _ j (by omega)))
    clear hn
    go_enter Try.func71, Try.ntmps71
    go_wp2
    go_ret
    rw [HE.out]
    exact ⟨by rw [HN.out]; rfl, HO.out, HB.out⟩
  · have d2 : decide ((n : Int) < 2) = false := decide_eq_false (by omega)
    have d3 : decide (n < 2) = false := decide_eq_false h2
    have d4 : ¬ (n : Int) < 2 := by omega
    clear hn
    go_enter Try.func71, Try.ntmps71
    go_wp2
    go_loopg [3] n (fun gg s3 wr => ∃ k q : Nat, s3 = .int .i64 (k : Int) ∧ wr = w.drewN q ∧ Aside0 (1 ≤ k ∧ k ≤ n ∧ n - k ≤ gg ∧ ∀ j, j < k → Lib.keeps l.toArray j = true))
    case atStart => exact ⟨1, 0, rfl, rfl, ⟨Nat.le_refl _, by omega, by omega, Lib.keeps_lt_one _⟩⟩
    case round =>
      obtain ⟨k, q, rfl, rfl, HI⟩ := hrel
      by_cases hlt : k < n
      · obtain ⟨ad, e1, q0, q1⟩ := at_T63 HC.out (k : Int) (by omega) (by rw [HN.out]; omega)
        obtain ⟨ad', e2, p0, p1⟩ := at_T63 HC.out ((k - 1 : Nat) : Int) (by omega) (by rw [HN.out]; omega)
        cases e1
        cases e2
        simp only [Int.toNat_natCast, add_off0, rd_get] at q0 q1 p0 p1
        obtain ⟨k', hk'⟩ : ∃ k', k - 1 = k' := ⟨_, rfl⟩
        have HK := Aside0.mk hk'
        rw [hk'] at p0 p1
        generalize hx : l.toArray[k]! = x at q0 q1
        generalize hy : l.toArray[k']! = y at p0 p1
        have HXY := Aside0.mk (And.intro hx hy)
        clear hx hy hk'
        have HW := Aside0.mk (show wrap64 ((k : Int) + 1) = ((k + 1 : Nat) : Int) by
          have := HL.out
          have := HN.out
          rw [IntWalk.wrap64_in _ ⟨by omega, by omega⟩]
          omega)
        have hw : IntKind.i64.wrap ((k : Int) - 1) = (k' : Int) := by
          have := HL.out
          have := HN.out
          have := HI.out.1
          have := HK.out
          rw [i64_w, IntWalk.wrap64_in _ ⟨by omega, by omega⟩]
          omega
        have cb : decide ((k : Int) < (n : Int)) = true := decide_eq_true (by omega)
        have cb2 : decide (k < n) = true := decide_eq_true hlt
        have hkz := eq_true (show (k : Int) < (n : Int) by omega)
        have hk0 := eq_true (show (0 : Int) ≤ (k : Int) by omega)
        have hkz2 := eq_true (show (k' : Int) < (n : Int) by have := HK.out; omega)
        have hk02 := eq_true (show (0 : Int) ≤ (k' : Int) by omega)
        have HLT := Aside0.mk hlt
        clear hlt
        by_cases hdup : x.f0 = y.f0 ∧ x.f1 = y.f1
        · have d1 : (x.f0 == y.f0) = true := beq_iff_eq.2 hdup.1
          have d2_ : (x.f1 == y.f1) = true := beq_iff_eq.2 hdup.2
          have d5 : decide (x.f0 = y.f0) = true := decide_eq_true hdup.1
          have d6 : decide (x.f1 = y.f1) = true := decide_eq_true hdup.2
          have HD := Aside0.mk hdup
          clear hdup
          have hck := eq_false (show ¬ cap = k by have := HLT.out; omega)
          have hik := eq_true (show k ≤ cap by have := HLT.out; omega)
          have hikz := eq_true (show (k : Int) ≤ (cap : Int) by have := HLT.out; omega)
          have hin := eq_true (show k ≤ n by have := HLT.out; omega)
          have hinz := eq_true (show (k : Int) ≤ (n : Int) by have := HLT.out; omega)
          go_wp2
          go_quiet (fail)
          go_wp2
          clear q0 q1 p0 p1 d1 d2_ d5 d6 hkz hk0 hkz2 hk02 cb cb2 hw HW
          have HA2 := Aside0.mk (fun z => add_off0 g z)
          go_loopg [3, 5] n (fun gg s3 s5 wr => ∃ (kk k2 : Nat) (dk : Array Lk0), s3 = .int .i64 (kk : Int) ∧ s5 = .int .i64 (k2 : Int) ∧ Aside0 (1 ≤ k2 ∧ k + k2 ≤ n ∧ n - (k + k2) ≤ gg) ∧ Aside0 (Kd.R k63 63 wr base (fun _ => True) (.slice (some ⟨g, 0, none⟩) n cap) dk.toList) ∧ Aside0 (Below base w0 wr) ∧ Aside0 (Lib.CompInv l.toArray (k + k2) kk dk))
          case atStart => exact ⟨k, 1, l.toArray, rfl, rfl, ⟨by have := HLT.out; omega⟩, ⟨by have h_ := HO.out; rw [HN.out] at h_; exact Kd.R_drewN (by simpa using h_) _⟩, ⟨by exact pw_below_drewN HB.out _⟩, ⟨Lib.CompInv.start HI.out.2.2.2 (Lib.keeps_neg (by have := HI.out.1; omega) (by rw [HXY.out.1, HK.out, HXY.out.2]; exact lk0_ext HD.out))⟩⟩
          case round =>
            obtain ⟨kk, k2, dk, rfl, rfl, H1, HR, HB2, HV⟩ := hrel
            have hsz : dk.size = n := by have h_ := HV.out.size; have h2_ := HN.out; have h3_ : l.toArray.size = l.length := rfl; omega
            have HTL := Aside0.mk (show dk.toList.length = n from hsz)
            have HSZ := Aside0.mk hsz
            clear hsz
            by_cases hlt2 : k + k2 < n
            · obtain ⟨ad, e1, q0, q1⟩ := at_T63 (Kd.R_reads' HR.out).2.2 ((k + k2 : Nat) : Int) (by omega) (by have := HTL.out; omega)
              obtain ⟨ad', e2, p0, p1⟩ := at_T63 (Kd.R_reads' HR.out).2.2 ((k + k2 - 1 : Nat) : Int) (by omega) (by have := HTL.out; have := H1.out; omega)
              obtain ⟨ad2, e3, r0, r1⟩ := at_T63 (Kd.R_reads' HR.out).2.2 (kk : Int) (by omega) (by have := HTL.out; have := HV.out.lt; omega)
              cases e1
              cases e2
              cases e3
              simp only [Int.toNat_natCast, add_off0, rd_get] at q0 q1 p0 p1 r0 r1
              rw [show (k + k2) * 2 = k * 2 + k2 * 2 by omega] at q0 q1
              obtain ⟨m2, hm2⟩ : ∃ m2, k2 - 1 = m2 := ⟨_, rfl⟩
              have HM2 := Aside0.mk hm2
              rw [show (k + k2 - 1) * 2 = k * 2 + m2 * 2 by have := H1.out; omega] at p0 p1
              generalize hu_ : dk.toList.toArray[k + k2]! = u at q0 q1
              generalize hv_ : dk.toList.toArray[k + k2 - 1]! = v at p0 p1
              generalize ho_ : dk.toList.toArray[kk]! = o at r0 r1
              have HU := Aside0.mk (show l.toArray[k + k2]! = u by rw [← HV.out.high (k + k2) (by have := HV.out.lt; omega)]; simpa using hu_)
              have HV_ := Aside0.mk (show l.toArray[k + k2 - 1]! = v by rw [← HV.out.high (k + k2 - 1) (by have := HV.out.lt; have := H1.out; omega)]; simpa using hv_)
              have HKN := Aside0.mk (show (kk : Int) < (n : Int) by have := HV.out.lt; omega)
              have HOC := Aside0.mk (fun (q : Nat) (j : Nat) (z : Value) (hz : [Value.int .i64 o.f0, Value.int .i64 o.f1][j]? = some z) => (show (wr.drewN q).cell? ⟨g, (kk : Int).toNat * 2 + j, none⟩ = some z by
                rw [Int.toNat_natCast]
                match j, hz with
                | 0, hz => obtain rfl := Option.some.inj hz; exact r0
                | 1, hz => obtain rfl := Option.some.inj hz; exact r1
                | j + 2, hz => simp at hz))
              clear hu_ hv_ ho_ hm2
              have HLT2 := Aside0.mk hlt2
              have HW2 := Aside0.mk (show wrap64 ((k2 : Int) + 1) = ((k2 + 1 : Nat) : Int) by
                have := HL.out
                have := HN.out
                rw [IntWalk.wrap64_in _ ⟨by omega, by omega⟩]
                omega)
              have HW3 := Aside0.mk (show wrap64 ((kk : Int) + 1) = ((kk + 1 : Nat) : Int) by
                have := HL.out
                have := HN.out
                have := HKN.out
                rw [IntWalk.wrap64_in _ ⟨by omega, by omega⟩]
                omega)
              have hw : IntKind.i64.wrap ((k2 : Int) - 1) = (m2 : Int) := by
                have := HL.out
                have := HN.out
                have := H1.out
                have := HM2.out
                rw [i64_w, IntWalk.wrap64_in _ ⟨by omega, by omega⟩]
                omega
              have c1 : decide ((k2 : Int) < ((n - k : Nat) : Int)) = true := decide_eq_true (by omega)
              have c2 : decide (k2 < n - k) = true := decide_eq_true (by omega)
              have c3 : decide ((k2 : Int) < (n : Int) - (k : Int)) = true := decide_eq_true (by omega)
              have hz1 := eq_true (show (k2 : Int) < ((n - k : Nat) : Int) by omega)
              have hz2 := eq_true (show (0 : Int) ≤ (k2 : Int) by omega)
              have hz3 := eq_true (show (m2 : Int) < ((n - k : Nat) : Int) by have := HM2.out; omega)
              have hz4 := eq_true (show (0 : Int) ≤ (m2 : Int) by omega)
              have hz5 := eq_true HKN.out
              have hz6 := eq_true (show (0 : Int) ≤ (kk : Int) by omega)
              clear hlt2
              by_cases hdup : u.f0 = v.f0 ∧ u.f1 = v.f1
              · have d3 : (u.f0 == v.f0) = true := beq_iff_eq.2 hdup.1
                have d4 : (u.f1 == v.f1) = true := beq_iff_eq.2 hdup.2
                have d5 : decide (u.f0 = v.f0) = true := decide_eq_true hdup.1
                have d6 : decide (u.f1 = v.f1) = true := decide_eq_true hdup.2
                have HV2 := Aside0.mk (HV.out.skip (Lib.keeps_neg (by have := H1.out; omega) (by rw [HU.out, HV_.out]; exact lk0_ext hdup)))
                clear hdup
                go_wp2
                go_quiet (fail)
                go_wp2
                go_roundg (n - (k + (k2 + 1)))
                case measure => have := HLT2.out; have := H1.out; omega
                case rel => exact ⟨kk, k2 + 1, dk, rfl, by first | rw [HW2.out] | rfl | simp, ⟨by have := HLT2.out; omega⟩, ⟨Kd.R_drewN HR.out _⟩, ⟨pw_below_drewN HB2.out _⟩, HV2⟩
              · have HV2 := Aside0.mk (HV.out.keep (by have h_ := HLT2.out; have h2_ := HN.out; have h3_ : l.toArray.size = l.length := rfl; omega) (Lib.keeps_pos (by rw [HU.out, HV_.out]; exact fun e => hdup (by rw [e]; exact ⟨rfl, rfl⟩))))
                by_cases h0 : u.f0 = v.f0
                · have h1 : ¬ u.f1 = v.f1 := fun e => hdup ⟨h0, e⟩
                  have d3 : (u.f0 == v.f0) = true := beq_iff_eq.2 h0
                  have d4 : (u.f1 == v.f1) = false := beq_false_of_ne h1
                  have d5 : decide (u.f0 = v.f0) = true := decide_eq_true h0
                  have d6 : decide (u.f1 = v.f1) = false := decide_eq_false h1
                  clear hdup h0 h1
                  go_wp2
                  go_quiet (fail)
                  go_wp2_with (first | ((with_reducible refine gate_ (.store 63 (.tmp 51) (.tmp 50)) rfl ?_); refine Kd.R_store k63 (w0 := w0) base (by rfl) (by rfl) 63 (.tmp 51) (.tmp 50) (by rfl) 63 (g := g) (n := n) (cap := cap) (kk : Int) 0 dk.toList u (.agg #[.int .i64 u.f0, .int .i64 u.f1]) [.int .i64 u.f0, .int .i64 u.f1] [.int .i64 o.f0, .int .i64 o.f1] (fun _ => True) (fun _ => False) (by rfl) (by rw [Int.toNat_natCast]; rfl) (by rfl) rfl lk_sz (fun q hq => by simp at hq; rcases hq with rfl | rfl <;> rfl) ?aO (by omega) HKN.out rfl ?aC (show 2 ≤ 2 from Nat.le_refl 2) (k63_mkM _ _ _ u) (fun _ h_ => h_.elim) ?aB ?_; (case aO => exact (by (with_reducible repeat (first | apply Kd.R_alloc | apply Kd.R_drewN | apply Kd.R_drew)); exact HR.out)); (case aB => exact (by repeat (first | exact HB2.out | (with_reducible first | apply below_alloc | apply pw_below_drewN | apply below_drew1)))); (case aC => exact HOC.out _); intro w5 ho5 hb5 hg5; have HR5 := Aside0.mk ho5; have HB5 := Aside0.mk hb5; clear ho5 hb5 hg5))
                  go_roundg (n - (k + (k2 + 1)))
                  case measure => have := HLT2.out; have := H1.out; omega
                  case rel => exact ⟨kk + 1, k2 + 1, dk.setIfInBounds kk u, by first | rw [HW3.out] | rfl | simp, by first | rw [HW2.out] | rfl | simp, ⟨by have := HLT2.out; omega⟩, ⟨by have h_ := HR5.out; simpa using h_⟩, HB5, ⟨by have h_ := HV2.out; rw [HU.out] at h_; exact h_⟩⟩
                · have d3 : (u.f0 == v.f0) = false := beq_false_of_ne h0
                  have d5 : decide (u.f0 = v.f0) = false := decide_eq_false h0
                  clear hdup h0
                  go_wp2
                  go_quiet (fail)
                  go_wp2_with (first | ((with_reducible refine gate_ (.store 63 (.tmp 51) (.tmp 50)) rfl ?_); refine Kd.R_store k63 (w0 := w0) base (by rfl) (by rfl) 63 (.tmp 51) (.tmp 50) (by rfl) 63 (g := g) (n := n) (cap := cap) (kk : Int) 0 dk.toList u (.agg #[.int .i64 u.f0, .int .i64 u.f1]) [.int .i64 u.f0, .int .i64 u.f1] [.int .i64 o.f0, .int .i64 o.f1] (fun _ => True) (fun _ => False) (by rfl) (by rw [Int.toNat_natCast]; rfl) (by rfl) rfl lk_sz (fun q hq => by simp at hq; rcases hq with rfl | rfl <;> rfl) ?aO (by omega) HKN.out rfl ?aC (show 2 ≤ 2 from Nat.le_refl 2) (k63_mkM _ _ _ u) (fun _ h_ => h_.elim) ?aB ?_; (case aO => exact (by (with_reducible repeat (first | apply Kd.R_alloc | apply Kd.R_drewN | apply Kd.R_drew)); exact HR.out)); (case aB => exact (by repeat (first | exact HB2.out | (with_reducible first | apply below_alloc | apply pw_below_drewN | apply below_drew1)))); (case aC => exact HOC.out _); intro w5 ho5 hb5 hg5; have HR5 := Aside0.mk ho5; have HB5 := Aside0.mk hb5; clear ho5 hb5 hg5))
                  go_roundg (n - (k + (k2 + 1)))
                  case measure => have := HLT2.out; have := H1.out; omega
                  case rel => exact ⟨kk + 1, k2 + 1, dk.setIfInBounds kk u, by first | rw [HW3.out] | rfl | simp, by first | rw [HW2.out] | rfl | simp, ⟨by have := HLT2.out; omega⟩, ⟨by have h_ := HR5.out; simpa using h_⟩, HB5, ⟨by have h_ := HV2.out; rw [HU.out] at h_; exact h_⟩⟩
            · have hend : k + k2 = n := by have := H1.out; omega
              have HKN := Aside0.mk (show kk < n by have := HV.out.lt; omega)
              obtain ⟨g', cap', cur, hgv, hbg, hh, hnc, hcm, hcs, hrow⟩ := row2_open (l := dk.toList) (by intro e; have := HTL.out; rw [e] at this; have := HKN.out; simp at *; omega) (show Kd.R k63 63 wr base (fun _ => True) (.slice (some ⟨g, 0, none⟩) n cap) dk.toList from HR.out)
              rw [HTL.out] at hgv
              cases hgv
              have hcl := fun (ty : Nat) => run_clear_lk wr ty g (kk * 2) (n - kk) (cap - kk) cur hh (by have := HKN.out; omega) (by have := HKN.out; have := HTL.out; omega)
              have HEND := Aside0.mk (compact_end (n := n) (base := base) (w0 := w0) (by rw [HN.out]; exact hend) HN.out HV.out hbg hh (by rw [HTL.out] at hnc; exact hnc) hcm hcs hrow HB2.out)
              have hck2 := eq_false (show ¬ cap = kk by have := HKN.out; omega)
              have hik2 := eq_true (show kk ≤ cap by have := HKN.out; omega)
              have hikz2 := eq_true (show (kk : Int) ≤ (cap : Int) by have := HKN.out; omega)
              have hin2 := eq_true (show kk ≤ n by have := HKN.out; omega)
              have hinz2 := eq_true (show (kk : Int) ≤ (n : Int) by have := HKN.out; omega)
              have c1 : decide ((k2 : Int) < ((n - k : Nat) : Int)) = false := decide_eq_false (by omega)
              have c2 : decide (k2 < n - k) = false := decide_eq_false (by omega)
              have c3 : decide ((k2 : Int) < (n : Int) - (k : Int)) = false := decide_eq_false (by omega)
              have hz6 := eq_true (show (0 : Int) ≤ (kk : Int) by omega)
              clear hend hlt2 hh hbg hnc hcm hcs hrow
              go_wp2
              go_ret
              exact ⟨by rw [HEND.out.1]; rfl, HEND.out.2.1, HEND.out.2.2⟩
        · have d1 : (x.f0 == y.f0 && x.f1 == y.f1) = false := by
            rw [Bool.eq_false_iff, Ne, Bool.and_eq_true, beq_iff_eq, beq_iff_eq]
            exact hdup
          have HKP := Aside0.mk (show Lib.keeps l.toArray k = true from Lib.keeps_pos (by rw [HXY.out.1, HK.out, HXY.out.2]; exact fun e => hdup (by rw [e]; exact ⟨rfl, rfl⟩)))
          by_cases h0 : x.f0 = y.f0
          · have h1 : ¬ x.f1 = y.f1 := fun e => hdup ⟨h0, e⟩
            have d3 : (x.f0 == y.f0) = true := beq_iff_eq.2 h0
            have d4 : (x.f1 == y.f1) = false := beq_false_of_ne h1
            have d5 : decide (x.f0 = y.f0) = true := decide_eq_true h0
            have d6 : decide (x.f1 = y.f1) = false := decide_eq_false h1
            clear hdup h0 h1
            go_wp2
            go_quiet (fail)
            go_wp2
            go_roundg (n - (k + 1))
            case measure => have := HLT.out; have := HI.out; omega
            case rel => exact ⟨k + 1, _, by first | rw [HW.out] | rfl | simp, by first | rfl | exact World.drewN_drewN _ _ _, ⟨by have := HLT.out; have := HI.out.1; exact ⟨by omega, by omega, by omega, keeps_next HI.out.2.2.2 HKP.out⟩⟩⟩
          · have d3 : (x.f0 == y.f0) = false := beq_false_of_ne h0
            have d5 : decide (x.f0 = y.f0) = false := decide_eq_false h0
            clear hdup h0
            go_wp2
            go_quiet (fail)
            go_wp2
            go_roundg (n - (k + 1))
            case measure => have := HLT.out; have := HI.out; omega
            case rel => exact ⟨k + 1, _, by first | rw [HW.out] | rfl | simp, by first | rfl | exact World.drewN_drewN _ _ _, ⟨by have := HLT.out; have := HI.out.1; exact ⟨by omega, by omega, by omega, keeps_next HI.out.2.2.2 HKP.out⟩⟩⟩
      · have hk : k = n := by have := HI.out.2.1; omega
        subst hk
        have cb : decide ((k : Int) < (k : Int)) = false := decide_eq_false (by omega)
        have HE := Aside0.mk (HA.out (fun j hj => HI.out.2.2.2 j hj))
        go_wp2
        go_ret
        rw [HE.out]
        exact ⟨by rw [HN.out]; rfl, Kd.R_drewN HO.out _, by exact pw_below_drewN HB.out _⟩

end Go.Proofs.Ytgghhcifkgdpeaa.Z
