/- The library's SortFunc at replies, twelve at most, by their times: a row of the call's own. Over the shelf's contracts. -/
import Derived.Test.YtgghhcifkgdpeaaShelf2
import Derived.Test.YtgghhcifkgdpeaaZFirst
import Derived.Test.YtgghhcifkgdpeaaZ0
import Derived.Sort.OwnSorted
import Derived.Shelf.SlSortCmp.SmallK
import Derived.Shelf.Small.Bits
namespace Go.Proofs.Ytgghhcifkgdpeaa.Z
open Go.Sort (putRow putRowK grow Holds HoldsK flatK putCells)
open Go.RowKit Go.Proofs.YtgghhcifkgdpeaaW.PrintWords Go.Proofs.YtgghhcifkgdpeaaW.PrintLast Go.Proofs.YtgghhcifkgdpeaaW.PrintMore

abbrev Rp0 := S68
instance : Inhabited Rp0 := ⟨z68⟩
def encRp (x : Rp0) : List Value := [.int .i64 x.f0, .int .i64 x.f1, .int .i64 x.f2]
def cmpRp (x y : Rp0) : Int := Lib.compareInt x.f1 y.f1
/-- Replies by their times, as the library's insertion sort lays them. -/
def sortT (l : List Rp0) : List Rp0 := (Sort.insertionSort (ltOf cmpRp) l.toArray 0 l.length).toList

/-- The first cells are the replies'. -/
def Row3 (cur : Array Value) (l : List Rp0) : Prop := ∀ (j : Nat) (h : j < l.length), cur[3 * j]? = some (.int .i64 l[j].f0) ∧ cur[3 * j + 1]? = some (.int .i64 l[j].f1) ∧ cur[3 * j + 2]? = some (.int .i64 l[j].f2)

theorem row3_open {W : World} {base : Nat} {ok : Nat → Prop} {v : Value} {l : List Rp0} (hne : l ≠ []) (h : Kd.R k68 68 W base ok v l) : ∃ g cap cur, v = .slice (some ⟨g, 0, none⟩) l.length cap ∧ base ≤ g ∧ W.heap[g]? = some (.cells cur 68 (0, 0)) ∧ l.length ≤ cap ∧ cap ≤ maxLen ∧ cur.size = cap * 3 ∧ Row3 cur l := by
  obtain ⟨_, inner, ⟨_, ho⟩, hr⟩ := h
  have hpos := List.length_pos_iff.2 hne
  rcases ho with ⟨_, h0⟩ | ⟨g, cap, cur, hv, hb, hh, hnc, hcm, hcs, ht⟩
  · omega
  · have hcs : cur.size = cap * 3 := hcs
    have ht : cur.toList.take (l.length * 3) = inner := ht
    refine ⟨g, cap, cur, hv, hb, hh, hnc, hcm, hcs, fun j hj => ?_⟩
    have hM : k68.M W base _ l[j] ((inner.drop (j * 3)).take 3) := hr.2 j _ (List.getElem?_eq_getElem hj)
    have e := k68_openM hM
    have key : ∀ q, q < 3 → cur[3 * j + q]? = ((inner.drop (j * 3)).take 3)[q]? := fun q hq => by
      rw [List.getElem?_take, if_pos hq, List.getElem?_drop, ← ht, List.getElem?_take, if_pos (by omega), Array.getElem?_toList]
      congr 1
      omega
    have k0 := key 0 (by omega)
    have k1 := key 1 (by omega)
    have k2 := key 2 (by omega)
    rw [e] at k0 k1 k2
    exact ⟨k0, k1, k2⟩

theorem row3_mk {W : World} {base g cap : Nat} {cur : Array Value} {l : List Rp0} (hb : base ≤ g) (hh : W.heap[g]? = some (.cells cur 68 (0, 0))) (hnc : l.length ≤ cap) (hcm : cap ≤ maxLen) (hcs : cur.size = cap * 3) (h : Row3 cur l) :
    Kd.R k68 68 W base (fun _ => True) (.slice (some ⟨g, 0, none⟩) l.length cap) l := by
  refine ⟨fun _ _ => trivial, cur.toList.take (l.length * 3), ⟨?_, .inr ⟨g, cap, cur, rfl, hb, hh, hnc, hcm, hcs, rfl⟩⟩, ?_, fun j p hp => ?_⟩
  · rw [List.length_take, Array.length_toList]; show min (l.length * 3) cur.size = l.length * 3; omega
  · rw [List.length_take, Array.length_toList]; show min (l.length * 3) cur.size = l.length * 3; omega
  · obtain ⟨hj, rfl⟩ := List.getElem?_eq_some_iff.1 hp
    obtain ⟨h0, h1, h2⟩ := h j hj
    have e : ((cur.toList.take (l.length * 3)).drop (j * 3)).take 3 = encRp l[j] := by
      apply List.ext_getElem?
      intro q
      rw [List.getElem?_take]
      by_cases hq : q < 3
      · rw [if_pos hq, List.getElem?_drop, List.getElem?_take, if_pos (by omega), Array.getElem?_toList]
        match q, hq with
        | 0, _ => rw [show j * 3 + 0 = 3 * j by omega, h0]; rfl
        | 1, _ => rw [show j * 3 + 1 = 3 * j + 1 by omega, h1]; rfl
        | 2, _ => rw [show j * 3 + 2 = 3 * j + 2 by omega, h2]; rfl
      · rw [if_neg hq, List.getElem?_eq_none (by show 3 ≤ q; omega)]
    show k68.M W base _ l[j] (((cur.toList.take (l.length * 3)).drop (j * 3)).take 3)
    rw [e]
    exact k68_mkM _ _ _ _

theorem flat_get (l : Array Rp0) (q : Nat) (h : q < l.size * 3) : (flatK encRp 3 l)[q]! = (encRp l[q / 3]!)[q % 3]! := Sort.get_flatK encRp 3 l q h

theorem row3_holds {W : World} {g : Nat} {cur : Array Value} {l : List Rp0} (hh : W.heap[g]? = some (.cells cur 68 (0, 0))) (h : Row3 cur l) : HoldsK encRp 3 W g 0 l.toArray := by
  intro q hq
  have hq : q < l.length * 3 := by simpa using hq
  have hj : q / 3 < l.length := by omega
  refine ⟨?_, by simp [World.frozen?, hh]⟩
  rw [flat_get l.toArray q (by simpa using hq)]
  obtain ⟨h0, h1, h2⟩ := h (q / 3) hj
  have el : l.toArray[q / 3]! = l[q / 3] := by simp [hj]
  rw [el]
  simp only [World.cell?, hh, Nat.zero_add]
  simp only [Option.isSome_none, Bool.false_eq_true, if_false]
  have hm : q % 3 = 0 ∨ q % 3 = 1 ∨ q % 3 = 2 := by omega
  rcases hm with e | e | e
  · rw [e]; rw [show cur[q]? = cur[3 * (q / 3)]? by congr 1; omega]; exact h0
  · rw [e]; rw [show cur[q]? = cur[3 * (q / 3) + 1]? by congr 1; omega]; exact h1
  · rw [e]; rw [show cur[q]? = cur[3 * (q / 3) + 2]? by congr 1; omega]; exact h2

theorem row3_put {cur : Array Value} {l : List Rp0} (hs : l.length * 3 ≤ cur.size) : Row3 (putCells id 0 (flatK encRp 3 l.toArray) cur) l := by
  intro j hj
  have key : ∀ q, q < l.length * 3 → (putCells id 0 (flatK encRp 3 l.toArray) cur)[q]? = some ((encRp l.toArray[q / 3]!)[q % 3]!) := fun q hq => by
    have hqc : q < cur.size := by omega
    have hsz : (flatK encRp 3 l.toArray).size = l.length * 3 := by simp
    unfold putCells
    rw [Array.getElem?_mapIdx, Array.getElem?_eq_getElem hqc, Option.map_some, if_pos ⟨Nat.zero_le _, by omega⟩, Nat.sub_zero]
    rw [flat_get l.toArray q (by simpa using hq)]
    rfl
  have el : l.toArray[j]! = l[j] := by simp [hj]
  refine ⟨?_, ?_, ?_⟩
  · rw [key (3 * j) (by omega), show 3 * j / 3 = j by omega, show 3 * j % 3 = 0 by omega, el]; rfl
  · rw [key (3 * j + 1) (by omega), show (3 * j + 1) / 3 = j by omega, show (3 * j + 1) % 3 = 1 by omega, el]; rfl
  · rw [key (3 * j + 2) (by omega), show (3 * j + 2) / 3 = j by omega, show (3 * j + 2) % 3 = 2 by omega, el]; rfl

theorem put_heap {W : World} {g n : Nat} {os : Array Obj} {cur : Array Value} {e : TypeId} {fr : Nat × Nat} (d : Array Value) (hb : W.heap[g]? = some (.cells cur e fr)) :
    (grow (putRow id (Sort.ahead W n) g 0 d) os).heap[g]? = some (.cells (putCells id 0 d cur) e fr) := by
  have hg : g < W.heap.size := (Array.getElem?_eq_some_iff.1 hb).1
  rw [Sort.heap_grow_old _ _ (by simpa using hg)]
  simp [putRow, Sort.mapBlock, Sort.ahead, Array.getElem?_modify, hb, Sort.onCells]

theorem put_grown {W : World} {g n : Nat} {os : Array Obj} (d : Array Value) : W.grownBy (grow (putRow id (Sort.ahead W n) g 0 d) os) (some g) := by
  refine ⟨rfl, rfl, rfl, by simp, fun k hk hne => ?_⟩
  rw [Sort.heap_grow_old _ _ (by simpa using hk)]
  have : g ≠ k := fun e => hne (by rw [e])
  simp [putRow, Sort.mapBlock, Sort.ahead, Array.getElem?_modify, this]

set_option maxHeartbeats 1000000 in
theorem cmp_closure (x y : Rp0) (W : World) : Calls Try.prog 60 #[.agg #[.int .i64 x.f0, .int .i64 x.f1, .int .i64 x.f2], .agg #[.int .i64 y.f0, .int .i64 y.f1, .int .i64 y.f2]] W fun e w' => e = .returned (.int .i64 (cmpRp x y)) ∧ ∃ q os', w' = grow (W.drewN q) os' := by
  have hu := Try.underlying68
  have hcon := fun W' => AnyG.cmp_Compare_int Try.cmpInt x.f1 y.f1 W'
  change ∀ W', Calls Try.prog 61 _ _ _ at hcon
  unfold cmpRp
  generalize Lib.compareInt x.f1 y.f1 = r at hcon ⊢
  go_enter Try.func60, Try.ntmps60
  go_wp2_with (go_at_call 61; refine (hcon _).mono ?_; rintro e w' ⟨rfl, rfl⟩)
  go_ret
  exact ⟨rfl, 0, _, by rw [Sort.alloc_eq_grow, Sort.alloc_eq_grow, Sort.grow_grow]; rfl⟩

theorem ltRp (x y : Rp0) : ltOf cmpRp x y = decide (x.f1 < y.f1) := by
  unfold ltOf cmpRp Lib.compareInt
  by_cases h1 : x.f1 < y.f1
  · simp [h1]
  · by_cases h2 : y.f1 < x.f1 <;> simp [h1, h2]
theorem swoRp : Sort.SWO (ltOf cmpRp) where
  irrefl x := by rw [ltRp]; simp
  trans x y z h1 h2 := by rw [ltRp] at *; simp at *; omega
  ntrans x y z h1 h2 := by rw [ltRp] at *; simp at *; omega

theorem sort_facts (l : List Rp0) : (sortT l).Perm l ∧ ∀ (i j : Nat) (hi : i < j) (hj : j < (sortT l).length), (sortT l)[i].f1 ≤ (sortT l)[j].f1 := by
  obtain ⟨⟨h1, _, h3⟩, h4⟩ := Sort.insertionSort_holds (lt := ltOf cmpRp) swoRp l.toArray 0 l.toArray.size (Nat.zero_le _) (Nat.le_refl _)
  have e : Sort.insertionSort (ltOf cmpRp) l.toArray 0 l.toArray.size = (sortT l).toArray := by unfold sortT; simp
  rw [e] at h1 h3 h4
  have hl : (sortT l).length = l.length := by simpa using h1
  refine ⟨?_, fun i j hi hj => ?_⟩
  · have h5 : ((sortT l).toArray.extract 0 l.toArray.size).toList = sortT l := by simp [← hl]
    have h6 : (l.toArray.extract 0 l.toArray.size).toList = l := by simp
    rw [h5, h6] at h3
    exact h3
  · have h5 := h4 i j (Nat.zero_le _) hi (by simpa [← hl] using hj)
    rw [ltRp] at h5
    have hi' : i < (sortT l).length := by omega
    simp [hj, hi'] at h5
    exact h5

theorem sort_perm (l : List Rp0) : (sortT l).length = l.length := (sort_facts l).1.length_eq

set_option maxHeartbeats 1000000 in
theorem sortRp_calls (g cap : Nat) (cur : Array Value) (l : List Rp0) (W : World) (hh : W.heap[g]? = some (.cells cur 68 (0, 0))) (hnc : l.length ≤ cap) (hcs : cur.size = cap * 3) (hr : Row3 cur l) (h12 : l.length ≤ 12) :
    Calls Try.prog 59 #[.slice (some ⟨g, 0, none⟩) l.length cap, .func (.func 60) #[] #[]] W fun e w' => e = .returned (.tuple #[]) ∧ (∃ cur', w'.heap[g]? = some (.cells cur' 68 (0, 0)) ∧ cur'.size = cap * 3 ∧ Row3 cur' (sortT l)) ∧ W.grownBy w' (some g) := by
  have eg : ∀ args w, (callFunc 60 args).run Try.prog w = .ok (.enter 60 args) w := enters_of Try.func60 (by kernel_rfl) rfl
  have hblk : g < W.heap.size := (Array.getElem?_eq_some_iff.1 hh).1
  have hcon := AnyQ.slices_SortFunc_small Try.sortRp 3 Try.isAgg68 Try.sizeOf68 encRp (fun _ => rfl) (fun x v hv => by simp [encRp] at hv; rcases hv with rfl | rfl | rfl <;> rfl) cmpRp 60 #[] g 0 cap l.toArray W eg (fun _ _ _ _ x y => cmp_closure x y _) (row3_holds hh hr) hblk (by simpa using h12)
    (fun n W h => (Any.bits_Len Try.bitsLen2 n W (by omega) (by omega)).mono fun _ _ ⟨he, hw⟩ => ⟨⟨_, he⟩, hw⟩)
  change Calls Try.prog 59 _ _ _ at hcon
  refine hcon.mono ?_
  rintro e w' ⟨rfl, n, os, rfl⟩
  have hlen := sort_perm l
  have e1 : Sort.insertionSort (ltOf cmpRp) l.toArray 0 l.toArray.size = (sortT l).toArray := by unfold sortT; simp
  rw [e1]
  refine ⟨rfl, ⟨_, put_heap _ hh, ?_, row3_put (by omega)⟩, put_grown _⟩
  simp [putCells, hcs]

end Go.Proofs.Ytgghhcifkgdpeaa.Z
