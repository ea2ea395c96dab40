-- Written by this session's wip/mp/mp.py out of the translation. Lean checks it.
import Derived.Test.YtgmdicckecjncaaZ0
import Derived.Test.YtgmdicckecjncaaShelf
import Derived.Laws.CopyOwn
import Derived.Shelf.Spec.SlicesInsert
namespace Go.Proofs.Ytgmdicckecjncaa.Z
open Go.RowKit Go.Proofs.YtgmdicckecjncaaW.PrintWords Go.Proofs.YtgmdicckecjncaaW.PrintLast Go.Proofs.YtgmdicckecjncaaW.PrintMore
attribute [local go_sem] max2_int min2_int max_two min_two max_three min_three max_four min_four   -- for this text's walks alone
set_option linter.unusedVariables false
set_option linter.unusedSimpArgs false

-- GIVEN
-- FUNCTION slices.Repeat[[]loop.example/g00958/impl.Interval,loop.example/g00958/impl.Interval]
-- ALONE
-- INFO 60
-- IMPORT Derived.Test.YtgmdicckecjncaaShelf
-- IMPORT Derived.Laws.CopyOwn
-- IMPORT Derived.Shelf.Spec.SlicesInsert
/-! ### slices_Repeat_SInterval: function 114 -/
def slices_Repeat_SInterval.f (l0 : List S60) (a1 : Int) : Option (List S60) := if l0.length = 1 ∧ 1 ≤ a1 ∧ a1 ≤ 6 then some (List.replicate a1.toNat (rd_T60 l0 0)) else none

/-- copy of elements of two cells into a row: the run. -/
theorem rep_copy (w : World) (dT sT ty elem : TypeId) (g o dLen dCap : Nat) (a : Addr) (sLen sCap : Nat) (cur : Array Value) (t : TypeId) (cs : List Value)
  (hu : Try.prog.underlying dT = some (.slice elem)) (hs : (Try.prog.info? elem).map (·.size) = some 2)
  (hg : w.heap[g]? = some (.cells cur t (0, 0))) (hn : cs.length = Nat.min sLen dLen * 2)
  (hsrc : ∀ j v, cs[j]? = some v → w.cell? (a.add j) = some v) (hfit : o + cs.length ≤ cur.size) (h1 : ∀ v ∈ cs, v.oneCell' = true) :
  (Builtin.copy_ #[dT, sT] ty #[.slice (some ⟨g, o, none⟩) dLen dCap, .slice (some a) sLen sCap]).run Try.prog w =
   .ok (goInt (Nat.min sLen dLen)) (w.setRow g (cur.toList.take o ++ cs ++ cur.toList.drop (o + cs.length)).toArray) := by
 have hl := run_loadCells_list (P := Try.prog) w a cs hsrc
 have hst := run_storeCells_at Try.prog g o t cs 0 cur w hg (by simpa using hfit) h1
 cases hq : Try.prog.info? elem with
 | none => simp [hq] at hs
 | some i =>
  have hi : i.size = 2 := by simpa [hq] using hs
  simp [Builtin.copy_, run_underlying hu, Builtin.lenOf, Builtin.firstCells, sizeOf, typeInfo, hq, hi, ← hn, hl, hst]

/-- The first n elements are those two cells. -/
def Rep2 (cur : Array Value) (n : Nat) (x y : Value) : Prop := ∀ j, j < n → cur[2 * j]? = some x ∧ cur[2 * j + 1]? = some y
theorem Rep2.get {cur : Array Value} {n : Nat} {x y : Value} (h : Rep2 cur n x y) (q : Nat) (hq : q < 2 * n) : cur[q]? = some (if q % 2 = 0 then x else y) := by
 have h1 := h (q / 2) (by omega)
 by_cases e : q % 2 = 0
 ·rw [if_pos e, ← h1.1]; congr 1; omega
 ·rw [if_neg e, ← h1.2]; congr 1; omega
theorem Rep2.more {cur : Array Value} {n m : Nat} {x y : Value} (h : Rep2 cur n x y) (hm : m ≤ n) (hs : 2 * (n + m) ≤ cur.size) (o k : Nat) (ho : o = 2 * n) (hk : k = 2 * m) :
  Rep2 ((cur.toList.take o ++ cur.toList.take k ++ cur.toList.drop (o + k)).toArray) (n + m) x y := by
 subst ho; subst hk
 have l1 : (cur.toList.take (2 * n)).length = 2 * n := by rw [List.length_take, Array.length_toList]; omega
 have l2 : (cur.toList.take (2 * m)).length = 2 * m := by rw [List.length_take, Array.length_toList]; omega
 have key : ∀ q, q < 2 * (n + m) → (cur.toList.take (2 * n) ++ cur.toList.take (2 * m) ++ cur.toList.drop (2 * n + 2 * m))[q]? = some (if q % 2 = 0 then x else y) := by
  intro q hq
  rw [List.append_assoc]
  by_cases c : q < 2 * n
  ·rw [List.getElem?_append_left (by omega), List.getElem?_take, if_pos c, Array.getElem?_toList]
   exact h.get q c
  ·rw [List.getElem?_append_right (by omega), l1, List.getElem?_append_left (by omega), List.getElem?_take, if_pos (by omega), Array.getElem?_toList, h.get _ (by omega)]
   have : (q - 2 * n) % 2 = q % 2 := by omega
   rw [this]
 intro j hj
 rw [List.getElem?_toArray, List.getElem?_toArray, key _ (by omega), key _ (by omega)]
 exact ⟨by rw [if_pos (by omega)], by rw [if_neg (by omega)]⟩
theorem rep_size (cur : Array Value) (o : Nat) (cs : List Value) (h : o + cs.length ≤ cur.size) : (cur.toList.take o ++ cs ++ cur.toList.drop (o + cs.length)).toArray.size = cur.size := by
 rw [List.size_toArray, List.length_append, List.length_append, List.length_take, List.length_drop, Array.length_toList]
 omega
theorem rep_first (cur : Array Value) (x y : Value) : Rep2 ((cur.toList.take 0 ++ [x, y] ++ cur.toList.drop (0 + 2)).toArray) 1 x y := by
 intro j hj
 obtain rfl : j = 0 := by omega
 exact ⟨rfl, rfl⟩

theorem rep_row {W : World} {base g cap c : Nat} {cur : Array Value} {v : S60} (hb : base ≤ g) (hh : W.heap[g]? = some (.cells cur 60 (0, 0))) (hnc : c ≤ cap) (hcm : cap ≤ maxLen) (hcs : cur.size = cap * 2) (h : Rep2 cur c (.int .i64 v.f0) (.int .i64 v.f1)) :
  Kd.R k60 60 W base (fun _ => True) (.slice (some ⟨g, 0, none⟩) c cap) (List.replicate c v) := by
 refine ⟨fun _ _ => trivial, cur.toList.take (c * 2), ⟨?_, .inr ⟨g, cap, cur, by rw [List.length_replicate], hb, hh, by rw [List.length_replicate]; exact hnc, hcm, hcs, by rw [List.length_replicate]; rfl⟩⟩, ?_, fun j p hp => ?_⟩
 ·rw [List.length_take, List.length_replicate, Array.length_toList]; show min (c * 2) cur.size = c * 2; omega
 ·rw [List.length_take, List.length_replicate, Array.length_toList]; show min (c * 2) cur.size = c * 2; omega
 ·obtain ⟨hj, hp⟩ := List.getElem?_eq_some_iff.1 hp
  have hjc : j < c := by simpa using hj
  have hp : v = p := by simpa using hp
  subst hp
  have e : ((cur.toList.take (c * 2)).drop (j * 2)).take 2 = [.int .i64 v.f0, .int .i64 v.f1] := by
   apply List.ext_getElem?
   intro q
   rw [List.getElem?_take]
   by_cases hq : q < 2
   ·rw [if_pos hq, List.getElem?_drop, List.getElem?_take, if_pos (by omega), Array.getElem?_toList]
    obtain ⟨h1, h2⟩ := h j hjc
    rcases Nat.lt_or_ge q 1 with h3 | h3
    ·obtain rfl : q = 0 := by omega
     rw [show j * 2 + 0 = 2 * j by omega, h1]; rfl
    ·obtain rfl : q = 1 := by omega
     rw [show j * 2 + 1 = 2 * j + 1 by omega, h2]; rfl
   ·rw [if_neg hq]
    rw [List.getElem?_eq_none (by simp; omega)]
  show k60.M W base _ v (((cur.toList.take (c * 2)).drop (j * 2)).take 2)
  rw [e]
  exact k60_mkM _ _ _ _

theorem rep_sz : (Try.prog.info? 60).map (·.size) = some 2 := by
 obtain ⟨i, hi, hz⟩ := Option.map_eq_some_iff.1 info60
 simp only [Prod.mk.injEq] at hz
 rw [hi]
 simp [hz.2.1]

theorem rep_step1 {w0 W : World} {g c cap c0 : Nat} {ad : Addr} {cur : Array Value} {x y : Value} (HB : Below w0.heap.size w0 W) (hg : w0.heap.size ≤ g) (hh : W.heap[g]? = some (.cells cur 60 (0, 0))) (hsz : cur.size = cap * 2) (hc : 1 ≤ c) (hcc : c ≤ cap)
  (src : ∀ (j : Nat) (u : Value), [x, y][j]? = some u → W.cell? (ad.add j) = some u) (hx : x.oneCell' = true) (hy : y.oneCell' = true) :
  ∃ W' cur', (∀ ty, (Builtin.copy_ #[26, 26] ty #[.slice (some ⟨g, 0, none⟩) c cap, .slice (some ad) 1 c0]).run Try.prog W = .ok (.int .i64 (1 : Int)) W') ∧ Below w0.heap.size w0 W' ∧ W'.heap[g]? = some (.cells cur' 60 (0, 0)) ∧ cur'.size = cap * 2 ∧ Rep2 cur' 1 x y := by
 have e1 : Nat.min 1 c = 1 := by show min 1 c = 1; omega
 have hone : ∀ u ∈ [x, y], u.oneCell' = true := fun u hu => by
  rcases List.mem_cons.1 hu with rfl | hu
  ·exact hx
  ·obtain rfl := List.mem_singleton.1 hu; exact hy
 refine ⟨_, _, fun ty => ?_, below_setRow HB hg (cur.toList.take 0 ++ [x, y] ++ cur.toList.drop (0 + 2)).toArray, setRow_heap W g cur _ 60 _ hh, ?_, rep_first cur x y⟩
 ·have h := rep_copy W 26 26 ty 60 g 0 c cap ad 1 c0 cur 60 [x, y] Try.underlying26 rep_sz hh (by rw [e1]; rfl) src (by show 0 + 2 ≤ cur.size; omega) hone
  rw [e1] at h
  exact h
 ·rw [← hsz]
  exact rep_size cur 0 [x, y] (by show 0 + 2 ≤ cur.size; omega)

theorem rep_step2 {w0 W : World} {g c cap n : Nat} {cur : Array Value} {x y : Value} (HB : Below w0.heap.size w0 W) (hg : w0.heap.size ≤ g) (hh : W.heap[g]? = some (.cells cur 60 (0, 0))) (hsz : cur.size = cap * 2) (hcc : c ≤ cap) (hn : n < c)
  (h : Rep2 cur n x y) (hx : x.oneCell' = true) (hy : y.oneCell' = true) :
  ∃ W' cur', (∀ ty k, (Builtin.copy_ #[26, 26] ty #[.slice (some ⟨g, n * 2, none⟩) (c - n) k, .slice (some ⟨g, 0, none⟩) n cap]).run Try.prog W = .ok (.int .i64 ((min n (c - n) : Nat) : Int)) W') ∧ Below w0.heap.size w0 W' ∧ W'.heap[g]? = some (.cells cur' 60 (0, 0)) ∧ cur'.size = cap * 2 ∧ Rep2 cur' (n + min n (c - n)) x y := by
 obtain ⟨m, hm⟩ : ∃ m, min n (c - n) = m := ⟨_, rfl⟩
 rw [hm]
 have hl : (cur.toList.take (2 * m)).length = 2 * m := by rw [List.length_take, Array.length_toList]; omega
 have hone : ∀ u ∈ cur.toList.take (2 * m), u.oneCell' = true := fun u hu => by
  obtain ⟨q, hq, rfl⟩ := List.getElem_of_mem hu
  have e := h.get q (by omega)
  rw [List.getElem_take]
  rw [← Array.getElem?_toList, List.getElem?_eq_getElem (by rw [Array.length_toList]; omega)] at e
  injection e with e
  rw [e]
  split
  ·exact hx
  ·exact hy
 have hsrc : ∀ (j : Nat) (u : Value), (cur.toList.take (2 * m))[j]? = some u → W.cell? ((⟨g, 0, none⟩ : Addr).add j) = some u := fun j u hu => by
  have hj : j < 2 * m := by have := (List.getElem?_eq_some_iff.1 hu).1; omega
  rw [List.getElem?_take, if_pos hj, Array.getElem?_toList] at hu
  have hadd : (⟨g, 0, none⟩ : Addr).add j = ⟨g, j, none⟩ := by unfold Addr.add; split <;> simp_all
  rw [hadd]
  have hjs : j < cur.size := by omega
  rw [Array.getElem?_eq_getElem hjs] at hu
  simp only [World.cell?, hh]
  simpa [hjs] using hu
 have hmin : Nat.min n (c - n) = m := hm
 refine ⟨_, _, fun ty k => ?_, below_setRow HB hg (cur.toList.take (n * 2) ++ cur.toList.take (2 * m) ++ cur.toList.drop (n * 2 + 2 * m)).toArray, setRow_heap W g cur _ 60 _ hh, ?_, Rep2.more h (by omega) (by omega) _ _ (by omega) rfl⟩
 ·have hr := rep_copy W 26 26 ty 60 g (n * 2) (c - n) k ⟨g, 0, none⟩ n cap cur 60 (cur.toList.take (2 * m)) Try.underlying26 rep_sz hh (by rw [hl, hmin]; omega) hsrc (by rw [hl]; omega) hone
  rw [hmin, hl] at hr
  exact hr
 ·rw [← hsz]
  have := rep_size cur (n * 2) (cur.toList.take (2 * m)) (by rw [hl]; omega)
  rw [hl] at this
  exact this

theorem rep_elem : Try.prog.underlying 26 = some (.slice (Try.prog.elem 26)) := by
 simp [Program.elem, Try.underlying26]
theorem rep_elem_sz (W : World) : (sizeOf (Try.prog.elem 26)).run Try.prog W = .ok 2 W := by
 obtain ⟨i, hi, hz⟩ := Option.map_eq_some_iff.1 rep_sz
 have e : Try.prog.elem 26 = 60 := by simp [Program.elem, Try.underlying26]
 rw [e]
 simp [sizeOf, typeInfo, hi, hz]
theorem rep_cut1 (g c cap n : Nat) (hn : n < c) (hc : c ≤ cap) (W : World) : (Instr.slice 26 (.slice (some ⟨g, 0, none⟩) c cap) (some (.int .i64 (n : Int))) none none).run Try.prog W = .ok (.slice (some ⟨g, n * 2, none⟩) (c - n) (cap - n)) W := by
 have hz := rep_elem_sz W
 rw [run_slice_l W 26 (some ⟨g, 0, none⟩) c cap rep_elem .i64 (n : Int) (by omega) (by omega), hz]
 have hadd : (⟨g, 0, none⟩ : Addr).add (n * 2) = ⟨g, n * 2, none⟩ := by unfold Addr.add; split <;> simp_all
 have hne : ¬ cap = n := by omega
 simp [Result.andThen, sliced, hadd, hne]
theorem rep_cut2 (g c cap n : Nat) (hn : n ≤ cap) (W : World) : (Instr.slice 26 (.slice (some ⟨g, 0, none⟩) c cap) none (some (.int .i64 (n : Int))) none).run Try.prog W = .ok (.slice (some ⟨g, 0, none⟩) n cap) W := by
 have hz := rep_elem_sz W
 rw [run_slice_h W 26 (some ⟨g, 0, none⟩) c cap rep_elem .i64 (n : Int) (by omega) (by omega), hz]
 have hadd : (⟨g, 0, none⟩ : Addr).add 0 = ⟨g, 0, none⟩ := by unfold Addr.add; split <;> simp_all
 simp [Result.andThen, sliced, hadd]

theorem rep_open {W : World} {base c : Nat} {v : Value} {z : S60} (hc : 1 ≤ c) (h : Kd.R k60 60 W base (fun _ => True) v (List.replicate c z)) : ∃ g cap cur, v = .slice (some ⟨g, 0, none⟩) c cap ∧ base ≤ g ∧ W.heap[g]? = some (.cells cur 60 (0, 0)) ∧ c ≤ cap ∧ cap ≤ maxLen ∧ cur.size = cap * 2 := by
 obtain ⟨_, inner, ⟨_, ho⟩, _⟩ := h
 rw [List.length_replicate] at ho
 rcases ho with ⟨_, h0⟩ | ⟨g, cap, cur, hv, hb, hh, hnc, hcm, hcs, _⟩
 ·omega
 ·exact ⟨g, cap, cur, hv, hb, hh, hnc, hcm, hcs⟩

set_option maxRecDepth 100000 in
set_option maxHeartbeats 2000000 in
theorem slices_Repeat_SInterval.calls (A0 : Option Addr) (c0 : Nat) (l0 : List S60) (a1 : Int) (r : List S60) (w : World) (hr0 : Kd.C k60 w A0 l0.length l0) (_hc0 : l0.length ≤ c0) (h : slices_Repeat_SInterval.f l0 a1 = some r) :
  Calls Try.prog 114 #[.slice A0 l0.length c0, .int .i64 a1] w fun e w' => ∃ v0_ : Value, e = .returned (v0_) ∧ Kd.R k60 60 w' w.heap.size (fun _ => True) v0_ r ∧ Below w.heap.size w w' := by
 unfold slices_Repeat_SInterval.f at h
 by_cases hl : l0.length = 1 ∧ 1 ≤ a1 ∧ a1 ≤ 6
 ·rw [if_pos hl] at h
  obtain rfl := Option.some.inj h
  obtain ⟨hl1, h1, h6⟩ := hl
  obtain ⟨c, rfl⟩ : ∃ c : Nat, a1 = (c : Int) := ⟨a1.toNat, by omega⟩
  rw [Int.toNat_natCast]
  have hc1 : 1 ≤ c := by omega
  have hc6 : c ≤ 6 := by omega
  obtain ⟨ad, rfl, _, _⟩ := at_T60 hr0 0 (by omega) (by omega)
  have src : ∀ W, Below w.heap.size w W → ∀ (j : Nat) (u : Value), [Value.int .i64 (rd_T60 l0 0).f0, Value.int .i64 (rd_T60 l0 0).f1][j]? = some u → W.cell? (ad.add j) = some u := fun W hb => by
   obtain ⟨ad', e, e0, e1⟩ := at_T60 (Kd.C_below hr0 hb) 0 (by omega) (by omega)
   cases e
   intro j u hj
   match j, hj with
   | 0, hj => injection hj with hj; rw [← hj]; exact e0
   | 1, hj => injection hj with hj; rw [← hj, show ad.add 1 = _ from (add_field ad 0 1 (by omega))]; exact e1
   | j + 2, hj => cases hj
  generalize rd_T60 l0 0 = v at src ⊢
  rw [hl1]
  have hmul : ∀ w, Calls Try.prog 140 #[.int .u64 1, .int .u64 (c : Int)] w fun e w' => e = .returned (.tuple #[.int .u64 0, .int .u64 (c : Int)]) ∧ w' = w := fun w => by
   have h := Try.bits_Mul 1 c (by omega) (by omega) w
   have q1 : 1 * c / 18446744073709551616 = 0 := by omega
   have q2 : 1 * c % 18446744073709551616 = c := by omega
   rw [q1, q2] at h
   exact h
  have HM := Aside0.mk hmul
  have HS := Aside0.mk src
  have HC := Aside0.mk (And.intro hc1 hc6)
  clear hl1 hr0 h1 h6 h _hc0 hmul src
  have d1 : decide ((c : Int) < 0) = false := decide_eq_false (by omega)
  have d2 : decide ((9223372036854775807 : Int) < (c : Int)) = false := decide_eq_false (by omega)
  have w1 : IntKind.u64.wrap (c : Int) = (c : Int) := by
   have e : c = 1 ∨ c = 2 ∨ c = 3 ∨ c = 4 ∨ c = 5 ∨ c = 6 := by omega
   rcases e with rfl | rfl | rfl | rfl | rfl | rfl <;> decide
  have w2 : IntKind.i64.wrap (c : Int) = (c : Int) := by
   have e : c = 1 ∨ c = 2 ∨ c = 3 ∨ c = 4 ∨ c = 5 ∨ c = 6 := by omega
   rcases e with rfl | rfl | rfl | rfl | rfl | rfl <;> decide
  have mixed : Try.prog.follows Departure.mixedOrders = true := by kernel_rfl
  go_enter Try.func114, Try.ntmps114
  clear hc1 hc6
  go_wp2_with (first | (go_at_call 140; (with_reducible refine (HM.out _).mono ?_); rintro e w' ⟨rfl, hw⟩; rw [hw]; clear hw) | ((with_reducible refine gate_dst (N := 30) rfl ?_); refine Kd.R_make k60 (w0 := w) _ 60 rfl (N := 30) rfl 26 _ _ rfl (c : Int) rfl rfl Try.underlying26 (.agg #[.int .i64 0, .int .i64 0]) 16 info60 rfl (by decide) (by omega) z60 (ok := fun _ => True) (okp := fun _ => True) (k60_mkM _ _ _ z60) (fun _ hk => hk) trivial (by omega) (by have := HC.out; rw [Int.toNat_natCast]; omega) (Below.refl _ _) (Nat.le_refl _) ?_; intro v30 w30 ho hb hg_ hnew_; clear hg_ hnew_; rw [Int.toNat_natCast] at ho; obtain ⟨g, cap, cur, rfl, hg, hh, hr⟩ := rep_open (by have := HC.out; omega) ho; have HB := Aside0.mk hb; have HG := Aside0.mk hg; have HH := Aside0.mk hh; have HR := Aside0.mk hr; clear ho hb hg hh hr) | ((with_reducible refine gate_builtin (b := .copy) (xs := #[.tmp 31, .tmp 32]) rfl ?_); obtain ⟨W1, cur1, hrun, hb1, hh1, hs1, hr1⟩ := rep_step1 (c := c) (c0 := c0) HB.out HG.out HH.out HR.out.2.2 HC.out.1 HR.out.1 (HS.out _ HB.out) rfl rfl; refine wpList_copy_runI _ rfl (.tmp 31) (.tmp 32) 26 26 rfl (.slice (some ⟨g, 0, none⟩) c cap) (.slice (some ad) 1 c0) rfl rfl (hrun _) ?_; clear hrun HH HB; have HB1 := Aside0.mk hb1; have HP1 := Aside0.mk (And.intro hh1 (And.intro hs1 hr1)); clear hb1 hh1 hs1 hr1))
  have HR2 := Aside0.mk HR.out.1
  go_loopg [8] 8 (fun kq v8 w' => ∃ n : Nat, v8 = .int .i64 (n : Int) ∧ Aside0 (1 ≤ n ∧ n ≤ c ∧ c + 1 ≤ n + kq) ∧ Aside0 (Below w.heap.size w w') ∧ Aside0 (∃ cur', w'.heap[g]? = some (.cells cur' 60 (0, 0)) ∧ cur'.size = cap * 2 ∧ Rep2 cur' n (.int .i64 v.f0) (.int .i64 v.f1)))
  case atStart => exact ⟨1, rfl, ⟨by have := HC.out; omega⟩, HB1, ⟨_, HP1.out⟩⟩
  case round =>
   clear HB1 HP1
   obtain ⟨n, rfl, HN, HB, HP⟩ := hrel
   cases gk with
   | zero => exact absurd HN.out (by omega)
   | succ k1 =>
    by_cases hn : n < c
    ·have HL := Aside0.mk hn
     have cb : decide ((n : Int) < (c : Int)) = true := decide_eq_true (by omega)
     have cb2 : decide (n < c) = true := decide_eq_true hn
     have hcut1 : ∀ W : World, (Instr.slice 26 (.slice (some ⟨g, 0, none⟩) c cap) (some (.int .i64 (n : Int))) none none).run Try.prog W = .ok (.slice (some ⟨g, n * 2, none⟩) (c - n) (cap - n)) W := fun W => rep_cut1 g c cap n HL.out HR2.out W
     have hcut2 : ∀ W : World, (Instr.slice 26 (.slice (some ⟨g, 0, none⟩) c cap) none (some (.int .i64 (n : Int))) none).run Try.prog W = .ok (.slice (some ⟨g, 0, none⟩) n cap) W := fun W => rep_cut2 g c cap n (by have := HR2.out; omega) W
     obtain ⟨cur2, hh2, hs2, hr2⟩ := HP.out
     obtain ⟨W2, cur3, hrun, hb3, hh3, hs3, hr3⟩ := rep_step2 (W := wr.drew) (c := c) (below_drew1 HB.out) HG.out hh2 hs2 HR2.out hn hr2 rfl rfl
     have HRUN := Aside0.mk hrun
     have HB3 := Aside0.mk hb3
     have HP3 := Aside0.mk (And.intro hh3 (And.intro hs3 hr3))
     have hw : IntKind.i64.wrap ((n : Int) + ((min n (c - n) : Nat) : Int)) = ((n + min n (c - n) : Nat) : Int) := by
      have := HC.out
      rw [i64_w, IntWalk.wrap64_in _ ⟨by omega, by omega⟩]
      omega
     clear hn hh2 hs2 hr2 hrun hb3 hh3 hs3 hr3
     go_wp2
     go_region_law_o (refine step_copy_runI rfl (.tmp 41) (.tmp 44) 26 26 rfl (.slice (some ⟨g, n * 2, none⟩) (c - n) (cap - n)) (.slice (some ⟨g, 0, none⟩) n cap) (by simp [Act.eval, Act.put]) (by simp [Act.eval, Act.put]) (HRUN.out _ _) ?_)
     go_wp2
     go_roundg k1
     case measure => omega
     case rel => exact ⟨n + min n (c - n), by first | rfl | simp, ⟨by have := HN.out; have := HL.out; omega⟩, HB3, ⟨cur3, HP3.out⟩⟩
    ·have cb : decide ((n : Int) < (c : Int)) = false := decide_eq_false (by omega)
     have cb2 : decide (n < c) = false := decide_eq_false hn
     have he := Aside0.mk (show n = c by have := HN.out; omega)
     clear hn
     go_wp2
     go_ret
     obtain rfl := he.out
     obtain ⟨cur2, hh2, hs2, hr2⟩ := HP.out
     exact ⟨_, rfl, rep_row HG.out hh2 HR2.out HR.out.2.1 hs2 hr2, HB.out⟩
 ·rw [if_neg hl] at h
  cases h

end Go.Proofs.Ytgmdicckecjncaa.Z
