-- Written by this session's wip/mp/mp.py out of the translation. Lean checks it.
import Derived.Test.YtgghhcifkgdpeaaZ0
import Derived.Test.YtgghhcifkgdpeaaZ1
import Derived.Test.YtgghhcifkgdpeaaZ5
namespace Go.Proofs.Ytgghhcifkgdpeaa.Z
open Go.RowKit Go.Proofs.YtgghhcifkgdpeaaW.PrintWords Go.Proofs.YtgghhcifkgdpeaaW.PrintLast Go.Proofs.YtgghhcifkgdpeaaW.PrintMore
attribute [local go_sem] max2_int min2_int max_two min_two max_three min_three max_four min_four   -- for this text's walks alone
set_option linter.unusedVariables false
set_option linter.unusedSimpArgs false

attribute [local go_sem high] eqA63
/-! ### spec_LinkOf: function 140 -/
def spec_LinkOf.l0 : Nat → Int → Int → Int → Int → List (S63) → Option (Int)
 | 0, _, _, _, _, _ => none
 | k + 1, x1, x2, x7, x140000, x140001 => if x7 < (x140001.length : Int) then (if 0 ≤ x7 then (if (((rd_T63 x140001 x7).f0) == x1 && (((rd_T63 x140001 x7).f1) == x2)) = true then (some x7) else (if (((rd_T63 x140001 x7).f0) == x2 && (((rd_T63 x140001 x7).f1) == x1)) = true then (some x7) else (spec_LinkOf.l0 k x1 x2 (wrap64 (x7 + 1)) x140000 x140001))) else (none)) else (some (-1))
def spec_LinkOf.f (k : Nat) (a0_0 : Int) (l0_1 : List (S63)) (a1 : Int) (a2 : Int) : Option (Int) := spec_LinkOf.l0 k a1 a2 0 a0_0 l0_1
theorem spec_LinkOf.mono_l : ∀ k, (∀ y0 y1 y2 y3 y4, LeO (spec_LinkOf.l0 k y0 y1 y2 y3 y4) (spec_LinkOf.l0 (k + 1) y0 y1 y2 y3 y4))
 | 0 => fun _ _ _ _ _ r h => by simp [spec_LinkOf.l0] at h
 | k + 1 => by
  have ih0 := spec_LinkOf.mono_l k
  ·intro y0 y1 y2 y3 y4
   unfold spec_LinkOf.l0
   repeat' first
   | (with_reducible exact ih0 _ _ _ _ _)
   | (with_reducible exact LeO.refl _)
   | (with_reducible exact LeO.none _)
   | (with_reducible refine LeO.ite ?_ ?_)
   | (with_reducible refine LeO.bind ?_ (fun _ => ?_))
   | exact ih0 _ _ _ _ _
   | exact LeO.none _
   | refine LeO.ite ?_ ?_
   | refine LeO.bind ?_ (fun _ => ?_)
theorem spec_LinkOf.mono : ∀ a0 a1 a2 a3 k, LeO (spec_LinkOf.f k a0 a1 a2 a3) (spec_LinkOf.f (k + 1) a0 a1 a2 a3) := by
 intro a0 a1 a2 a3 k
 have ih0 := spec_LinkOf.mono_l k
 unfold spec_LinkOf.f
 repeat' first
   | (with_reducible exact ih0 _ _ _ _ _)
   | (with_reducible exact LeO.refl _)
   | (with_reducible exact LeO.none _)
   | (with_reducible refine LeO.ite ?_ ?_)
   | (with_reducible refine LeO.bind ?_ (fun _ => ?_))
   | exact ih0 _ _ _ _ _
   | exact LeO.none _
   | refine LeO.ite ?_ ?_
   | refine LeO.bind ?_ (fun _ => ?_)
set_option maxHeartbeats 8000000 in
set_option maxRecDepth 100000 in
theorem spec_LinkOf.calls (k : Nat) (a0_0 : Int) (A0_1 : Option Addr) (c0_1 : Nat) (l0_1 : List (S63)) (a1 : Int) (a2 : Int) (r : Int) (w : World) (hr0_1 : Kd.C k63 w A0_1 l0_1.length l0_1) (hc0_1 : l0_1.length ≤ c0_1) (h : spec_LinkOf.f k a0_0 l0_1 a1 a2 = some r) :
  Calls Try.prog 140 #[.agg #[.int .i64 a0_0, .slice A0_1 l0_1.length c0_1], .int .i64 a1, .int .i64 a2] w fun e w' => e = .returned (.int .i64 r) ∧ Below w.heap.size w w' := by
 have hu54 := Try.underlying54
 have hu63 := Try.underlying63
 have HR0_1 := Aside0.mk hr0_1
 have HC0_1 := Aside0.mk hc0_1
 clear hr0_1 hc0_1
 have HB := Aside0.mk (Below.refl w.heap.size w)
 have H : (spec_LinkOf.l0 k a1 a2 0 a0_0 l0_1) = some r := h
 clear h
 have H' := Aside0.mk H
 clear H
 go_enter Try.func140, Try.ntmps140
 go_wp2_with (first | ((with_reducible refine gate_dst (N := 3) rfl ?_); refine box_event ?hg (N := 3) ?hd (cs := #[.int .i64 a0_0, .slice A0_1 l0_1.length c0_1]) (t := 54) ?hr ?_; (case hd => rfl); (case hg => rfl); (case hr => first | (go_simp; done) | (go_simp; rfl)); intro gb139 hg w4 hbox hb; have n0_ := Aside0.mk (below_step (bw0_ HB) hb); have n1_ := Aside0.mk (hbox); have n2_ := Aside0.mk ((by rw [hg]; exact (below_size (bw0_ HB)) : w.heap.size ≤ gb139)); have n3_ := Aside0.mk ((by rw [hg]; exact (below_size (bw0_ HB)) : w.heap.size ≤ gb139)); clear HB; have HB := n0_; have BK139 := n1_; have GW139 := n2_; have GE139 := n3_; clear n0_ n1_ n2_ n3_; clear hb hbox hg))
 go_loopg [7] k (fun kq v7 w' => ∃ (x7_1 : Int), v7 = .int .i64 x7_1 ∧ Aside0 (spec_LinkOf.l0 kq a1 a2 x7_1 a0_0 l0_1 = some r) ∧ Aside0 (kq ≤ k) ∧ Aside0 (w'.heap[gb139]? = some (.cells #[.int .i64 a0_0, (.slice A0_1 l0_1.length c0_1)] 54 (0, 0))) ∧ Aside0 (Below w.heap.size w w'))
 case atStart => exact ⟨(0), (by first | rfl | (simp; done) | (simp [*]; done)), H', ⟨Nat.le_refl _⟩, ⟨bk_ BK139⟩, ⟨bw1_ HB GE139.out⟩⟩
 case round =>
  clear H'
  (try clear c1); (try clear p2)
  obtain ⟨x7_1, rfl, HA, HK1, BK139, HB⟩ := hrel
  cases gk with
  | zero => exact absurd HA.out (by simp [spec_LinkOf.l0])
  | succ k1 =>
   have H := HA.out
   clear HA
   simp only [spec_LinkOf.l0] at H
   by_cases c5 : x7_1 < (l0_1.length : Int)
   ·rw [if_pos c5] at H
    have c5b0 : decide (x7_1 < (l0_1.length : Int)) = true := decide_eq_true c5
    clear c5
    by_cases c6 : 0 ≤ x7_1
    ·rw [if_pos c6] at H
     have c6b0 : decide (0 ≤ x7_1) = true := decide_eq_true c6
     clear c6
     by_cases c7 : (((rd_T63 l0_1 x7_1).f0) == a1 && (((rd_T63 l0_1 x7_1).f1) == a2)) = true
     ·rw [if_pos c7] at H
      have c7b0 : (((rd_T63 l0_1 x7_1).f0) == a1 && (((rd_T63 l0_1 x7_1).f1) == a2)) = true := c7
      (try (have c7b1 : decide (((rd_T63 l0_1 x7_1).f0) = a1 && (((rd_T63 l0_1 x7_1).f1) == a2)) = true := by simpa using c7))
      (try (have c7b2 : (((rd_T63 l0_1 x7_1).f0) == a1 && (((rd_T63 l0_1 x7_1).f1) == a2)) = true := by simpa using c7))
      clear c7
      obtain rfl := Option.some.inj H
      have hcz8_0 : wr.cell? ⟨gb139, 0, none⟩ = some (.int .i64 a0_0) := (blk_cell BK139.out 0).trans rfl
      have hcz8_1 : wr.cell? ⟨gb139, 1, none⟩ = some (.slice A0_1 l0_1.length c0_1) := (blk_cell BK139.out 1).trans rfl
      have hfz8_0 := blk_frozen BK139.out 0
      have hfz8_1 := blk_frozen BK139.out 1
      have p140 : 0 ≤ (x7_1 : Int) := of_decide_eq_true (by first | (with_reducible assumption) | assumption)
      have q140 : x7_1 < (l0_1.length : Int) := of_decide_eq_true (by first | (with_reducible assumption) | assumption)
      obtain ⟨ad140, e140, hx140_0, hx140_1⟩ := at_T63 HR0_1.out x7_1 p140 q140
      cases e140
      replace hx140_0 := (HB.out.cell (World.block_lt_of_cell? w _ hx140_0)).trans hx140_0
      replace hx140_1 := (HB.out.cell (World.block_lt_of_cell? w _ hx140_1)).trans hx140_1
      replace p140 := eq_true p140
      replace q140 := eq_true q140
      go_wp2
      go_ret
      exact ⟨by first | rfl | (simp [errW_none, errW_some] <;> rfl) | (simp [*, errW_none, errW_some] <;> rfl), bw1_ HB GE139.out⟩
     ·rw [if_neg c7] at H
      have c7b0 : (((rd_T63 l0_1 x7_1).f0) == a1 && (((rd_T63 l0_1 x7_1).f1) == a2)) = false := by simpa using c7
      (try (have c7b1 : decide (((rd_T63 l0_1 x7_1).f0) = a1 && (((rd_T63 l0_1 x7_1).f1) == a2)) = false := by simpa using c7))
      (try (have c7b2 : (((rd_T63 l0_1 x7_1).f0) == a1 && (((rd_T63 l0_1 x7_1).f1) == a2)) = false := by simpa using c7))
      (try (have c7b3 : ¬ (((rd_T63 l0_1 x7_1).f0) = a1 && (((rd_T63 l0_1 x7_1).f1) == a2)) := by simpa using c7))
      clear c7
      by_cases c9 : (((rd_T63 l0_1 x7_1).f0) == a2 && (((rd_T63 l0_1 x7_1).f1) == a1)) = true
      ·rw [if_pos c9] at H
       have c9b0 : (((rd_T63 l0_1 x7_1).f0) == a2 && (((rd_T63 l0_1 x7_1).f1) == a1)) = true := c9
       (try (have c9b1 : decide (((rd_T63 l0_1 x7_1).f0) = a2 && (((rd_T63 l0_1 x7_1).f1) == a1)) = true := by simpa using c9))
       (try (have c9b2 : (((rd_T63 l0_1 x7_1).f0) == a2 && (((rd_T63 l0_1 x7_1).f1) == a1)) = true := by simpa using c9))
       clear c9
       obtain rfl := Option.some.inj H
       have hcz10_0 : wr.cell? ⟨gb139, 0, none⟩ = some (.int .i64 a0_0) := (blk_cell BK139.out 0).trans rfl
       have hcz10_1 : wr.cell? ⟨gb139, 1, none⟩ = some (.slice A0_1 l0_1.length c0_1) := (blk_cell BK139.out 1).trans rfl
       have hfz10_0 := blk_frozen BK139.out 0
       have hfz10_1 := blk_frozen BK139.out 1
       have p140 : 0 ≤ (x7_1 : Int) := of_decide_eq_true (by first | (with_reducible assumption) | assumption)
       have q140 : x7_1 < (l0_1.length : Int) := of_decide_eq_true (by first | (with_reducible assumption) | assumption)
       obtain ⟨ad140, e140, hx140_0, hx140_1⟩ := at_T63 HR0_1.out x7_1 p140 q140
       cases e140
       replace hx140_0 := (HB.out.cell (World.block_lt_of_cell? w _ hx140_0)).trans hx140_0
       replace hx140_1 := (HB.out.cell (World.block_lt_of_cell? w _ hx140_1)).trans hx140_1
       replace p140 := eq_true p140
       replace q140 := eq_true q140
       have p141 : 0 ≤ (x7_1 : Int) := of_decide_eq_true (by first | (with_reducible assumption) | assumption)
       have q141 : x7_1 < (l0_1.length : Int) := of_decide_eq_true (by first | (with_reducible assumption) | assumption)
       obtain ⟨ad141, e141, hx141_0, hx141_1⟩ := at_T63 HR0_1.out x7_1 p141 q141
       obtain rfl : ad140 = ad141 := (by injection e141)
       replace hx141_0 := (HB.out.cell (World.block_lt_of_cell? w _ hx141_0)).trans hx141_0
       replace hx141_1 := (HB.out.cell (World.block_lt_of_cell? w _ hx141_1)).trans hx141_1
       replace p141 := eq_true p141
       replace q141 := eq_true q141
       go_wp2
       go_ret
       exact ⟨by first | rfl | (simp [errW_none, errW_some] <;> rfl) | (simp [*, errW_none, errW_some] <;> rfl), bw1_ HB GE139.out⟩
      ·rw [if_neg c9] at H
       have c9b0 : (((rd_T63 l0_1 x7_1).f0) == a2 && (((rd_T63 l0_1 x7_1).f1) == a1)) = false := by simpa using c9
       (try (have c9b1 : decide (((rd_T63 l0_1 x7_1).f0) = a2 && (((rd_T63 l0_1 x7_1).f1) == a1)) = false := by simpa using c9))
       (try (have c9b2 : (((rd_T63 l0_1 x7_1).f0) == a2 && (((rd_T63 l0_1 x7_1).f1) == a1)) = false := by simpa using c9))
       (try (have c9b3 : ¬ (((rd_T63 l0_1 x7_1).f0) = a2 && (((rd_T63 l0_1 x7_1).f1) == a1)) := by simpa using c9))
       clear c9
       have H' := Aside0.mk H
       clear H
       have hcz11_0 : wr.cell? ⟨gb139, 0, none⟩ = some (.int .i64 a0_0) := (blk_cell BK139.out 0).trans rfl
       have hcz11_1 : wr.cell? ⟨gb139, 1, none⟩ = some (.slice A0_1 l0_1.length c0_1) := (blk_cell BK139.out 1).trans rfl
       have hfz11_0 := blk_frozen BK139.out 0
       have hfz11_1 := blk_frozen BK139.out 1
       have p140 : 0 ≤ (x7_1 : Int) := of_decide_eq_true (by first | (with_reducible assumption) | assumption)
       have q140 : x7_1 < (l0_1.length : Int) := of_decide_eq_true (by first | (with_reducible assumption) | assumption)
       obtain ⟨ad140, e140, hx140_0, hx140_1⟩ := at_T63 HR0_1.out x7_1 p140 q140
       cases e140
       replace hx140_0 := (HB.out.cell (World.block_lt_of_cell? w _ hx140_0)).trans hx140_0
       replace hx140_1 := (HB.out.cell (World.block_lt_of_cell? w _ hx140_1)).trans hx140_1
       replace p140 := eq_true p140
       replace q140 := eq_true q140
       have p141 : 0 ≤ (x7_1 : Int) := of_decide_eq_true (by first | (with_reducible assumption) | assumption)
       have q141 : x7_1 < (l0_1.length : Int) := of_decide_eq_true (by first | (with_reducible assumption) | assumption)
       obtain ⟨ad141, e141, hx141_0, hx141_1⟩ := at_T63 HR0_1.out x7_1 p141 q141
       obtain rfl : ad140 = ad141 := (by injection e141)
       replace hx141_0 := (HB.out.cell (World.block_lt_of_cell? w _ hx141_0)).trans hx141_0
       replace hx141_1 := (HB.out.cell (World.block_lt_of_cell? w _ hx141_1)).trans hx141_1
       replace p141 := eq_true p141
       replace q141 := eq_true q141
       go_wp2
       go_roundg k1
       case measure => have := HK1.out; omega
       case rel => exact ⟨(wrap64 (x7_1 + 1)), (by first | rfl | (simp; done) | (simp [*]; done)), H', ⟨by have := HK1.out; omega⟩, ⟨bk_ BK139⟩, ⟨bw1_ HB GE139.out⟩⟩
    ·rw [if_neg c6] at H
     exact absurd H (by simp)
   ·rw [if_neg c5] at H
    have c5b0 : decide (x7_1 < (l0_1.length : Int)) = false := decide_eq_false c5
    clear c5
    obtain rfl := Option.some.inj H
    have hcz12_0 : wr.cell? ⟨gb139, 0, none⟩ = some (.int .i64 a0_0) := (blk_cell BK139.out 0).trans rfl
    have hcz12_1 : wr.cell? ⟨gb139, 1, none⟩ = some (.slice A0_1 l0_1.length c0_1) := (blk_cell BK139.out 1).trans rfl
    have hfz12_0 := blk_frozen BK139.out 0
    have hfz12_1 := blk_frozen BK139.out 1
    go_wp2
    go_ret
    exact ⟨by first | rfl | (simp [errW_none, errW_some] <;> rfl) | (simp [*, errW_none, errW_some] <;> rfl), bw1_ HB GE139.out⟩

/-! ### spec_l7Draw: function 119 -/
mutual
def spec_l7Draw.j1 : Nat → List Int → Int → Int → Int → List (S63) → Option (Int × (List (S63)) × Int × Int)
 | 0, _, _, _, _, _ => none
 | k + 1, x1000, x1001, x1002, x147000, x147001 => (spec_l1Below.f x1000 x1001 x1002 3).bind fun bt153 => (spec_l7Draw.l1 k bt153.1 x1000 bt153.2.1 bt153.2.2 x147000 x147001)
def spec_l7Draw.l1 : Nat → Int → List Int → Int → Int → Int → List (S63) → Option (Int × (List (S63)) × Int × Int)
 | 0, _, _, _, _, _, _ => none
 | k + 1, x5, x1000, x1001, x1002, x147000, x147001 => if x5 > 0 then (spec_l7Draw.j3 k x5 (decide ((x147001.length : Int) < 6)) x1000 x1001 x1002 x147000 x147001) else (spec_l7Draw.j3 k x5 false x1000 x1001 x1002 x147000 x147001)
def spec_l7Draw.j3 : Nat → Int → Bool → List Int → Int → Int → Int → List (S63) → Option (Int × (List (S63)) × Int × Int)
 | 0, _, _, _, _, _, _, _ => none
 | k + 1, x5, x43, x1000, x1001, x1002, x147000, x147001 => if x43 = true then ((spec_l1Below.f x1000 x1001 x1002 x147000).bind fun bt156 => ((spec_l1Below.f x1000 bt156.2.1 bt156.2.2 x147000).bind fun bt159 => (if bt156.1 = bt159.1 then (spec_l7Draw.l1 k (wrap64 (x5 - 1)) x1000 bt159.2.1 bt159.2.2 x147000 x147001) else ((spec_LinkOf.f k x147000 x147001 bt156.1 bt159.1).bind fun t162 => (if t162 < 0 then (if x147001.length < 8796093022208 then (spec_l7Draw.l1 k (wrap64 (x5 - 1)) x1000 bt159.2.1 bt159.2.2 x147000 (x147001 ++ [(⟨bt156.1, bt159.1⟩ : S63)])) else (none)) else (spec_l7Draw.l1 k (wrap64 (x5 - 1)) x1000 bt159.2.1 bt159.2.2 x147000 x147001)))))) else (some (x147000, x147001, x1001, x1002))
def spec_l7Draw.l0 : Nat → Int → List Int → Int → Int → Int → List (S63) → Option (Int × (List (S63)) × Int × Int)
 | 0, _, _, _, _, _, _ => none
 | k + 1, x4, x1000, x1001, x1002, x147000, x147001 => if x4 < x147000 then (if (x147001.length : Int) < 6 then ((spec_l1Below.f x1000 x1001 x1002 x4).bind fun bt147 => (if x147001.length < 8796093022208 then (spec_l7Draw.l0 k (wrap64 (x4 + 1)) x1000 bt147.2.1 bt147.2.2 x147000 (x147001 ++ [(⟨bt147.1, x4⟩ : S63)])) else (none))) else (spec_l7Draw.j1 k x1000 x1001 x1002 x147000 x147001)) else (spec_l7Draw.j1 k x1000 x1001 x1002 x147000 x147001)
end
def spec_l7Draw.f (k : Nat) (s0_0 : List Int) (s0_1 : Int) (s0_2 : Int) : Option (Int × (List (S63)) × Int × Int) := (spec_l1Below.f s0_0 s0_1 s0_2 4).bind fun bt143 => (spec_l7Draw.l0 k 1 s0_0 bt143.2.1 bt143.2.2 (wrap64 (4 + bt143.1)) ([] : List (S63)))
theorem spec_l7Draw.mono_l : ∀ k, (∀ y0 y1 y2 y3 y4, LeO (spec_l7Draw.j1 k y0 y1 y2 y3 y4) (spec_l7Draw.j1 (k + 1) y0 y1 y2 y3 y4)) ∧ (∀ y0 y1 y2 y3 y4 y5, LeO (spec_l7Draw.l1 k y0 y1 y2 y3 y4 y5) (spec_l7Draw.l1 (k + 1) y0 y1 y2 y3 y4 y5)) ∧ (∀ y0 y1 y2 y3 y4 y5 y6, LeO (spec_l7Draw.j3 k y0 y1 y2 y3 y4 y5 y6) (spec_l7Draw.j3 (k + 1) y0 y1 y2 y3 y4 y5 y6)) ∧ (∀ y0 y1 y2 y3 y4 y5, LeO (spec_l7Draw.l0 k y0 y1 y2 y3 y4 y5) (spec_l7Draw.l0 (k + 1) y0 y1 y2 y3 y4 y5))
 | 0 => ⟨fun _ _ _ _ _ r h => by simp [spec_l7Draw.j1] at h, fun _ _ _ _ _ _ r h => by simp [spec_l7Draw.l1] at h, fun _ _ _ _ _ _ _ r h => by simp [spec_l7Draw.j3] at h, fun _ _ _ _ _ _ r h => by simp [spec_l7Draw.l0] at h⟩
 | k + 1 => by
  obtain ⟨ih0, ih1, ih2, ih3⟩ := spec_l7Draw.mono_l k
  refine ⟨?_, ?_, ?_, ?_⟩
  ·intro y0 y1 y2 y3 y4
   unfold spec_l7Draw.j1
   repeat' first
   | (with_reducible exact ih0 _ _ _ _ _)
   | (with_reducible exact ih1 _ _ _ _ _ _)
   | (with_reducible exact ih2 _ _ _ _ _ _ _)
   | (with_reducible exact ih3 _ _ _ _ _ _)
   | (with_reducible exact spec_LinkOf.mono _ _ _ _ _)
   | (with_reducible exact LeO.refl _)
   | (with_reducible exact LeO.none _)
   | (with_reducible refine LeO.ite ?_ ?_)
   | (with_reducible refine LeO.bind ?_ (fun _ => ?_))
   | exact ih0 _ _ _ _ _
   | exact ih1 _ _ _ _ _ _
   | exact ih2 _ _ _ _ _ _ _
   | exact ih3 _ _ _ _ _ _
   | exact spec_LinkOf.mono _ _ _ _ _
   | exact LeO.none _
   | refine LeO.ite ?_ ?_
   | refine LeO.bind ?_ (fun _ => ?_)
  ·intro y0 y1 y2 y3 y4 y5
   unfold spec_l7Draw.l1
   repeat' first
   | (with_reducible exact ih0 _ _ _ _ _)
   | (with_reducible exact ih1 _ _ _ _ _ _)
   | (with_reducible exact ih2 _ _ _ _ _ _ _)
   | (with_reducible exact ih3 _ _ _ _ _ _)
   | (with_reducible exact spec_LinkOf.mono _ _ _ _ _)
   | (with_reducible exact LeO.refl _)
   | (with_reducible exact LeO.none _)
   | (with_reducible refine LeO.ite ?_ ?_)
   | (with_reducible refine LeO.bind ?_ (fun _ => ?_))
   | exact ih0 _ _ _ _ _
   | exact ih1 _ _ _ _ _ _
   | exact ih2 _ _ _ _ _ _ _
   | exact ih3 _ _ _ _ _ _
   | exact spec_LinkOf.mono _ _ _ _ _
   | exact LeO.none _
   | refine LeO.ite ?_ ?_
   | refine LeO.bind ?_ (fun _ => ?_)
  ·intro y0 y1 y2 y3 y4 y5 y6
   unfold spec_l7Draw.j3
   repeat' first
   | (with_reducible exact ih0 _ _ _ _ _)
   | (with_reducible exact ih1 _ _ _ _ _ _)
   | (with_reducible exact ih2 _ _ _ _ _ _ _)
   | (with_reducible exact ih3 _ _ _ _ _ _)
   | (with_reducible exact spec_LinkOf.mono _ _ _ _ _)
   | (with_reducible exact LeO.refl _)
   | (with_reducible exact LeO.none _)
   | (with_reducible refine LeO.ite ?_ ?_)
   | (with_reducible refine LeO.bind ?_ (fun _ => ?_))
   | exact ih0 _ _ _ _ _
   | exact ih1 _ _ _ _ _ _
   | exact ih2 _ _ _ _ _ _ _
   | exact ih3 _ _ _ _ _ _
   | exact spec_LinkOf.mono _ _ _ _ _
   | exact LeO.none _
   | refine LeO.ite ?_ ?_
   | refine LeO.bind ?_ (fun _ => ?_)
  ·intro y0 y1 y2 y3 y4 y5
   unfold spec_l7Draw.l0
   repeat' first
   | (with_reducible exact ih0 _ _ _ _ _)
   | (with_reducible exact ih1 _ _ _ _ _ _)
   | (with_reducible exact ih2 _ _ _ _ _ _ _)
   | (with_reducible exact ih3 _ _ _ _ _ _)
   | (with_reducible exact spec_LinkOf.mono _ _ _ _ _)
   | (with_reducible exact LeO.refl _)
   | (with_reducible exact LeO.none _)
   | (with_reducible refine LeO.ite ?_ ?_)
   | (with_reducible refine LeO.bind ?_ (fun _ => ?_))
   | exact ih0 _ _ _ _ _
   | exact ih1 _ _ _ _ _ _
   | exact ih2 _ _ _ _ _ _ _
   | exact ih3 _ _ _ _ _ _
   | exact spec_LinkOf.mono _ _ _ _ _
   | exact LeO.none _
   | refine LeO.ite ?_ ?_
   | refine LeO.bind ?_ (fun _ => ?_)
theorem spec_l7Draw.mono : ∀ a0 a1 a2 k, LeO (spec_l7Draw.f k a0 a1 a2) (spec_l7Draw.f (k + 1) a0 a1 a2) := by
 intro a0 a1 a2 k
 obtain ⟨ih0, ih1, ih2, ih3⟩ := spec_l7Draw.mono_l k
 unfold spec_l7Draw.f
 repeat' first
   | (with_reducible exact ih0 _ _ _ _ _)
   | (with_reducible exact ih1 _ _ _ _ _ _)
   | (with_reducible exact ih2 _ _ _ _ _ _ _)
   | (with_reducible exact ih3 _ _ _ _ _ _)
   | (with_reducible exact spec_LinkOf.mono _ _ _ _ _)
   | (with_reducible exact LeO.refl _)
   | (with_reducible exact LeO.none _)
   | (with_reducible refine LeO.ite ?_ ?_)
   | (with_reducible refine LeO.bind ?_ (fun _ => ?_))
   | exact ih0 _ _ _ _ _
   | exact ih1 _ _ _ _ _ _
   | exact ih2 _ _ _ _ _ _ _
   | exact ih3 _ _ _ _ _ _
   | exact spec_LinkOf.mono _ _ _ _ _
   | exact LeO.none _
   | refine LeO.ite ?_ ?_
   | refine LeO.bind ?_ (fun _ => ?_)
def spec_l7Draw.T5 : Bool × List (List Nat × List Nat) := (true, [([], []), ([0], [0]), ([], []), ([], []), ([2, 3], [2, 3]), ([], []), ([4, 5], [4, 5]), ([6], [6]), ([1, 7, 4], [1, 7]), ([0, 1, 2, 3, 4, 5, 6, 7, 8], []), ([9, 8, 8, 0, 1, 2, 3, 4, 5, 6, 7, 8], [8, 9])])
def spec_l7Draw.B5 : List Nat := [0, 1, 0, 0, 12, 0, 60, 124, 255, 511, 1023]
theorem spec_l7Draw.tab5 : rtab .any (opsOf Try.f119 5) = spec_l7Draw.T5 := by kernel_rfl
theorem spec_l7Draw.bits5 : waitsOk spec_l7Draw.T5.2 spec_l7Draw.B5 = true := by kernel_rfl
set_option maxHeartbeats 8000000 in
set_option maxRecDepth 100000 in
theorem spec_l7Draw.calls (k : Nat) (g : Nat) (s0_0 : List Int) (s0_1 : Int) (s0_2 : Int) (r1 : Int) (r2 : List (S63)) (r3 : Int) (r4 : Int) (w0 w : World) (hI : IsS113 w0 w g s0_0 s0_1 s0_2) (hB : Below w0.heap.size w0 w) (h : spec_l7Draw.f k s0_0 s0_1 s0_2 = some (r1, r2, r3, r4)) :
  Calls Try.prog 119 #[.pointer (some ⟨g, 0, none⟩)] w fun e w' => ∃ v1_ : Value, e = .returned (.agg #[.int .i64 r1, v1_]) ∧ Kd.R k63 63 w' w.heap.size (fun _ => True) v1_ r2 ∧ IsS113 w0 w' g s0_0 r3 r4 ∧ Below w0.heap.size w0 w' ∧ KeepBut w w' g none := by
 have hu54 := Try.underlying54
 have hu63 := Try.underlying63
 have HI0 := Aside0.mk hI
 have HK := Aside0.mk (KeepBut.refl w g none)
 have HL := Aside0.mk hB.size
 clear hI
 have HW0 := Aside0.mk hB.size
 have HB := Aside0.mk hB
 clear hB
 have H : ((spec_l1Below.f s0_0 s0_1 s0_2 4).bind fun bt143 => (spec_l7Draw.l0 k 1 s0_0 bt143.2.1 bt143.2.2 (wrap64 (4 + bt143.1)) ([] : List (S63)))) = some (r1, r2, r3, r4) := h
 clear h
 replace H := Option.bind_eq_some_iff.mp H
 obtain ⟨⟨t143, t144, t145⟩, A20, H⟩ := H
 replace H : (spec_l7Draw.l0 k 1 s0_0 t144 t145 (wrap64 (4 + t143)) ([] : List (S63))) = some (r1, r2, r3, r4) := H
 have A2 := Aside0.mk A20
 clear A20
 have HC3 := Aside0.mk H
 clear H
 go_enter Try.func119, Try.ntmps119
 go_upto_block 0 with (first | ((with_reducible refine gate_dst (N := 2) rfl ?_); (try (refine gate_guard (by rfl) ?_; dsimp only)); refine box_event ?hg (N := 2) ?hd (cs := #[.int .i64 0, .slice none 0 0]) (t := 54) ?hr ?_; (case hd => rfl); (case hg => rfl); (case hr => first | (go_simp; done) | (go_simp; rfl)); intro gb142 hg w4 hbox hb; have n0_ := Aside0.mk (IsS113.below (hi0_ HI0) hb); have n1_ := Aside0.mk (KeepBut.trans (kb0_ HK) (KeepBut.of_below hb g none) (.inl rfl)); have n2_ := Aside0.mk (below_step (bw1_ HB (IsS113.ge HI0.out)) hb); have n3_ := Aside0.mk (hbox); have n4_ := Aside0.mk ((by rw [hg]; exact (keep_size (w := w) (g := g) (row := none) (kb0_ HK)) : w.heap.size ≤ gb142)); have n5_ := Aside0.mk ((Nat.le_trans HW0.out (by rw [hg]; exact (keep_size (w := w) (g := g) (row := none) (kb0_ HK)) : w.heap.size ≤ gb142) : w0.heap.size ≤ gb142)); have n6_ := Aside0.mk ((by rw [hg]; exact Nat.ne_of_lt (IsS113.lt (show IsS113 w0 _ g s0_0 s0_1 s0_2 from hi0_ HI0)) : g ≠ gb142)); have n7_ := Aside0.mk ((by rw [hg]; exact Nat.ne_of_gt (IsS113.lt (show IsS113 w0 _ g s0_0 s0_1 s0_2 from hi0_ HI0)) : gb142 ≠ g)); clear HI0; clear HK; clear HB; have HI0 := n0_; have HK := n1_; have HB := n2_; have BK142 := n3_; have GW142 := n4_; have GE142 := n5_; have NB0_142 := n6_; have NB142_0 := n7_; clear n0_ n1_ n2_ n3_ n4_ n5_ n6_ n7_; clear hb hbox hg) | ((with_reducible refine gate_callee (f := 96) rfl ?_); refine goesL_ (some 9) rfl rfl Try.func96 (by kernel_rfl) rfl #[.pointer (some ⟨g, 0, none⟩), .int .i64 4] rfl (by (try simp only [List.map_toArray, List.map_cons, List.map_nil]); first | done | rfl | (simp only [List.length_drop, List.length_take]; rfl)) ?_; (with_reducible refine (spec_l1Below.calls g s0_0 s0_1 s0_2 4 t143 t144 t145 w0 _ ?side1 ?side2 A2.out).mono ?_); (case side1 => repeat (first | (with_reducible first | exact HI0.out | apply IsS113.alloc | apply IsS113.drewN | apply IsS113.drew | apply IsS113.set_1 | apply IsS113.set_2 | refine IsS113.far ?_ NB0_142.out _) | exact HI0.out)); (case side2 => repeat (first | (with_reducible first | exact HB.out | apply below_alloc | apply pw_below_drewN | apply below_drew1 | refine below_set ?_ (IsS113.ge HI0.out) | refine below_set ?_ GE142.out) | exact HB.out)); rintro e w5 ⟨rfl, hi, hb, hk⟩; refine ⟨_, rfl, ?_⟩; have n0_ := Aside0.mk (KeepBut.blk hk (g' := gb142) (o := .cells #[.int .i64 0, .slice none 0 0] 54 (0, 0)) (bk_ BK142) NB142_0.out (by simp)); have n1_ := Aside0.mk (KeepBut.trans (kb1_ HK GW142.out) hk (.inl rfl)); have n2_ := Aside0.mk (hb); have n3_ := Aside0.mk (hi); clear BK142; clear HK; clear HB; clear HI0; have BK142 := n0_; have HK := n1_; have HB := n2_; have HI0 := n3_; clear n0_ n1_ n2_ n3_; (try clear hb); (try clear hb2); (try clear hk); (try clear hi)) | ((with_reducible refine gate_dst (N := 3) rfl ?_); (try (refine gate_guard (by rfl) ?_; dsimp only)); refine box_event ?hg (N := 3) ?hd (cs := #[.int .i64 0, .slice none 0 0]) (t := 54) ?hr ?_; (case hd => rfl); (case hg => rfl); (case hr => first | (go_simp; done) | (go_simp; rfl)); intro gb146 hg w6 hbox hb; have n0_ := Aside0.mk (IsS113.below (hi1_ HI0 NB0_142.out) hb); have n1_ := Aside0.mk (blk_below (g := gb142) (o := .cells #[.int .i64 0, .slice none 0 0] 54 (0, 0)) (bk_ BK142) hb); have n2_ := Aside0.mk (KeepBut.trans (kb1_ HK GW142.out) (KeepBut.of_below hb g none) (.inl rfl)); have n3_ := Aside0.mk (below_step (bw2_ HB (IsS113.ge HI0.out) GE142.out) hb); have n4_ := Aside0.mk (hbox); have n5_ := Aside0.mk ((by rw [hg]; exact (keep_size (w := w) (g := g) (row := none) (kb1_ HK GW142.out)) : w.heap.size ≤ gb146)); have n6_ := Aside0.mk ((Nat.le_trans HW0.out (by rw [hg]; exact (keep_size (w := w) (g := g) (row := none) (kb1_ HK GW142.out)) : w.heap.size ≤ gb146) : w0.heap.size ≤ gb146)); have n7_ := Aside0.mk ((by rw [hg]; exact Nat.ne_of_lt (blk_lt (g := gb142) (o := .cells #[.int .i64 0, .slice none 0 0] 54 (0, 0)) (bk_ BK142)) : gb142 ≠ gb146)); have n8_ := Aside0.mk ((by rw [hg]; exact Nat.ne_of_gt (blk_lt (g := gb142) (o := .cells #[.int .i64 0, .slice none 0 0] 54 (0, 0)) (bk_ BK142)) : gb146 ≠ gb142)); have n9_ := Aside0.mk ((by rw [hg]; exact Nat.ne_of_lt (IsS113.lt (show IsS113 w0 _ g s0_0 t144 t145 from hi1_ HI0 NB0_142.out)) : g ≠ gb146)); have n10_ := Aside0.mk ((by rw [hg]; exact Nat.ne_of_gt (IsS113.lt (show IsS113 w0 _ g s0_0 t144 t145 from hi1_ HI0 NB0_142.out)) : gb146 ≠ g)); clear HI0; clear BK142; clear HK; clear HB; have HI0 := n0_; have BK142 := n1_; have HK := n2_; have HB := n3_; have BK146 := n4_; have GW146 := n5_; have GE146 := n6_; have NB142_146 := n7_; have NB146_142 := n8_; have NB0_146 := n9_; have NB146_0 := n10_; clear n0_ n1_ n2_ n3_ n4_ n5_ n6_ n7_ n8_ n9_ n10_; clear hb hbox hg; have hnb7 := NB146_142.out; have hnc7 := NB142_146.out; have hnb8 := NB146_0.out; have hnc8 := NB0_146.out; have hcz9_0 : w6.cell? ⟨gb146, 0, none⟩ = some (.int .i64 0) := (blk_cell BK146.out 0).trans rfl; have hcz9_1 : w6.cell? ⟨gb146, 1, none⟩ = some (.slice none 0 0) := (blk_cell BK146.out 1).trans rfl; have hfz9_0 := blk_frozen BK146.out 0; have hfz9_1 := blk_frozen BK146.out 1))
 (try simp only [Act.put, List.setIfInBounds_toArray, List.set_cons_zero, List.set_cons_succ])
 go_cut [] (fun wc => ∃ (kq : Nat) (x1001_2 : Int) (x1002_2 : Int) (x147001_2 : List (S63)) (u147001 : Value), Aside0 (spec_l7Draw.j1 kq s0_0 x1001_2 x1002_2 (wrap64 (4 + t143)) x147001_2 = some (r1, r2, r3, r4)) ∧ Aside0 (kq ≤ k) ∧ Aside0 (Kd.R k63 63 wc w.heap.size (fun _ => True) u147001 x147001_2) ∧ Aside0 (wc.heap[gb142]? = some (.cells #[.int .i64 0, (.slice none 0 0)] 54 (0, 0))) ∧ Aside0 (wc.heap[gb146]? = some (.cells #[.int .i64 (wrap64 (4 + t143)), u147001] 54 (0, 0))) ∧ Aside0 (IsS113 w0 wc g s0_0 x1001_2 x1002_2) ∧ Aside0 (KeepBut w wc g none) ∧ Aside0 (Below w0.heap.size w0 wc))
 case first =>
  have H := HC3.out
  clear HC3
  have H' := Aside0.mk H
  clear H
  go_wp2
  go_loopg [4] k (fun kq v4 w' => ∃ (x4_1 : Int) (x1001_1 : Int) (x1002_1 : Int) (x147001_1 : List (S63)) (u147001 : Value), v4 = .int .i64 x4_1 ∧ Aside0 (spec_l7Draw.l0 kq x4_1 s0_0 x1001_1 x1002_1 (wrap64 (4 + t143)) x147001_1 = some (r1, r2, r3, r4)) ∧ Aside0 (kq ≤ k) ∧ Aside0 (Kd.R k63 63 w' w.heap.size (fun _ => True) u147001 x147001_1) ∧ Aside0 (w'.heap[gb142]? = some (.cells #[.int .i64 0, (.slice none 0 0)] 54 (0, 0))) ∧ Aside0 (w'.heap[gb146]? = some (.cells #[.int .i64 (wrap64 (4 + t143)), u147001] 54 (0, 0))) ∧ Aside0 (IsS113 w0 w' g s0_0 x1001_1 x1002_1) ∧ Aside0 (KeepBut w w' g none) ∧ Aside0 (Below w0.heap.size w0 w'))
  case atStart => exact ⟨(1), (t144), (t145), (([] : List (S63))), (.slice none 0 0), (by first | rfl | (simp; done) | (simp [*]; done)), H', ⟨Nat.le_refl _⟩, ⟨by first | exact Kd.R_nil _ _ _ _ _ | exact Kd.N_nil _ _ _ _ _ | exact Kd.V_nil _ _ _ _ _ | exact Kd.Q_nil _ _ _ _ _ | exact Kd.S_nil _ _ _ _ _⟩, ⟨by (with_reducible repeat (first | refine blk_drewN ?_ _ | refine blk_drew ?_ | refine blk_alloc ?_ _)); refine blk_far ?_ NB142_146.out _; (with_reducible repeat (first | refine blk_drewN ?_ _ | refine blk_drew ?_ | refine blk_alloc ?_ _)); refine blk_far ?_ NB142_146.out _; (with_reducible repeat (first | refine blk_drewN ?_ _ | refine blk_drew ?_ | refine blk_alloc ?_ _)); exact BK142.out⟩, ⟨by (with_reducible repeat (first | refine blk_drewN ?_ _ | refine blk_drew ?_ | refine blk_alloc ?_ _)); refine blk_put (cs := #[.int .i64 (wrap64 (4 + t143)), .slice none 0 0]) ?_ 1 _ rfl; (with_reducible repeat (first | refine blk_drewN ?_ _ | refine blk_drew ?_ | refine blk_alloc ?_ _)); refine blk_put (cs := #[.int .i64 0, .slice none 0 0]) ?_ 0 _ rfl; (with_reducible repeat (first | refine blk_drewN ?_ _ | refine blk_drew ?_ | refine blk_alloc ?_ _)); exact BK146.out⟩, ⟨hi2_ HI0 NB0_142.out NB0_146.out⟩, ⟨kb2_ HK GW142.out GW146.out⟩, ⟨bw3_ HB (IsS113.ge HI0.out) GE142.out GE146.out⟩⟩
  case round =>
   clear H'
   (try clear c1); (try clear p2); (try clear p6); (try clear c7); (try clear c8); (try clear c9); (try clear hcz9_0); (try clear hcz9_1); (try clear hfz9_0); (try clear hfz9_1)
   obtain ⟨x4_1, x1001_1, x1002_1, x147001_1, u147001, rfl, HA, HK1, HO_147001, BK142, BK146, HI0, HK, HB⟩ := hrel
   cases gk with
   | zero => exact absurd HA.out (by simp [spec_l7Draw.l0])
   | succ k1 =>
    have H := HA.out
    clear HA
    simp only [spec_l7Draw.l0] at H
    by_cases c10 : x4_1 < (wrap64 (4 + t143))
    ·rw [if_pos c10] at H
     have c10b0 : decide (x4_1 < (wrap64 (4 + t143))) = true := decide_eq_true c10
     clear c10
     (first | rw [c10b0] | (simp only [i64_w, i32_w]; rw [c10b0]) | skip)
     by_cases c11 : (x147001_1.length : Int) < 6
     ·rw [if_pos c11] at H
      have c11b0 : decide ((x147001_1.length : Int) < 6) = true := decide_eq_true c11
      have c11b1 : decide (x147001_1.length < 6) = true := decide_eq_true (by omega)
      clear c11
      replace H := Option.bind_eq_some_iff.mp H
      obtain ⟨⟨t147, t148, t149⟩, A120, H⟩ := H
      replace H : (if x147001_1.length < 8796093022208 then (spec_l7Draw.l0 k1 (wrap64 (x4_1 + 1)) s0_0 t148 t149 (wrap64 (4 + t143)) (x147001_1 ++ [(⟨t147, x4_1⟩ : S63)])) else (none)) = some (r1, r2, r3, r4) := H
      have A12 := Aside0.mk A120
      clear A120
      by_cases c13 : x147001_1.length < 8796093022208
      ·rw [if_pos c13] at H
       have LMc13 := Aside0.mk c13
       clear c13
       obtain ⟨y150, hy150⟩ : ∃ y_ : List (S63), y_ = (x147001_1 ++ [(⟨t147, x4_1⟩ : S63)]) := ⟨_, rfl⟩
       replace H : (spec_l7Draw.l0 k1 (wrap64 (x4_1 + 1)) s0_0 t148 t149 (wrap64 (4 + t143)) y150) = some (r1, r2, r3, r4) := by first | (rw [hy150]; with_reducible exact H) | (have H2_ := (Option.bind_some _ _).symm.trans H; rw [hy150]; with_reducible exact H2_) | (have H2_ := (Option.bind_some _ _).symm.trans H; with_reducible exact H2_) | with_reducible exact H | (rw [hy150]; exact H) | exact H
       have Ny150 := Aside0.mk hy150
       clear hy150
       have H' := Aside0.mk H
       clear H
       have hnb14 := NB146_142.out
       have hnc14 := NB142_146.out
       have hnb15 := NB146_0.out
       have hnc15 := NB0_146.out
       have hcz16_0 : wr.cell? ⟨gb146, 0, none⟩ = some (.int .i64 (wrap64 (4 + t143))) := (blk_cell BK146.out 0).trans rfl
       have hcz16_1 : wr.cell? ⟨gb146, 1, none⟩ = some (u147001) := (blk_cell BK146.out 1).trans rfl
       have hfz16_0 := blk_frozen BK146.out 0
       have hfz16_1 := blk_frozen BK146.out 1
       obtain ⟨Ao17, co17, eo17⟩ := Kd.R_slice HO_147001.out
       subst eo17
       try go_wp2
       have n0_ := Aside0.mk (Kd.R_drew HO_147001.out)
       have n1_ := Aside0.mk (blk_drew BK142.out)
       have n2_ := Aside0.mk (blk_drew BK146.out)
       have n3_ := Aside0.mk (IsS113.drew HI0.out)
       have n4_ := Aside0.mk (keep_drew HK.out)
       have n5_ := Aside0.mk (below_drew1 HB.out)
       clear HO_147001
       clear BK142
       clear BK146
       clear HI0
       clear HK
       clear HB
       have HO_147001 := n0_
       have BK142 := n1_
       have BK146 := n2_
       have HI0 := n3_
       have HK := n4_
       have HB := n5_
       clear n0_ n1_ n2_ n3_ n4_ n5_
       refine start_ (n := 11) (S := fun w' => w'.cell? ⟨gb146, 0, none⟩ = some (.int .i64 (wrap64 (4 + t143))) ∧ w'.cell? ⟨gb146, 1, none⟩ = some (.slice Ao17 x147001_1.length co17)) (ds := [10]) #[false, false, false, false, false, false, false, false, false, false, false] (by kernel_rfl) rfl rfl ⟨(blk_cell BK146.out 0).trans rfl, (blk_cell BK146.out 1).trans rfl⟩ (fun hHeld => ?_); refine with_tabW spec_l7Draw.tab5 spec_l7Draw.bits5 (fun HT_ HW_ => ?_)
       generalize wr.drew = w18 at HO_147001 BK142 BK146 HI0 HK HB hHeld ⊢
       refine pure_ (i := 0) (N := some 24) (v := ?_) (a' := ?_) #[true, false, false, false, false, false, false, false, false, false, false] rfl rfl (any_of HT_.out (by kernel_rfl)) (fun _ _ _ h => h) (Or.inl ⟨by rfl, ?_⟩) ?_ ?_
       rotate_left
       ·intro w'
        go_simp
        with_reducible rfl
       rotate_left
       ·simp only [Act.put, List.setIfInBounds_toArray, List.set_cons_zero, List.set_cons_succ, i64_w, i32_w]
        rfl
       refine pure_ (i := 2) (N := some 26) (v := ?_) (a' := ?_) #[true, false, true, false, false, false, false, false, false, false, false] rfl rfl (any_of HT_.out (by kernel_rfl)) (fun _ _ _ h => h) (Or.inl ⟨by rfl, ?_⟩) ?_ ?_
       rotate_left
       ·intro w'
        go_simp
        with_reducible rfl
       rotate_left
       ·simp only [Act.put, List.setIfInBounds_toArray, List.set_cons_zero, List.set_cons_succ, i64_w, i32_w]
        rfl
       refine pure_ (i := 3) (N := some 27) (v := ?_) (a' := ?_) #[true, false, true, true, false, false, false, false, false, false, false] rfl rfl (any_of HT_.out (by kernel_rfl)) (fun _ _ _ h => h) (Or.inl ⟨by rfl, ?_⟩) ?_ ?_
       rotate_left
       ·intro w'
        go_simp
        with_reducible rfl
       rotate_left
       ·simp only [Act.put, List.setIfInBounds_toArray, List.set_cons_zero, List.set_cons_succ, i64_w, i32_w]
        rfl
       refine pure_ (i := 5) (N := some 29) (v := ?_) (a' := ?_) #[true, false, true, true, false, true, false, false, false, false, false] rfl rfl (any_of HT_.out (by kernel_rfl)) (fun _ _ _ h => h) (Or.inl ⟨by rfl, ?_⟩) ?_ ?_
       rotate_left
       ·intro w'
        go_simp
        with_reducible rfl
       rotate_left
       ·simp only [Act.put, List.setIfInBounds_toArray, List.set_cons_zero, List.set_cons_succ, i64_w, i32_w]
        rfl
       refine take_ (i := 1) (N := some 25) (v := ?_) (a' := ?_) #[true, true, true, true, false, true, false, false, false, false, false] rfl rfl (take_ofW HT_.out HW_.out (by kernel_rfl)) (fun _ _ _ h => h) (Or.inl ⟨by rfl, ?_⟩) hHeld ?_ ?_
       rotate_left
       ·rintro w' ⟨s0, s1⟩
        go_simp
        with_reducible rfl
       rotate_left
       ·simp only [Act.put, List.setIfInBounds_toArray, List.set_cons_zero, List.set_cons_succ, i64_w, i32_w]
        rfl
       refine one_ (i := 4) (N := some 28) #[true, true, true, true, true, true, false, false, false, false, false] rfl rfl (one_of HT_.out (by kernel_rfl)) (by decide) (fun K hK => ?_)
       refine goes_ Try.func96 (by kernel_rfl) rfl #[.pointer (some ⟨g, 0, none⟩), .int .i64 x4_1] (by rfl) rfl rfl (by (try simp only [List.map_toArray, List.map_cons, List.map_nil]); first | done | rfl | (simp only [List.length_drop, List.length_take]; rfl)) ?_
       with_reducible refine (spec_l1Below.calls g s0_0 x1001_1 x1002_1 x4_1 t147 t148 t149 w0 _ ?side1 ?side2 A12.out).mono ?_
       (case side1 => repeat (first | (with_reducible first | exact HI0.out | apply IsS113.alloc | apply IsS113.drewN | apply IsS113.drew | apply IsS113.set_1 | apply IsS113.set_2 | refine IsS113.far ?_ NB0_142.out _ | refine IsS113.far ?_ NB0_146.out _) | exact HI0.out))
       (case side2 => repeat (first | (with_reducible first | exact HB.out | apply below_alloc | apply pw_below_drewN | apply below_drew1 | refine below_set ?_ (IsS113.ge HI0.out) | refine below_set ?_ GE142.out | refine below_set ?_ GE146.out) | exact HB.out))
       rintro e w19 ⟨rfl, hi, hb, hk⟩
       refine ⟨_, rfl, ?_⟩
       have n0_ := Aside0.mk (Kd.R_mono (Kd.R_keep (IsS113.apart (show IsS113 w0 _ g s0_0 x1001_1 x1002_1 from hi2_ HI0 NB0_142.out NB0_146.out) (kr_ HO_147001) (by decide)) hk (fun _ h => h.2)) (fun _ h => h.1))
       have n1_ := Aside0.mk (KeepBut.blk hk (g' := gb142) (o := .cells #[.int .i64 0, .slice none 0 0] 54 (0, 0)) (bk_ BK142) NB142_0.out (by simp))
       have n2_ := Aside0.mk (KeepBut.blk hk (g' := gb146) (o := .cells #[.int .i64 (wrap64 (4 + t143)), .slice Ao17 x147001_1.length co17] 54 (0, 0)) (bk_ BK146) NB146_0.out (by simp))
       have n3_ := Aside0.mk (KeepBut.trans (kb2_ HK GW142.out GW146.out) hk (.inl rfl))
       have n4_ := Aside0.mk (hb)
       have n5_ := Aside0.mk (hi)
       clear HO_147001
       clear BK142
       clear BK146
       clear HK
       clear HB
       clear HI0
       have HO_147001 := n0_
       have BK142 := n1_
       have BK146 := n2_
       have HK := n3_
       have HB := n4_
       have HI0 := n5_
       clear n0_ n1_ n2_ n3_ n4_ n5_
       (try clear hb)
       (try clear hb2)
       (try clear hk)
       (try clear hi)
       refine hK.out _ _ ⟨(blk_cell BK146.out 0).trans rfl, (blk_cell BK146.out 1).trans rfl⟩ (fun hHeld => ?_)
       clear hK K
       refine norm_ (a' := ?_) ?_ ?_
       rotate_left
       ·show Act.put _ (some 28) _ = _
        simp only [Act.put, List.setIfInBounds_toArray, List.set_cons_zero, List.set_cons_succ, i64_w, i32_w]
        rfl
       refine pure_ (i := 6) (N := some 30) (v := ?_) (a' := ?_) #[true, true, true, true, true, true, true, false, false, false, false] rfl rfl (any_of HT_.out (by kernel_rfl)) (fun _ _ _ h => h) (Or.inl ⟨by rfl, ?_⟩) ?_ ?_
       rotate_left
       ·intro w'
        go_simp
        with_reducible rfl
       rotate_left
       ·simp only [Act.put, List.setIfInBounds_toArray, List.set_cons_zero, List.set_cons_succ, i64_w, i32_w]
        rfl
       refine one_ (i := 7) (N := some 31) #[true, true, true, true, true, true, true, true, false, false, false] rfl rfl (one_of HT_.out (by kernel_rfl)) (by decide) (fun K hK => ?_)
       refine value_ (w1 := ?_) (v := ?_) (by rfl) rfl ?_ ?_
       rotate_left 2
       ·go_simp
        constructor
        ·rfl
        ·rfl
       refine hK.out _ _ ⟨(blk_cell (blk_alloc BK146.out _) 0).trans rfl, (blk_cell (blk_alloc BK146.out _) 1).trans rfl⟩ (fun hHeld => ?_)
       clear hK K
       refine norm_ (a' := ?_) ?_ ?_
       rotate_left
       ·show Act.put _ (some 31) _ = _
        simp only [Act.put, List.setIfInBounds_toArray, List.set_cons_zero, List.set_cons_succ, i64_w, i32_w]
        rfl
       refine one_ (i := 8) (N := some 32) #[true, true, true, true, true, true, true, true, true, false, false] rfl rfl (one_of HT_.out (by kernel_rfl)) (by decide) (fun K hK => ?_)
       refine Kd.R_append_step k63 w.heap.size (by rfl) (.tmp 25) (.tmp 31) 44 63 (.agg #[(.int .i64 0), (.int .i64 0)]) 16 rfl Try.underlying44 info63 rfl (by decide) (by omega) (.slice Ao17 x147001_1.length co17) x147001_1 (⟨t147, x4_1⟩ : S63) [.int .i64 t147, .int .i64 x4_1] (fun _ => True) (fun _ => False) rfl rfl ?aP (fun _ hk => hk.elim) ?aF ?aO (Below.refl _ _) ?aS ?aL ?_
       (case aP => exact k63_mkM _ _ _ (⟨t147, x4_1⟩ : S63))
       (case aF => exact (fun _ _ => trivial))
       (case aO => exact (kr_ HO_147001))
       (case aS => exact (keep_size (w := w) (g := g) (row := none) (kb2_ HK GW142.out GW146.out)))
       (case aL => have := LMc13.out; omega)
       intro v151 w20 ho hb hg hat
       rw [← Ny150.out] at ho
       have n0_ := Aside0.mk (blk_grown (g := gb142) (o := .cells #[.int .i64 0, .slice none 0 0] 54 (0, 0)) (bk_ BK142) hg (Kd.R_ne HO_147001.out BK142.out (by decide)))
       have n1_ := Aside0.mk (blk_grown (g := gb146) (o := .cells #[.int .i64 (wrap64 (4 + t143)), .slice Ao17 x147001_1.length co17] 54 (0, 0)) (bk_ BK146) hg (Kd.R_ne HO_147001.out BK146.out (by decide)))
       have n2_ := Aside0.mk (IsS113.grown (hi2_ HI0 NB0_142.out NB0_146.out) hg (IsS113.own_ne HI0.out HO_147001.out (by decide)))
       have n3_ := Aside0.mk (below_weaken (bw3_ HB (IsS113.ge HI0.out) GE142.out GE146.out) HL.out hb)
       have n4_ := Aside0.mk (KeepBut.trans (kb2_ HK GW142.out GW146.out) (KeepBut.of_grown hg g) (Kd.R_base2 HO_147001.out))
       have n5_ := Aside0.mk (ho)
       clear BK142
       clear BK146
       clear HI0
       clear HB
       clear HK
       clear HO_147001
       have BK142 := n0_
       have BK146 := n1_
       have HI0 := n2_
       have HB := n3_
       have HK := n4_
       have HO152 := n5_
       clear n0_ n1_ n2_ n3_ n4_ n5_
       clear ho hb hg hat
       obtain ⟨Ao21, co21, eo21⟩ := Kd.R_slice HO152.out
       (first | subst eo21 | (injection eo21 with f1_ f2_ f3_; have f4_ := f1_.symm; have f5_ := f3_.symm; clear f1_ f2_ f3_; subst f4_; subst f5_))
       refine hK.out _ _ ⟨(blk_cell BK146.out 0).trans rfl, (blk_cell BK146.out 1).trans rfl⟩ (fun hHeld => ?_)
       clear hK K
       refine norm_ (a' := ?_) ?_ ?_
       rotate_left
       ·show Act.put _ (some 32) _ = _
        simp only [Act.put, List.setIfInBounds_toArray, List.set_cons_zero, List.set_cons_succ, i64_w, i32_w]
        rfl
       refine pure_ (i := 9) (N := some 33) (v := ?_) (a' := ?_) #[true, true, true, true, true, true, true, true, true, true, false] rfl rfl (any_of HT_.out (by kernel_rfl)) (fun _ _ _ h => h) (Or.inl ⟨by rfl, ?_⟩) ?_ ?_
       rotate_left
       ·intro w'
        go_simp
        with_reducible rfl
       rotate_left
       ·simp only [Act.put, List.setIfInBounds_toArray, List.set_cons_zero, List.set_cons_succ, i64_w, i32_w]
        rfl
       refine last_ (i := 10) (N := none) #[true, true, true, true, true, true, true, true, true, true, true] rfl rfl (one_of HT_.out (by kernel_rfl)) (by decide) (fun K hK => ?_)
       have hs22 : w20.cell? ⟨gb146, 1, none⟩ = some (.slice Ao17 x147001_1.length co17) := (blk_cell BK146.out 1).trans rfl
       have hfs22 := blk_frozen BK146.out 1
       have hns22_0 := NB142_146.out
       have hms22_0 := NB146_142.out
       refine skip_ (w1 := ?_) (by rfl) rfl ?_ ?_
       rotate_left
       ·go_simp
        rfl
       refine hK.out _ _ ?_
       clear hK K
       refine done_ (done_of HT_.out (by kernel_rfl)) ?_
       try go_wp2
       go_roundg k1
       case measure => have := HK1.out; omega
       case rel => exact ⟨(wrap64 (x4_1 + 1)), (t148), (t149), (y150), (.slice Ao21 y150.length co21), (by first | rfl | (simp; done) | (simp [*]; done)), H', ⟨by have := HK1.out; omega⟩, ⟨by (with_reducible repeat (first | apply Kd.R_alloc | apply Kd.R_drewN | apply Kd.R_drew)); exact Kd.R_mono (Kd.R_far (p := ⟨gb146, 1, none⟩) (Kd.R_types HO152.out BK146.out (by decide)) (fun _ hk => hk.2) (.slice Ao21 y150.length co21)) (fun _ hk => trivial)⟩, ⟨by (with_reducible repeat (first | refine blk_drewN ?_ _ | refine blk_drew ?_ | refine blk_alloc ?_ _)); refine blk_far ?_ NB142_146.out _; (with_reducible repeat (first | refine blk_drewN ?_ _ | refine blk_drew ?_ | refine blk_alloc ?_ _)); exact BK142.out⟩, ⟨by (with_reducible repeat (first | refine blk_drewN ?_ _ | refine blk_drew ?_ | refine blk_alloc ?_ _)); refine blk_put (cs := #[.int .i64 (wrap64 (4 + t143)), .slice Ao17 x147001_1.length co17]) ?_ 1 _ rfl; (with_reducible repeat (first | refine blk_drewN ?_ _ | refine blk_drew ?_ | refine blk_alloc ?_ _)); exact BK146.out⟩, ⟨hi2_ HI0 NB0_142.out NB0_146.out⟩, ⟨kb2_ HK GW142.out GW146.out⟩, ⟨bw3_ HB (IsS113.ge HI0.out) GE142.out GE146.out⟩⟩
      ·rw [if_neg c13] at H
       exact absurd H (by simp)
     ·rw [if_neg c11] at H
      have c11b0 : decide ((x147001_1.length : Int) < 6) = false := decide_eq_false c11
      have c11b1 : decide (x147001_1.length < 6) = false := decide_eq_false (by omega)
      clear c11
      have H' := Aside0.mk H
      clear H
      have hnb23 := NB146_142.out
      have hnc23 := NB142_146.out
      have hnb24 := NB146_0.out
      have hnc24 := NB0_146.out
      have hcz25_0 : wr.cell? ⟨gb146, 0, none⟩ = some (.int .i64 (wrap64 (4 + t143))) := (blk_cell BK146.out 0).trans rfl
      have hcz25_1 : wr.cell? ⟨gb146, 1, none⟩ = some (u147001) := (blk_cell BK146.out 1).trans rfl
      have hfz25_0 := blk_frozen BK146.out 0
      have hfz25_1 := blk_frozen BK146.out 1
      obtain ⟨Ao26, co26, eo26⟩ := Kd.R_slice HO_147001.out
      subst eo26
      go_wp2
      go_meet
      case rel => exact ⟨_, (x1001_1), (x1002_1), (x147001_1), (.slice Ao26 x147001_1.length co26), H', ⟨by have := HK1.out; first | omega | exact Nat.le_refl _⟩, ⟨kr_ HO_147001⟩, ⟨bk_ BK142⟩, ⟨bk_ BK146⟩, ⟨hi2_ HI0 NB0_142.out NB0_146.out⟩, ⟨kb2_ HK GW142.out GW146.out⟩, ⟨bw3_ HB (IsS113.ge HI0.out) GE142.out GE146.out⟩⟩
    ·rw [if_neg c10] at H
     have c10b0 : decide (x4_1 < (wrap64 (4 + t143))) = false := decide_eq_false c10
     clear c10
     (first | rw [c10b0] | (simp only [i64_w, i32_w]; rw [c10b0]) | skip)
     have H' := Aside0.mk H
     clear H
     have hnb27 := NB146_142.out
     have hnc27 := NB142_146.out
     have hnb28 := NB146_0.out
     have hnc28 := NB0_146.out
     have hcz29_0 : wr.cell? ⟨gb146, 0, none⟩ = some (.int .i64 (wrap64 (4 + t143))) := (blk_cell BK146.out 0).trans rfl
     have hcz29_1 : wr.cell? ⟨gb146, 1, none⟩ = some (u147001) := (blk_cell BK146.out 1).trans rfl
     have hfz29_0 := blk_frozen BK146.out 0
     have hfz29_1 := blk_frozen BK146.out 1
     go_wp2
     go_meet
     case rel => exact ⟨_, (x1001_1), (x1002_1), (x147001_1), (u147001), H', ⟨by have := HK1.out; first | omega | exact Nat.le_refl _⟩, ⟨kr_ HO_147001⟩, ⟨bk_ BK142⟩, ⟨bk_ BK146⟩, ⟨hi2_ HI0 NB0_142.out NB0_146.out⟩, ⟨kb2_ HK GW142.out GW146.out⟩, ⟨bw3_ HB (IsS113.ge HI0.out) GE142.out GE146.out⟩⟩
 case rest =>
  clear HC3
  (try clear c1); (try clear c2); (try clear p2); (try clear p6); (try clear c7); (try clear c8); (try clear c9); (try clear c10); (try clear c10b0); (try clear c11); (try clear c11b0); (try clear c11b1); (try clear c13); (try clear c14); (try clear c15); (try clear c23); (try clear c24); (try clear c27); (try clear c28); (try clear hcz16_0); (try clear hcz16_1); (try clear hcz25_0); (try clear hcz25_1); (try clear hcz29_0); (try clear hcz29_1); (try clear hcz9_0); (try clear hcz9_1); (try clear hfz16_0); (try clear hfz16_1); (try clear hfz25_0); (try clear hfz25_1); (try clear hfz29_0); (try clear hfz29_1); (try clear hfz9_0); (try clear hfz9_1); (try clear p2); (try clear p6)
  obtain ⟨kq, x1001_2, x1002_2, x147001_2, u147001, HA, HJ2, HO_147001, BK142, BK146, HI0, HK, HB⟩ := hcut
  cases kq with
  | zero => exact absurd HA.out (by simp [spec_l7Draw.j1])
  | succ kj2 =>
   have H := HA.out
   clear HA
   simp only [spec_l7Draw.j1] at H
   replace H := Option.bind_eq_some_iff.mp H
   obtain ⟨⟨t153, t154, t155⟩, A300, H⟩ := H
   replace H : (spec_l7Draw.l1 kj2 t153 s0_0 t154 t155 (wrap64 (4 + t143)) x147001_2) = some (r1, r2, r3, r4) := H
   have A30 := Aside0.mk A300
   clear A300
   have H' := Aside0.mk H
   clear H
   go_wp2_with (first | ((with_reducible refine gate_callee (f := 96) rfl ?_); refine goesL_ (some 35) rfl rfl Try.func96 (by kernel_rfl) rfl #[.pointer (some ⟨g, 0, none⟩), .int .i64 3] rfl (by (try simp only [List.map_toArray, List.map_cons, List.map_nil]); first | done | rfl | (simp only [List.length_drop, List.length_take]; rfl)) ?_; (with_reducible refine (spec_l1Below.calls g s0_0 x1001_2 x1002_2 3 t153 t154 t155 w0 _ ?side1 ?side2 A30.out).mono ?_); (case side1 => repeat (first | (with_reducible first | exact HI0.out | apply IsS113.alloc | apply IsS113.drewN | apply IsS113.drew | apply IsS113.set_1 | apply IsS113.set_2 | refine IsS113.far ?_ NB0_142.out _ | refine IsS113.far ?_ NB0_146.out _) | exact HI0.out)); (case side2 => repeat (first | (with_reducible first | exact HB.out | apply below_alloc | apply pw_below_drewN | apply below_drew1 | refine below_set ?_ (IsS113.ge HI0.out) | refine below_set ?_ GE142.out | refine below_set ?_ GE146.out) | exact HB.out)); rintro e w31 ⟨rfl, hi, hb, hk⟩; refine ⟨_, rfl, ?_⟩; have n0_ := Aside0.mk (Kd.R_mono (Kd.R_keep (IsS113.apart (show IsS113 w0 _ g s0_0 x1001_2 x1002_2 from hi2_ HI0 NB0_142.out NB0_146.out) (kr_ HO_147001) (by decide)) hk (fun _ h => h.2)) (fun _ h => h.1)); have n1_ := Aside0.mk (KeepBut.blk hk (g' := gb142) (o := .cells #[.int .i64 0, .slice none 0 0] 54 (0, 0)) (bk_ BK142) NB142_0.out (by simp)); have n2_ := Aside0.mk (KeepBut.blk hk (g' := gb146) (o := .cells #[.int .i64 (wrap64 (4 + t143)), u147001] 54 (0, 0)) (bk_ BK146) NB146_0.out (by simp)); have n3_ := Aside0.mk (KeepBut.trans (kb2_ HK GW142.out GW146.out) hk (.inl rfl)); have n4_ := Aside0.mk (hb); have n5_ := Aside0.mk (hi); clear HO_147001; clear BK142; clear BK146; clear HK; clear HB; clear HI0; have HO_147001 := n0_; have BK142 := n1_; have BK146 := n2_; have HK := n3_; have HB := n4_; have HI0 := n5_; clear n0_ n1_ n2_ n3_ n4_ n5_; (try clear hb); (try clear hb2); (try clear hk); (try clear hi)))
   go_loopg [5] kj2 (fun kq v5 w' => ∃ (x5_2 : Int) (x1001_2 : Int) (x1002_2 : Int) (x147001_2 : List (S63)) (u147001 : Value), v5 = .int .i64 x5_2 ∧ Aside0 (spec_l7Draw.l1 kq x5_2 s0_0 x1001_2 x1002_2 (wrap64 (4 + t143)) x147001_2 = some (r1, r2, r3, r4)) ∧ Aside0 (kq ≤ kj2) ∧ Aside0 (Kd.R k63 63 w' w.heap.size (fun _ => True) u147001 x147001_2) ∧ Aside0 (w'.heap[gb142]? = some (.cells #[.int .i64 0, (.slice none 0 0)] 54 (0, 0))) ∧ Aside0 (w'.heap[gb146]? = some (.cells #[.int .i64 (wrap64 (4 + t143)), u147001] 54 (0, 0))) ∧ Aside0 (IsS113 w0 w' g s0_0 x1001_2 x1002_2) ∧ Aside0 (KeepBut w w' g none) ∧ Aside0 (Below w0.heap.size w0 w'))
   case atStart => exact ⟨(t153), (t154), (t155), (x147001_2), (u147001), (by first | rfl | (simp; done) | (simp [*]; done)), H', ⟨Nat.le_refl _⟩, ⟨kr_ HO_147001⟩, ⟨bk_ BK142⟩, ⟨bk_ BK146⟩, ⟨hi2_ HI0 NB0_142.out NB0_146.out⟩, ⟨kb2_ HK GW142.out GW146.out⟩, ⟨bw3_ HB (IsS113.ge HI0.out) GE142.out GE146.out⟩⟩
   case round =>
    clear H'
    (try clear c1); (try clear c2); (try clear p2); (try clear p6); (try clear c7); (try clear c8); (try clear c9); (try clear c10); (try clear c10b0); (try clear c11); (try clear c11b0); (try clear c11b1); (try clear c13); (try clear c14); (try clear c15); (try clear c23); (try clear c24); (try clear c27); (try clear c28); (try clear hcz16_0); (try clear hcz16_1); (try clear hcz25_0); (try clear hcz25_1); (try clear hcz29_0); (try clear hcz29_1); (try clear hcz9_0); (try clear hcz9_1); (try clear hfz16_0); (try clear hfz16_1); (try clear hfz25_0); (try clear hfz25_1); (try clear hfz29_0); (try clear hfz29_1); (try clear hfz9_0); (try clear hfz9_1); (try clear p2); (try clear p6)
    obtain ⟨x5_2, x1001_2, x1002_2, x147001_2, u147001, rfl, HA, HK2, HO_147001, BK142, BK146, HI0, HK, HB⟩ := hrel
    cases gk with
    | zero => exact absurd HA.out (by simp [spec_l7Draw.l1])
    | succ k2 =>
     have H := HA.out
     clear HA
     simp only [spec_l7Draw.l1] at H
     have HC32 := Aside0.mk H
     clear H
     go_upto_region 7 with (fail)
     go_cut [43] (fun v43 wc => ∃ (kq : Nat) (x43_31 : Bool), v43 = .bool x43_31 ∧ Aside0 (spec_l7Draw.j3 kq x5_2 x43_31 s0_0 x1001_2 x1002_2 (wrap64 (4 + t143)) x147001_2 = some (r1, r2, r3, r4)) ∧ Aside0 (kq ≤ k2) ∧ Aside0 (Kd.R k63 63 wc w.heap.size (fun _ => True) u147001 x147001_2) ∧ Aside0 (wc.heap[gb142]? = some (.cells #[.int .i64 0, (.slice none 0 0)] 54 (0, 0))) ∧ Aside0 (wc.heap[gb146]? = some (.cells #[.int .i64 (wrap64 (4 + t143)), u147001] 54 (0, 0))) ∧ Aside0 (IsS113 w0 wc g s0_0 x1001_2 x1002_2) ∧ Aside0 (KeepBut w wc g none) ∧ Aside0 (Below w0.heap.size w0 wc))
     case first =>
      have H := HC32.out
      clear HC32
      by_cases c33 : x5_2 > 0
      ·rw [if_pos c33] at H
       have c33b0 : decide (0 < x5_2) = true := decide_eq_true c33
       clear c33
       (first | rw [c33b0] | (simp only [i64_w, i32_w]; rw [c33b0]) | skip)
       have H' := Aside0.mk H
       clear H
       have hnb34 := NB146_142.out
       have hnc34 := NB142_146.out
       have hnb35 := NB146_0.out
       have hnc35 := NB0_146.out
       have hcz36_0 : wr.cell? ⟨gb146, 0, none⟩ = some (.int .i64 (wrap64 (4 + t143))) := (blk_cell BK146.out 0).trans rfl
       have hcz36_1 : wr.cell? ⟨gb146, 1, none⟩ = some (u147001) := (blk_cell BK146.out 1).trans rfl
       have hfz36_0 := blk_frozen BK146.out 0
       have hfz36_1 := blk_frozen BK146.out 1
       obtain ⟨Ao37, co37, eo37⟩ := Kd.R_slice HO_147001.out
       subst eo37
       go_wp2
       go_meet
       case rel => exact ⟨_, (decide ((x147001_2.length : Int) < 6)), (by first | rfl | (simp; done) | (simp [*]; done)), H', ⟨by have := HJ2.out; have := HK2.out; first | omega | exact Nat.le_refl _⟩, ⟨kr_ HO_147001⟩, ⟨bk_ BK142⟩, ⟨bk_ BK146⟩, ⟨hi2_ HI0 NB0_142.out NB0_146.out⟩, ⟨kb2_ HK GW142.out GW146.out⟩, ⟨bw3_ HB (IsS113.ge HI0.out) GE142.out GE146.out⟩⟩
      ·rw [if_neg c33] at H
       have c33b0 : decide (0 < x5_2) = false := decide_eq_false c33
       clear c33
       (first | rw [c33b0] | (simp only [i64_w, i32_w]; rw [c33b0]) | skip)
       have H' := Aside0.mk H
       clear H
       go_wp2
       go_meet
       case rel => exact ⟨_, (false), (by first | rfl | (simp; done) | (simp [*]; done)), H', ⟨by have := HJ2.out; have := HK2.out; first | omega | exact Nat.le_refl _⟩, ⟨kr_ HO_147001⟩, ⟨bk_ BK142⟩, ⟨bk_ BK146⟩, ⟨hi2_ HI0 NB0_142.out NB0_146.out⟩, ⟨kb2_ HK GW142.out GW146.out⟩, ⟨bw3_ HB (IsS113.ge HI0.out) GE142.out GE146.out⟩⟩
     case rest =>
      clear HC32
      (try clear c1); (try clear c2); (try clear p2); (try clear c3); (try clear p6); (try clear c7); (try clear c8); (try clear c9); (try clear c10); (try clear c10b0); (try clear c11); (try clear c11b0); (try clear c11b1); (try clear c13); (try clear c14); (try clear c15); (try clear c23); (try clear c24); (try clear c27); (try clear c28); (try clear c33); (try clear c33b0); (try clear c34); (try clear c35); (try clear hcz16_0); (try clear hcz16_1); (try clear hcz25_0); (try clear hcz25_1); (try clear hcz29_0); (try clear hcz29_1); (try clear hcz36_0); (try clear hcz36_1); (try clear hcz9_0); (try clear hcz9_1); (try clear hfz16_0); (try clear hfz16_1); (try clear hfz25_0); (try clear hfz25_1); (try clear hfz29_0); (try clear hfz29_1); (try clear hfz36_0); (try clear hfz36_1); (try clear hfz9_0); (try clear hfz9_1); (try clear p2); (try clear p6)
      obtain ⟨kq, x43_31, rfl, HA, HJ31, HO_147001, BK142, BK146, HI0, HK, HB⟩ := hcut
      cases kq with
      | zero => exact absurd HA.out (by simp [spec_l7Draw.j3])
      | succ kj31 =>
       have H := HA.out
       clear HA
       simp only [spec_l7Draw.j3] at H
       by_cases c38 : x43_31 = true
       ·subst c38
        have H1 : ((spec_l1Below.f s0_0 x1001_2 x1002_2 (wrap64 (4 + t143))).bind fun bt156 => ((spec_l1Below.f s0_0 bt156.2.1 bt156.2.2 (wrap64 (4 + t143))).bind fun bt159 => (if bt156.1 = bt159.1 then (spec_l7Draw.l1 kj31 (wrap64 (x5_2 - 1)) s0_0 bt159.2.1 bt159.2.2 (wrap64 (4 + t143)) x147001_2) else ((spec_LinkOf.f kj31 (wrap64 (4 + t143)) x147001_2 bt156.1 bt159.1).bind fun t162 => (if t162 < 0 then (if x147001_2.length < 8796093022208 then (spec_l7Draw.l1 kj31 (wrap64 (x5_2 - 1)) s0_0 bt159.2.1 bt159.2.2 (wrap64 (4 + t143)) (x147001_2 ++ [(⟨bt156.1, bt159.1⟩ : S63)])) else (none)) else (spec_l7Draw.l1 kj31 (wrap64 (x5_2 - 1)) s0_0 bt159.2.1 bt159.2.2 (wrap64 (4 + t143)) x147001_2)))))) = some (r1, r2, r3, r4) := by rw [if_pos rfl] at H; exact H
        clear H
        have H := H1
        clear H1
        replace H := Option.bind_eq_some_iff.mp H
        obtain ⟨⟨t156, t157, t158⟩, A390, H⟩ := H
        replace H : ((spec_l1Below.f s0_0 t157 t158 (wrap64 (4 + t143))).bind fun bt159 => (if t156 = bt159.1 then (spec_l7Draw.l1 kj31 (wrap64 (x5_2 - 1)) s0_0 bt159.2.1 bt159.2.2 (wrap64 (4 + t143)) x147001_2) else ((spec_LinkOf.f kj31 (wrap64 (4 + t143)) x147001_2 t156 bt159.1).bind fun t162 => (if t162 < 0 then (if x147001_2.length < 8796093022208 then (spec_l7Draw.l1 kj31 (wrap64 (x5_2 - 1)) s0_0 bt159.2.1 bt159.2.2 (wrap64 (4 + t143)) (x147001_2 ++ [(⟨t156, bt159.1⟩ : S63)])) else (none)) else (spec_l7Draw.l1 kj31 (wrap64 (x5_2 - 1)) s0_0 bt159.2.1 bt159.2.2 (wrap64 (4 + t143)) x147001_2))))) = some (r1, r2, r3, r4) := H
        have A39 := Aside0.mk A390
        clear A390
        replace H := Option.bind_eq_some_iff.mp H
        obtain ⟨⟨t159, t160, t161⟩, A400, H⟩ := H
        replace H : (if t156 = t159 then (spec_l7Draw.l1 kj31 (wrap64 (x5_2 - 1)) s0_0 t160 t161 (wrap64 (4 + t143)) x147001_2) else ((spec_LinkOf.f kj31 (wrap64 (4 + t143)) x147001_2 t156 t159).bind fun t162 => (if t162 < 0 then (if x147001_2.length < 8796093022208 then (spec_l7Draw.l1 kj31 (wrap64 (x5_2 - 1)) s0_0 t160 t161 (wrap64 (4 + t143)) (x147001_2 ++ [(⟨t156, t159⟩ : S63)])) else (none)) else (spec_l7Draw.l1 kj31 (wrap64 (x5_2 - 1)) s0_0 t160 t161 (wrap64 (4 + t143)) x147001_2)))) = some (r1, r2, r3, r4) := H
        have A40 := Aside0.mk A400
        clear A400
        by_cases c41 : t156 = t159
        ·rw [if_pos c41] at H
         have c41b0 : (t156 == t159) = true := beq_iff_eq.mpr c41
         have c41b1 : (t156 != t159) = false := bne_eq_false_iff_eq.mpr c41
         clear c41
         have H' := Aside0.mk H
         clear H
         have hnb42 := NB146_142.out
         have hnc42 := NB142_146.out
         have hnb43 := NB146_0.out
         have hnc43 := NB0_146.out
         have hcz44_0 : wc.cell? ⟨gb146, 0, none⟩ = some (.int .i64 (wrap64 (4 + t143))) := (blk_cell BK146.out 0).trans rfl
         have hcz44_1 : wc.cell? ⟨gb146, 1, none⟩ = some (u147001) := (blk_cell BK146.out 1).trans rfl
         have hfz44_0 := blk_frozen BK146.out 0
         have hfz44_1 := blk_frozen BK146.out 1
         go_wp2_with (first | ((with_reducible refine gate_callee (f := 96) rfl ?_); refine goesL_ (some 49) rfl rfl Try.func96 (by kernel_rfl) rfl #[.pointer (some ⟨g, 0, none⟩), .int .i64 (wrap64 (4 + t143))] rfl (by (try simp only [List.map_toArray, List.map_cons, List.map_nil]); first | done | rfl | (simp only [List.length_drop, List.length_take]; rfl)) ?_; (with_reducible refine (spec_l1Below.calls g s0_0 x1001_2 x1002_2 (wrap64 (4 + t143)) t156 t157 t158 w0 _ ?side1 ?side2 A39.out).mono ?_); (case side1 => repeat (first | (with_reducible first | exact HI0.out | apply IsS113.alloc | apply IsS113.drewN | apply IsS113.drew | apply IsS113.set_1 | apply IsS113.set_2 | refine IsS113.far ?_ NB0_142.out _ | refine IsS113.far ?_ NB0_146.out _) | exact HI0.out)); (case side2 => repeat (first | (with_reducible first | exact HB.out | apply below_alloc | apply pw_below_drewN | apply below_drew1 | refine below_set ?_ (IsS113.ge HI0.out) | refine below_set ?_ GE142.out | refine below_set ?_ GE146.out) | exact HB.out)); rintro e w45 ⟨rfl, hi, hb, hk⟩; refine ⟨_, rfl, ?_⟩; have n0_ := Aside0.mk (Kd.R_mono (Kd.R_keep (IsS113.apart (show IsS113 w0 _ g s0_0 x1001_2 x1002_2 from hi2_ HI0 NB0_142.out NB0_146.out) (kr_ HO_147001) (by decide)) hk (fun _ h => h.2)) (fun _ h => h.1)); have n1_ := Aside0.mk (KeepBut.blk hk (g' := gb142) (o := .cells #[.int .i64 0, .slice none 0 0] 54 (0, 0)) (bk_ BK142) NB142_0.out (by simp)); have n2_ := Aside0.mk (KeepBut.blk hk (g' := gb146) (o := .cells #[.int .i64 (wrap64 (4 + t143)), u147001] 54 (0, 0)) (bk_ BK146) NB146_0.out (by simp)); have n3_ := Aside0.mk (KeepBut.trans (kb2_ HK GW142.out GW146.out) hk (.inl rfl)); have n4_ := Aside0.mk (hb); have n5_ := Aside0.mk (hi); clear HO_147001; clear BK142; clear BK146; clear HK; clear HB; clear HI0; have HO_147001 := n0_; have BK142 := n1_; have BK146 := n2_; have HK := n3_; have HB := n4_; have HI0 := n5_; clear n0_ n1_ n2_ n3_ n4_ n5_; (try clear hb); (try clear hb2); (try clear hk); (try clear hi); have hcz46_0 : w45.cell? ⟨gb146, 0, none⟩ = some (.int .i64 (wrap64 (4 + t143))) := (blk_cell BK146.out 0).trans rfl; have hcz46_1 : w45.cell? ⟨gb146, 1, none⟩ = some (u147001) := (blk_cell BK146.out 1).trans rfl; have hfz46_0 := blk_frozen BK146.out 0; have hfz46_1 := blk_frozen BK146.out 1) | ((with_reducible refine gate_callee (f := 96) rfl ?_); refine goesL_ (some 53) rfl rfl Try.func96 (by kernel_rfl) rfl #[.pointer (some ⟨g, 0, none⟩), .int .i64 (wrap64 (4 + t143))] rfl (by (try simp only [List.map_toArray, List.map_cons, List.map_nil]); first | done | rfl | (simp only [List.length_drop, List.length_take]; rfl)) ?_; (with_reducible refine (spec_l1Below.calls g s0_0 t157 t158 (wrap64 (4 + t143)) t159 t160 t161 w0 _ ?side1 ?side2 A40.out).mono ?_); (case side1 => repeat (first | (with_reducible first | exact HI0.out | apply IsS113.alloc | apply IsS113.drewN | apply IsS113.drew | apply IsS113.set_1 | apply IsS113.set_2 | refine IsS113.far ?_ NB0_142.out _ | refine IsS113.far ?_ NB0_146.out _) | exact HI0.out)); (case side2 => repeat (first | (with_reducible first | exact HB.out | apply below_alloc | apply pw_below_drewN | apply below_drew1 | refine below_set ?_ (IsS113.ge HI0.out) | refine below_set ?_ GE142.out | refine below_set ?_ GE146.out) | exact HB.out)); rintro e w47 ⟨rfl, hi, hb, hk⟩; refine ⟨_, rfl, ?_⟩; have n0_ := Aside0.mk (Kd.R_mono (Kd.R_keep (IsS113.apart (show IsS113 w0 _ g s0_0 t157 t158 from hi2_ HI0 NB0_142.out NB0_146.out) (kr_ HO_147001) (by decide)) hk (fun _ h => h.2)) (fun _ h => h.1)); have n1_ := Aside0.mk (KeepBut.blk hk (g' := gb142) (o := .cells #[.int .i64 0, .slice none 0 0] 54 (0, 0)) (bk_ BK142) NB142_0.out (by simp)); have n2_ := Aside0.mk (KeepBut.blk hk (g' := gb146) (o := .cells #[.int .i64 (wrap64 (4 + t143)), u147001] 54 (0, 0)) (bk_ BK146) NB146_0.out (by simp)); have n3_ := Aside0.mk (KeepBut.trans (kb2_ HK GW142.out GW146.out) hk (.inl rfl)); have n4_ := Aside0.mk (hb); have n5_ := Aside0.mk (hi); clear HO_147001; clear BK142; clear BK146; clear HK; clear HB; clear HI0; have HO_147001 := n0_; have BK142 := n1_; have BK146 := n2_; have HK := n3_; have HB := n4_; have HI0 := n5_; clear n0_ n1_ n2_ n3_ n4_ n5_; (try clear hb); (try clear hb2); (try clear hk); (try clear hi)))
         go_roundg kj31
         case measure => have := HJ2.out; have := HK2.out; have := HJ31.out; omega
         case rel => exact ⟨(wrap64 (x5_2 - 1)), (t160), (t161), (x147001_2), (u147001), (by first | rfl | (simp; done) | (simp [*]; done)), H', ⟨by have := HJ2.out; have := HK2.out; have := HJ31.out; omega⟩, ⟨kr_ HO_147001⟩, ⟨bk_ BK142⟩, ⟨bk_ BK146⟩, ⟨hi2_ HI0 NB0_142.out NB0_146.out⟩, ⟨kb2_ HK GW142.out GW146.out⟩, ⟨bw3_ HB (IsS113.ge HI0.out) GE142.out GE146.out⟩⟩
        ·rw [if_neg c41] at H
         have c41b0 : (t156 == t159) = false := beq_eq_false_iff_ne.mpr c41
         have c41b1 : (t156 != t159) = true := bne_iff_ne.mpr c41
         replace H := Option.bind_eq_some_iff.mp H
         obtain ⟨t162, A480, H⟩ := H
         replace H : (if t162 < 0 then (if x147001_2.length < 8796093022208 then (spec_l7Draw.l1 kj31 (wrap64 (x5_2 - 1)) s0_0 t160 t161 (wrap64 (4 + t143)) (x147001_2 ++ [(⟨t156, t159⟩ : S63)])) else (none)) else (spec_l7Draw.l1 kj31 (wrap64 (x5_2 - 1)) s0_0 t160 t161 (wrap64 (4 + t143)) x147001_2)) = some (r1, r2, r3, r4) := H
         have A48 := Aside0.mk A480
         clear A480
         by_cases c49 : t162 < 0
         ·rw [if_pos c49] at H
          have c49b0 : decide (t162 < 0) = true := decide_eq_true c49
          clear c49
          by_cases c50 : x147001_2.length < 8796093022208
          ·rw [if_pos c50] at H
           have LMc50 := Aside0.mk c50
           clear c50
           obtain ⟨y163, hy163⟩ : ∃ y_ : List (S63), y_ = (x147001_2 ++ [(⟨t156, t159⟩ : S63)]) := ⟨_, rfl⟩
           replace H : (spec_l7Draw.l1 kj31 (wrap64 (x5_2 - 1)) s0_0 t160 t161 (wrap64 (4 + t143)) y163) = some (r1, r2, r3, r4) := by first | (rw [hy163]; with_reducible exact H) | (have H2_ := (Option.bind_some _ _).symm.trans H; rw [hy163]; with_reducible exact H2_) | (have H2_ := (Option.bind_some _ _).symm.trans H; with_reducible exact H2_) | with_reducible exact H | (rw [hy163]; exact H) | exact H
           have Ny163 := Aside0.mk hy163
           clear hy163
           have H' := Aside0.mk H
           clear H
           have hnb51 := NB146_142.out
           have hnc51 := NB142_146.out
           have hnb52 := NB146_0.out
           have hnc52 := NB0_146.out
           have hcz53_0 : wc.cell? ⟨gb146, 0, none⟩ = some (.int .i64 (wrap64 (4 + t143))) := (blk_cell BK146.out 0).trans rfl
           have hcz53_1 : wc.cell? ⟨gb146, 1, none⟩ = some (u147001) := (blk_cell BK146.out 1).trans rfl
           have hfz53_0 := blk_frozen BK146.out 0
           have hfz53_1 := blk_frozen BK146.out 1
           go_wp2_with (first | ((with_reducible refine gate_callee (f := 96) rfl ?_); refine goesL_ (some 49) rfl rfl Try.func96 (by kernel_rfl) rfl #[.pointer (some ⟨g, 0, none⟩), .int .i64 (wrap64 (4 + t143))] rfl (by (try simp only [List.map_toArray, List.map_cons, List.map_nil]); first | done | rfl | (simp only [List.length_drop, List.length_take]; rfl)) ?_; (with_reducible refine (spec_l1Below.calls g s0_0 x1001_2 x1002_2 (wrap64 (4 + t143)) t156 t157 t158 w0 _ ?side1 ?side2 A39.out).mono ?_); (case side1 => repeat (first | (with_reducible first | exact HI0.out | apply IsS113.alloc | apply IsS113.drewN | apply IsS113.drew | apply IsS113.set_1 | apply IsS113.set_2 | refine IsS113.far ?_ NB0_142.out _ | refine IsS113.far ?_ NB0_146.out _) | exact HI0.out)); (case side2 => repeat (first | (with_reducible first | exact HB.out | apply below_alloc | apply pw_below_drewN | apply below_drew1 | refine below_set ?_ (IsS113.ge HI0.out) | refine below_set ?_ GE142.out | refine below_set ?_ GE146.out) | exact HB.out)); rintro e w54 ⟨rfl, hi, hb, hk⟩; refine ⟨_, rfl, ?_⟩; have n0_ := Aside0.mk (Kd.R_mono (Kd.R_keep (IsS113.apart (show IsS113 w0 _ g s0_0 x1001_2 x1002_2 from hi2_ HI0 NB0_142.out NB0_146.out) (kr_ HO_147001) (by decide)) hk (fun _ h => h.2)) (fun _ h => h.1)); have n1_ := Aside0.mk (KeepBut.blk hk (g' := gb142) (o := .cells #[.int .i64 0, .slice none 0 0] 54 (0, 0)) (bk_ BK142) NB142_0.out (by simp)); have n2_ := Aside0.mk (KeepBut.blk hk (g' := gb146) (o := .cells #[.int .i64 (wrap64 (4 + t143)), u147001] 54 (0, 0)) (bk_ BK146) NB146_0.out (by simp)); have n3_ := Aside0.mk (KeepBut.trans (kb2_ HK GW142.out GW146.out) hk (.inl rfl)); have n4_ := Aside0.mk (hb); have n5_ := Aside0.mk (hi); clear HO_147001; clear BK142; clear BK146; clear HK; clear HB; clear HI0; have HO_147001 := n0_; have BK142 := n1_; have BK146 := n2_; have HK := n3_; have HB := n4_; have HI0 := n5_; clear n0_ n1_ n2_ n3_ n4_ n5_; (try clear hb); (try clear hb2); (try clear hk); (try clear hi); have hcz55_0 : w54.cell? ⟨gb146, 0, none⟩ = some (.int .i64 (wrap64 (4 + t143))) := (blk_cell BK146.out 0).trans rfl; have hcz55_1 : w54.cell? ⟨gb146, 1, none⟩ = some (u147001) := (blk_cell BK146.out 1).trans rfl; have hfz55_0 := blk_frozen BK146.out 0; have hfz55_1 := blk_frozen BK146.out 1) | ((with_reducible refine gate_callee (f := 96) rfl ?_); refine goesL_ (some 53) rfl rfl Try.func96 (by kernel_rfl) rfl #[.pointer (some ⟨g, 0, none⟩), .int .i64 (wrap64 (4 + t143))] rfl (by (try simp only [List.map_toArray, List.map_cons, List.map_nil]); first | done | rfl | (simp only [List.length_drop, List.length_take]; rfl)) ?_; (with_reducible refine (spec_l1Below.calls g s0_0 t157 t158 (wrap64 (4 + t143)) t159 t160 t161 w0 _ ?side1 ?side2 A40.out).mono ?_); (case side1 => repeat (first | (with_reducible first | exact HI0.out | apply IsS113.alloc | apply IsS113.drewN | apply IsS113.drew | apply IsS113.set_1 | apply IsS113.set_2 | refine IsS113.far ?_ NB0_142.out _ | refine IsS113.far ?_ NB0_146.out _) | exact HI0.out)); (case side2 => repeat (first | (with_reducible first | exact HB.out | apply below_alloc | apply pw_below_drewN | apply below_drew1 | refine below_set ?_ (IsS113.ge HI0.out) | refine below_set ?_ GE142.out | refine below_set ?_ GE146.out) | exact HB.out)); rintro e w56 ⟨rfl, hi, hb, hk⟩; refine ⟨_, rfl, ?_⟩; have n0_ := Aside0.mk (Kd.R_mono (Kd.R_keep (IsS113.apart (show IsS113 w0 _ g s0_0 t157 t158 from hi2_ HI0 NB0_142.out NB0_146.out) (kr_ HO_147001) (by decide)) hk (fun _ h => h.2)) (fun _ h => h.1)); have n1_ := Aside0.mk (KeepBut.blk hk (g' := gb142) (o := .cells #[.int .i64 0, .slice none 0 0] 54 (0, 0)) (bk_ BK142) NB142_0.out (by simp)); have n2_ := Aside0.mk (KeepBut.blk hk (g' := gb146) (o := .cells #[.int .i64 (wrap64 (4 + t143)), u147001] 54 (0, 0)) (bk_ BK146) NB146_0.out (by simp)); have n3_ := Aside0.mk (KeepBut.trans (kb2_ HK GW142.out GW146.out) hk (.inl rfl)); have n4_ := Aside0.mk (hb); have n5_ := Aside0.mk (hi); clear HO_147001; clear BK142; clear BK146; clear HK; clear HB; clear HI0; have HO_147001 := n0_; have BK142 := n1_; have BK146 := n2_; have HK := n3_; have HB := n4_; have HI0 := n5_; clear n0_ n1_ n2_ n3_ n4_ n5_; (try clear hb); (try clear hb2); (try clear hk); (try clear hi); have hcz57_0 : w56.cell? ⟨gb146, 0, none⟩ = some (.int .i64 (wrap64 (4 + t143))) := (blk_cell BK146.out 0).trans rfl; have hcz57_1 : w56.cell? ⟨gb146, 1, none⟩ = some (u147001) := (blk_cell BK146.out 1).trans rfl; have hfz57_0 := blk_frozen BK146.out 0; have hfz57_1 := blk_frozen BK146.out 1; obtain ⟨Ao58, co58, eo58⟩ := Kd.R_slice HO_147001.out; subst eo58) | (go_at_call 140; (with_reducible refine (spec_LinkOf.calls kj31 (wrap64 (4 + t143)) _ _ x147001_2 t156 t159 t162 _ ?side1 ?side2 A48.out).mono ?_); (case side1 => repeat (first | exact (Kd.R_reads' HO_147001.out).2.2 | (with_reducible refine Kd.C_alloc ?_ _) | (with_reducible refine Kd.C_drewN ?_ _) | (with_reducible refine Kd.C_drew ?_))); (case side2 => exact (Kd.R_reads' HO_147001.out).2.1); rintro e w59 ⟨rfl, hb⟩; have n0_ := Aside0.mk (Kd.R_below (kr_ HO_147001) hb); have n1_ := Aside0.mk (blk_below (g := gb142) (o := .cells #[.int .i64 0, .slice none 0 0] 54 (0, 0)) (bk_ BK142) hb); have n2_ := Aside0.mk (blk_below (g := gb146) (o := .cells #[.int .i64 (wrap64 (4 + t143)), .slice Ao58 x147001_2.length co58] 54 (0, 0)) (bk_ BK146) hb); have n3_ := Aside0.mk (IsS113.below (hi2_ HI0 NB0_142.out NB0_146.out) hb); have n4_ := Aside0.mk (KeepBut.trans (kb2_ HK GW142.out GW146.out) (KeepBut.of_below hb g none) (.inl rfl)); have n5_ := Aside0.mk (below_step (bw3_ HB (IsS113.ge HI0.out) GE142.out GE146.out) hb); clear HO_147001; clear BK142; clear BK146; clear HI0; clear HK; clear HB; have HO_147001 := n0_; have BK142 := n1_; have BK146 := n2_; have HI0 := n3_; have HK := n4_; have HB := n5_; clear n0_ n1_ n2_ n3_ n4_ n5_; (try clear hb); (try clear hb2); (try clear hk); (try clear hi); have hcz60_0 : w59.cell? ⟨gb146, 0, none⟩ = some (.int .i64 (wrap64 (4 + t143))) := (blk_cell BK146.out 0).trans rfl; have hcz60_1 : w59.cell? ⟨gb146, 1, none⟩ = some (.slice Ao58 x147001_2.length co58) := (blk_cell BK146.out 1).trans rfl; have hfz60_0 := blk_frozen BK146.out 0; have hfz60_1 := blk_frozen BK146.out 1) | ((with_reducible refine gate_builtin (b := .append) (xs := #[.tmp 65, .tmp 69]) rfl ?_); (try (refine gate_guard (by rfl) ?_; dsimp only)); at_builtin; refine Kd.R_append k63 w.heap.size rfl (.tmp 65) (.tmp 69) 44 63 (.agg #[(.int .i64 0), (.int .i64 0)]) 16 rfl Try.underlying44 info63 rfl (by decide) (by omega) (.slice Ao58 x147001_2.length co58) x147001_2 (⟨t156, t159⟩ : S63) [.int .i64 t156, .int .i64 t159] (fun _ => True) (fun _ => False) rfl rfl ?aP (fun _ hk => hk.elim) ?aF ?aO (Below.refl _ _) ?aS ?aL ?_; (case aP => exact k63_mkM _ _ _ (⟨t156, t159⟩ : S63)); (case aF => exact (fun _ _ => trivial)); (case aO => exact (kr_ HO_147001)); (case aS => exact (keep_size (w := w) (g := g) (row := none) (kb2_ HK GW142.out GW146.out))); (case aL => have := LMc50.out; omega); intro v164 w61 ho hb hg hat; rw [← Ny163.out] at ho; have n0_ := Aside0.mk (blk_grown (g := gb142) (o := .cells #[.int .i64 0, .slice none 0 0] 54 (0, 0)) (bk_ BK142) hg (Kd.R_ne HO_147001.out BK142.out (by decide))); have n1_ := Aside0.mk (blk_grown (g := gb146) (o := .cells #[.int .i64 (wrap64 (4 + t143)), .slice Ao58 x147001_2.length co58] 54 (0, 0)) (bk_ BK146) hg (Kd.R_ne HO_147001.out BK146.out (by decide))); have n2_ := Aside0.mk (IsS113.grown (hi2_ HI0 NB0_142.out NB0_146.out) hg (IsS113.own_ne HI0.out HO_147001.out (by decide))); have n3_ := Aside0.mk (below_weaken (bw3_ HB (IsS113.ge HI0.out) GE142.out GE146.out) HL.out hb); have n4_ := Aside0.mk (KeepBut.trans (kb2_ HK GW142.out GW146.out) (KeepBut.of_grown hg g) (Kd.R_base2 HO_147001.out)); have n5_ := Aside0.mk (ho); clear BK142; clear BK146; clear HI0; clear HB; clear HK; clear HO_147001; have BK142 := n0_; have BK146 := n1_; have HI0 := n2_; have HB := n3_; have HK := n4_; have HO165 := n5_; clear n0_ n1_ n2_ n3_ n4_ n5_; clear ho hb hg hat; obtain ⟨Ao62, co62, eo62⟩ := Kd.R_slice HO165.out; subst eo62; have hcz63_0 : w61.cell? ⟨gb146, 0, none⟩ = some (.int .i64 (wrap64 (4 + t143))) := (blk_cell BK146.out 0).trans rfl; have hcz63_1 : w61.cell? ⟨gb146, 1, none⟩ = some (.slice Ao58 x147001_2.length co58) := (blk_cell BK146.out 1).trans rfl; have hfz63_0 := blk_frozen BK146.out 0; have hfz63_1 := blk_frozen BK146.out 1))
           go_roundg kj31
           case measure => have := HJ2.out; have := HK2.out; have := HJ31.out; omega
           case rel => exact ⟨(wrap64 (x5_2 - 1)), (t160), (t161), (y163), (.slice Ao62 y163.length co62), (by first | rfl | (simp; done) | (simp [*]; done)), H', ⟨by have := HJ2.out; have := HK2.out; have := HJ31.out; omega⟩, ⟨by (with_reducible repeat (first | apply Kd.R_alloc | apply Kd.R_drewN | apply Kd.R_drew)); exact Kd.R_mono (Kd.R_far (p := ⟨gb146, 1, none⟩) (Kd.R_types HO165.out BK146.out (by decide)) (fun _ hk => hk.2) (.slice Ao62 y163.length co62)) (fun _ hk => trivial)⟩, ⟨by (with_reducible repeat (first | refine blk_drewN ?_ _ | refine blk_drew ?_ | refine blk_alloc ?_ _)); refine blk_far ?_ NB142_146.out _; (with_reducible repeat (first | refine blk_drewN ?_ _ | refine blk_drew ?_ | refine blk_alloc ?_ _)); exact BK142.out⟩, ⟨by (with_reducible repeat (first | refine blk_drewN ?_ _ | refine blk_drew ?_ | refine blk_alloc ?_ _)); refine blk_put (cs := #[.int .i64 (wrap64 (4 + t143)), .slice Ao58 x147001_2.length co58]) ?_ 1 _ rfl; (with_reducible repeat (first | refine blk_drewN ?_ _ | refine blk_drew ?_ | refine blk_alloc ?_ _)); exact BK146.out⟩, ⟨hi2_ HI0 NB0_142.out NB0_146.out⟩, ⟨kb2_ HK GW142.out GW146.out⟩, ⟨bw3_ HB (IsS113.ge HI0.out) GE142.out GE146.out⟩⟩
          ·rw [if_neg c50] at H
           exact absurd H (by simp)
         ·rw [if_neg c49] at H
          have c49b0 : decide (t162 < 0) = false := decide_eq_false c49
          clear c49
          have H' := Aside0.mk H
          clear H
          have hnb64 := NB146_142.out
          have hnc64 := NB142_146.out
          have hnb65 := NB146_0.out
          have hnc65 := NB0_146.out
          have hcz66_0 : wc.cell? ⟨gb146, 0, none⟩ = some (.int .i64 (wrap64 (4 + t143))) := (blk_cell BK146.out 0).trans rfl
          have hcz66_1 : wc.cell? ⟨gb146, 1, none⟩ = some (u147001) := (blk_cell BK146.out 1).trans rfl
          have hfz66_0 := blk_frozen BK146.out 0
          have hfz66_1 := blk_frozen BK146.out 1
          go_wp2_with (first | ((with_reducible refine gate_callee (f := 96) rfl ?_); refine goesL_ (some 49) rfl rfl Try.func96 (by kernel_rfl) rfl #[.pointer (some ⟨g, 0, none⟩), .int .i64 (wrap64 (4 + t143))] rfl (by (try simp only [List.map_toArray, List.map_cons, List.map_nil]); first | done | rfl | (simp only [List.length_drop, List.length_take]; rfl)) ?_; (with_reducible refine (spec_l1Below.calls g s0_0 x1001_2 x1002_2 (wrap64 (4 + t143)) t156 t157 t158 w0 _ ?side1 ?side2 A39.out).mono ?_); (case side1 => repeat (first | (with_reducible first | exact HI0.out | apply IsS113.alloc | apply IsS113.drewN | apply IsS113.drew | apply IsS113.set_1 | apply IsS113.set_2 | refine IsS113.far ?_ NB0_142.out _ | refine IsS113.far ?_ NB0_146.out _) | exact HI0.out)); (case side2 => repeat (first | (with_reducible first | exact HB.out | apply below_alloc | apply pw_below_drewN | apply below_drew1 | refine below_set ?_ (IsS113.ge HI0.out) | refine below_set ?_ GE142.out | refine below_set ?_ GE146.out) | exact HB.out)); rintro e w67 ⟨rfl, hi, hb, hk⟩; refine ⟨_, rfl, ?_⟩; have n0_ := Aside0.mk (Kd.R_mono (Kd.R_keep (IsS113.apart (show IsS113 w0 _ g s0_0 x1001_2 x1002_2 from hi2_ HI0 NB0_142.out NB0_146.out) (kr_ HO_147001) (by decide)) hk (fun _ h => h.2)) (fun _ h => h.1)); have n1_ := Aside0.mk (KeepBut.blk hk (g' := gb142) (o := .cells #[.int .i64 0, .slice none 0 0] 54 (0, 0)) (bk_ BK142) NB142_0.out (by simp)); have n2_ := Aside0.mk (KeepBut.blk hk (g' := gb146) (o := .cells #[.int .i64 (wrap64 (4 + t143)), u147001] 54 (0, 0)) (bk_ BK146) NB146_0.out (by simp)); have n3_ := Aside0.mk (KeepBut.trans (kb2_ HK GW142.out GW146.out) hk (.inl rfl)); have n4_ := Aside0.mk (hb); have n5_ := Aside0.mk (hi); clear HO_147001; clear BK142; clear BK146; clear HK; clear HB; clear HI0; have HO_147001 := n0_; have BK142 := n1_; have BK146 := n2_; have HK := n3_; have HB := n4_; have HI0 := n5_; clear n0_ n1_ n2_ n3_ n4_ n5_; (try clear hb); (try clear hb2); (try clear hk); (try clear hi); have hcz68_0 : w67.cell? ⟨gb146, 0, none⟩ = some (.int .i64 (wrap64 (4 + t143))) := (blk_cell BK146.out 0).trans rfl; have hcz68_1 : w67.cell? ⟨gb146, 1, none⟩ = some (u147001) := (blk_cell BK146.out 1).trans rfl; have hfz68_0 := blk_frozen BK146.out 0; have hfz68_1 := blk_frozen BK146.out 1) | ((with_reducible refine gate_callee (f := 96) rfl ?_); refine goesL_ (some 53) rfl rfl Try.func96 (by kernel_rfl) rfl #[.pointer (some ⟨g, 0, none⟩), .int .i64 (wrap64 (4 + t143))] rfl (by (try simp only [List.map_toArray, List.map_cons, List.map_nil]); first | done | rfl | (simp only [List.length_drop, List.length_take]; rfl)) ?_; (with_reducible refine (spec_l1Below.calls g s0_0 t157 t158 (wrap64 (4 + t143)) t159 t160 t161 w0 _ ?side1 ?side2 A40.out).mono ?_); (case side1 => repeat (first | (with_reducible first | exact HI0.out | apply IsS113.alloc | apply IsS113.drewN | apply IsS113.drew | apply IsS113.set_1 | apply IsS113.set_2 | refine IsS113.far ?_ NB0_142.out _ | refine IsS113.far ?_ NB0_146.out _) | exact HI0.out)); (case side2 => repeat (first | (with_reducible first | exact HB.out | apply below_alloc | apply pw_below_drewN | apply below_drew1 | refine below_set ?_ (IsS113.ge HI0.out) | refine below_set ?_ GE142.out | refine below_set ?_ GE146.out) | exact HB.out)); rintro e w69 ⟨rfl, hi, hb, hk⟩; refine ⟨_, rfl, ?_⟩; have n0_ := Aside0.mk (Kd.R_mono (Kd.R_keep (IsS113.apart (show IsS113 w0 _ g s0_0 t157 t158 from hi2_ HI0 NB0_142.out NB0_146.out) (kr_ HO_147001) (by decide)) hk (fun _ h => h.2)) (fun _ h => h.1)); have n1_ := Aside0.mk (KeepBut.blk hk (g' := gb142) (o := .cells #[.int .i64 0, .slice none 0 0] 54 (0, 0)) (bk_ BK142) NB142_0.out (by simp)); have n2_ := Aside0.mk (KeepBut.blk hk (g' := gb146) (o := .cells #[.int .i64 (wrap64 (4 + t143)), u147001] 54 (0, 0)) (bk_ BK146) NB146_0.out (by simp)); have n3_ := Aside0.mk (KeepBut.trans (kb2_ HK GW142.out GW146.out) hk (.inl rfl)); have n4_ := Aside0.mk (hb); have n5_ := Aside0.mk (hi); clear HO_147001; clear BK142; clear BK146; clear HK; clear HB; clear HI0; have HO_147001 := n0_; have BK142 := n1_; have BK146 := n2_; have HK := n3_; have HB := n4_; have HI0 := n5_; clear n0_ n1_ n2_ n3_ n4_ n5_; (try clear hb); (try clear hb2); (try clear hk); (try clear hi); have hcz70_0 : w69.cell? ⟨gb146, 0, none⟩ = some (.int .i64 (wrap64 (4 + t143))) := (blk_cell BK146.out 0).trans rfl; have hcz70_1 : w69.cell? ⟨gb146, 1, none⟩ = some (u147001) := (blk_cell BK146.out 1).trans rfl; have hfz70_0 := blk_frozen BK146.out 0; have hfz70_1 := blk_frozen BK146.out 1; obtain ⟨Ao71, co71, eo71⟩ := Kd.R_slice HO_147001.out; subst eo71) | (go_at_call 140; (with_reducible refine (spec_LinkOf.calls kj31 (wrap64 (4 + t143)) _ _ x147001_2 t156 t159 t162 _ ?side1 ?side2 A48.out).mono ?_); (case side1 => repeat (first | exact (Kd.R_reads' HO_147001.out).2.2 | (with_reducible refine Kd.C_alloc ?_ _) | (with_reducible refine Kd.C_drewN ?_ _) | (with_reducible refine Kd.C_drew ?_))); (case side2 => exact (Kd.R_reads' HO_147001.out).2.1); rintro e w72 ⟨rfl, hb⟩; have n0_ := Aside0.mk (Kd.R_below (kr_ HO_147001) hb); have n1_ := Aside0.mk (blk_below (g := gb142) (o := .cells #[.int .i64 0, .slice none 0 0] 54 (0, 0)) (bk_ BK142) hb); have n2_ := Aside0.mk (blk_below (g := gb146) (o := .cells #[.int .i64 (wrap64 (4 + t143)), .slice Ao71 x147001_2.length co71] 54 (0, 0)) (bk_ BK146) hb); have n3_ := Aside0.mk (IsS113.below (hi2_ HI0 NB0_142.out NB0_146.out) hb); have n4_ := Aside0.mk (KeepBut.trans (kb2_ HK GW142.out GW146.out) (KeepBut.of_below hb g none) (.inl rfl)); have n5_ := Aside0.mk (below_step (bw3_ HB (IsS113.ge HI0.out) GE142.out GE146.out) hb); clear HO_147001; clear BK142; clear BK146; clear HI0; clear HK; clear HB; have HO_147001 := n0_; have BK142 := n1_; have BK146 := n2_; have HI0 := n3_; have HK := n4_; have HB := n5_; clear n0_ n1_ n2_ n3_ n4_ n5_; (try clear hb); (try clear hb2); (try clear hk); (try clear hi)))
          go_roundg kj31
          case measure => have := HJ2.out; have := HK2.out; have := HJ31.out; omega
          case rel => exact ⟨(wrap64 (x5_2 - 1)), (t160), (t161), (x147001_2), (.slice Ao71 x147001_2.length co71), (by first | rfl | (simp; done) | (simp [*]; done)), H', ⟨by have := HJ2.out; have := HK2.out; have := HJ31.out; omega⟩, ⟨kr_ HO_147001⟩, ⟨bk_ BK142⟩, ⟨bk_ BK146⟩, ⟨hi2_ HI0 NB0_142.out NB0_146.out⟩, ⟨kb2_ HK GW142.out GW146.out⟩, ⟨bw3_ HB (IsS113.ge HI0.out) GE142.out GE146.out⟩⟩
       ·replace c38 := Bool.eq_false_iff.mpr c38
        subst c38
        have H1 : (some ((wrap64 (4 + t143)), x147001_2, x1001_2, x1002_2)) = some (r1, r2, r3, r4) := by rw [if_neg (show ¬ (false = true) by decide)] at H; exact H
        clear H
        have H := H1
        clear H1
        simp only [Option.some.injEq, Prod.mk.injEq] at H
        obtain ⟨rfl, rfl, rfl, rfl⟩ := H
        have hnb73 := NB146_142.out
        have hnc73 := NB142_146.out
        have hnb74 := NB146_0.out
        have hnc74 := NB0_146.out
        have hcz75_0 : wc.cell? ⟨gb146, 0, none⟩ = some (.int .i64 (wrap64 (4 + t143))) := (blk_cell BK146.out 0).trans rfl
        have hcz75_1 : wc.cell? ⟨gb146, 1, none⟩ = some (u147001) := (blk_cell BK146.out 1).trans rfl
        have hfz75_0 := blk_frozen BK146.out 0
        have hfz75_1 := blk_frozen BK146.out 1
        have hnb76 := NB142_0.out
        have hnc76 := NB0_142.out
        have hcz77_0 : wc.cell? ⟨gb142, 0, none⟩ = some (.int .i64 0) := (blk_cell BK142.out 0).trans rfl
        have hcz77_1 : wc.cell? ⟨gb142, 1, none⟩ = some (.slice none 0 0) := (blk_cell BK142.out 1).trans rfl
        have hfz77_0 := blk_frozen BK142.out 0
        have hfz77_1 := blk_frozen BK142.out 1
        obtain ⟨Ao78, co78, eo78⟩ := Kd.R_slice HO_147001.out
        subst eo78
        go_wp2
        refine bodyPost_ret (results_cell_row rfl _ _ gb142 54 #[.int .i64 (wrap64 (4 + t143)), .slice Ao78 x147001_2.length co78] (0, 0) _ rfl (by (with_reducible repeat (first | refine blk_drewN ?_ _ | refine blk_drew ?_ | refine blk_alloc ?_ _)); refine blk_put (cs := #[.int .i64 (wrap64 (4 + t143)), .slice none 0 0]) ?_ 1 _ rfl; (with_reducible repeat (first | refine blk_drewN ?_ _ | refine blk_drew ?_ | refine blk_alloc ?_ _)); refine blk_put (cs := #[.int .i64 0, .slice none 0 0]) ?_ 0 _ rfl; (with_reducible repeat (first | refine blk_drewN ?_ _ | refine blk_drew ?_ | refine blk_alloc ?_ _)); exact BK142.out) Try.underlying54 rfl (by kernel_rfl)) rfl ?_
        exact ⟨_, by first | rfl | (simp [errW_none, errW_some] <;> rfl) | (simp [*, errW_none, errW_some] <;> rfl), by (with_reducible repeat (first | apply Kd.R_alloc | apply Kd.R_drewN | apply Kd.R_drew)); exact Kd.R_mono (Kd.R_far (p := ⟨gb142, 1, none⟩) (Kd.R_far (p := ⟨gb142, 0, none⟩) (Kd.R_types HO_147001.out BK142.out (by decide)) (fun _ hk => hk.2) (.int .i64 (wrap64 (4 + t143)))) (fun _ hk => hk.2) (.slice Ao78 x147001_2.length co78)) (fun _ hk => trivial), hi2_ HI0 NB0_142.out NB0_146.out, bw3_ HB (IsS113.ge HI0.out) GE142.out GE146.out, kb2_ HK GW142.out GW146.out⟩

/-! ### spec_l1Once: function 122 -/
def spec_l1Once.f (s0_0 : List Int) (s0_1 : Int) (s0_2 : Int) (a1 : Int) : Option (Bool × Int × Int) := (spec_l1Below.f s0_0 s0_1 s0_2 a1).bind fun bt166 => (some ((bt166.1 == 0), bt166.2.1, bt166.2.2))
set_option maxHeartbeats 8000000 in
set_option maxRecDepth 100000 in
theorem spec_l1Once.calls (g : Nat) (s0_0 : List Int) (s0_1 : Int) (s0_2 : Int) (a1 : Int) (r1 : Bool) (r2 : Int) (r3 : Int) (w0 w : World) (hI : IsS113 w0 w g s0_0 s0_1 s0_2) (hB : Below w0.heap.size w0 w) (h : spec_l1Once.f s0_0 s0_1 s0_2 a1 = some (r1, r2, r3)) :
    Calls Try.prog 122 #[.pointer (some ⟨g, 0, none⟩), .int .i64 a1] w fun e w' => e = .returned (.bool r1) ∧ IsS113 w0 w' g s0_0 r2 r3 ∧ Below w0.heap.size w0 w' ∧ KeepBut w w' g none := by
  have HI0 := Aside0.mk hI
  have HK := Aside0.mk (KeepBut.refl w g none)
  have HL := Aside0.mk hB.size
  clear hI
  have HW0 := Aside0.mk hB.size
  have HB := Aside0.mk hB
  clear hB
  have H : ((spec_l1Below.f s0_0 s0_1 s0_2 a1).bind fun bt166 => (some ((bt166.1 == 0), bt166.2.1, bt166.2.2))) = some (r1, r2, r3) := h
  clear h
  replace H := Option.bind_eq_some_iff.mp H
  obtain ⟨⟨t166, t167, t168⟩, A30, H⟩ := H
  replace H : (some ((t166 == 0), t167, t168)) = some (r1, r2, r3) := H
  have A3 := Aside0.mk A30
  clear A30
  simp only [Option.some.injEq, Prod.mk.injEq] at H
  obtain ⟨rfl, rfl, rfl⟩ := H
  go_enter Try.func122, Try.ntmps122
  go_wp2_with (first | ((with_reducible refine gate_callee (f := 96) rfl ?_); refine goesL_ (some 7) rfl rfl Try.func96 (by kernel_rfl) rfl #[.pointer (some ⟨g, 0, none⟩), .int .i64 a1] rfl (by (try simp only [List.map_toArray, List.map_cons, List.map_nil]); first | done | rfl | (simp only [List.length_drop, List.length_take]; rfl)) ?_; (with_reducible refine (spec_l1Below.calls g s0_0 s0_1 s0_2 a1 t166 t167 t168 w0 _ ?side1 ?side2 A3.out).mono ?_); (case side1 => repeat (first | (with_reducible first | exact HI0.out | apply IsS113.alloc | apply IsS113.drewN | apply IsS113.drew | apply IsS113.set_1 | apply IsS113.set_2) | exact HI0.out)); (case side2 => repeat (first | (with_reducible first | exact HB.out | apply below_alloc | apply pw_below_drewN | apply below_drew1 | refine below_set ?_ (IsS113.ge HI0.out)) | exact HB.out)); rintro e w4 ⟨rfl, hi, hb, hk⟩; refine ⟨_, rfl, ?_⟩; have n0_ := Aside0.mk (KeepBut.trans (kb0_ HK) hk (.inl rfl)); have n1_ := Aside0.mk (hb); have n2_ := Aside0.mk (hi); clear HK; clear HB; clear HI0; have HK := n0_; have HB := n1_; have HI0 := n2_; clear n0_ n1_ n2_; (try clear hb); (try clear hb2); (try clear hk); (try clear hi)))
  go_ret
  exact ⟨by first | rfl | (simp [errW_none, errW_some] <;> rfl) | (simp [*, errW_none, errW_some] <;> rfl), hi0_ HI0, bw1_ HB (IsS113.ge HI0.out), kb0_ HK⟩

/-! ### spec_l1In: function 55 -/
def spec_l1In.f (a0 : Int) (a1 : Int) (a2 : Int) : Option (Bool) := if a0 ≥ a1 then (some (decide (a0 ≤ a2))) else (some false)
set_option maxHeartbeats 8000000 in
set_option maxRecDepth 100000 in
theorem spec_l1In.calls (a0 : Int) (a1 : Int) (a2 : Int) (r : Bool) (w : World) (h : spec_l1In.f a0 a1 a2 = some r) :
  Calls Try.prog 55 #[.int .i64 a0, .int .i64 a1, .int .i64 a2] w fun e w' => e = .returned (.bool r) ∧ Drawn0 w w' := by
 have H : (if a0 ≥ a1 then (some (decide (a0 ≤ a2))) else (some false)) = some r := h
 clear h
 by_cases c4 : a0 ≥ a1
 ·rw [if_pos c4] at H
  have c4b0 : decide (a1 ≤ a0) = true := decide_eq_true c4
  clear c4
  obtain rfl := Option.some.inj H
  go_enter Try.func55, Try.ntmps55
  go_wp2
  go_ret
  exact ⟨by first | rfl | (simp; done) | (simp [*]; done), by repeat (first | exact Drawn0.refl _ | apply Drawn0.step)⟩
 ·rw [if_neg c4] at H
  have c4b0 : decide (a1 ≤ a0) = false := decide_eq_false c4
  clear c4
  obtain rfl := Option.some.inj H
  go_enter Try.func55, Try.ntmps55
  go_wp2
  go_ret
  exact ⟨by first | rfl | (simp; done) | (simp [*]; done), by repeat (first | exact Drawn0.refl _ | apply Drawn0.step)⟩

end Go.Proofs.Ytgghhcifkgdpeaa.Z
