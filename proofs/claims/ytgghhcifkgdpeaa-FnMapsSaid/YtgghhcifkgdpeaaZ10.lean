-- Written by this session's wip/mp/mp.py out of the translation. Lean checks it.
import Derived.Test.YtgghhcifkgdpeaaZ0
import Derived.Test.YtgghhcifkgdpeaaZ5
import Derived.Test.YtgghhcifkgdpeaaZ6
import Derived.Test.YtgghhcifkgdpeaaZ7
import Derived.Test.YtgghhcifkgdpeaaZ9
namespace Go.Proofs.Ytgghhcifkgdpeaa.Z
open Go.RowKit Go.Proofs.YtgghhcifkgdpeaaW.PrintWords Go.Proofs.YtgghhcifkgdpeaaW.PrintLast Go.Proofs.YtgghhcifkgdpeaaW.PrintMore
attribute [local go_sem] max2_int min2_int max_two min_two max_three min_three max_four min_four   -- for this text's walks alone
set_option linter.unusedVariables false
set_option linter.unusedSimpArgs false

/-! ### spec_l13Trace: function 120 -/
mutual
def spec_l13Trace.l0 : Nat → List Int → Int → Int → List Int → Int → Int → Int → List (S63) → List Int → Option (List Int × Int × Int)
 | 0, _, _, _, _, _, _, _, _, _ => none
 | k + 1, x9, x11, x12, x1000, x1001, x1002, x223000, x223001, x231000 => if x12 < (x9.length : Int) then (if 0 ≤ x12 then ((spec_EndOf.f k x223000 x223001 (([rd x9 x12] : List Int)) x11).bind fun t235 => (if x231000.length < 17592186044416 then (spec_l13Trace.l0 k x9 t235 (wrap64 (x12 + 1)) x1000 x1001 x1002 x223000 x223001 (x231000 ++ [t235])) else (none))) else (none)) else (spec_l13Trace.l1 k 0 x1000 x1001 x1002 x231000)
def spec_l13Trace.l1 : Nat → Int → List Int → Int → Int → List Int → Option (List Int × Int × Int)
 | 0, _, _, _, _, _ => none
 | k + 1, x13, x1000, x1001, x1002, x231000 => if x13 < (x231000.length : Int) then ((spec_l1Once.f x1000 x1001 x1002 6).bind fun bt239 => (if bt239.1 = true then (if 0 ≤ x13 then (spec_l13Trace.l1 k (wrap64 (x13 + 1)) x1000 bt239.2.1 bt239.2.2 (x231000.set (x13 : Int).toNat (-1))) else (none)) else (spec_l13Trace.l1 k (wrap64 (x13 + 1)) x1000 bt239.2.1 bt239.2.2 x231000))) else (some (x231000, x1001, x1002))
end
def spec_l13Trace.f (k : Nat) (s0_0 : List Int) (s0_1 : Int) (s0_2 : Int) (a1_0 : Int) (l1_1 : List (S63)) (a2 : Int) (a3 : Int) : Option (List Int × Int × Int) := (spec_RouteTo.f k a1_0 l1_1 a2 a3).bind fun t224 => (spec_l13Trace.l0 k t224 a2 0 s0_0 s0_1 s0_2 a1_0 l1_1 (([a2] : List Int)))
theorem spec_l13Trace.mono_l : ∀ k, (∀ y0 y1 y2 y3 y4 y5 y6 y7 y8, LeO (spec_l13Trace.l0 k y0 y1 y2 y3 y4 y5 y6 y7 y8) (spec_l13Trace.l0 (k + 1) y0 y1 y2 y3 y4 y5 y6 y7 y8)) ∧ (∀ y0 y1 y2 y3 y4, LeO (spec_l13Trace.l1 k y0 y1 y2 y3 y4) (spec_l13Trace.l1 (k + 1) y0 y1 y2 y3 y4))
 | 0 => ⟨fun _ _ _ _ _ _ _ _ _ r h => by simp [spec_l13Trace.l0] at h, fun _ _ _ _ _ r h => by simp [spec_l13Trace.l1] at h⟩
 | k + 1 => by
  obtain ⟨ih0, ih1⟩ := spec_l13Trace.mono_l k
  refine ⟨?_, ?_⟩
  ·intro y0 y1 y2 y3 y4 y5 y6 y7 y8
   unfold spec_l13Trace.l0
   repeat' first
   | (with_reducible exact ih0 _ _ _ _ _ _ _ _ _)
   | (with_reducible exact ih1 _ _ _ _ _)
   | (with_reducible exact spec_EndOf.mono _ _ _ _ _)
   | (with_reducible exact spec_RouteTo.mono _ _ _ _ _)
   | (with_reducible exact LeO.refl _)
   | (with_reducible exact LeO.none _)
   | (with_reducible refine LeO.ite ?_ ?_)
   | (with_reducible refine LeO.bind ?_ (fun _ => ?_))
   | exact ih0 _ _ _ _ _ _ _ _ _
   | exact ih1 _ _ _ _ _
   | exact spec_EndOf.mono _ _ _ _ _
   | exact spec_RouteTo.mono _ _ _ _ _
   | exact LeO.none _
   | refine LeO.ite ?_ ?_
   | refine LeO.bind ?_ (fun _ => ?_)
  ·intro y0 y1 y2 y3 y4
   unfold spec_l13Trace.l1
   repeat' first
   | (with_reducible exact ih0 _ _ _ _ _ _ _ _ _)
   | (with_reducible exact ih1 _ _ _ _ _)
   | (with_reducible exact spec_EndOf.mono _ _ _ _ _)
   | (with_reducible exact spec_RouteTo.mono _ _ _ _ _)
   | (with_reducible exact LeO.refl _)
   | (with_reducible exact LeO.none _)
   | (with_reducible refine LeO.ite ?_ ?_)
   | (with_reducible refine LeO.bind ?_ (fun _ => ?_))
   | exact ih0 _ _ _ _ _ _ _ _ _
   | exact ih1 _ _ _ _ _
   | exact spec_EndOf.mono _ _ _ _ _
   | exact spec_RouteTo.mono _ _ _ _ _
   | exact LeO.none _
   | refine LeO.ite ?_ ?_
   | refine LeO.bind ?_ (fun _ => ?_)
theorem spec_l13Trace.mono : ∀ a0 a1 a2 a3 a4 a5 a6 k, LeO (spec_l13Trace.f k a0 a1 a2 a3 a4 a5 a6) (spec_l13Trace.f (k + 1) a0 a1 a2 a3 a4 a5 a6) := by
 intro a0 a1 a2 a3 a4 a5 a6 k
 obtain ⟨ih0, ih1⟩ := spec_l13Trace.mono_l k
 unfold spec_l13Trace.f
 repeat' first
   | (with_reducible exact ih0 _ _ _ _ _ _ _ _ _)
   | (with_reducible exact ih1 _ _ _ _ _)
   | (with_reducible exact spec_EndOf.mono _ _ _ _ _)
   | (with_reducible exact spec_RouteTo.mono _ _ _ _ _)
   | (with_reducible exact LeO.refl _)
   | (with_reducible exact LeO.none _)
   | (with_reducible refine LeO.ite ?_ ?_)
   | (with_reducible refine LeO.bind ?_ (fun _ => ?_))
   | exact ih0 _ _ _ _ _ _ _ _ _
   | exact ih1 _ _ _ _ _
   | exact spec_EndOf.mono _ _ _ _ _
   | exact spec_RouteTo.mono _ _ _ _ _
   | exact LeO.none _
   | refine LeO.ite ?_ ?_
   | refine LeO.bind ?_ (fun _ => ?_)
def spec_l13Trace.T7 : Bool × List (List Nat × List Nat) := (true, [([], []), ([], []), ([], []), ([1, 2], [1, 2]), ([3], [3]), ([4], [4]), ([], []), ([0, 5, 6], [0, 5, 6]), ([7, 7, 0, 1, 2, 3, 4, 5, 6, 7], [6, 7])])
def spec_l13Trace.B7 : List Nat := [0, 0, 0, 6, 14, 30, 0, 127, 255]
theorem spec_l13Trace.tab7 : rtab .any (opsOf Try.f120 7) = spec_l13Trace.T7 := by kernel_rfl
theorem spec_l13Trace.bits7 : waitsOk spec_l13Trace.T7.2 spec_l13Trace.B7 = true := by kernel_rfl
set_option maxHeartbeats 8000000 in
set_option maxRecDepth 100000 in
theorem spec_l13Trace.calls (k : Nat) (g : Nat) (s0_0 : List Int) (s0_1 : Int) (s0_2 : Int) (a1_0 : Int) (A1_1 : Option Addr) (c1_1 : Nat) (l1_1 : List (S63)) (a2 : Int) (a3 : Int) (r1 : List Int) (r2 : Int) (r3 : Int) (w0 w : World) (hI : IsS113 w0 w g s0_0 s0_1 s0_2) (hB : Below w0.heap.size w0 w) (hr1_1 : ∀ W_, KeepBut w W_ g none → Kd.C k63 W_ A1_1 l1_1.length l1_1) (hc1_1 : l1_1.length ≤ c1_1) (h : spec_l13Trace.f k s0_0 s0_1 s0_2 a1_0 l1_1 a2 a3 = some (r1, r2, r3)) :
  Calls Try.prog 120 #[.pointer (some ⟨g, 0, none⟩), .agg #[.int .i64 a1_0, .slice A1_1 l1_1.length c1_1], .int .i64 a2, .int .i64 a3] w fun e w' => ∃ v0_ : Value, e = .returned (.agg #[v0_]) ∧ Kd.R (Kd.int .i64) 3 w' w.heap.size (fun _ => True) v0_ r1 ∧ IsS113 w0 w' g s0_0 r2 r3 ∧ Below w0.heap.size w0 w' ∧ KeepBut w w' g none := by
 have hu54 := Try.underlying54
 have hu61 := Try.underlying61
 have HR1_1 := Aside0.mk hr1_1
 have HC1_1 := Aside0.mk hc1_1
 clear hr1_1 hc1_1
 have HI0 := Aside0.mk hI
 have HK := Aside0.mk (KeepBut.refl w g none)
 have HL := Aside0.mk hB.size
 clear hI
 have HW0 := Aside0.mk hB.size
 have HB := Aside0.mk hB
 clear hB
 have H : ((spec_RouteTo.f k a1_0 l1_1 a2 a3).bind fun t224 => (spec_l13Trace.l0 k t224 a2 0 s0_0 s0_1 s0_2 a1_0 l1_1 (([a2] : List Int)))) = some (r1, r2, r3) := h
 clear h
 replace H := Option.bind_eq_some_iff.mp H
 obtain ⟨t224, A50, H⟩ := H
 replace H : (spec_l13Trace.l0 k t224 a2 0 s0_0 s0_1 s0_2 a1_0 l1_1 (([a2] : List Int))) = some (r1, r2, r3) := H
 have A5 := Aside0.mk A50
 clear A50
 obtain ⟨y227, hy227⟩ : ∃ y_ : List Int, y_ = (([a2] : List Int)) := ⟨_, rfl⟩
 replace H : (spec_l13Trace.l0 k t224 a2 0 s0_0 s0_1 s0_2 a1_0 l1_1 y227) = some (r1, r2, r3) := by first | (rw [hy227]; with_reducible exact H) | (have H2_ := (Option.bind_some _ _).symm.trans H; rw [hy227]; with_reducible exact H2_) | (have H2_ := (Option.bind_some _ _).symm.trans H; with_reducible exact H2_) | with_reducible exact H | (rw [hy227]; exact H) | exact H
 have Ny227 := Aside0.mk hy227
 clear hy227
 have H' := Aside0.mk H
 clear H
 go_enter Try.func120, Try.ntmps120
 go_wp2_with (first | ((with_reducible refine gate_dst (N := 5) rfl ?_); refine box_event ?hg (N := 5) ?hd (cs := #[.int .i64 a1_0, .slice A1_1 l1_1.length c1_1]) (t := 54) ?hr ?_; (case hd => rfl); (case hg => rfl); (case hr => first | (go_simp; done) | (go_simp; rfl)); intro gb222 hg w6 hbox hb; have n0_ := Aside0.mk (IsS113.below (hi0_ HI0) hb); have n1_ := Aside0.mk (KeepBut.trans (kb0_ HK) (KeepBut.of_below hb g none) (.inl rfl)); have n2_ := Aside0.mk (below_step (bw1_ HB (IsS113.ge HI0.out)) hb); have n3_ := Aside0.mk (hbox); have n4_ := Aside0.mk ((by rw [hg]; exact (keep_size (w := w) (g := g) (row := none) (kb0_ HK)) : w.heap.size ≤ gb222)); have n5_ := Aside0.mk ((Nat.le_trans HW0.out (by rw [hg]; exact (keep_size (w := w) (g := g) (row := none) (kb0_ HK)) : w.heap.size ≤ gb222) : w0.heap.size ≤ gb222)); have n6_ := Aside0.mk ((by rw [hg]; exact Nat.ne_of_lt (IsS113.lt (show IsS113 w0 _ g s0_0 s0_1 s0_2 from hi0_ HI0)) : g ≠ gb222)); have n7_ := Aside0.mk ((by rw [hg]; exact Nat.ne_of_gt (IsS113.lt (show IsS113 w0 _ g s0_0 s0_1 s0_2 from hi0_ HI0)) : gb222 ≠ g)); clear HI0; clear HK; clear HB; have HI0 := n0_; have HK := n1_; have HB := n2_; have BK222 := n3_; have GW222 := n4_; have GE222 := n5_; have NB0_222 := n6_; have NB222_0 := n7_; clear n0_ n1_ n2_ n3_ n4_ n5_ n6_ n7_; clear hb hbox hg) | ((with_reducible refine gate_dst (N := 8) rfl ?_); refine box_event ?hg (N := 8) ?hd (cs := #[.slice none 0 0]) (t := 61) ?hr ?_; (case hd => rfl); (case hg => rfl); (case hr => first | (go_simp; done) | (go_simp; rfl)); intro gb223 hg w7 hbox hb; have n0_ := Aside0.mk (IsS113.below (hi1_ HI0 NB0_222.out) hb); have n1_ := Aside0.mk (blk_below (g := gb222) (o := .cells #[.int .i64 a1_0, .slice A1_1 l1_1.length c1_1] 54 (0, 0)) (bk_ BK222) hb); have n2_ := Aside0.mk (KeepBut.trans (kb1_ HK GW222.out) (KeepBut.of_below hb g none) (.inl rfl)); have n3_ := Aside0.mk (below_step (bw2_ HB (IsS113.ge HI0.out) GE222.out) hb); have n4_ := Aside0.mk (hbox); have n5_ := Aside0.mk ((by rw [hg]; exact (keep_size (w := w) (g := g) (row := none) (kb1_ HK GW222.out)) : w.heap.size ≤ gb223)); have n6_ := Aside0.mk ((Nat.le_trans HW0.out (by rw [hg]; exact (keep_size (w := w) (g := g) (row := none) (kb1_ HK GW222.out)) : w.heap.size ≤ gb223) : w0.heap.size ≤ gb223)); have n7_ := Aside0.mk ((by rw [hg]; exact Nat.ne_of_lt (blk_lt (g := gb222) (o := .cells #[.int .i64 a1_0, .slice A1_1 l1_1.length c1_1] 54 (0, 0)) (bk_ BK222)) : gb222 ≠ gb223)); have n8_ := Aside0.mk ((by rw [hg]; exact Nat.ne_of_gt (blk_lt (g := gb222) (o := .cells #[.int .i64 a1_0, .slice A1_1 l1_1.length c1_1] 54 (0, 0)) (bk_ BK222)) : gb223 ≠ gb222)); have n9_ := Aside0.mk ((by rw [hg]; exact Nat.ne_of_lt (IsS113.lt (show IsS113 w0 _ g s0_0 s0_1 s0_2 from hi1_ HI0 NB0_222.out)) : g ≠ gb223)); have n10_ := Aside0.mk ((by rw [hg]; exact Nat.ne_of_gt (IsS113.lt (show IsS113 w0 _ g s0_0 s0_1 s0_2 from hi1_ HI0 NB0_222.out)) : gb223 ≠ g)); clear HI0; clear BK222; clear HK; clear HB; have HI0 := n0_; have BK222 := n1_; have HK := n2_; have HB := n3_; have BK223 := n4_; have GW223 := n5_; have GE223 := n6_; have NB222_223 := n7_; have NB223_222 := n8_; have NB0_223 := n9_; have NB223_0 := n10_; clear n0_ n1_ n2_ n3_ n4_ n5_ n6_ n7_ n8_ n9_ n10_; clear hb hbox hg; have hnb8 := NB222_223.out; have hnc8 := NB223_222.out; have hnb9 := NB222_0.out; have hnc9 := NB0_222.out; have hcz10_0 : w7.cell? ⟨gb222, 0, none⟩ = some (.int .i64 a1_0) := (blk_cell BK222.out 0).trans rfl; have hcz10_1 : w7.cell? ⟨gb222, 1, none⟩ = some (.slice A1_1 l1_1.length c1_1) := (blk_cell BK222.out 1).trans rfl; have hfz10_0 := blk_frozen BK222.out 0; have hfz10_1 := blk_frozen BK222.out 1) | ((with_reducible refine gate_callee (f := 141) rfl ?_); refine goesL_ (some 17) rfl rfl Try.func141 (by kernel_rfl) rfl #[.agg #[.int .i64 a1_0, .slice A1_1 l1_1.length c1_1], .int .i64 a2, .int .i64 a3] rfl (by (try simp only [List.map_toArray, List.map_cons, List.map_nil]); first | done | rfl | (simp only [List.length_drop, List.length_take]; rfl)) ?_; (with_reducible refine (spec_RouteTo.calls k a1_0 _ _ l1_1 a2 a3 t224 _ ?side1 ?side2 A5.out).mono ?_); (case side1 => exact Kd.C_foot_now HR1_1.out (kb2_ HK GW222.out GW223.out)); (case side2 => exact HC1_1.out); rintro e w11 ⟨v225, rfl, ho0, hb⟩; refine ⟨_, rfl, ?_⟩; have n0_ := Aside0.mk (Kd.R_lower ho0 (keep_size (w := w) (g := g) (row := none) (kb2_ HK GW222.out GW223.out))); have n1_ := Aside0.mk (IsS113.below (hi2_ HI0 NB0_222.out NB0_223.out) hb); have n2_ := Aside0.mk (blk_below (g := gb222) (o := .cells #[.int .i64 a1_0, .slice A1_1 l1_1.length c1_1] 54 (0, 0)) (bk_ BK222) hb); have n3_ := Aside0.mk (blk_below (g := gb223) (o := .cells #[.slice none 0 0] 61 (0, 0)) (bk_ BK223) hb); have n4_ := Aside0.mk (KeepBut.trans (kb2_ HK GW222.out GW223.out) (KeepBut.of_below hb g none) (.inl rfl)); have n5_ := Aside0.mk (below_step (bw3_ HB (IsS113.ge HI0.out) GE222.out GE223.out) hb); clear HI0; clear BK222; clear BK223; clear HK; clear HB; have HO226 := n0_; have HI0 := n1_; have BK222 := n2_; have BK223 := n3_; have HK := n4_; have HB := n5_; clear n0_ n1_ n2_ n3_ n4_ n5_; (try clear hb); (try clear hb2); (try clear hk); (try clear hi); (try clear ho0)) | ((with_reducible refine gate_dst (N := 19) rfl ?_); refine Kd.R_lit (Kd.int .i64) _ 3 ?hg (N := 19) ?hd (xs := ([a2] : List Int)) (inner := [.int .i64 a2]) (ok := fun _ => True) (okp := fun _ => True) ?hr ?hp (fun _ hk => hk) trivial (Below.refl _ _) (Nat.le_refl _) (by simp) ?_; (case hd => rfl); (case hg => rfl); (case hr => first | (go_simp; done) | (go_simp; rfl)); (case hp => exact (Reps.one (show Kd.M (Kd.int .i64) _ _ _ a2 [.int .i64 a2] from rfl) (Reps.none _ _))); intro v228 w12 ho13 hb hg_ hnew_; clear hg_ hnew_; (first | rw [← Ny227.out] at ho13 | (simp only [Int.reduceToNat] at ho13; rw [← Ny227.out] at ho13)); have n0_ := Aside0.mk (Kd.R_elder' (kr_ HO226) (Kd.R_base ho13) hb); have n1_ := Aside0.mk (Kd.R_lower (Kd.R_new' ho13 (Kd.R_lt (kr_ HO226))) (keep_size (w := w) (g := g) (row := none) (kb2_ HK GW222.out GW223.out))); have n2_ := Aside0.mk (IsS113.below (hi2_ HI0 NB0_222.out NB0_223.out) hb); have n3_ := Aside0.mk (blk_below (g := gb222) (o := .cells #[.int .i64 a1_0, .slice A1_1 l1_1.length c1_1] 54 (0, 0)) (bk_ BK222) hb); have n4_ := Aside0.mk (blk_below (g := gb223) (o := .cells #[.slice none 0 0] 61 (0, 0)) (bk_ BK223) hb); have n5_ := Aside0.mk (KeepBut.trans (kb2_ HK GW222.out GW223.out) (KeepBut.of_below hb g none) (.inl rfl)); have n6_ := Aside0.mk (below_step (bw3_ HB (IsS113.ge HI0.out) GE222.out GE223.out) hb); clear HO226; clear HI0; clear BK222; clear BK223; clear HK; clear HB; have HO226 := n0_; have HO229 := n1_; have HI0 := n2_; have BK222 := n3_; have BK223 := n4_; have HK := n5_; have HB := n6_; clear n0_ n1_ n2_ n3_ n4_ n5_ n6_; clear hb ho13; obtain ⟨Ao14, co14, eo14⟩ := Kd.R_slice HO229.out; subst eo14) | ((with_reducible refine gate_dst (N := 10) rfl ?_); refine box_event ?hg (N := 10) ?hd (cs := #[.slice none 0 0]) (t := 61) ?hr ?_; (case hd => rfl); (case hg => rfl); (case hr => first | (go_simp; done) | (go_simp; rfl)); intro gb230 hg w15 hbox hb; have n0_ := Aside0.mk (Kd.R_below (kr_ HO226) hb); have n1_ := Aside0.mk (Kd.R_below (kr_ HO229) hb); have n2_ := Aside0.mk (IsS113.below (hi2_ HI0 NB0_222.out NB0_223.out) hb); have n3_ := Aside0.mk (blk_below (g := gb222) (o := .cells #[.int .i64 a1_0, .slice A1_1 l1_1.length c1_1] 54 (0, 0)) (bk_ BK222) hb); have n4_ := Aside0.mk (blk_below (g := gb223) (o := .cells #[.slice none 0 0] 61 (0, 0)) (bk_ BK223) hb); have n5_ := Aside0.mk (KeepBut.trans (kb2_ HK GW222.out GW223.out) (KeepBut.of_below hb g none) (.inl rfl)); have n6_ := Aside0.mk (below_step (bw3_ HB (IsS113.ge HI0.out) GE222.out GE223.out) hb); have n7_ := Aside0.mk (hbox); have n8_ := Aside0.mk ((by rw [hg]; exact (keep_size (w := w) (g := g) (row := none) (kb2_ HK GW222.out GW223.out)) : w.heap.size ≤ gb230)); have n9_ := Aside0.mk ((Nat.le_trans HW0.out (by rw [hg]; exact (keep_size (w := w) (g := g) (row := none) (kb2_ HK GW222.out GW223.out)) : w.heap.size ≤ gb230) : w0.heap.size ≤ gb230)); have n10_ := Aside0.mk ((by rw [hg]; exact Nat.ne_of_lt (blk_lt (g := gb222) (o := .cells #[.int .i64 a1_0, .slice A1_1 l1_1.length c1_1] 54 (0, 0)) (bk_ BK222)) : gb222 ≠ gb230)); have n11_ := Aside0.mk ((by rw [hg]; exact Nat.ne_of_gt (blk_lt (g := gb222) (o := .cells #[.int .i64 a1_0, .slice A1_1 l1_1.length c1_1] 54 (0, 0)) (bk_ BK222)) : gb230 ≠ gb222)); have n12_ := Aside0.mk ((by rw [hg]; exact Nat.ne_of_lt (blk_lt (g := gb223) (o := .cells #[.slice none 0 0] 61 (0, 0)) (bk_ BK223)) : gb223 ≠ gb230)); have n13_ := Aside0.mk ((by rw [hg]; exact Nat.ne_of_gt (blk_lt (g := gb223) (o := .cells #[.slice none 0 0] 61 (0, 0)) (bk_ BK223)) : gb230 ≠ gb223)); have n14_ := Aside0.mk ((by rw [hg]; exact Nat.ne_of_lt (IsS113.lt (show IsS113 w0 _ g s0_0 s0_1 s0_2 from hi2_ HI0 NB0_222.out NB0_223.out)) : g ≠ gb230)); have n15_ := Aside0.mk ((by rw [hg]; exact Nat.ne_of_gt (IsS113.lt (show IsS113 w0 _ g s0_0 s0_1 s0_2 from hi2_ HI0 NB0_222.out NB0_223.out)) : gb230 ≠ g)); clear HO226; clear HO229; clear HI0; clear BK222; clear BK223; clear HK; clear HB; have HO226 := n0_; have HO229 := n1_; have HI0 := n2_; have BK222 := n3_; have BK223 := n4_; have HK := n5_; have HB := n6_; have BK230 := n7_; have GW230 := n8_; have GE230 := n9_; have NB222_230 := n10_; have NB230_222 := n11_; have NB223_230 := n12_; have NB230_223 := n13_; have NB0_230 := n14_; have NB230_0 := n15_; clear n0_ n1_ n2_ n3_ n4_ n5_ n6_ n7_ n8_ n9_ n10_ n11_ n12_ n13_ n14_ n15_; clear hb hbox hg; have hnb16 := NB230_222.out; have hnc16 := NB222_230.out; have hnb17 := NB230_223.out; have hnc17 := NB223_230.out; have hnb18 := NB230_0.out; have hnc18 := NB0_230.out; have hcz19_0 : w15.cell? ⟨gb230, 0, none⟩ = some (.slice none 0 0) := (blk_cell BK230.out 0).trans rfl; have hfz19_0 := blk_frozen BK230.out 0))
 go_loopg [11, 12] k (fun kq v11 v12 w' => ∃ (x11_1 : Int) (x12_1 : Int) (x231000_1 : List Int) (u231000 : Value), v11 = .int .i64 x11_1 ∧ v12 = .int .i64 x12_1 ∧ Aside0 (spec_l13Trace.l0 kq t224 x11_1 x12_1 s0_0 s0_1 s0_2 a1_0 l1_1 x231000_1 = some (r1, r2, r3)) ∧ Aside0 (kq ≤ k) ∧ Aside0 (Kd.R (Kd.int .i64) 3 w' w.heap.size (fun k_ => some k_ ≠ (u231000 : Value).ownBlock) v225 t224) ∧ Aside0 (Kd.R (Kd.int .i64) 3 w' w.heap.size (fun k_ => some k_ ≠ (v225 : Value).ownBlock) u231000 x231000_1) ∧ Aside0 (w'.heap[gb222]? = some (.cells #[.int .i64 a1_0, (.slice A1_1 l1_1.length c1_1)] 54 (0, 0))) ∧ Aside0 (w'.heap[gb223]? = some (.cells #[(.slice none 0 0)] 61 (0, 0))) ∧ Aside0 (w'.heap[gb230]? = some (.cells #[u231000] 61 (0, 0))) ∧ Aside0 (IsS113 w0 w' g s0_0 s0_1 s0_2) ∧ Aside0 (KeepBut w w' g none) ∧ Aside0 (Below w0.heap.size w0 w'))
 case atStart => exact ⟨(a2), (0), (y227), (.slice Ao14 y227.length co14), (by first | rfl | (simp; done) | (simp [*]; done)), (by first | rfl | (simp; done) | (simp [*]; done)), H', ⟨Nat.le_refl _⟩, ⟨by (with_reducible repeat (first | apply Kd.R_alloc | apply Kd.R_drewN | apply Kd.R_drew)); exact Kd.R_mono (Kd.R_far (p := ⟨gb230, 0, none⟩) (Kd.R_types HO226.out BK230.out (by decide)) (fun _ hk => hk.2) (.slice Ao14 y227.length co14)) (fun _ hk => hk.1.2)⟩, ⟨by (with_reducible repeat (first | apply Kd.R_alloc | apply Kd.R_drewN | apply Kd.R_drew)); exact Kd.R_mono (Kd.R_far (p := ⟨gb230, 0, none⟩) (Kd.R_types HO229.out BK230.out (by decide)) (fun _ hk => hk.2) (.slice Ao14 y227.length co14)) (fun _ hk => hk.1.2)⟩, ⟨by (with_reducible repeat (first | refine blk_drewN ?_ _ | refine blk_drew ?_ | refine blk_alloc ?_ _)); refine blk_far ?_ NB222_230.out _; (with_reducible repeat (first | refine blk_drewN ?_ _ | refine blk_drew ?_ | refine blk_alloc ?_ _)); exact BK222.out⟩, ⟨by (with_reducible repeat (first | refine blk_drewN ?_ _ | refine blk_drew ?_ | refine blk_alloc ?_ _)); refine blk_far ?_ NB223_230.out _; (with_reducible repeat (first | refine blk_drewN ?_ _ | refine blk_drew ?_ | refine blk_alloc ?_ _)); exact BK223.out⟩, ⟨by (with_reducible repeat (first | refine blk_drewN ?_ _ | refine blk_drew ?_ | refine blk_alloc ?_ _)); refine blk_put (cs := #[.slice none 0 0]) ?_ 0 _ rfl; (with_reducible repeat (first | refine blk_drewN ?_ _ | refine blk_drew ?_ | refine blk_alloc ?_ _)); exact BK230.out⟩, ⟨hi3_ HI0 NB0_222.out NB0_223.out NB0_230.out⟩, ⟨kb3_ HK GW222.out GW223.out GW230.out⟩, ⟨bw4_ HB (IsS113.ge HI0.out) GE222.out GE223.out GE230.out⟩⟩
 case round =>
  clear H'
  (try clear c1); (try clear p2); (try clear c8); (try clear c9); (try clear c12); (try clear c14); (try clear c16); (try clear c17); (try clear c18); (try clear hcz10_0); (try clear hcz10_1); (try clear hcz19_0); (try clear hfz10_0); (try clear hfz10_1); (try clear hfz19_0)
  obtain ⟨x11_1, x12_1, x231000_1, u231000, rfl, rfl, HA, HK1, HO_9, HO_231000, BK222, BK223, BK230, HI0, HK, HB⟩ := hrel
  cases gk with
  | zero => exact absurd HA.out (by simp [spec_l13Trace.l0])
  | succ k1 =>
   have H := HA.out
   clear HA
   simp only [spec_l13Trace.l0] at H
   by_cases c20 : x12_1 < (t224.length : Int)
   ·rw [if_pos c20] at H
    have c20b0 : decide (x12_1 < (t224.length : Int)) = true := decide_eq_true c20
    clear c20
    by_cases c21 : 0 ≤ x12_1
    ·rw [if_pos c21] at H
     have c21b0 : decide (0 ≤ x12_1) = true := decide_eq_true c21
     clear c21
     obtain ⟨y232, hy232⟩ : ∃ y_ : List Int, y_ = (([rd t224 x12_1] : List Int)) := ⟨_, rfl⟩
     replace H : ((spec_EndOf.f k1 a1_0 l1_1 y232 x11_1).bind fun t235 => (if x231000_1.length < 17592186044416 then (spec_l13Trace.l0 k1 t224 t235 (wrap64 (x12_1 + 1)) s0_0 s0_1 s0_2 a1_0 l1_1 (x231000_1 ++ [t235])) else (none))) = some (r1, r2, r3) := by first | (rw [hy232]; with_reducible exact H) | (have H2_ := (Option.bind_some _ _).symm.trans H; rw [hy232]; with_reducible exact H2_) | (have H2_ := (Option.bind_some _ _).symm.trans H; with_reducible exact H2_) | with_reducible exact H | (rw [hy232]; exact H) | exact H
     have Ny232 := Aside0.mk hy232
     clear hy232
     replace H := Option.bind_eq_some_iff.mp H
     obtain ⟨t235, A220, H⟩ := H
     replace H : (if x231000_1.length < 17592186044416 then (spec_l13Trace.l0 k1 t224 t235 (wrap64 (x12_1 + 1)) s0_0 s0_1 s0_2 a1_0 l1_1 (x231000_1 ++ [t235])) else (none)) = some (r1, r2, r3) := H
     have A22 := Aside0.mk A220
     clear A220
     by_cases c23 : x231000_1.length < 17592186044416
     ·rw [if_pos c23] at H
      have LMc23 := Aside0.mk c23
      clear c23
      obtain ⟨y236, hy236⟩ : ∃ y_ : List Int, y_ = (x231000_1 ++ [t235]) := ⟨_, rfl⟩
      replace H : (spec_l13Trace.l0 k1 t224 t235 (wrap64 (x12_1 + 1)) s0_0 s0_1 s0_2 a1_0 l1_1 y236) = some (r1, r2, r3) := by first | (rw [hy236]; with_reducible exact H) | (have H2_ := (Option.bind_some _ _).symm.trans H; rw [hy236]; with_reducible exact H2_) | (have H2_ := (Option.bind_some _ _).symm.trans H; with_reducible exact H2_) | with_reducible exact H | (rw [hy236]; exact H) | exact H
      have Ny236 := Aside0.mk hy236
      clear hy236
      have H' := Aside0.mk H
      clear H
      obtain ⟨Ao24, co24, eo24⟩ := Kd.R_slice HO_9.out
      subst eo24
      try go_wp2
      have n0_ := Aside0.mk (Kd.R_drew HO_9.out)
      have n1_ := Aside0.mk (Kd.R_drew HO_231000.out)
      have n2_ := Aside0.mk (blk_drew BK222.out)
      have n3_ := Aside0.mk (blk_drew BK223.out)
      have n4_ := Aside0.mk (blk_drew BK230.out)
      have n5_ := Aside0.mk (IsS113.drew HI0.out)
      have n6_ := Aside0.mk (keep_drew HK.out)
      have n7_ := Aside0.mk (below_drew1 HB.out)
      clear HO_9
      clear HO_231000
      clear BK222
      clear BK223
      clear BK230
      clear HI0
      clear HK
      clear HB
      have HO_9 := n0_
      have HO_231000 := n1_
      have BK222 := n2_
      have BK223 := n3_
      have BK230 := n4_
      have HI0 := n5_
      have HK := n6_
      have HB := n7_
      clear n0_ n1_ n2_ n3_ n4_ n5_ n6_ n7_
      have p231 : 0 ≤ (x12_1 : Int) := of_decide_eq_true (by first | (with_reducible assumption) | assumption)
      have q231 : x12_1 < (t224.length : Int) := of_decide_eq_true (by first | (with_reducible assumption) | assumption)
      obtain ⟨ad231, e231, hx231_0⟩ := Kd.at_int (Kd.R_reads' HO_9.out).2.2 x12_1 p231 q231
      cases e231
      replace p231 := eq_true p231
      replace q231 := eq_true q231
      refine start_ (n := 9) (S := fun w' => w'.cell? ⟨gb222, 0, none⟩ = some (.int .i64 a1_0) ∧ w'.cell? ⟨gb222, 1, none⟩ = some (.slice A1_1 l1_1.length c1_1) ∧ w'.cell? (ad231.add (x12_1).toNat) = some (.int .i64 (rd t224 x12_1))) (ds := []) #[false, false, false, false, false, false, false, false, false] (by kernel_rfl) rfl rfl ⟨(blk_cell BK222.out 0).trans rfl, (blk_cell BK222.out 1).trans rfl, hx231_0⟩ (fun hHeld => ?_); refine with_tabW spec_l13Trace.tab7 spec_l13Trace.bits7 (fun HT_ HW_ => ?_)
      generalize wr.drew = w25 at HO_9 HO_231000 BK222 BK223 BK230 HI0 HK HB hx231_0 hHeld ⊢
      refine pure_ (i := 1) (N := some 29) (v := ?_) (a' := ?_) #[false, true, false, false, false, false, false, false, false] rfl rfl (any_of HT_.out (by kernel_rfl)) (fun _ _ _ h => h) (Or.inl ⟨by rfl, ?_⟩) ?_ ?_
      rotate_left
      ·intro w'
       go_simp
       with_reducible rfl
      rotate_left
      ·simp only [Act.put, List.setIfInBounds_toArray, List.set_cons_zero, List.set_cons_succ, i64_w, i32_w]
       rfl
      refine pure_ (i := 2) (N := some 30) (v := ?_) (a' := ?_) #[false, true, true, false, false, false, false, false, false] rfl rfl (any_of HT_.out (by kernel_rfl)) (fun _ _ _ h => h) (Or.inl ⟨by rfl, ?_⟩) ?_ ?_
      rotate_left
      ·intro w'
       go_simp
       with_reducible rfl
      rotate_left
      ·simp only [Act.put, List.setIfInBounds_toArray, List.set_cons_zero, List.set_cons_succ, i64_w, i32_w]
       rfl
      refine pure_ (i := 3) (N := some 31) (v := ?_) (a' := ?_) #[false, true, true, true, false, false, false, false, false] rfl rfl (any_of HT_.out (by kernel_rfl)) (fun _ _ _ h => h) (Or.inl ⟨by rfl, ?_⟩) ?_ ?_
      rotate_left
      ·intro w'
       go_simp
       with_reducible rfl
      rotate_left
      ·simp only [Act.put, List.setIfInBounds_toArray, List.set_cons_zero, List.set_cons_succ, i64_w, i32_w]
       rfl
      refine pure_ (i := 6) (N := some 34) (v := ?_) (a' := ?_) #[false, true, true, true, false, false, true, false, false] rfl rfl (any_of HT_.out (by kernel_rfl)) (fun _ _ _ h => h) (Or.inl ⟨by rfl, ?_⟩) ?_ ?_
      rotate_left
      ·intro w'
       go_simp
       with_reducible rfl
      rotate_left
      ·simp only [Act.put, List.setIfInBounds_toArray, List.set_cons_zero, List.set_cons_succ, i64_w, i32_w]
       rfl
      refine take_ (i := 0) (N := some 28) (v := ?_) (a' := ?_) #[true, true, true, true, false, false, true, false, false] rfl rfl (take_ofW HT_.out HW_.out (by kernel_rfl)) (fun _ _ _ h => h) (Or.inl ⟨by rfl, ?_⟩) hHeld ?_ ?_
      rotate_left
      ·rintro w' ⟨s0, s1, s2⟩
       go_simp
       with_reducible rfl
      rotate_left
      ·simp only [Act.put, List.setIfInBounds_toArray, List.set_cons_zero, List.set_cons_succ, i64_w, i32_w]
       rfl
      refine take_ (i := 4) (N := some 32) (v := ?_) (a' := ?_) #[true, true, true, true, true, false, true, false, false] rfl rfl (take_ofW HT_.out HW_.out (by kernel_rfl)) (fun _ _ _ h => h) (Or.inl ⟨by rfl, ?_⟩) hHeld ?_ ?_
      rotate_left
      ·rintro w' ⟨s0, s1, s2⟩
       go_simp
       with_reducible rfl
      rotate_left
      ·simp only [Act.put, List.setIfInBounds_toArray, List.set_cons_zero, List.set_cons_succ, i64_w, i32_w]
       rfl
      refine one_ (i := 5) (N := some 33) #[true, true, true, true, true, true, true, false, false] rfl rfl (one_of HT_.out (by kernel_rfl)) (by decide) (fun K hK => ?_)
      refine Kd.R_lit_step (Kd.int .i64) _ 3 ?hg (N := 33) ?hd (xs := ([rd t224 x12_1] : List Int)) (inner := [.int .i64 (rd t224 x12_1)]) (ok := fun _ => True) (okp := fun _ => True) ?hr ?hp (fun _ hk => hk) trivial (Below.refl _ _) (Nat.le_refl _) (by simp) ?_; (case hd => rfl); (case hg => rfl); (case hr => first | (go_simp; done) | (go_simp; rfl)); (case hp => exact (Reps.one (show Kd.M (Kd.int .i64) _ _ _ (rd t224 x12_1) [.int .i64 (rd t224 x12_1)] from rfl) (Reps.none _ _)))
      intro v233 w26 ho27 hb hg_ hnew_
      have HS2_ := (hb.cell (World.block_lt_of_cell? _ _ (hHeld.2.2))).trans (hHeld.2.2)
      clear hg_ hnew_
      (first | rw [← Ny232.out] at ho27 | (simp only [Int.reduceToNat] at ho27; rw [← Ny232.out] at ho27))
      have n0_ := Aside0.mk (Kd.R_elder' (kr_ HO_9) (Kd.R_base ho27) hb)
      have n1_ := Aside0.mk (Kd.R_elder' (kr_ HO_231000) (Kd.R_base ho27) hb)
      have n2_ := Aside0.mk (Kd.R_lower (Kd.R_new' (Kd.R_new' ho27 (Kd.R_lt (kr_ HO_9))) (Kd.R_lt (kr_ HO_231000))) (keep_size (w := w) (g := g) (row := none) (kb3_ HK GW222.out GW223.out GW230.out)))
      have n3_ := Aside0.mk (blk_below (g := gb222) (o := .cells #[.int .i64 a1_0, .slice A1_1 l1_1.length c1_1] 54 (0, 0)) (bk_ BK222) hb)
      have n4_ := Aside0.mk (blk_below (g := gb223) (o := .cells #[.slice none 0 0] 61 (0, 0)) (bk_ BK223) hb)
      have n5_ := Aside0.mk (blk_below (g := gb230) (o := .cells #[u231000] 61 (0, 0)) (bk_ BK230) hb)
      have n6_ := Aside0.mk (IsS113.below (hi3_ HI0 NB0_222.out NB0_223.out NB0_230.out) hb)
      have n7_ := Aside0.mk (KeepBut.trans (kb3_ HK GW222.out GW223.out GW230.out) (KeepBut.of_below hb g none) (.inl rfl))
      have n8_ := Aside0.mk (below_step (bw4_ HB (IsS113.ge HI0.out) GE222.out GE223.out GE230.out) hb)
      clear HO_9
      clear HO_231000
      clear BK222
      clear BK223
      clear BK230
      clear HI0
      clear HK
      clear HB
      have HO_9 := n0_
      have HO_231000 := n1_
      have HO234 := n2_
      have BK222 := n3_
      have BK223 := n4_
      have BK230 := n5_
      have HI0 := n6_
      have HK := n7_
      have HB := n8_
      clear n0_ n1_ n2_ n3_ n4_ n5_ n6_ n7_ n8_
      clear hb ho27
      obtain ⟨Ao28, co28, eo28⟩ := Kd.R_slice HO234.out
      (first | subst eo28 | (injection eo28 with f1_ f2_ f3_; have f4_ := f1_.symm; have f5_ := f3_.symm; clear f1_ f2_ f3_; subst f4_; subst f5_))
      refine hK.out _ _ ⟨(blk_cell BK222.out 0).trans rfl, (blk_cell BK222.out 1).trans rfl, HS2_⟩ (fun hHeld => ?_)
      clear hK K
      refine norm_ (a' := ?_) ?_ ?_
      rotate_left
      ·show Act.put _ (some 33) _ = _
       simp only [Act.put, List.setIfInBounds_toArray, List.set_cons_zero, List.set_cons_succ, i64_w, i32_w]
       rfl
      refine one_ (i := 7) (N := some 35) #[true, true, true, true, true, true, true, true, false] rfl rfl (one_of HT_.out (by kernel_rfl)) (by decide) (fun K hK => ?_)
      refine goes_ Try.func142 (by kernel_rfl) rfl #[.agg #[.int .i64 a1_0, .slice A1_1 l1_1.length c1_1], .slice Ao28 y232.length co28, .int .i64 x11_1] (by rfl) rfl rfl (by (try simp only [List.map_toArray, List.map_cons, List.map_nil]); first | done | rfl | (simp only [List.length_drop, List.length_take]; rfl)) ?_
      with_reducible refine (spec_EndOf.calls k1 a1_0 _ _ l1_1 _ _ y232 x11_1 t235 _ ?side1 ?side2 ?side3 ?side4 A22.out).mono ?_
      (case side1 => exact Kd.C_foot_now HR1_1.out (kb3_ HK GW222.out GW223.out GW230.out))
      (case side2 => exact HC1_1.out)
      (case side3 => repeat (first | exact (Kd.R_reads' HO234.out).2.2 | (with_reducible refine Kd.C_alloc ?_ _) | (with_reducible refine Kd.C_drewN ?_ _) | (with_reducible refine Kd.C_drew ?_)))
      (case side4 => exact (Kd.R_reads' HO234.out).2.1)
      rintro e w29 ⟨rfl, hb⟩
      have HS2_ := (hb.cell (World.block_lt_of_cell? _ _ (hHeld.2.2))).trans (hHeld.2.2)
      refine ⟨_, rfl, ?_⟩
      have n0_ := Aside0.mk (Kd.R_below (kr_ HO_9) hb)
      have n1_ := Aside0.mk (Kd.R_below (kr_ HO_231000) hb)
      have n2_ := Aside0.mk (Kd.R_below (kr_ HO234) hb)
      have n3_ := Aside0.mk (blk_below (g := gb222) (o := .cells #[.int .i64 a1_0, .slice A1_1 l1_1.length c1_1] 54 (0, 0)) (bk_ BK222) hb)
      have n4_ := Aside0.mk (blk_below (g := gb223) (o := .cells #[.slice none 0 0] 61 (0, 0)) (bk_ BK223) hb)
      have n5_ := Aside0.mk (blk_below (g := gb230) (o := .cells #[u231000] 61 (0, 0)) (bk_ BK230) hb)
      have n6_ := Aside0.mk (IsS113.below (hi3_ HI0 NB0_222.out NB0_223.out NB0_230.out) hb)
      have n7_ := Aside0.mk (KeepBut.trans (kb3_ HK GW222.out GW223.out GW230.out) (KeepBut.of_below hb g none) (.inl rfl))
      have n8_ := Aside0.mk (below_step (bw4_ HB (IsS113.ge HI0.out) GE222.out GE223.out GE230.out) hb)
      clear HO_9
      clear HO_231000
      clear HO234
      clear BK222
      clear BK223
      clear BK230
      clear HI0
      clear HK
      clear HB
      have HO_9 := n0_
      have HO_231000 := n1_
      have HO234 := n2_
      have BK222 := n3_
      have BK223 := n4_
      have BK230 := n5_
      have HI0 := n6_
      have HK := n7_
      have HB := n8_
      clear n0_ n1_ n2_ n3_ n4_ n5_ n6_ n7_ n8_
      (try clear hb)
      (try clear hb2)
      (try clear hk)
      (try clear hi)
      refine hK.out _ _ ⟨(blk_cell BK222.out 0).trans rfl, (blk_cell BK222.out 1).trans rfl, HS2_⟩ (fun hHeld => ?_)
      clear hK K
      refine norm_ (a' := ?_) ?_ ?_
      rotate_left
      ·show Act.put _ (some 35) _ = _
       simp only [Act.put, List.setIfInBounds_toArray, List.set_cons_zero, List.set_cons_succ, i64_w, i32_w]
       rfl
      refine pure_ (i := 8) (N := some 11) (v := ?_) (a' := ?_) #[true, true, true, true, true, true, true, true, true] rfl rfl (any_of HT_.out (by kernel_rfl)) (fun _ _ _ h => h) (Or.inl ⟨by rfl, ?_⟩) ?_ ?_
      rotate_left
      ·intro w'
       go_simp
       with_reducible rfl
      rotate_left
      ·simp only [Act.put, List.setIfInBounds_toArray, List.set_cons_zero, List.set_cons_succ, i64_w, i32_w]
       rfl
      refine done_ (done_of HT_.out (by kernel_rfl)) ?_
      have hnb30 := NB230_222.out
      have hnc30 := NB222_230.out
      have hnb31 := NB230_223.out
      have hnc31 := NB223_230.out
      have hnb32 := NB230_0.out
      have hnc32 := NB0_230.out
      have hcz33_0 : w29.cell? ⟨gb230, 0, none⟩ = some (u231000) := (blk_cell BK230.out 0).trans rfl
      have hfz33_0 := blk_frozen BK230.out 0
      try go_wp2_with (first | ((with_reducible refine gate_builtin (b := .append) (xs := #[.tmp 37, .tmp 39]) rfl ?_); at_builtin; refine Kd.R_append (Kd.int .i64) w.heap.size rfl (.tmp 37) (.tmp 39) 37 3 (.int .i64 0) 8 rfl Try.underlying37 info3 rfl (by decide) (by omega) u231000 x231000_1 t235 [.int .i64 t235] (fun k_ => some k_ ≠ (.slice (some ad231) t224.length co24 : Value).ownBlock ∧ some k_ ≠ (.slice Ao28 y232.length co28 : Value).ownBlock) (fun _ => False) rfl rfl ?aP (fun _ hk => hk.elim) ?aF ?aO (Below.refl _ _) ?aS ?aL ?_; (case aP => exact rfl); (case aF => exact (fun k_ hk => ⟨Kd.fresh' (Kd.R_lt (kr_ HO_9)) k_ hk, Kd.fresh' (Kd.R_lt (kr_ HO234)) k_ hk⟩)); (case aO => exact (kr_ HO_231000)); (case aS => exact (keep_size (w := w) (g := g) (row := none) (kb3_ HK GW222.out GW223.out GW230.out))); (case aL => have := LMc23.out; omega); intro v237 w34 ho hb hg hat; rw [← Ny236.out] at ho; have n0_ := Aside0.mk (Kd.R_after (ok := (fun k_ => some k_ ≠ (.slice Ao28 y232.length co28 : Value).ownBlock)) (by (with_reducible repeat (first | apply Kd.R_alloc | apply Kd.R_drewN | apply Kd.R_drew)); exact Kd.R_mono HO_9.out (fun _ hk => ⟨hk.2, hk.1⟩)) hg hat); have n1_ := Aside0.mk (blk_grown (g := gb222) (o := .cells #[.int .i64 a1_0, .slice A1_1 l1_1.length c1_1] 54 (0, 0)) (bk_ BK222) hg (Kd.R_ne HO_231000.out BK222.out (by decide))); have n2_ := Aside0.mk (blk_grown (g := gb223) (o := .cells #[.slice none 0 0] 61 (0, 0)) (bk_ BK223) hg (Kd.R_ne HO_231000.out BK223.out (by decide))); have n3_ := Aside0.mk (blk_grown (g := gb230) (o := .cells #[u231000] 61 (0, 0)) (bk_ BK230) hg (Kd.R_ne HO_231000.out BK230.out (by decide))); have n4_ := Aside0.mk (IsS113.grown (hi3_ HI0 NB0_222.out NB0_223.out NB0_230.out) hg (IsS113.own_ne HI0.out HO_231000.out (by decide))); have n5_ := Aside0.mk (Kd.R_after (ok := (fun k_ => some k_ ≠ (.slice (some ad231) t224.length co24 : Value).ownBlock)) (by (with_reducible repeat (first | apply Kd.R_alloc | apply Kd.R_drewN | apply Kd.R_drew)); exact Kd.R_mono HO234.out (fun _ hk => ⟨hk.1.2, hk.2⟩)) hg hat); have n6_ := Aside0.mk (below_weaken (bw4_ HB (IsS113.ge HI0.out) GE222.out GE223.out GE230.out) HL.out hb); have n7_ := Aside0.mk (KeepBut.trans (kb3_ HK GW222.out GW223.out GW230.out) (KeepBut.of_grown hg g) (Kd.R_base2 HO_231000.out)); have n8_ := Aside0.mk (ho); clear HO_9; clear BK222; clear BK223; clear BK230; clear HI0; clear HO234; clear HB; clear HK; clear HO_231000; have HO_9 := n0_; have BK222 := n1_; have BK223 := n2_; have BK230 := n3_; have HI0 := n4_; have HO234 := n5_; have HB := n6_; have HK := n7_; have HO238 := n8_; clear n0_ n1_ n2_ n3_ n4_ n5_ n6_ n7_ n8_; clear ho hb hg hat; obtain ⟨Ao35, co35, eo35⟩ := Kd.R_slice HO238.out; subst eo35; have hcz36_0 : w34.cell? ⟨gb230, 0, none⟩ = some (u231000) := (blk_cell BK230.out 0).trans rfl; have hfz36_0 := blk_frozen BK230.out 0))
      go_roundg k1
      case measure => have := HK1.out; omega
      case rel => exact ⟨(t235), (wrap64 (x12_1 + 1)), (y236), (.slice Ao35 y236.length co35), (by first | rfl | (simp; done) | (simp [*]; done)), (by first | rfl | (simp; done) | (simp [*]; done)), H', ⟨by have := HK1.out; omega⟩, ⟨by (with_reducible repeat (first | apply Kd.R_alloc | apply Kd.R_drewN | apply Kd.R_drew)); exact Kd.R_mono (Kd.R_far (p := ⟨gb230, 0, none⟩) (Kd.R_types HO_9.out BK230.out (by decide)) (fun _ hk => hk.2) (.slice Ao35 y236.length co35)) (fun _ hk => hk.1.2)⟩, ⟨by (with_reducible repeat (first | apply Kd.R_alloc | apply Kd.R_drewN | apply Kd.R_drew)); exact Kd.R_mono (Kd.R_far (p := ⟨gb230, 0, none⟩) (Kd.R_types HO238.out BK230.out (by decide)) (fun _ hk => hk.2) (.slice Ao35 y236.length co35)) (fun _ hk => hk.1.1)⟩, ⟨by (with_reducible repeat (first | refine blk_drewN ?_ _ | refine blk_drew ?_ | refine blk_alloc ?_ _)); refine blk_far ?_ NB222_230.out _; (with_reducible repeat (first | refine blk_drewN ?_ _ | refine blk_drew ?_ | refine blk_alloc ?_ _)); exact BK222.out⟩, ⟨by (with_reducible repeat (first | refine blk_drewN ?_ _ | refine blk_drew ?_ | refine blk_alloc ?_ _)); refine blk_far ?_ NB223_230.out _; (with_reducible repeat (first | refine blk_drewN ?_ _ | refine blk_drew ?_ | refine blk_alloc ?_ _)); exact BK223.out⟩, ⟨by (with_reducible repeat (first | refine blk_drewN ?_ _ | refine blk_drew ?_ | refine blk_alloc ?_ _)); refine blk_put (cs := #[u231000]) ?_ 0 _ rfl; (with_reducible repeat (first | refine blk_drewN ?_ _ | refine blk_drew ?_ | refine blk_alloc ?_ _)); exact BK230.out⟩, ⟨hi3_ HI0 NB0_222.out NB0_223.out NB0_230.out⟩, ⟨kb3_ HK GW222.out GW223.out GW230.out⟩, ⟨bw4_ HB (IsS113.ge HI0.out) GE222.out GE223.out GE230.out⟩⟩
     ·rw [if_neg c23] at H
      exact absurd H (by simp)
    ·rw [if_neg c21] at H
     exact absurd H (by simp)
   ·rw [if_neg c20] at H
    have c20b0 : decide (x12_1 < (t224.length : Int)) = false := decide_eq_false c20
    clear c20
    have H' := Aside0.mk H
    clear H
    obtain ⟨Ao37, co37, eo37⟩ := Kd.R_slice HO_9.out
    subst eo37
    go_wp2
    go_loopg [13] k1 (fun kq v13 w' => ∃ (x13_2 : Int) (x1001_2 : Int) (x1002_2 : Int) (x231000_2 : List Int) (u231000 : Value), v13 = .int .i64 x13_2 ∧ Aside0 (spec_l13Trace.l1 kq x13_2 s0_0 x1001_2 x1002_2 x231000_2 = some (r1, r2, r3)) ∧ Aside0 (kq ≤ k1) ∧ Aside0 (Kd.R (Kd.int .i64) 3 w' w.heap.size (fun _ => True) u231000 x231000_2) ∧ Aside0 (w'.heap[gb222]? = some (.cells #[.int .i64 a1_0, (.slice A1_1 l1_1.length c1_1)] 54 (0, 0))) ∧ Aside0 (w'.heap[gb223]? = some (.cells #[(.slice none 0 0)] 61 (0, 0))) ∧ Aside0 (w'.heap[gb230]? = some (.cells #[u231000] 61 (0, 0))) ∧ Aside0 (IsS113 w0 w' g s0_0 x1001_2 x1002_2) ∧ Aside0 (KeepBut w w' g none) ∧ Aside0 (Below w0.heap.size w0 w'))
    case atStart => exact ⟨(0), (s0_1), (s0_2), (x231000_1), (u231000), (by first | rfl | (simp; done) | (simp [*]; done)), H', ⟨Nat.le_refl _⟩, ⟨by (with_reducible repeat (first | apply Kd.R_alloc | apply Kd.R_drewN | apply Kd.R_drew)); exact Kd.R_mono HO_231000.out (fun _ hk => trivial)⟩, ⟨bk_ BK222⟩, ⟨bk_ BK223⟩, ⟨bk_ BK230⟩, ⟨hi3_ HI0 NB0_222.out NB0_223.out NB0_230.out⟩, ⟨kb3_ HK GW222.out GW223.out GW230.out⟩, ⟨bw4_ HB (IsS113.ge HI0.out) GE222.out GE223.out GE230.out⟩⟩
    case round =>
     clear H'
     (try clear c1); (try clear c2); (try clear p2); (try clear q2); (try clear hx2); (try clear c3); (try clear p6); (try clear c8); (try clear c9); (try clear c12); (try clear c14); (try clear c16); (try clear c17); (try clear c18); (try clear c20); (try clear c20b0); (try clear c21); (try clear c21b0); (try clear c23); (try clear p23); (try clear q23); (try clear hx23); (try clear c30); (try clear c31); (try clear c32); (try clear hcz10_0); (try clear hcz10_1); (try clear hcz19_0); (try clear hcz33_0); (try clear hcz36_0); (try clear hfz10_0); (try clear hfz10_1); (try clear hfz19_0); (try clear hfz33_0); (try clear hfz36_0); (try clear hx231_0); (try clear p2); (try clear p231); (try clear q231)
     obtain ⟨x13_2, x1001_2, x1002_2, x231000_2, u231000, rfl, HA, HK2, HO_231000, BK222, BK223, BK230, HI0, HK, HB⟩ := hrel
     cases gk with
     | zero => exact absurd HA.out (by simp [spec_l13Trace.l1])
     | succ k2 =>
      have H := HA.out
      clear HA
      simp only [spec_l13Trace.l1] at H
      by_cases c38 : x13_2 < (x231000_2.length : Int)
      ·rw [if_pos c38] at H
       have c38b0 : decide (x13_2 < (x231000_2.length : Int)) = true := decide_eq_true c38
       clear c38
       replace H := Option.bind_eq_some_iff.mp H
       obtain ⟨⟨t239, t240, t241⟩, A390, H⟩ := H
       replace H : (if t239 = true then (if 0 ≤ x13_2 then (spec_l13Trace.l1 k2 (wrap64 (x13_2 + 1)) s0_0 t240 t241 (x231000_2.set (x13_2 : Int).toNat (-1))) else (none)) else (spec_l13Trace.l1 k2 (wrap64 (x13_2 + 1)) s0_0 t240 t241 x231000_2)) = some (r1, r2, r3) := H
       have A39 := Aside0.mk A390
       clear A390
       by_cases c40 : t239 = true
       ·subst c40
        have H1 : (if 0 ≤ x13_2 then (spec_l13Trace.l1 k2 (wrap64 (x13_2 + 1)) s0_0 t240 t241 (x231000_2.set (x13_2 : Int).toNat (-1))) else (none)) = some (r1, r2, r3) := by rw [if_pos rfl] at H; exact H
        clear H
        have H := H1
        clear H1
        by_cases c41 : 0 ≤ x13_2
        ·rw [if_pos c41] at H
         have c41b0 : decide (0 ≤ x13_2) = true := decide_eq_true c41
         clear c41
         obtain ⟨y242, hy242⟩ : ∃ y_ : List Int, y_ = (x231000_2.set (x13_2 : Int).toNat (-1)) := ⟨_, rfl⟩
         replace H : (spec_l13Trace.l1 k2 (wrap64 (x13_2 + 1)) s0_0 t240 t241 y242) = some (r1, r2, r3) := by first | (rw [hy242]; with_reducible exact H) | (have H2_ := (Option.bind_some _ _).symm.trans H; rw [hy242]; with_reducible exact H2_) | (have H2_ := (Option.bind_some _ _).symm.trans H; with_reducible exact H2_) | with_reducible exact H | (rw [hy242]; exact H) | exact H
         have Ny242 := Aside0.mk hy242
         clear hy242
         have H' := Aside0.mk H
         clear H
         have hnb43 := NB230_222.out
         have hnc43 := NB222_230.out
         have hnb44 := NB230_223.out
         have hnc44 := NB223_230.out
         have hnb45 := NB230_0.out
         have hnc45 := NB0_230.out
         have hcz46_0 : wr.cell? ⟨gb230, 0, none⟩ = some (u231000) := (blk_cell BK230.out 0).trans rfl
         have hfz46_0 := blk_frozen BK230.out 0
         obtain ⟨Ao47, co47, eo47⟩ := Kd.R_slice HO_231000.out
         subst eo47
         go_wp2_with (first | ((with_reducible refine gate_callee (f := 122) rfl ?_); refine goesL_ (some 50) rfl rfl Try.func122 (by kernel_rfl) rfl #[.pointer (some ⟨g, 0, none⟩), .int .i64 6] rfl (by (try simp only [List.map_toArray, List.map_cons, List.map_nil]); first | done | rfl | (simp only [List.length_drop, List.length_take]; rfl)) ?_; (with_reducible refine (spec_l1Once.calls g s0_0 x1001_2 x1002_2 6 true t240 t241 w0 _ ?side1 ?side2 A39.out).mono ?_); (case side1 => repeat (first | (with_reducible first | exact HI0.out | apply IsS113.alloc | apply IsS113.drewN | apply IsS113.drew | apply IsS113.set_1 | apply IsS113.set_2 | refine IsS113.far ?_ NB0_222.out _ | refine IsS113.far ?_ NB0_223.out _ | refine IsS113.far ?_ NB0_230.out _) | exact HI0.out)); (case side2 => repeat (first | (with_reducible first | exact HB.out | apply below_alloc | apply pw_below_drewN | apply below_drew1 | refine below_set ?_ (IsS113.ge HI0.out) | refine below_set ?_ GE222.out | refine below_set ?_ GE223.out | refine below_set ?_ GE230.out) | exact HB.out)); rintro e w48 ⟨rfl, hi, hb, hk⟩; refine ⟨_, rfl, ?_⟩; have n0_ := Aside0.mk (Kd.R_mono (Kd.R_keep (IsS113.apart (show IsS113 w0 _ g s0_0 x1001_2 x1002_2 from hi3_ HI0 NB0_222.out NB0_223.out NB0_230.out) (kr_ HO_231000) (by decide)) hk (fun _ h => h.2)) (fun _ h => h.1)); have n1_ := Aside0.mk (KeepBut.blk hk (g' := gb222) (o := .cells #[.int .i64 a1_0, .slice A1_1 l1_1.length c1_1] 54 (0, 0)) (bk_ BK222) NB222_0.out (by simp)); have n2_ := Aside0.mk (KeepBut.blk hk (g' := gb223) (o := .cells #[.slice none 0 0] 61 (0, 0)) (bk_ BK223) NB223_0.out (by simp)); have n3_ := Aside0.mk (KeepBut.blk hk (g' := gb230) (o := .cells #[.slice Ao47 x231000_2.length co47] 61 (0, 0)) (bk_ BK230) NB230_0.out (by simp)); have n4_ := Aside0.mk (KeepBut.trans (kb3_ HK GW222.out GW223.out GW230.out) hk (.inl rfl)); have n5_ := Aside0.mk (hb); have n6_ := Aside0.mk (hi); clear HO_231000; clear BK222; clear BK223; clear BK230; clear HK; clear HB; clear HI0; have HO_231000 := n0_; have BK222 := n1_; have BK223 := n2_; have BK230 := n3_; have HK := n4_; have HB := n5_; have HI0 := n6_; clear n0_ n1_ n2_ n3_ n4_ n5_ n6_; (try clear hb); (try clear hb2); (try clear hk); (try clear hi); have hcz49_0 : w48.cell? ⟨gb230, 0, none⟩ = some (.slice Ao47 x231000_2.length co47) := (blk_cell BK230.out 0).trans rfl; have hfz49_0 := blk_frozen BK230.out 0; have p42 : 0 ≤ (x13_2 : Int) := of_decide_eq_true (by first | (with_reducible assumption) | assumption); have q42 : (x13_2 : Int) < ((x231000_2.length : Int) : Int) := of_decide_eq_true (by first | (with_reducible assumption) | assumption); obtain ⟨go42, co42, eo42, gb42, gl42, cl42, HG42⟩ := Kd.R_form HO_231000.out (by omega); (first | cases eo42 | (injection eo42 with ea_ en_ ec_; (first | subst ea_ | (injection ea_ with ea_; subst ea_)); subst ec_; clear en_)); have GB42 := Aside0.mk gb42; have GG42 := Aside0.mk HG42; clear gb42 gl42 HG42; obtain ⟨hx42_0, hf42_0⟩ := Kd.R_celln 0 HO_231000.out (x13_2 : Int) p42 q42; replace p42 := eq_true p42; replace q42 := eq_true q42; obtain ⟨hy50_, hz50_⟩ := Kd.R_celln 0 HO_231000.out (x13_2 : Int) (of_decide_eq_true (by first | (with_reducible assumption) | assumption)) (of_decide_eq_true (by first | (with_reducible assumption) | assumption)); have HP50 := Kd.R_putg HO_231000.out (x13_2 : Int) (-1)) | ((with_reducible refine gate_store (t := 3) (p := 54) rfl ?_); refine store_event (t := 3) (p := 54) (v := ?vo_w51) (w1 := (w48.setCell ⟨go42, (x13_2 : Int).toNat, none⟩ (.int .i64 (-1)))) ?hg ?ho ?hn ?hr ?_; (case ho => rfl); (case hg => rfl); (case hn => rfl); (case hr => first | (go_simp; done) | (go_simp; rfl)); intro w51 hw; have hg : w48.grownBy w51 (some go42) := (by rw [hw]; exact HP50.2); have hp_ : Kd.R (Kd.int .i64) 3 w51 w.heap.size (fun _ => True) (.slice (some ⟨go42, 0, none⟩) x231000_2.length co47) y242 := (by rw [hw, Ny242.out]; exact HP50.1); clear HP50; have n0_ := Aside0.mk (hp_); have n1_ := Aside0.mk (blk_grown (g := gb222) (o := .cells #[.int .i64 a1_0, .slice A1_1 l1_1.length c1_1] 54 (0, 0)) (bk_ BK222) hg (Kd.R_ne HO_231000.out BK222.out (by decide))); have n2_ := Aside0.mk (blk_grown (g := gb223) (o := .cells #[.slice none 0 0] 61 (0, 0)) (bk_ BK223) hg (Kd.R_ne HO_231000.out BK223.out (by decide))); have n3_ := Aside0.mk (blk_grown (g := gb230) (o := .cells #[.slice (some ⟨go42, 0, none⟩) x231000_2.length co47] 61 (0, 0)) (bk_ BK230) hg (Kd.R_ne HO_231000.out BK230.out (by decide))); have n4_ := Aside0.mk (IsS113.grown (hi3_ HI0 NB0_222.out NB0_223.out NB0_230.out) hg (IsS113.own_ne HI0.out HO_231000.out (by decide))); have n5_ := Aside0.mk ((by rw [hw]; exact below_set (HB.out) (Nat.le_trans HL.out GB42.out) : Below w0.heap.size w0 w51)); have n6_ := Aside0.mk (KeepBut.trans (kb3_ HK GW222.out GW223.out GW230.out) (KeepBut.of_grown hg g) (Kd.R_base2 HO_231000.out)); clear HO_231000; clear BK222; clear BK223; clear BK230; clear HI0; clear HB; clear HK; have HO_231000 := n0_; have BK222 := n1_; have BK223 := n2_; have BK230 := n3_; have HI0 := n4_; have HB := n5_; have HK := n6_; clear n0_ n1_ n2_ n3_ n4_ n5_ n6_; clear hg hw hp_))
         go_roundg k2
         case measure => have := HK1.out; have := HK2.out; omega
         case rel => exact ⟨(wrap64 (x13_2 + 1)), (t240), (t241), (y242), (.slice (some ⟨go42, 0, none⟩) x231000_2.length co47), (by first | rfl | (simp; done) | (simp [*]; done)), H', ⟨by have := HK1.out; have := HK2.out; omega⟩, ⟨kr_ HO_231000⟩, ⟨bk_ BK222⟩, ⟨bk_ BK223⟩, ⟨bk_ BK230⟩, ⟨hi3_ HI0 NB0_222.out NB0_223.out NB0_230.out⟩, ⟨kb3_ HK GW222.out GW223.out GW230.out⟩, ⟨bw4_ HB (IsS113.ge HI0.out) GE222.out GE223.out GE230.out⟩⟩
        ·rw [if_neg c41] at H
         exact absurd H (by simp)
       ·replace c40 := Bool.eq_false_iff.mpr c40
        subst c40
        have H1 : (spec_l13Trace.l1 k2 (wrap64 (x13_2 + 1)) s0_0 t240 t241 x231000_2) = some (r1, r2, r3) := by rw [if_neg (show ¬ (false = true) by decide)] at H; exact H
        clear H
        have H := H1
        clear H1
        have H' := Aside0.mk H
        clear H
        have hnb52 := NB230_222.out
        have hnc52 := NB222_230.out
        have hnb53 := NB230_223.out
        have hnc53 := NB223_230.out
        have hnb54 := NB230_0.out
        have hnc54 := NB0_230.out
        have hcz55_0 : wr.cell? ⟨gb230, 0, none⟩ = some (u231000) := (blk_cell BK230.out 0).trans rfl
        have hfz55_0 := blk_frozen BK230.out 0
        obtain ⟨Ao56, co56, eo56⟩ := Kd.R_slice HO_231000.out
        subst eo56
        go_wp2_with (first | ((with_reducible refine gate_callee (f := 122) rfl ?_); refine goesL_ (some 50) rfl rfl Try.func122 (by kernel_rfl) rfl #[.pointer (some ⟨g, 0, none⟩), .int .i64 6] rfl (by (try simp only [List.map_toArray, List.map_cons, List.map_nil]); first | done | rfl | (simp only [List.length_drop, List.length_take]; rfl)) ?_; (with_reducible refine (spec_l1Once.calls g s0_0 x1001_2 x1002_2 6 false t240 t241 w0 _ ?side1 ?side2 A39.out).mono ?_); (case side1 => repeat (first | (with_reducible first | exact HI0.out | apply IsS113.alloc | apply IsS113.drewN | apply IsS113.drew | apply IsS113.set_1 | apply IsS113.set_2 | refine IsS113.far ?_ NB0_222.out _ | refine IsS113.far ?_ NB0_223.out _ | refine IsS113.far ?_ NB0_230.out _) | exact HI0.out)); (case side2 => repeat (first | (with_reducible first | exact HB.out | apply below_alloc | apply pw_below_drewN | apply below_drew1 | refine below_set ?_ (IsS113.ge HI0.out) | refine below_set ?_ GE222.out | refine below_set ?_ GE223.out | refine below_set ?_ GE230.out) | exact HB.out)); rintro e w57 ⟨rfl, hi, hb, hk⟩; refine ⟨_, rfl, ?_⟩; have n0_ := Aside0.mk (Kd.R_mono (Kd.R_keep (IsS113.apart (show IsS113 w0 _ g s0_0 x1001_2 x1002_2 from hi3_ HI0 NB0_222.out NB0_223.out NB0_230.out) (kr_ HO_231000) (by decide)) hk (fun _ h => h.2)) (fun _ h => h.1)); have n1_ := Aside0.mk (KeepBut.blk hk (g' := gb222) (o := .cells #[.int .i64 a1_0, .slice A1_1 l1_1.length c1_1] 54 (0, 0)) (bk_ BK222) NB222_0.out (by simp)); have n2_ := Aside0.mk (KeepBut.blk hk (g' := gb223) (o := .cells #[.slice none 0 0] 61 (0, 0)) (bk_ BK223) NB223_0.out (by simp)); have n3_ := Aside0.mk (KeepBut.blk hk (g' := gb230) (o := .cells #[.slice Ao56 x231000_2.length co56] 61 (0, 0)) (bk_ BK230) NB230_0.out (by simp)); have n4_ := Aside0.mk (KeepBut.trans (kb3_ HK GW222.out GW223.out GW230.out) hk (.inl rfl)); have n5_ := Aside0.mk (hb); have n6_ := Aside0.mk (hi); clear HO_231000; clear BK222; clear BK223; clear BK230; clear HK; clear HB; clear HI0; have HO_231000 := n0_; have BK222 := n1_; have BK223 := n2_; have BK230 := n3_; have HK := n4_; have HB := n5_; have HI0 := n6_; clear n0_ n1_ n2_ n3_ n4_ n5_ n6_; (try clear hb); (try clear hb2); (try clear hk); (try clear hi)))
        go_roundg k2
        case measure => have := HK1.out; have := HK2.out; omega
        case rel => exact ⟨(wrap64 (x13_2 + 1)), (t240), (t241), (x231000_2), (.slice Ao56 x231000_2.length co56), (by first | rfl | (simp; done) | (simp [*]; done)), H', ⟨by have := HK1.out; have := HK2.out; omega⟩, ⟨kr_ HO_231000⟩, ⟨bk_ BK222⟩, ⟨bk_ BK223⟩, ⟨bk_ BK230⟩, ⟨hi3_ HI0 NB0_222.out NB0_223.out NB0_230.out⟩, ⟨kb3_ HK GW222.out GW223.out GW230.out⟩, ⟨bw4_ HB (IsS113.ge HI0.out) GE222.out GE223.out GE230.out⟩⟩
      ·rw [if_neg c38] at H
       have c38b0 : decide (x13_2 < (x231000_2.length : Int)) = false := decide_eq_false c38
       clear c38
       simp only [Option.some.injEq, Prod.mk.injEq] at H
       obtain ⟨rfl, rfl, rfl⟩ := H
       have hnb58 := NB230_222.out
       have hnc58 := NB222_230.out
       have hnb59 := NB230_223.out
       have hnc59 := NB223_230.out
       have hnb60 := NB230_0.out
       have hnc60 := NB0_230.out
       have hcz61_0 : wr.cell? ⟨gb230, 0, none⟩ = some (u231000) := (blk_cell BK230.out 0).trans rfl
       have hfz61_0 := blk_frozen BK230.out 0
       obtain ⟨Ao62, co62, eo62⟩ := Kd.R_slice HO_231000.out
       subst eo62
       have hnb63 := NB223_222.out
       have hnc63 := NB222_223.out
       have hnb64 := NB223_0.out
       have hnc64 := NB0_223.out
       have hcz65_0 : wr.cell? ⟨gb223, 0, none⟩ = some (.slice none 0 0) := (blk_cell BK223.out 0).trans rfl
       have hfz65_0 := blk_frozen BK223.out 0
       go_wp2
       refine bodyPost_ret (results_cell_row rfl _ _ gb223 61 #[.slice Ao62 x231000_2.length co62] (0, 0) _ rfl (by (with_reducible repeat (first | refine blk_drewN ?_ _ | refine blk_drew ?_ | refine blk_alloc ?_ _)); refine blk_put (cs := #[.slice none 0 0]) ?_ 0 _ rfl; (with_reducible repeat (first | refine blk_drewN ?_ _ | refine blk_drew ?_ | refine blk_alloc ?_ _)); exact BK223.out) Try.underlying61 rfl (by kernel_rfl)) rfl ?_
       exact ⟨_, by first | rfl | (simp [errW_none, errW_some] <;> rfl) | (simp [*, errW_none, errW_some] <;> rfl), by (with_reducible repeat (first | apply Kd.R_alloc | apply Kd.R_drewN | apply Kd.R_drew)); exact Kd.R_mono (Kd.R_far (p := ⟨gb223, 0, none⟩) (Kd.R_types HO_231000.out BK223.out (by decide)) (fun _ hk => hk.2) (.slice Ao62 x231000_2.length co62)) (fun _ hk => trivial), hi3_ HI0 NB0_222.out NB0_223.out NB0_230.out, bw4_ HB (IsS113.ge HI0.out) GE222.out GE223.out GE230.out, kb3_ HK GW222.out GW223.out GW230.out⟩

/-! ### spec_l13Draw: function 95 -/
def spec_l13Draw.l0 : Nat → List (S61) → Int → List Int → Int → Int → Int → List (S63) → Option (Int × (List (S63)) × (List (S61)) × Int × Int)
 | 0, _, _, _, _, _, _, _ => none
 | k + 1, x5, x6, x1000, x1001, x1002, x251000, x251001 => if x6 > 0 then ((spec_l1Below.f x1000 x1001 x1002 x251000).bind fun bt257 => ((spec_l1Below.f x1000 bt257.2.1 bt257.2.2 x251000).bind fun bt260 => ((spec_l13Trace.f k x1000 bt260.2.1 bt260.2.2 x251000 x251001 bt257.1 bt260.1).bind fun bt263 => (if x5.length < 5864062014805 then (spec_l13Draw.l0 k (x5 ++ [(⟨bt263.1⟩ : S61)]) (wrap64 (x6 - 1)) x1000 bt263.2.1 bt263.2.2 x251000 x251001) else (none))))) else (some (x251000, x251001, x5, x1001, x1002))
def spec_l13Draw.f (k : Nat) (s0_0 : List Int) (s0_1 : Int) (s0_2 : Int) : Option (Int × (List (S63)) × (List (S61)) × Int × Int) := (spec_l7Draw.f k s0_0 s0_1 s0_2).bind fun bt244 => ((spec_l1Below.f s0_0 bt244.2.2.1 bt244.2.2.2 5).bind fun bt254 => (spec_l13Draw.l0 k (([] : List (S61))) bt254.1 s0_0 bt254.2.1 bt254.2.2 bt244.1 bt244.2.1))
theorem spec_l13Draw.mono_l : ∀ k, (∀ y0 y1 y2 y3 y4 y5 y6, LeO (spec_l13Draw.l0 k y0 y1 y2 y3 y4 y5 y6) (spec_l13Draw.l0 (k + 1) y0 y1 y2 y3 y4 y5 y6))
 | 0 => fun _ _ _ _ _ _ _ r h => by simp [spec_l13Draw.l0] at h
 | k + 1 => by
  have ih0 := spec_l13Draw.mono_l k
  ·intro y0 y1 y2 y3 y4 y5 y6
   unfold spec_l13Draw.l0
   repeat' first
   | (with_reducible exact ih0 _ _ _ _ _ _ _)
   | (with_reducible exact spec_l13Trace.mono _ _ _ _ _ _ _ _)
   | (with_reducible exact spec_l7Draw.mono _ _ _ _)
   | (with_reducible exact LeO.refl _)
   | (with_reducible exact LeO.none _)
   | (with_reducible refine LeO.ite ?_ ?_)
   | (with_reducible refine LeO.bind ?_ (fun _ => ?_))
   | exact ih0 _ _ _ _ _ _ _
   | exact spec_l13Trace.mono _ _ _ _ _ _ _ _
   | exact spec_l7Draw.mono _ _ _ _
   | exact LeO.none _
   | refine LeO.ite ?_ ?_
   | refine LeO.bind ?_ (fun _ => ?_)
theorem spec_l13Draw.mono : ∀ a0 a1 a2 k, LeO (spec_l13Draw.f k a0 a1 a2) (spec_l13Draw.f (k + 1) a0 a1 a2) := by
 intro a0 a1 a2 k
 have ih0 := spec_l13Draw.mono_l k
 unfold spec_l13Draw.f
 repeat' first
   | (with_reducible exact ih0 _ _ _ _ _ _ _)
   | (with_reducible exact spec_l13Trace.mono _ _ _ _ _ _ _ _)
   | (with_reducible exact spec_l7Draw.mono _ _ _ _)
   | (with_reducible exact LeO.refl _)
   | (with_reducible exact LeO.none _)
   | (with_reducible refine LeO.ite ?_ ?_)
   | (with_reducible refine LeO.bind ?_ (fun _ => ?_))
   | exact ih0 _ _ _ _ _ _ _
   | exact spec_l13Trace.mono _ _ _ _ _ _ _ _
   | exact spec_l7Draw.mono _ _ _ _
   | exact LeO.none _
   | refine LeO.ite ?_ ?_
   | refine LeO.bind ?_ (fun _ => ?_)
def spec_l13Draw.T7 : Bool × List (List Nat × List Nat) := (true, [([], []), ([], []), ([], []), ([], []), ([], []), ([], []), ([5], [5]), ([4, 6], [4, 6]), ([1, 2, 3, 7, 7], [1, 2, 3, 7]), ([8], [8]), ([0, 9, 8], [0, 9]), ([10, 10, 0, 1, 2, 3, 4, 5, 6, 7, 8, 9, 10], [0, 10])])
def spec_l13Draw.B7 : List Nat := [0, 0, 0, 0, 0, 0, 32, 112, 254, 510, 1023, 2047]
theorem spec_l13Draw.tab7 : rtab .any (opsOf Try.f95 7) = spec_l13Draw.T7 := by kernel_rfl
theorem spec_l13Draw.bits7 : waitsOk spec_l13Draw.T7.2 spec_l13Draw.B7 = true := by kernel_rfl
set_option maxHeartbeats 8000000 in
set_option maxRecDepth 100000 in
theorem spec_l13Draw.calls (k : Nat) (g : Nat) (s0_0 : List Int) (s0_1 : Int) (s0_2 : Int) (r1 : Int) (r2 : List (S63)) (r3 : List (S61)) (r4 : Int) (r5 : Int) (w0 w : World) (hI : IsS113 w0 w g s0_0 s0_1 s0_2) (hB : Below w0.heap.size w0 w) (h : spec_l13Draw.f k s0_0 s0_1 s0_2 = some (r1, r2, r3, r4, r5)) :
  Calls Try.prog 95 #[.pointer (some ⟨g, 0, none⟩)] w fun e w' => ∃ v1_ v2_ : Value, e = .returned (.tuple #[.agg #[.int .i64 r1, v1_], v2_]) ∧ Kd.R k63 63 w' w.heap.size (fun _ => True) v1_ r2 ∧ Kd.S k61 61 w' w.heap.size (fun _ => True) v2_ r3 ∧ IsS113 w0 w' g s0_0 r4 r5 ∧ Below w0.heap.size w0 w' ∧ KeepBut w w' g none := by
 have hu54 := Try.underlying54
 have HI0 := Aside0.mk hI
 have HK := Aside0.mk (KeepBut.refl w g none)
 have HL := Aside0.mk hB.size
 clear hI
 have HW0 := Aside0.mk hB.size
 have HB := Aside0.mk hB
 clear hB
 have H : ((spec_l7Draw.f k s0_0 s0_1 s0_2).bind fun bt244 => ((spec_l1Below.f s0_0 bt244.2.2.1 bt244.2.2.2 5).bind fun bt254 => (spec_l13Draw.l0 k (([] : List (S61))) bt254.1 s0_0 bt254.2.1 bt254.2.2 bt244.1 bt244.2.1))) = some (r1, r2, r3, r4, r5) := h
 clear h
 replace H := Option.bind_eq_some_iff.mp H
 obtain ⟨⟨t244, t245, t248, t249⟩, A20, H⟩ := H
 replace H : ((spec_l1Below.f s0_0 t248 t249 5).bind fun bt254 => (spec_l13Draw.l0 k (([] : List (S61))) bt254.1 s0_0 bt254.2.1 bt254.2.2 t244 t245)) = some (r1, r2, r3, r4, r5) := H
 have A2 := Aside0.mk A20
 clear A20
 obtain ⟨y251, hy251⟩ : ∃ y_ : List (S61), y_ = (([] : List (S61))) := ⟨_, rfl⟩
 replace H : ((spec_l1Below.f s0_0 t248 t249 5).bind fun bt254 => (spec_l13Draw.l0 k y251 bt254.1 s0_0 bt254.2.1 bt254.2.2 t244 t245)) = some (r1, r2, r3, r4, r5) := by first | (rw [hy251]; with_reducible exact H) | (have H2_ := (Option.bind_some _ _).symm.trans H; rw [hy251]; with_reducible exact H2_) | (have H2_ := (Option.bind_some _ _).symm.trans H; with_reducible exact H2_) | with_reducible exact H | (rw [hy251]; exact H) | exact H
 have Ny251 := Aside0.mk hy251
 clear hy251
 replace H := Option.bind_eq_some_iff.mp H
 obtain ⟨⟨t254, t255, t256⟩, A30, H⟩ := H
 replace H : (spec_l13Draw.l0 k y251 t254 s0_0 t255 t256 t244 t245) = some (r1, r2, r3, r4, r5) := H
 have A3 := Aside0.mk A30
 clear A30
 have H' := Aside0.mk H
 clear H
 go_enter Try.func95, Try.ntmps95
 go_wp2_with (first | ((with_reducible refine gate_dst (N := 2) rfl ?_); refine box_event ?hg (N := 2) ?hd (cs := #[.int .i64 0, .slice none 0 0]) (t := 54) ?hr ?_; (case hd => rfl); (case hg => rfl); (case hr => first | (go_simp; done) | (go_simp; rfl)); intro gb243 hg w4 hbox hb; have n0_ := Aside0.mk (IsS113.below (hi0_ HI0) hb); have n1_ := Aside0.mk (KeepBut.trans (kb0_ HK) (KeepBut.of_below hb g none) (.inl rfl)); have n2_ := Aside0.mk (below_step (bw1_ HB (IsS113.ge HI0.out)) hb); have n3_ := Aside0.mk (hbox); have n4_ := Aside0.mk ((by rw [hg]; exact (keep_size (w := w) (g := g) (row := none) (kb0_ HK)) : w.heap.size ≤ gb243)); have n5_ := Aside0.mk ((Nat.le_trans HW0.out (by rw [hg]; exact (keep_size (w := w) (g := g) (row := none) (kb0_ HK)) : w.heap.size ≤ gb243) : w0.heap.size ≤ gb243)); have n6_ := Aside0.mk ((by rw [hg]; exact Nat.ne_of_lt (IsS113.lt (show IsS113 w0 _ g s0_0 s0_1 s0_2 from hi0_ HI0)) : g ≠ gb243)); have n7_ := Aside0.mk ((by rw [hg]; exact Nat.ne_of_gt (IsS113.lt (show IsS113 w0 _ g s0_0 s0_1 s0_2 from hi0_ HI0)) : gb243 ≠ g)); clear HI0; clear HK; clear HB; have HI0 := n0_; have HK := n1_; have HB := n2_; have BK243 := n3_; have GW243 := n4_; have GE243 := n5_; have NB0_243 := n6_; have NB243_0 := n7_; clear n0_ n1_ n2_ n3_ n4_ n5_ n6_ n7_; clear hb hbox hg) | ((with_reducible refine gate_callee (f := 119) rfl ?_); refine goesL_ (some 9) rfl rfl Try.func119 (by kernel_rfl) rfl #[.pointer (some ⟨g, 0, none⟩)] rfl (by (try simp only [List.map_toArray, List.map_cons, List.map_nil]); first | done | rfl | (simp only [List.length_drop, List.length_take]; rfl)) ?_; (with_reducible refine (spec_l7Draw.calls k g s0_0 s0_1 s0_2 t244 t245 t248 t249 w0 _ ?side1 ?side2 A2.out).mono ?_); (case side1 => repeat (first | (with_reducible first | exact HI0.out | apply IsS113.alloc | apply IsS113.drewN | apply IsS113.drew | apply IsS113.set_1 | apply IsS113.set_2 | refine IsS113.far ?_ NB0_243.out _) | exact HI0.out)); (case side2 => repeat (first | (with_reducible first | exact HB.out | apply below_alloc | apply pw_below_drewN | apply below_drew1 | refine below_set ?_ (IsS113.ge HI0.out) | refine below_set ?_ GE243.out) | exact HB.out)); rintro e w5 ⟨v246, rfl, ho0, hi, hb, hk⟩; refine ⟨_, rfl, ?_⟩; have n0_ := Aside0.mk (KeepBut.blk hk (g' := gb243) (o := .cells #[.int .i64 0, .slice none 0 0] 54 (0, 0)) (bk_ BK243) NB243_0.out (by simp)); have n1_ := Aside0.mk (Kd.R_lower ho0 (keep_size (w := w) (g := g) (row := none) (kb1_ HK GW243.out))); have n2_ := Aside0.mk (KeepBut.trans (kb1_ HK GW243.out) hk (.inl rfl)); have n3_ := Aside0.mk (hb); have n4_ := Aside0.mk (hi); clear BK243; clear HK; clear HB; clear HI0; have BK243 := n0_; have HO247 := n1_; have HK := n2_; have HB := n3_; have HI0 := n4_; clear n0_ n1_ n2_ n3_ n4_; (try clear hb); (try clear hb2); (try clear hk); (try clear hi); (try clear ho0)) | ((with_reducible refine gate_dst (N := 4) rfl ?_); refine box_event ?hg (N := 4) ?hd (cs := #[.int .i64 0, .slice none 0 0]) (t := 54) ?hr ?_; (case hd => rfl); (case hg => rfl); (case hr => first | (go_simp; done) | (go_simp; rfl)); intro gb250 hg w6 hbox hb; have n0_ := Aside0.mk (Kd.R_below (kr_ HO247) hb); have n1_ := Aside0.mk (IsS113.below (hi1_ HI0 NB0_243.out) hb); have n2_ := Aside0.mk (blk_below (g := gb243) (o := .cells #[.int .i64 0, .slice none 0 0] 54 (0, 0)) (bk_ BK243) hb); have n3_ := Aside0.mk (KeepBut.trans (kb1_ HK GW243.out) (KeepBut.of_below hb g none) (.inl rfl)); have n4_ := Aside0.mk (below_step (bw2_ HB (IsS113.ge HI0.out) GE243.out) hb); have n5_ := Aside0.mk (hbox); have n6_ := Aside0.mk ((by rw [hg]; exact (keep_size (w := w) (g := g) (row := none) (kb1_ HK GW243.out)) : w.heap.size ≤ gb250)); have n7_ := Aside0.mk ((Nat.le_trans HW0.out (by rw [hg]; exact (keep_size (w := w) (g := g) (row := none) (kb1_ HK GW243.out)) : w.heap.size ≤ gb250) : w0.heap.size ≤ gb250)); have n8_ := Aside0.mk ((by rw [hg]; exact Nat.ne_of_lt (blk_lt (g := gb243) (o := .cells #[.int .i64 0, .slice none 0 0] 54 (0, 0)) (bk_ BK243)) : gb243 ≠ gb250)); have n9_ := Aside0.mk ((by rw [hg]; exact Nat.ne_of_gt (blk_lt (g := gb243) (o := .cells #[.int .i64 0, .slice none 0 0] 54 (0, 0)) (bk_ BK243)) : gb250 ≠ gb243)); have n10_ := Aside0.mk ((by rw [hg]; exact Nat.ne_of_lt (IsS113.lt (show IsS113 w0 _ g s0_0 t248 t249 from hi1_ HI0 NB0_243.out)) : g ≠ gb250)); have n11_ := Aside0.mk ((by rw [hg]; exact Nat.ne_of_gt (IsS113.lt (show IsS113 w0 _ g s0_0 t248 t249 from hi1_ HI0 NB0_243.out)) : gb250 ≠ g)); clear HO247; clear HI0; clear BK243; clear HK; clear HB; have HO247 := n0_; have HI0 := n1_; have BK243 := n2_; have HK := n3_; have HB := n4_; have BK250 := n5_; have GW250 := n6_; have GE250 := n7_; have NB243_250 := n8_; have NB250_243 := n9_; have NB0_250 := n10_; have NB250_0 := n11_; clear n0_ n1_ n2_ n3_ n4_ n5_ n6_ n7_ n8_ n9_ n10_ n11_; clear hb hbox hg; have hnb7 := NB250_243.out; have hnc7 := NB243_250.out; have hnb8 := NB250_0.out; have hnc8 := NB0_250.out; have hcz9_0 : w6.cell? ⟨gb250, 0, none⟩ = some (.int .i64 0) := (blk_cell BK250.out 0).trans rfl; have hcz9_1 : w6.cell? ⟨gb250, 1, none⟩ = some (.slice none 0 0) := (blk_cell BK250.out 1).trans rfl; have hfz9_0 := blk_frozen BK250.out 0; have hfz9_1 := blk_frozen BK250.out 1; obtain ⟨Ao10, co10, eo10⟩ := Kd.R_slice HO247.out; subst eo10) | ((with_reducible refine gate_dst (N := 10) rfl ?_); refine Kd.S_lit k61 _ 61 ?hg (N := 10) ?hd (xs := ([] : List (S61))) (inner := []) (ok := fun _ => True) (okp := fun _ => True) ?hr ?hp (fun _ hk => hk) trivial (Below.refl _ _) (Nat.le_refl _) (by simp) ?_; (case hd => rfl); (case hg => rfl); (case hr => first | (go_simp; done) | (go_simp; rfl)); (case hp => exact (Reps.none _ _)); intro v252 w11 ho12 hb hg_ hnew_; clear hg_ hnew_; (first | rw [← Ny251.out] at ho12 | (simp only [Int.reduceToNat] at ho12; rw [← Ny251.out] at ho12)); have n0_ := Aside0.mk (Kd.R_below (by (with_reducible repeat (first | apply Kd.R_alloc | apply Kd.R_drewN | apply Kd.R_drew)); exact (Kd.R_mono (Kd.R_far (p := ⟨gb250, 1, none⟩) (Kd.R_far (p := ⟨gb250, 0, none⟩) (Kd.R_types HO247.out BK250.out (by decide)) (fun _ hk => hk.2) (.int .i64 t244)) (fun _ hk => hk.2) (.slice Ao10 t245.length co10)) (fun _ h_ => h_.1))) hb); have n1_ := Aside0.mk (Kd.S_lower ho12 (keep_size (w := w) (g := g) (row := none) (kb2_ HK GW243.out GW250.out))); have n2_ := Aside0.mk (IsS113.below (show IsS113 w0 ((w6.setCell ⟨gb250, 0, none⟩ (.int .i64 t244)).setCell ⟨gb250, 1, none⟩ (.slice Ao10 t245.length co10)) g s0_0 t248 t249 from hi2_ HI0 NB0_243.out NB0_250.out) hb); have n3_ := Aside0.mk (blk_below (g := gb243) (o := .cells #[.int .i64 0, .slice none 0 0] 54 (0, 0)) (by (with_reducible repeat (first | refine blk_drewN ?_ _ | refine blk_drew ?_ | refine blk_alloc ?_ _)); refine blk_far ?_ NB243_250.out _; (with_reducible repeat (first | refine blk_drewN ?_ _ | refine blk_drew ?_ | refine blk_alloc ?_ _)); refine blk_far ?_ NB243_250.out _; (with_reducible repeat (first | refine blk_drewN ?_ _ | refine blk_drew ?_ | refine blk_alloc ?_ _)); exact BK243.out) hb); have n4_ := Aside0.mk (blk_below (g := gb250) (o := .cells #[.int .i64 t244, .slice Ao10 t245.length co10] 54 (0, 0)) (by (with_reducible repeat (first | refine blk_drewN ?_ _ | refine blk_drew ?_ | refine blk_alloc ?_ _)); refine blk_put (cs := #[.int .i64 t244, .slice none 0 0]) ?_ 1 _ rfl; (with_reducible repeat (first | refine blk_drewN ?_ _ | refine blk_drew ?_ | refine blk_alloc ?_ _)); refine blk_put (cs := #[.int .i64 0, .slice none 0 0]) ?_ 0 _ rfl; (with_reducible repeat (first | refine blk_drewN ?_ _ | refine blk_drew ?_ | refine blk_alloc ?_ _)); exact BK250.out) hb); have n5_ := Aside0.mk (KeepBut.trans (kb2_ HK GW243.out GW250.out) (KeepBut.of_below hb g none) (.inl rfl)); have n6_ := Aside0.mk (below_step (bw3_ HB (IsS113.ge HI0.out) GE243.out GE250.out) hb); clear HO247; clear HI0; clear BK243; clear BK250; clear HK; clear HB; have HO247 := n0_; have HO253 := n1_; have HI0 := n2_; have BK243 := n3_; have BK250 := n4_; have HK := n5_; have HB := n6_; clear n0_ n1_ n2_ n3_ n4_ n5_ n6_; clear hb ho12) | ((with_reducible refine gate_callee (f := 96) rfl ?_); refine goesL_ (some 12) rfl rfl Try.func96 (by kernel_rfl) rfl #[.pointer (some ⟨g, 0, none⟩), .int .i64 5] rfl (by (try simp only [List.map_toArray, List.map_cons, List.map_nil]); first | done | rfl | (simp only [List.length_drop, List.length_take]; rfl)) ?_; (with_reducible refine (spec_l1Below.calls g s0_0 t248 t249 5 t254 t255 t256 w0 _ ?side1 ?side2 A3.out).mono ?_); (case side1 => repeat (first | (with_reducible first | exact HI0.out | apply IsS113.alloc | apply IsS113.drewN | apply IsS113.drew | apply IsS113.set_1 | apply IsS113.set_2 | refine IsS113.far ?_ NB0_243.out _ | refine IsS113.far ?_ NB0_250.out _) | exact HI0.out)); (case side2 => repeat (first | (with_reducible first | exact HB.out | apply below_alloc | apply pw_below_drewN | apply below_drew1 | refine below_set ?_ (IsS113.ge HI0.out) | refine below_set ?_ GE243.out | refine below_set ?_ GE250.out) | exact HB.out)); rintro e w13 ⟨rfl, hi, hb, hk⟩; refine ⟨_, rfl, ?_⟩; have n0_ := Aside0.mk (KeepBut.blk hk (g' := gb243) (o := .cells #[.int .i64 0, .slice none 0 0] 54 (0, 0)) (bk_ BK243) NB243_0.out (by simp)); have n1_ := Aside0.mk (Kd.R_mono (Kd.R_keep (IsS113.apart (show IsS113 w0 _ g s0_0 t248 t249 from hi2_ HI0 NB0_243.out NB0_250.out) (kr_ HO247) (by decide)) hk (fun _ h => h.2)) (fun _ h => h.1)); have n2_ := Aside0.mk (KeepBut.blk hk (g' := gb250) (o := .cells #[.int .i64 t244, .slice Ao10 t245.length co10] 54 (0, 0)) (bk_ BK250) NB250_0.out (by simp)); have n3_ := Aside0.mk (Kd.S_mono (Kd.S_keep (IsS113.apartS (show IsS113 w0 _ g s0_0 t248 t249 from hi2_ HI0 NB0_243.out NB0_250.out) (ks_ HO253) (by decide)) hk (fun _ h => h.2)) (fun _ h => h.1)); have n4_ := Aside0.mk (KeepBut.trans (kb2_ HK GW243.out GW250.out) hk (.inl rfl)); have n5_ := Aside0.mk (hb); have n6_ := Aside0.mk (hi); clear BK243; clear HO247; clear BK250; clear HO253; clear HK; clear HB; clear HI0; have BK243 := n0_; have HO247 := n1_; have BK250 := n2_; have HO253 := n3_; have HK := n4_; have HB := n5_; have HI0 := n6_; clear n0_ n1_ n2_ n3_ n4_ n5_ n6_; (try clear hb); (try clear hb2); (try clear hk); (try clear hi)))
 go_loopg [5, 6] k (fun kq v5 v6 w' => ∃ (x5_1 : List (S61)) (x6_1 : Int) (x1001_1 : Int) (x1002_1 : Int), v6 = .int .i64 x6_1 ∧ Aside0 (spec_l13Draw.l0 kq x5_1 x6_1 s0_0 x1001_1 x1002_1 t244 t245 = some (r1, r2, r3, r4, r5)) ∧ Aside0 (kq ≤ k) ∧ Aside0 (Kd.S k61 61 w' w.heap.size (fun _ => True) v5 x5_1) ∧ Aside0 (Kd.R k63 63 w' w.heap.size (fun _ => True) (.slice Ao10 t245.length co10) t245) ∧ Aside0 (w'.heap[gb243]? = some (.cells #[.int .i64 0, (.slice none 0 0)] 54 (0, 0))) ∧ Aside0 (w'.heap[gb250]? = some (.cells #[.int .i64 t244, (.slice Ao10 t245.length co10)] 54 (0, 0))) ∧ Aside0 (IsS113 w0 w' g s0_0 x1001_1 x1002_1) ∧ Aside0 (KeepBut w w' g none) ∧ Aside0 (Below w0.heap.size w0 w'))
 case atStart => exact ⟨(y251), (t254), (t255), (t256), (by first | rfl | (simp; done) | (simp [*]; done)), H', ⟨Nat.le_refl _⟩, ⟨ks_ HO253⟩, ⟨kr_ HO247⟩, ⟨bk_ BK243⟩, ⟨bk_ BK250⟩, ⟨hi2_ HI0 NB0_243.out NB0_250.out⟩, ⟨kb2_ HK GW243.out GW250.out⟩, ⟨bw3_ HB (IsS113.ge HI0.out) GE243.out GE250.out⟩⟩
 case round =>
  clear H'
  (try clear c1); (try clear p2); (try clear c7); (try clear c8); (try clear c9); (try clear c11); (try clear hcz9_0); (try clear hcz9_1); (try clear hfz9_0); (try clear hfz9_1)
  obtain ⟨x5_1, x6_1, x1001_1, x1002_1, rfl, HA, HK1, HO_5, HO_251001, BK243, BK250, HI0, HK, HB⟩ := hrel
  cases gk with
  | zero => exact absurd HA.out (by simp [spec_l13Draw.l0])
  | succ k1 =>
   have H := HA.out
   clear HA
   simp only [spec_l13Draw.l0] at H
   by_cases c14 : x6_1 > 0
   ·rw [if_pos c14] at H
    have c14b0 : decide (0 < x6_1) = true := decide_eq_true c14
    clear c14
    replace H := Option.bind_eq_some_iff.mp H
    obtain ⟨⟨t257, t258, t259⟩, A150, H⟩ := H
    replace H : ((spec_l1Below.f s0_0 t258 t259 t244).bind fun bt260 => ((spec_l13Trace.f k1 s0_0 bt260.2.1 bt260.2.2 t244 t245 t257 bt260.1).bind fun bt263 => (if x5_1.length < 5864062014805 then (spec_l13Draw.l0 k1 (x5_1 ++ [(⟨bt263.1⟩ : S61)]) (wrap64 (x6_1 - 1)) s0_0 bt263.2.1 bt263.2.2 t244 t245) else (none)))) = some (r1, r2, r3, r4, r5) := H
    have A15 := Aside0.mk A150
    clear A150
    replace H := Option.bind_eq_some_iff.mp H
    obtain ⟨⟨t260, t261, t262⟩, A160, H⟩ := H
    replace H : ((spec_l13Trace.f k1 s0_0 t261 t262 t244 t245 t257 t260).bind fun bt263 => (if x5_1.length < 5864062014805 then (spec_l13Draw.l0 k1 (x5_1 ++ [(⟨bt263.1⟩ : S61)]) (wrap64 (x6_1 - 1)) s0_0 bt263.2.1 bt263.2.2 t244 t245) else (none))) = some (r1, r2, r3, r4, r5) := H
    have A16 := Aside0.mk A160
    clear A160
    replace H := Option.bind_eq_some_iff.mp H
    obtain ⟨⟨t263, t266, t267⟩, A170, H⟩ := H
    replace H : (if x5_1.length < 5864062014805 then (spec_l13Draw.l0 k1 (x5_1 ++ [(⟨t263⟩ : S61)]) (wrap64 (x6_1 - 1)) s0_0 t266 t267 t244 t245) else (none)) = some (r1, r2, r3, r4, r5) := H
    have A17 := Aside0.mk A170
    clear A170
    by_cases c18 : x5_1.length < 5864062014805
    ·rw [if_pos c18] at H
     have LMc18 := Aside0.mk c18
     clear c18
     obtain ⟨y268, hy268⟩ : ∃ y_ : List (S61), y_ = (x5_1 ++ [(⟨t263⟩ : S61)]) := ⟨_, rfl⟩
     replace H : (spec_l13Draw.l0 k1 y268 (wrap64 (x6_1 - 1)) s0_0 t266 t267 t244 t245) = some (r1, r2, r3, r4, r5) := by first | (rw [hy268]; with_reducible exact H) | (have H2_ := (Option.bind_some _ _).symm.trans H; rw [hy268]; with_reducible exact H2_) | (have H2_ := (Option.bind_some _ _).symm.trans H; with_reducible exact H2_) | with_reducible exact H | (rw [hy268]; exact H) | exact H
     have Ny268 := Aside0.mk hy268
     clear hy268
     have H' := Aside0.mk H
     clear H
     have hnb19 := NB250_243.out
     have hnc19 := NB243_250.out
     have hnb20 := NB250_0.out
     have hnc20 := NB0_250.out
     have hcz21_0 : wr.cell? ⟨gb250, 0, none⟩ = some (.int .i64 t244) := (blk_cell BK250.out 0).trans rfl
     have hcz21_1 : wr.cell? ⟨gb250, 1, none⟩ = some (.slice Ao10 t245.length co10) := (blk_cell BK250.out 1).trans rfl
     have hfz21_0 := blk_frozen BK250.out 0
     have hfz21_1 := blk_frozen BK250.out 1
     try go_wp2_with (first | ((with_reducible refine gate_callee (f := 96) rfl ?_); refine goesL_ (some 20) rfl rfl Try.func96 (by kernel_rfl) rfl #[.pointer (some ⟨g, 0, none⟩), .int .i64 t244] rfl (by (try simp only [List.map_toArray, List.map_cons, List.map_nil]); first | done | rfl | (simp only [List.length_drop, List.length_take]; rfl)) ?_; (with_reducible refine (spec_l1Below.calls g s0_0 x1001_1 x1002_1 t244 t257 t258 t259 w0 _ ?side1 ?side2 A15.out).mono ?_); (case side1 => repeat (first | (with_reducible first | exact HI0.out | apply IsS113.alloc | apply IsS113.drewN | apply IsS113.drew | apply IsS113.set_1 | apply IsS113.set_2 | refine IsS113.far ?_ NB0_243.out _ | refine IsS113.far ?_ NB0_250.out _) | exact HI0.out)); (case side2 => repeat (first | (with_reducible first | exact HB.out | apply below_alloc | apply pw_below_drewN | apply below_drew1 | refine below_set ?_ (IsS113.ge HI0.out) | refine below_set ?_ GE243.out | refine below_set ?_ GE250.out) | exact HB.out)); rintro e w22 ⟨rfl, hi, hb, hk⟩; refine ⟨_, rfl, ?_⟩; have n0_ := Aside0.mk (Kd.S_mono (Kd.S_keep (IsS113.apartS (show IsS113 w0 _ g s0_0 x1001_1 x1002_1 from hi2_ HI0 NB0_243.out NB0_250.out) (ks_ HO_5) (by decide)) hk (fun _ h => h.2)) (fun _ h => h.1)); have n1_ := Aside0.mk (Kd.R_mono (Kd.R_keep (IsS113.apart (show IsS113 w0 _ g s0_0 x1001_1 x1002_1 from hi2_ HI0 NB0_243.out NB0_250.out) (kr_ HO_251001) (by decide)) hk (fun _ h => h.2)) (fun _ h => h.1)); have n2_ := Aside0.mk (KeepBut.blk hk (g' := gb243) (o := .cells #[.int .i64 0, .slice none 0 0] 54 (0, 0)) (bk_ BK243) NB243_0.out (by simp)); have n3_ := Aside0.mk (KeepBut.blk hk (g' := gb250) (o := .cells #[.int .i64 t244, .slice Ao10 t245.length co10] 54 (0, 0)) (bk_ BK250) NB250_0.out (by simp)); have n4_ := Aside0.mk (KeepBut.trans (kb2_ HK GW243.out GW250.out) hk (.inl rfl)); have n5_ := Aside0.mk (hb); have n6_ := Aside0.mk (hi); clear HO_5; clear HO_251001; clear BK243; clear BK250; clear HK; clear HB; clear HI0; have HO_5 := n0_; have HO_251001 := n1_; have BK243 := n2_; have BK250 := n3_; have HK := n4_; have HB := n5_; have HI0 := n6_; clear n0_ n1_ n2_ n3_ n4_ n5_ n6_; (try clear hb); (try clear hb2); (try clear hk); (try clear hi)))
     have n0_ := Aside0.mk (Kd.S_drew HO_5.out)
     have n1_ := Aside0.mk (Kd.R_drew HO_251001.out)
     have n2_ := Aside0.mk (blk_drew BK243.out)
     have n3_ := Aside0.mk (blk_drew BK250.out)
     have n4_ := Aside0.mk (IsS113.drew HI0.out)
     have n5_ := Aside0.mk (keep_drew HK.out)
     have n6_ := Aside0.mk (below_drew1 HB.out)
     clear HO_5
     clear HO_251001
     clear BK243
     clear BK250
     clear HI0
     clear HK
     clear HB
     have HO_5 := n0_
     have HO_251001 := n1_
     have BK243 := n2_
     have BK250 := n3_
     have HI0 := n4_
     have HK := n5_
     have HB := n6_
     clear n0_ n1_ n2_ n3_ n4_ n5_ n6_
     refine start_ (n := 12) (S := fun w' => w'.cell? ⟨gb250, 0, none⟩ = some (.int .i64 t244) ∧ w'.cell? ⟨gb250, 1, none⟩ = some (.slice Ao10 t245.length co10)) (ds := []) #[false, false, false, false, false, false, false, false, false, false, false, false] (by kernel_rfl) rfl rfl ⟨(blk_cell BK250.out 0).trans rfl, (blk_cell BK250.out 1).trans rfl⟩ (fun hHeld => ?_); refine with_tabW spec_l13Draw.tab7 spec_l13Draw.bits7 (fun HT_ HW_ => ?_)
     generalize w22.drew = w23 at HO_5 HO_251001 BK243 BK250 HI0 HK HB hHeld ⊢
     refine pure_ (i := 0) (N := some 21) (v := ?_) (a' := ?_) #[true, false, false, false, false, false, false, false, false, false, false, false] rfl rfl (any_of HT_.out (by kernel_rfl)) (fun _ _ _ h => h) (Or.inl ⟨by rfl, ?_⟩) ?_ ?_
     rotate_left
     ·intro w'
      go_simp
      with_reducible rfl
     rotate_left
     ·simp only [Act.put, List.setIfInBounds_toArray, List.set_cons_zero, List.set_cons_succ, i64_w, i32_w]
      rfl
     refine pure_ (i := 1) (N := some 22) (v := ?_) (a' := ?_) #[true, true, false, false, false, false, false, false, false, false, false, false] rfl rfl (any_of HT_.out (by kernel_rfl)) (fun _ _ _ h => h) (Or.inl ⟨by rfl, ?_⟩) ?_ ?_
     rotate_left
     ·intro w'
      go_simp
      with_reducible rfl
     rotate_left
     ·simp only [Act.put, List.setIfInBounds_toArray, List.set_cons_zero, List.set_cons_succ, i64_w, i32_w]
      rfl
     refine pure_ (i := 3) (N := some 24) (v := ?_) (a' := ?_) #[true, true, false, true, false, false, false, false, false, false, false, false] rfl rfl (any_of HT_.out (by kernel_rfl)) (fun _ _ _ h => h) (Or.inl ⟨by rfl, ?_⟩) ?_ ?_
     rotate_left
     ·intro w'
      go_simp
      with_reducible rfl
     rotate_left
     ·simp only [Act.put, List.setIfInBounds_toArray, List.set_cons_zero, List.set_cons_succ, i64_w, i32_w]
      rfl
     refine pure_ (i := 4) (N := some 25) (v := ?_) (a' := ?_) #[true, true, false, true, true, false, false, false, false, false, false, false] rfl rfl (any_of HT_.out (by kernel_rfl)) (fun _ _ _ h => h) (Or.inl ⟨by rfl, ?_⟩) ?_ ?_
     rotate_left
     ·intro w'
      go_simp
      with_reducible rfl
     rotate_left
     ·simp only [Act.put, List.setIfInBounds_toArray, List.set_cons_zero, List.set_cons_succ, i64_w, i32_w]
      rfl
     refine pure_ (i := 5) (N := some 26) (v := ?_) (a' := ?_) #[true, true, false, true, true, true, false, false, false, false, false, false] rfl rfl (any_of HT_.out (by kernel_rfl)) (fun _ _ _ h => h) (Or.inl ⟨by rfl, ?_⟩) ?_ ?_
     rotate_left
     ·intro w'
      go_simp
      with_reducible rfl
     rotate_left
     ·simp only [Act.put, List.setIfInBounds_toArray, List.set_cons_zero, List.set_cons_succ, i64_w, i32_w]
      rfl
     refine take_ (i := 2) (N := some 23) (v := ?_) (a' := ?_) #[true, true, true, true, true, true, false, false, false, false, false, false] rfl rfl (take_ofW HT_.out HW_.out (by kernel_rfl)) (fun _ _ _ h => h) (Or.inl ⟨by rfl, ?_⟩) hHeld ?_ ?_
     rotate_left
     ·rintro w' ⟨s0, s1⟩
      go_simp
      with_reducible rfl
     rotate_left
     ·simp only [Act.put, List.setIfInBounds_toArray, List.set_cons_zero, List.set_cons_succ, i64_w, i32_w]
      rfl
     refine take_ (i := 6) (N := some 27) (v := ?_) (a' := ?_) #[true, true, true, true, true, true, true, false, false, false, false, false] rfl rfl (take_ofW HT_.out HW_.out (by kernel_rfl)) (fun _ _ _ h => h) (Or.inl ⟨by rfl, ?_⟩) hHeld ?_ ?_
     rotate_left
     ·rintro w' ⟨s0, s1⟩
      go_simp
      with_reducible rfl
     rotate_left
     ·simp only [Act.put, List.setIfInBounds_toArray, List.set_cons_zero, List.set_cons_succ, i64_w, i32_w]
      rfl
     refine one_ (i := 7) (N := some 28) #[true, true, true, true, true, true, true, true, false, false, false, false] rfl rfl (one_of HT_.out (by kernel_rfl)) (by decide) (fun K hK => ?_)
     refine goes_ Try.func96 (by kernel_rfl) rfl #[.pointer (some ⟨g, 0, none⟩), .int .i64 t244] (by rfl) rfl rfl (by (try simp only [List.map_toArray, List.map_cons, List.map_nil]); first | done | rfl | (simp only [List.length_drop, List.length_take]; rfl)) ?_
     with_reducible refine (spec_l1Below.calls g s0_0 t258 t259 t244 t260 t261 t262 w0 _ ?side1 ?side2 A16.out).mono ?_
     (case side1 => repeat (first | (with_reducible first | exact HI0.out | apply IsS113.alloc | apply IsS113.drewN | apply IsS113.drew | apply IsS113.set_1 | apply IsS113.set_2 | refine IsS113.far ?_ NB0_243.out _ | refine IsS113.far ?_ NB0_250.out _) | exact HI0.out))
     (case side2 => repeat (first | (with_reducible first | exact HB.out | apply below_alloc | apply pw_below_drewN | apply below_drew1 | refine below_set ?_ (IsS113.ge HI0.out) | refine below_set ?_ GE243.out | refine below_set ?_ GE250.out) | exact HB.out))
     rintro e w24 ⟨rfl, hi, hb, hk⟩
     refine ⟨_, rfl, ?_⟩
     have n0_ := Aside0.mk (Kd.S_mono (Kd.S_keep (IsS113.apartS (show IsS113 w0 _ g s0_0 t258 t259 from hi2_ HI0 NB0_243.out NB0_250.out) (ks_ HO_5) (by decide)) hk (fun _ h => h.2)) (fun _ h => h.1))
     have n1_ := Aside0.mk (Kd.R_mono (Kd.R_keep (IsS113.apart (show IsS113 w0 _ g s0_0 t258 t259 from hi2_ HI0 NB0_243.out NB0_250.out) (kr_ HO_251001) (by decide)) hk (fun _ h => h.2)) (fun _ h => h.1))
     have n2_ := Aside0.mk (KeepBut.blk hk (g' := gb243) (o := .cells #[.int .i64 0, .slice none 0 0] 54 (0, 0)) (bk_ BK243) NB243_0.out (by simp))
     have n3_ := Aside0.mk (KeepBut.blk hk (g' := gb250) (o := .cells #[.int .i64 t244, .slice Ao10 t245.length co10] 54 (0, 0)) (bk_ BK250) NB250_0.out (by simp))
     have n4_ := Aside0.mk (KeepBut.trans (kb2_ HK GW243.out GW250.out) hk (.inl rfl))
     have n5_ := Aside0.mk (hb)
     have n6_ := Aside0.mk (hi)
     clear HO_5
     clear HO_251001
     clear BK243
     clear BK250
     clear HK
     clear HB
     clear HI0
     have HO_5 := n0_
     have HO_251001 := n1_
     have BK243 := n2_
     have BK250 := n3_
     have HK := n4_
     have HB := n5_
     have HI0 := n6_
     clear n0_ n1_ n2_ n3_ n4_ n5_ n6_
     (try clear hb)
     (try clear hb2)
     (try clear hk)
     (try clear hi)
     refine hK.out _ _ ⟨(blk_cell BK250.out 0).trans rfl, (blk_cell BK250.out 1).trans rfl⟩ (fun hHeld => ?_)
     clear hK K
     refine norm_ (a' := ?_) ?_ ?_
     rotate_left
     ·show Act.put _ (some 28) _ = _
      simp only [Act.put, List.setIfInBounds_toArray, List.set_cons_zero, List.set_cons_succ, i64_w, i32_w]
      rfl
     refine one_ (i := 8) (N := some 29) #[true, true, true, true, true, true, true, true, true, false, false, false] rfl rfl (one_of HT_.out (by kernel_rfl)) (by decide) (fun K hK => ?_)
     refine goes_ Try.func120 (by kernel_rfl) rfl #[.pointer (some ⟨g, 0, none⟩), .agg #[.int .i64 t244, .slice Ao10 t245.length co10], .int .i64 t257, .int .i64 t260] (by rfl) rfl rfl (by (try simp only [List.map_toArray, List.map_cons, List.map_nil]); first | done | rfl | (simp only [List.length_drop, List.length_take]; rfl)) ?_
     with_reducible refine (spec_l13Trace.calls k1 g s0_0 t261 t262 t244 _ _ t245 t257 t260 t263 t266 t267 w0 _ ?side1 ?side2 ?side3 ?side4 A17.out).mono ?_
     (case side1 => repeat (first | (with_reducible first | exact HI0.out | apply IsS113.alloc | apply IsS113.drewN | apply IsS113.drew | apply IsS113.set_1 | apply IsS113.set_2 | refine IsS113.far ?_ NB0_243.out _ | refine IsS113.far ?_ NB0_250.out _) | exact HI0.out))
     (case side2 => repeat (first | (with_reducible first | exact HB.out | apply below_alloc | apply pw_below_drewN | apply below_drew1 | refine below_set ?_ (IsS113.ge HI0.out) | refine below_set ?_ GE243.out | refine below_set ?_ GE250.out) | exact HB.out))
     (case side3 => exact Kd.C_foot_own (IsS113.apart (show IsS113 w0 _ g s0_0 t261 t262 from hi2_ HI0 NB0_243.out NB0_250.out) (kr_ HO_251001) (by decide)) (fun _ h_ => h_.2))
     (case side4 => exact (Kd.R_reads' HO_251001.out).2.1)
     rintro e w25 ⟨v264, rfl, ho0, hi, hb, hk⟩
     refine ⟨_, rfl, ?_⟩
     have n0_ := Aside0.mk (Kd.S_mono (Kd.S_told (Kd.S_oldK (IsS113.apartS (show IsS113 w0 _ g s0_0 t261 t262 from hi2_ HI0 NB0_243.out NB0_250.out) (ks_ HO_5) (by decide)) hk) (Kd.R_base ho0)) (fun _ h_ => h_.1))
     have n1_ := Aside0.mk (Kd.R_mono (Kd.R_keep (IsS113.apart (show IsS113 w0 _ g s0_0 t261 t262 from hi2_ HI0 NB0_243.out NB0_250.out) (kr_ HO_251001) (by decide)) hk (fun _ h => h.2)) (fun _ h => h.1))
     have n2_ := Aside0.mk (KeepBut.blk hk (g' := gb243) (o := .cells #[.int .i64 0, .slice none 0 0] 54 (0, 0)) (bk_ BK243) NB243_0.out (by simp))
     have n3_ := Aside0.mk (KeepBut.blk hk (g' := gb250) (o := .cells #[.int .i64 t244, .slice Ao10 t245.length co10] 54 (0, 0)) (bk_ BK250) NB250_0.out (by simp))
     have n4_ := Aside0.mk (Kd.R_lower ho0 (keep_size (w := w) (g := g) (row := none) (kb2_ HK GW243.out GW250.out)))
     have n5_ := Aside0.mk (KeepBut.trans (kb2_ HK GW243.out GW250.out) hk (.inl rfl))
     have n6_ := Aside0.mk (hb)
     have n7_ := Aside0.mk (hi)
     clear HO_5
     clear HO_251001
     clear BK243
     clear BK250
     clear HK
     clear HB
     clear HI0
     have HO_5 := n0_
     have HO_251001 := n1_
     have BK243 := n2_
     have BK250 := n3_
     have HO265 := n4_
     have HK := n5_
     have HB := n6_
     have HI0 := n7_
     clear n0_ n1_ n2_ n3_ n4_ n5_ n6_ n7_
     (try clear hb)
     (try clear hb2)
     (try clear hk)
     (try clear hi)
     (try clear ho0)
     obtain ⟨Ao27, co27, eo27⟩ := Kd.R_slice HO265.out
     (first | subst eo27 | (injection eo27 with f1_ f2_ f3_; have f4_ := f1_.symm; have f5_ := f3_.symm; clear f1_ f2_ f3_; subst f4_; subst f5_))
     refine hK.out _ _ ⟨(blk_cell BK250.out 0).trans rfl, (blk_cell BK250.out 1).trans rfl⟩ (fun hHeld => ?_)
     clear hK K
     refine norm_ (a' := ?_) ?_ ?_
     rotate_left
     ·show Act.put _ (some 29) _ = _
      simp only [Act.put, List.setIfInBounds_toArray, List.set_cons_zero, List.set_cons_succ, i64_w, i32_w]
      rfl
     refine one_ (i := 9) (N := some 30) #[true, true, true, true, true, true, true, true, true, true, false, false] rfl rfl (one_of HT_.out (by kernel_rfl)) (by decide) (fun K hK => ?_)
     refine value_ (w1 := ?_) (v := ?_) (by rfl) rfl ?_ ?_
     rotate_left 2
     ·go_simp
      constructor
      ·rfl
      ·rfl
     refine hK.out _ _ ⟨(blk_cell (blk_alloc BK250.out _) 0).trans rfl, (blk_cell (blk_alloc BK250.out _) 1).trans rfl⟩ (fun hHeld => ?_)
     clear hK K
     refine norm_ (a' := ?_) ?_ ?_
     rotate_left
     ·show Act.put _ (some 30) _ = _
      simp only [Act.put, List.setIfInBounds_toArray, List.set_cons_zero, List.set_cons_succ, i64_w, i32_w]
      rfl
     refine one_ (i := 10) (N := some 31) #[true, true, true, true, true, true, true, true, true, true, true, false] rfl rfl (one_of HT_.out (by kernel_rfl)) (by decide) (fun K hK => ?_)
     refine Kd.S_append_step k61 w.heap.size (by rfl) (.tmp 21) (.tmp 30) 46 61 (.agg #[(.slice none 0 0)]) 24 rfl Try.underlying46 info61 rfl (by decide) (by omega) u5 x5_1 (⟨t263⟩ : S61) [.slice Ao27 t263.length co27] (fun _ => True) (fun k_ => some k_ = (.slice Ao27 t263.length co27 : Value).ownBlock) rfl rfl ?aP (fun k_ hk_ => ((Kd.R_mono (ok' := fun k_ => ((fun _ => True)) k_ ∧ some k_ ≠ (u5 : Value).ownBlock) (Kd.R_apart' (HO265.out) (Kd.S_typed HO_5.out) (by decide)) (fun k_ hk => ⟨trivial, hk.2⟩))).1 k_ hk_.symm) ?aF ?aO (Below.refl _ _) ?aS ?aL ?_
     (case aP => exact k61_mkM _ _ _ (⟨t263⟩ : S61) (Kd.R_mono (Kd.R_tight rfl (Kd.R_mono (ok' := fun k_ => ((fun _ => True)) k_ ∧ some k_ ≠ (u5 : Value).ownBlock) (Kd.R_apart' (HO265.out) (Kd.S_typed HO_5.out) (by decide)) (fun k_ hk => ⟨trivial, hk.2⟩))) (fun _ h_ => h_)))
     (case aF => exact (fun _ _ => trivial))
     (case aO => exact (by (with_reducible repeat (first | apply Kd.S_alloc | apply Kd.S_drewN | apply Kd.S_drew)); exact Kd.S_mono HO_5.out (fun k_ hk => ⟨trivial, fun e_ => hk.2 e_⟩)))
     (case aS => exact (keep_size (w := w) (g := g) (row := none) (kb2_ HK GW243.out GW250.out)))
     (case aL => have := LMc18.out; omega)
     intro v269 w26 ho hb hg hat
     rw [← Ny268.out] at ho
     have n0_ := Aside0.mk (Kd.R_over' (kr_ HO_251001) (Kd.S_typed (ks_ HO_5)) (by decide) hg)
     have n1_ := Aside0.mk (blk_grown (g := gb243) (o := .cells #[.int .i64 0, .slice none 0 0] 54 (0, 0)) (bk_ BK243) hg (Kd.S_ne HO_5.out BK243.out (by decide)))
     have n2_ := Aside0.mk (blk_grown (g := gb250) (o := .cells #[.int .i64 t244, .slice Ao10 t245.length co10] 54 (0, 0)) (bk_ BK250) hg (Kd.S_ne HO_5.out BK250.out (by decide)))
     have n3_ := Aside0.mk (IsS113.grown (hi2_ HI0 NB0_243.out NB0_250.out) hg (IsS113.own_neS HI0.out HO_5.out (by decide)))
     have n4_ := Aside0.mk (below_weaken (bw3_ HB (IsS113.ge HI0.out) GE243.out GE250.out) HL.out hb)
     have n5_ := Aside0.mk (KeepBut.trans (kb2_ HK GW243.out GW250.out) (KeepBut.of_grown hg g) (Kd.S_base2 HO_5.out))
     have n6_ := Aside0.mk (ho)
     clear HO_251001
     clear BK243
     clear BK250
     clear HI0
     clear HB
     clear HK
     clear HO_5
     clear HO265
     have HO_251001 := n0_
     have BK243 := n1_
     have BK250 := n2_
     have HI0 := n3_
     have HB := n4_
     have HK := n5_
     have HO270 := n6_
     clear n0_ n1_ n2_ n3_ n4_ n5_ n6_
     clear ho hb hg hat
     refine hK.out _ _ ⟨(blk_cell BK250.out 0).trans rfl, (blk_cell BK250.out 1).trans rfl⟩ (fun hHeld => ?_)
     clear hK K
     refine norm_ (a' := ?_) ?_ ?_
     rotate_left
     ·show Act.put _ (some 31) _ = _
      simp only [Act.put, List.setIfInBounds_toArray, List.set_cons_zero, List.set_cons_succ, i64_w, i32_w]
      rfl
     refine pure_ (i := 11) (N := some 5) (v := ?_) (a' := ?_) #[true, true, true, true, true, true, true, true, true, true, true, true] rfl rfl (any_of HT_.out (by kernel_rfl)) (fun _ _ _ h => h) (Or.inl ⟨by rfl, ?_⟩) ?_ ?_
     rotate_left
     ·intro w'
      go_simp
      with_reducible rfl
     rotate_left
     ·simp only [Act.put, List.setIfInBounds_toArray, List.set_cons_zero, List.set_cons_succ, i64_w, i32_w]
      rfl
     refine done_ (done_of HT_.out (by kernel_rfl)) ?_
     try go_wp2
     go_roundg k1
     case measure => have := HK1.out; omega
     case rel => exact ⟨(y268), (wrap64 (x6_1 - 1)), (t266), (t267), (by first | rfl | (simp; done) | (simp [*]; done)), H', ⟨by have := HK1.out; omega⟩, ⟨ks_ HO270⟩, ⟨kr_ HO_251001⟩, ⟨bk_ BK243⟩, ⟨bk_ BK250⟩, ⟨hi2_ HI0 NB0_243.out NB0_250.out⟩, ⟨kb2_ HK GW243.out GW250.out⟩, ⟨bw3_ HB (IsS113.ge HI0.out) GE243.out GE250.out⟩⟩
    ·rw [if_neg c18] at H
     exact absurd H (by simp)
   ·rw [if_neg c14] at H
    have c14b0 : decide (0 < x6_1) = false := decide_eq_false c14
    clear c14
    simp only [Option.some.injEq, Prod.mk.injEq] at H
    obtain ⟨rfl, rfl, rfl, rfl, rfl⟩ := H
    have hnb28 := NB250_243.out
    have hnc28 := NB243_250.out
    have hnb29 := NB250_0.out
    have hnc29 := NB0_250.out
    have hcz30_0 : wr.cell? ⟨gb250, 0, none⟩ = some (.int .i64 t244) := (blk_cell BK250.out 0).trans rfl
    have hcz30_1 : wr.cell? ⟨gb250, 1, none⟩ = some (.slice Ao10 t245.length co10) := (blk_cell BK250.out 1).trans rfl
    have hfz30_0 := blk_frozen BK250.out 0
    have hfz30_1 := blk_frozen BK250.out 1
    have hnb31 := NB243_0.out
    have hnc31 := NB0_243.out
    have hcz32_0 : wr.cell? ⟨gb243, 0, none⟩ = some (.int .i64 0) := (blk_cell BK243.out 0).trans rfl
    have hcz32_1 : wr.cell? ⟨gb243, 1, none⟩ = some (.slice none 0 0) := (blk_cell BK243.out 1).trans rfl
    have hfz32_0 := blk_frozen BK243.out 0
    have hfz32_1 := blk_frozen BK243.out 1
    go_wp2
    refine bodyPost_ret (results_ct rfl _ _ gb243 54 #[.int .i64 t244, .slice Ao10 t245.length co10] (0, 0) _ rfl (by (with_reducible repeat (first | refine blk_drewN ?_ _ | refine blk_drew ?_ | refine blk_alloc ?_ _)); refine blk_put (cs := #[.int .i64 t244, .slice none 0 0]) ?_ 1 _ rfl; (with_reducible repeat (first | refine blk_drewN ?_ _ | refine blk_drew ?_ | refine blk_alloc ?_ _)); refine blk_put (cs := #[.int .i64 0, .slice none 0 0]) ?_ 0 _ rfl; (with_reducible repeat (first | refine blk_drewN ?_ _ | refine blk_drew ?_ | refine blk_alloc ?_ _)); exact BK243.out) Try.underlying54 rfl (by kernel_rfl)) rfl ?_
    exact ⟨_, _, by first | rfl | (simp [errW_none, errW_some] <;> rfl) | (simp [*, errW_none, errW_some] <;> rfl), by (with_reducible repeat (first | apply Kd.R_alloc | apply Kd.R_drewN | apply Kd.R_drew)); exact Kd.R_mono (Kd.R_far (p := ⟨gb243, 1, none⟩) (Kd.R_far (p := ⟨gb243, 0, none⟩) (Kd.R_types HO_251001.out BK243.out (by decide)) (fun _ hk => hk.2) (.int .i64 t244)) (fun _ hk => hk.2) (.slice Ao10 t245.length co10)) (fun _ hk => trivial), by (with_reducible repeat (first | apply Kd.S_alloc | apply Kd.S_drewN | apply Kd.S_drew)); exact Kd.S_mono (Kd.S_far (p := ⟨gb243, 1, none⟩) (Kd.S_far (p := ⟨gb243, 0, none⟩) (Kd.S_types HO_5.out BK243.out (by decide)) (fun _ hk => hk.2) (.int .i64 t244)) (fun _ hk => hk.2) (.slice Ao10 t245.length co10)) (fun _ hk => trivial), hi2_ HI0 NB0_243.out NB0_250.out, bw3_ HB (IsS113.ge HI0.out) GE243.out GE250.out, kb2_ HK GW243.out GW250.out⟩

/-! ### spec_l1Int: function 97 -/
def spec_l1Int.f (s0_0 : List Int) (s0_1 : Int) (s0_2 : Int) (l1 : List Int) : Option (Int × Int × Int) := (spec_l1Below.f s0_0 s0_1 s0_2 (l1.length : Int)).bind fun bt271 => (if 0 ≤ bt271.1 then (if bt271.1 < (l1.length : Int) then (some (rd l1 bt271.1, bt271.2.1, bt271.2.2)) else (none)) else (none))
set_option maxHeartbeats 8000000 in
set_option maxRecDepth 100000 in
theorem spec_l1Int.calls (g : Nat) (s0_0 : List Int) (s0_1 : Int) (s0_2 : Int) (A1 : Option Addr) (c1 : Nat) (l1 : List Int) (r1 : Int) (r2 : Int) (r3 : Int) (w0 w : World) (hI : IsS113 w0 w g s0_0 s0_1 s0_2) (hB : Below w0.heap.size w0 w) (hr1 : Kd.C (Kd.int .i64) w A1 l1.length l1) (hc1 : l1.length ≤ c1) (hf1 : ∀ ad, A1 = some ad → 0 < l1.length → ad.block ≠ g) (h : spec_l1Int.f s0_0 s0_1 s0_2 l1 = some (r1, r2, r3)) :
  Calls Try.prog 97 #[.pointer (some ⟨g, 0, none⟩), .slice A1 l1.length c1] w fun e w' => e = .returned (.int .i64 r1) ∧ IsS113 w0 w' g s0_0 r2 r3 ∧ Below w0.heap.size w0 w' ∧ KeepBut w w' g none := by
 have HR1 := Aside0.mk hr1
 have HC1 := Aside0.mk hc1
 clear hr1 hc1
 have HI0 := Aside0.mk hI
 have HK := Aside0.mk (KeepBut.refl w g none)
 have HL := Aside0.mk hB.size
 clear hI
 have HW0 := Aside0.mk hB.size
 have HB := Aside0.mk hB
 clear hB
 have H : ((spec_l1Below.f s0_0 s0_1 s0_2 (l1.length : Int)).bind fun bt271 => (if 0 ≤ bt271.1 then (if bt271.1 < (l1.length : Int) then (some (rd l1 bt271.1, bt271.2.1, bt271.2.2)) else (none)) else (none))) = some (r1, r2, r3) := h
 clear h
 replace H := Option.bind_eq_some_iff.mp H
 obtain ⟨⟨t271, t272, t273⟩, A30, H⟩ := H
 replace H : (if 0 ≤ t271 then (if t271 < (l1.length : Int) then (some (rd l1 t271, t272, t273)) else (none)) else (none)) = some (r1, r2, r3) := H
 have A3 := Aside0.mk A30
 clear A30
 by_cases c4 : 0 ≤ t271
 ·rw [if_pos c4] at H
  have c4b0 : decide (0 ≤ t271) = true := decide_eq_true c4
  clear c4
  by_cases c5 : t271 < (l1.length : Int)
  ·rw [if_pos c5] at H
   have c5b0 : decide (t271 < (l1.length : Int)) = true := decide_eq_true c5
   clear c5
   simp only [Option.some.injEq, Prod.mk.injEq] at H
   obtain ⟨rfl, rfl, rfl⟩ := H
   go_enter Try.func97, Try.ntmps97
   go_wp2_with (first | ((with_reducible refine gate_callee (f := 96) rfl ?_); refine goesL_ (some 9) rfl rfl Try.func96 (by kernel_rfl) rfl #[.pointer (some ⟨g, 0, none⟩), .int .i64 (l1.length : Int)] rfl (by (try simp only [List.map_toArray, List.map_cons, List.map_nil]); first | done | rfl | (simp only [List.length_drop, List.length_take]; rfl)) ?_; (with_reducible refine (spec_l1Below.calls g s0_0 s0_1 s0_2 (l1.length : Int) t271 t272 t273 w0 _ ?side1 ?side2 A3.out).mono ?_); (case side1 => repeat (first | (with_reducible first | exact HI0.out | apply IsS113.alloc | apply IsS113.drewN | apply IsS113.drew | apply IsS113.set_1 | apply IsS113.set_2) | exact HI0.out)); (case side2 => repeat (first | (with_reducible first | exact HB.out | apply below_alloc | apply pw_below_drewN | apply below_drew1 | refine below_set ?_ (IsS113.ge HI0.out)) | exact HB.out)); rintro e w6 ⟨rfl, hi, hb, hk⟩; refine ⟨_, rfl, ?_⟩; have n0_ := Aside0.mk (KeepBut.trans (kb0_ HK) hk (.inl rfl)); have n1_ := Aside0.mk (hb); have n2_ := Aside0.mk (hi); clear HK; clear HB; clear HI0; have HK := n0_; have HB := n1_; have HI0 := n2_; clear n0_ n1_ n2_; (try clear hb); (try clear hb2); (try clear hk); (try clear hi); have p274 : 0 ≤ (t271 : Int) := of_decide_eq_true (by first | (with_reducible assumption) | assumption); have q274 : t271 < (l1.length : Int) := of_decide_eq_true (by first | (with_reducible assumption) | assumption); obtain ⟨ad274, e274, hx274_0⟩ := Kd.at_int HR1.out t271 p274 q274; cases e274; replace hx274_0 := keep_cell HK.out hx274_0 (by first | (rw [add_block]; exact hf1 _ rfl (by omega)) | exact hf1 _ rfl (by omega) | exact hf1 ad274 rfl (by omega)); replace p274 := eq_true p274; replace q274 := eq_true q274))
   go_ret
   exact ⟨by first | rfl | (simp [errW_none, errW_some] <;> rfl) | (simp [*, errW_none, errW_some] <;> rfl), hi0_ HI0, bw1_ HB (IsS113.ge HI0.out), kb0_ HK⟩
  ·rw [if_neg c5] at H
   exact absurd H (by simp)
 ·rw [if_neg c4] at H
  exact absurd H (by simp)

/-! ### laws_big: function 16 -/
def laws_big.f (l0 : List Int) : Option (Bool) := some (decide ((l0.length : Int) > 1048576))
set_option maxHeartbeats 8000000 in
set_option maxRecDepth 100000 in
theorem laws_big.calls (A0 : Option Addr) (c0 : Nat) (l0 : List Int) (r : Bool) (w : World) (hr0 : Kd.C (Kd.int .u8) w A0 l0.length l0) (hc0 : l0.length ≤ c0) (h : laws_big.f l0 = some r) :
    Calls Try.prog 16 #[.slice A0 l0.length c0] w fun e w' => e = .returned (.bool r) ∧ Drawn0 w w' := by
  have HR0 := Aside0.mk hr0
  have HC0 := Aside0.mk hc0
  clear hr0 hc0
  have H : (some (decide ((l0.length : Int) > 1048576))) = some r := h
  clear h
  obtain rfl := Option.some.inj H
  go_enter Try.func16, Try.ntmps16
  go_wp2
  go_ret
  exact ⟨by first | rfl | (simp; done) | (simp [*]; done), by repeat (first | exact Drawn0.refl _ | apply Drawn0.step)⟩

end Go.Proofs.Ytgghhcifkgdpeaa.Z
