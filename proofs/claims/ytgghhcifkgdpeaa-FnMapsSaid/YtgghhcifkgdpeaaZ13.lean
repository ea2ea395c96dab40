-- Written by this session's wip/mp/mp.py out of the translation. Lean checks it.
import Derived.Test.YtgghhcifkgdpeaaZ0
import Derived.Test.YtgghhcifkgdpeaaZ5
import Derived.Test.YtgghhcifkgdpeaaZ10
import Derived.Test.YtgghhcifkgdpeaaZFirst
import Derived.Deep.RegionLaw
namespace Go.Proofs.Ytgghhcifkgdpeaa.Z
open Go.RowKit Go.Proofs.YtgghhcifkgdpeaaW.PrintWords Go.Proofs.YtgghhcifkgdpeaaW.PrintLast Go.Proofs.YtgghhcifkgdpeaaW.PrintMore
attribute [local go_sem] max2_int min2_int max_two min_two max_three min_three max_four min_four   -- for this text's walks alone
set_option linter.unusedVariables false
set_option linter.unusedSimpArgs false

-- GIVEN
-- FUNCTION loop.example/g00958/spec.l13Any rounds
-- ALONE
-- EXTRA loop.example/g00958/spec.l13Draw
-- EXTRA loop.example/g00958/spec.l1Below
-- EXTRA loop.example/g00958/spec.l1Int
-- IMPORT Derived.Test.YtgghhcifkgdpeaaZFirst
-- IMPORT Derived.Deep.RegionLaw
-- KIND 63
-- INFO 63
-- KIND 61
-- INFO 61
-- INFO 3
-- RSH 2 V
/-! ### spec_l13Any: function 75 -/
def any13S.j0 : Nat → List (S61) → Bool → List Int → Int → Int → Int → List (S63) → Option (Int × (List (S63)) × (List (S61)) × Int × Int)
  | 0, _, _, _, _, _, _, _ => none
  | k + 1, x5, x21, x1000, x1001, x1002, x289000, x289001 => if x21 = true then (some (x289000, x289001, x5, x1001, x1002)) else ((spec_l1Below.f x1000 x1001 x1002 8).bind fun bt290 => (if bt290.1 = 0 then (if 0 < (x5.length : Int) then ((spec_l1Int.f x1000 bt290.2.1 bt290.2.2 (([(-2), 8, 0] : List Int))).bind fun bt297 => (if 0 < (((rd_T61 x5 0).f0).length : Int) then (some (x289000, x289001, (x5.set (0 : Int).toNat (⟨(((rd_T61 x5 0).f0).set (0 : Int).toNat bt297.1)⟩ : S61)), bt297.2.1, bt297.2.2)) else (none))) else (none)) else (if bt290.1 = 1 then (if 0 < (x5.length : Int) then ((spec_l1Below.f x1000 bt290.2.1 bt290.2.2 9).bind fun bt304 => (if ((rd_T61 x5 0).f0).length < 17592186044416 then (some (x289000, x289001, (x5.set (0 : Int).toNat (⟨(((rd_T61 x5 0).f0) ++ [wrap64 (bt304.1 - 1)])⟩ : S61)), bt304.2.1, bt304.2.2)) else (none))) else (none)) else (if bt290.1 = 2 then none else (some (x289000, x289001, x5, bt290.2.1, bt290.2.2))))))
def any13S.f (k : Nat) (s0_0 : List Int) (s0_1 : Int) (s0_2 : Int) : Option (Int × (List (S63)) × (List (S61)) × Int × Int) := (spec_l13Draw.f k s0_0 s0_1 s0_2).bind fun bt279 => (if (bt279.2.2.1.length : Int) = 0 then (any13S.j0 k bt279.2.2.1 true s0_0 bt279.2.2.2.1 bt279.2.2.2.2 bt279.1 bt279.2.1) else (if 0 < (bt279.2.2.1.length : Int) then (any13S.j0 k bt279.2.2.1 ((((rd_T61 bt279.2.2.1 0).f0).length : Int) == 0) s0_0 bt279.2.2.2.1 bt279.2.2.2.2 bt279.1 bt279.2.1) else (none)))
theorem any13S.mono_l : ∀ k, (∀ y0 y1 y2 y3 y4 y5 y6, LeO (any13S.j0 k y0 y1 y2 y3 y4 y5 y6) (any13S.j0 (k + 1) y0 y1 y2 y3 y4 y5 y6))
  | 0 => fun _ _ _ _ _ _ _ r h => by simp [any13S.j0] at h
  | k + 1 => by
    have ih0 := any13S.mono_l k
    · intro y0 y1 y2 y3 y4 y5 y6
      unfold any13S.j0
      repeat' first
      | (with_reducible exact ih0 _ _ _ _ _ _ _)
      | (with_reducible exact spec_l13Draw.mono _ _ _ _)
      | (with_reducible exact LeO.refl _)
      | (with_reducible exact LeO.none _)
      | (with_reducible refine LeO.ite ?_ ?_)
      | (with_reducible refine LeO.bind ?_ (fun _ => ?_))
      | exact ih0 _ _ _ _ _ _ _
      | exact spec_l13Draw.mono _ _ _ _
      | exact LeO.none _
      | refine LeO.ite ?_ ?_
      | refine LeO.bind ?_ (fun _ => ?_)
theorem any13S.mono : ∀ a0 a1 a2 k, LeO (any13S.f k a0 a1 a2) (any13S.f (k + 1) a0 a1 a2) := by
  intro a0 a1 a2 k
  have ih0 := any13S.mono_l k
  unfold any13S.f
  repeat' first
      | (with_reducible exact ih0 _ _ _ _ _ _ _)
      | (with_reducible exact spec_l13Draw.mono _ _ _ _)
      | (with_reducible exact LeO.refl _)
      | (with_reducible exact LeO.none _)
      | (with_reducible refine LeO.ite ?_ ?_)
      | (with_reducible refine LeO.bind ?_ (fun _ => ?_))
      | exact ih0 _ _ _ _ _ _ _
      | exact spec_l13Draw.mono _ _ _ _
      | exact LeO.none _
      | refine LeO.ite ?_ ?_
      | refine LeO.bind ?_ (fun _ => ?_)
def any13S.T6 : Bool × List (List Nat × List Nat) := (true, [([], []), ([0], [0]), ([1], [1]), ([2], [2]), ([], []), ([], []), ([4, 5], [4, 5]), ([3, 0, 1, 2, 3, 4, 5, 6], [3]), ([7, 6, 6, 0, 1, 2, 3, 4, 5, 6], [6, 7])])
def any13S.B6 : List Nat := [0, 1, 3, 7, 0, 0, 48, 127, 255]
theorem any13S.tab6 : rtab .any (opsOf Try.f75 6) = any13S.T6 := by kernel_rfl
theorem any13S.bits6 : waitsOk any13S.T6.2 any13S.B6 = true := by kernel_rfl
theorem C_one13 {W : World} {g t : Nat} {c : Int} (h : W.heap[g]? = some (.cells #[.int .i64 c] t (0, 0))) : Kd.C (Kd.int .i64) W (some ⟨g, 0, none⟩) 1 [c] := by
  refine ⟨rfl, by decide, fun _ => ⟨⟨g, 0, none⟩, rfl, fun j p hj => ?_⟩⟩
  match j, hj with
  | 0, hj =>
    obtain rfl := Option.some.inj hj
    refine ⟨[.int .i64 c], rfl, rfl, fun i u hi => ?_⟩
    match i, hi with
    | 0, hi =>
      obtain rfl := Option.some.inj hi
      rw [Nat.zero_mul, Nat.add_zero, Addr.add_zero']
      exact (blk_cell h 0).trans rfl
    | i + 1, hi => simp at hi
  | j + 1, hj => simp at hj
set_option maxHeartbeats 8000000 in
set_option maxRecDepth 100000 in
theorem any13S.calls (k : Nat) (g : Nat) (s0_0 : List Int) (s0_1 : Int) (s0_2 : Int) (r1 : Int) (r2 : List (S63)) (r3 : List (S61)) (r4 : Int) (r5 : Int) (w0 w : World) (hI : IsS113 w0 w g s0_0 s0_1 s0_2) (hB : Below w0.heap.size w0 w) (h : any13S.f k s0_0 s0_1 s0_2 = some (r1, r2, r3, r4, r5)) :
    Calls Try.prog 75 #[.pointer (some ⟨g, 0, none⟩)] w fun e w' => ∃ v1_ v2_ : Value, e = .returned (.tuple #[.agg #[.int .i64 r1, v1_], v2_]) ∧ Kd.R k63 63 w' w.heap.size (fun _ => True) v1_ r2 ∧ Kd.S k61 61 w' w.heap.size (fun _ => True) v2_ r3 ∧ IsS113 w0 w' g s0_0 r4 r5 ∧ Below w0.heap.size w0 w' ∧ KeepBut w w' g none := by
  have hu54 := Try.underlying54
  have HI0 := Aside0.mk hI
  have HK := Aside0.mk (KeepBut.refl w g none)
  have HL := Aside0.mk hB.size
  clear hI
  have HW0 := Aside0.mk hB.size
  have HB := Aside0.mk hB
  clear hB
  have H : ((spec_l13Draw.f k s0_0 s0_1 s0_2).bind fun bt279 => (if (bt279.2.2.1.length : Int) = 0 then (any13S.j0 k bt279.2.2.1 true s0_0 bt279.2.2.2.1 bt279.2.2.2.2 bt279.1 bt279.2.1) else (if 0 < (bt279.2.2.1.length : Int) then (any13S.j0 k bt279.2.2.1 ((((rd_T61 bt279.2.2.1 0).f0).length : Int) == 0) s0_0 bt279.2.2.2.1 bt279.2.2.2.2 bt279.1 bt279.2.1) else (none)))) = some (r1, r2, r3, r4, r5) := h
  clear h
  replace H := Option.bind_eq_some_iff.mp H
  obtain ⟨⟨t279, t280, t283, t286, t287⟩, A20, H⟩ := H
  replace H : (if (t283.length : Int) = 0 then (any13S.j0 k t283 true s0_0 t286 t287 t279 t280) else (if 0 < (t283.length : Int) then (any13S.j0 k t283 ((((rd_T61 t283 0).f0).length : Int) == 0) s0_0 t286 t287 t279 t280) else (none))) = some (r1, r2, r3, r4, r5) := H
  have A2 := Aside0.mk A20
  clear A20
  have HC3 := Aside0.mk H
  clear H
  go_enter Try.func75, Try.ntmps75
  go_upto_region 2 with (first | ((with_reducible refine gate_dst (N := 2) rfl ?_); (try (refine gate_guard (by rfl) ?_; dsimp only)); refine box_event ?hg (N := 2) ?hd (cs := #[.int .i64 0, .slice none 0 0]) (t := 54) ?hr ?_; (case hd => rfl); (case hg => rfl); (case hr => first | (go_simp; done) | (go_simp; rfl)); intro gb278 hg w4 hbox hb; have n0_ := Aside0.mk (IsS113.below (hi0_ HI0) hb); have n1_ := Aside0.mk (KeepBut.trans (kb0_ HK) (KeepBut.of_below hb g none) (.inl rfl)); have n2_ := Aside0.mk (below_step (bw1_ HB (IsS113.ge HI0.out)) hb); have n3_ := Aside0.mk (hbox); have n4_ := Aside0.mk ((by rw [hg]; exact (keep_size (w := w) (g := g) (row := none) (kb0_ HK)) : w.heap.size ≤ gb278)); have n5_ := Aside0.mk ((Nat.le_trans HW0.out (by rw [hg]; exact (keep_size (w := w) (g := g) (row := none) (kb0_ HK)) : w.heap.size ≤ gb278) : w0.heap.size ≤ gb278)); have n6_ := Aside0.mk ((by rw [hg]; exact Nat.ne_of_lt (IsS113.lt (show IsS113 w0 _ g s0_0 s0_1 s0_2 from hi0_ HI0)) : g ≠ gb278)); have n7_ := Aside0.mk ((by rw [hg]; exact Nat.ne_of_gt (IsS113.lt (show IsS113 w0 _ g s0_0 s0_1 s0_2 from hi0_ HI0)) : gb278 ≠ g)); clear HI0; clear HK; clear HB; have HI0 := n0_; have HK := n1_; have HB := n2_; have BK278 := n3_; have GW278 := n4_; have GE278 := n5_; have NB0_278 := n6_; have NB278_0 := n7_; clear n0_ n1_ n2_ n3_ n4_ n5_ n6_ n7_; clear hb hbox hg) | ((with_reducible refine gate_callee (f := 95) rfl ?_); refine goesL_ (some 8) rfl rfl Try.func95 (by kernel_rfl) rfl #[.pointer (some ⟨g, 0, none⟩)] rfl (by (try simp only [List.map_toArray, List.map_cons, List.map_nil]); first | done | rfl | (simp only [List.length_drop, List.length_take]; rfl)) ?_; (with_reducible refine (spec_l13Draw.calls k g s0_0 s0_1 s0_2 t279 t280 t283 t286 t287 w0 _ ?side1 ?side2 A2.out).mono ?_); (case side1 => repeat (first | (with_reducible first | exact HI0.out | apply IsS113.alloc | apply IsS113.drewN | apply IsS113.drew | apply IsS113.set_1 | apply IsS113.set_2 | refine IsS113.far ?_ NB0_278.out _) | exact HI0.out)); (case side2 => repeat (first | (with_reducible first | exact HB.out | apply below_alloc | apply pw_below_drewN | apply below_drew1 | refine below_set ?_ (IsS113.ge HI0.out) | refine below_set ?_ GE278.out) | exact HB.out)); rintro e w5 ⟨v281, v284, rfl, ho0, ho1, hi, hb, hk⟩; refine ⟨_, rfl, ?_⟩; have n0_ := Aside0.mk (KeepBut.blk hk (g' := gb278) (o := .cells #[.int .i64 0, .slice none 0 0] 54 (0, 0)) (bk_ BK278) NB278_0.out (by simp)); have n1_ := Aside0.mk (Kd.R_lower ho0 (keep_size (w := w) (g := g) (row := none) (kb1_ HK GW278.out))); have n2_ := Aside0.mk (Kd.S_lower ho1 (keep_size (w := w) (g := g) (row := none) (kb1_ HK GW278.out))); have n3_ := Aside0.mk (KeepBut.trans (kb1_ HK GW278.out) hk (.inl rfl)); have n4_ := Aside0.mk (hb); have n5_ := Aside0.mk (hi); clear BK278; clear HK; clear HB; clear HI0; have BK278 := n0_; have HO282 := n1_; have HO285 := n2_; have HK := n3_; have HB := n4_; have HI0 := n5_; clear n0_ n1_ n2_ n3_ n4_ n5_; (try clear hb); (try clear hb2); (try clear hk); (try clear hi); (try clear ho0); (try clear ho1)) | ((with_reducible refine gate_dst (N := 4) rfl ?_); (try (refine gate_guard (by rfl) ?_; dsimp only)); refine box_event ?hg (N := 4) ?hd (cs := #[.int .i64 0, .slice none 0 0]) (t := 54) ?hr ?_; (case hd => rfl); (case hg => rfl); (case hr => first | (go_simp; done) | (go_simp; rfl)); intro gb288 hg w6 hbox hb; have n0_ := Aside0.mk (Kd.R_below (kr_ HO282) hb); have n1_ := Aside0.mk (Kd.S_below (ks_ HO285) hb); have n2_ := Aside0.mk (IsS113.below (hi1_ HI0 NB0_278.out) hb); have n3_ := Aside0.mk (blk_below (g := gb278) (o := .cells #[.int .i64 0, .slice none 0 0] 54 (0, 0)) (bk_ BK278) hb); have n4_ := Aside0.mk (KeepBut.trans (kb1_ HK GW278.out) (KeepBut.of_below hb g none) (.inl rfl)); have n5_ := Aside0.mk (below_step (bw2_ HB (IsS113.ge HI0.out) GE278.out) hb); have n6_ := Aside0.mk (hbox); have n7_ := Aside0.mk ((by rw [hg]; exact (keep_size (w := w) (g := g) (row := none) (kb1_ HK GW278.out)) : w.heap.size ≤ gb288)); have n8_ := Aside0.mk ((Nat.le_trans HW0.out (by rw [hg]; exact (keep_size (w := w) (g := g) (row := none) (kb1_ HK GW278.out)) : w.heap.size ≤ gb288) : w0.heap.size ≤ gb288)); have n9_ := Aside0.mk ((by rw [hg]; exact Nat.ne_of_lt (blk_lt (g := gb278) (o := .cells #[.int .i64 0, .slice none 0 0] 54 (0, 0)) (bk_ BK278)) : gb278 ≠ gb288)); have n10_ := Aside0.mk ((by rw [hg]; exact Nat.ne_of_gt (blk_lt (g := gb278) (o := .cells #[.int .i64 0, .slice none 0 0] 54 (0, 0)) (bk_ BK278)) : gb288 ≠ gb278)); have n11_ := Aside0.mk ((by rw [hg]; exact Nat.ne_of_lt (IsS113.lt (show IsS113 w0 _ g s0_0 t286 t287 from hi1_ HI0 NB0_278.out)) : g ≠ gb288)); have n12_ := Aside0.mk ((by rw [hg]; exact Nat.ne_of_gt (IsS113.lt (show IsS113 w0 _ g s0_0 t286 t287 from hi1_ HI0 NB0_278.out)) : gb288 ≠ g)); clear HO282; clear HO285; clear HI0; clear BK278; clear HK; clear HB; have HO282 := n0_; have HO285 := n1_; have HI0 := n2_; have BK278 := n3_; have HK := n4_; have HB := n5_; have BK288 := n6_; have GW288 := n7_; have GE288 := n8_; have NB278_288 := n9_; have NB288_278 := n10_; have NB0_288 := n11_; have NB288_0 := n12_; clear n0_ n1_ n2_ n3_ n4_ n5_ n6_ n7_ n8_ n9_ n10_ n11_ n12_; clear hb hbox hg; have hnb7 := NB288_278.out; have hnc7 := NB278_288.out; have hnb8 := NB288_0.out; have hnc8 := NB0_288.out; have hcz9_0 : w6.cell? ⟨gb288, 0, none⟩ = some (.int .i64 0) := (blk_cell BK288.out 0).trans rfl; have hcz9_1 : w6.cell? ⟨gb288, 1, none⟩ = some (.slice none 0 0) := (blk_cell BK288.out 1).trans rfl; have hfz9_0 := blk_frozen BK288.out 0; have hfz9_1 := blk_frozen BK288.out 1; obtain ⟨Ao10, co10, eo10⟩ := Kd.R_slice HO282.out; subst eo10))
  (try simp only [Act.put, List.setIfInBounds_toArray, List.set_cons_zero, List.set_cons_succ])
  go_cut [21] (fun v21 wc => ∃ (kq : Nat) (x21_2 : Bool), v21 = .bool x21_2 ∧ Aside0 (any13S.j0 kq t283 x21_2 s0_0 t286 t287 t279 t280 = some (r1, r2, r3, r4, r5)) ∧ Aside0 (kq ≤ k) ∧ Aside0 (Kd.S k61 61 wc w.heap.size (fun _ => True) v284 t283) ∧ Aside0 (Kd.R k63 63 wc w.heap.size (fun _ => True) (.slice Ao10 t280.length co10) t280) ∧ Aside0 (wc.heap[gb278]? = some (.cells #[.int .i64 0, (.slice none 0 0)] 54 (0, 0))) ∧ Aside0 (wc.heap[gb288]? = some (.cells #[.int .i64 t279, (.slice Ao10 t280.length co10)] 54 (0, 0))) ∧ Aside0 (IsS113 w0 wc g s0_0 t286 t287) ∧ Aside0 (KeepBut w wc g none) ∧ Aside0 (Below w0.heap.size w0 wc))
  case first =>
    have H := HC3.out
    clear HC3
    by_cases c11 : (t283.length : Int) = 0
    · rw [if_pos c11] at H
      have c11b0 : ((t283.length : Int) == 0) = true := beq_iff_eq.mpr c11
      have c11b1 : ((t283.length : Int) != 0) = false := bne_eq_false_iff_eq.mpr c11
      clear c11
      (first | rw [c11b0] | (simp only [i64_w, i32_w]; rw [c11b0]) | skip)
      have H' := Aside0.mk H
      clear H
      obtain ⟨Ao12, co12, eo12⟩ := Kd.S_slice HO285.out
      subst eo12
      go_wp2
      go_meet
      case rel => exact ⟨_, (true), (by first | rfl | (simp; done) | (simp [*]; done)), H', ⟨by first | omega | exact Nat.le_refl _⟩, ⟨by (with_reducible repeat (first | apply Kd.S_alloc | apply Kd.S_drewN | apply Kd.S_drew)); exact Kd.S_mono (Kd.S_far (p := ⟨gb288, 1, none⟩) (Kd.S_far (p := ⟨gb288, 0, none⟩) (Kd.S_types HO285.out BK288.out (by decide)) (fun _ hk => hk.2) (.int .i64 t279)) (fun _ hk => hk.2) (.slice Ao10 t280.length co10)) (fun _ hk => trivial)⟩, ⟨by (with_reducible repeat (first | apply Kd.R_alloc | apply Kd.R_drewN | apply Kd.R_drew)); exact Kd.R_mono (Kd.R_far (p := ⟨gb288, 1, none⟩) (Kd.R_far (p := ⟨gb288, 0, none⟩) (Kd.R_types HO282.out BK288.out (by decide)) (fun _ hk => hk.2) (.int .i64 t279)) (fun _ hk => hk.2) (.slice Ao10 t280.length co10)) (fun _ hk => trivial)⟩, ⟨by (with_reducible repeat (first | refine blk_drewN ?_ _ | refine blk_drew ?_ | refine blk_alloc ?_ _)); refine blk_far ?_ NB278_288.out _; (with_reducible repeat (first | refine blk_drewN ?_ _ | refine blk_drew ?_ | refine blk_alloc ?_ _)); refine blk_far ?_ NB278_288.out _; (with_reducible repeat (first | refine blk_drewN ?_ _ | refine blk_drew ?_ | refine blk_alloc ?_ _)); exact BK278.out⟩, ⟨by (with_reducible repeat (first | refine blk_drewN ?_ _ | refine blk_drew ?_ | refine blk_alloc ?_ _)); refine blk_put (cs := #[.int .i64 t279, .slice none 0 0]) ?_ 1 _ rfl; (with_reducible repeat (first | refine blk_drewN ?_ _ | refine blk_drew ?_ | refine blk_alloc ?_ _)); refine blk_put (cs := #[.int .i64 0, .slice none 0 0]) ?_ 0 _ rfl; (with_reducible repeat (first | refine blk_drewN ?_ _ | refine blk_drew ?_ | refine blk_alloc ?_ _)); exact BK288.out⟩, ⟨hi2_ HI0 NB0_278.out NB0_288.out⟩, ⟨kb2_ HK GW278.out GW288.out⟩, ⟨bw3_ HB (IsS113.ge HI0.out) GE278.out GE288.out⟩⟩
    · rw [if_neg c11] at H
      have c11b0 : ((t283.length : Int) == 0) = false := beq_eq_false_iff_ne.mpr c11
      have c11b1 : ((t283.length : Int) != 0) = true := bne_iff_ne.mpr c11
      have c11b2 : ¬ (t283 = []) := fun h_ => c11 (by rw [h_]; rfl)
      (first | rw [c11b0] | (simp only [i64_w, i32_w]; rw [c11b0]) | skip)
      by_cases c13 : 0 < (t283.length : Int)
      · rw [if_pos c13] at H
        have c13b0 : decide (0 < (t283.length : Int)) = true := decide_eq_true c13
        have c13b1 : decide (0 < t283.length) = true := decide_eq_true (by omega)
        clear c13
        have H' := Aside0.mk H
        clear H
        obtain ⟨Ao14, co14, eo14⟩ := Kd.S_slice HO285.out
        subst eo14
        have p289 : 0 ≤ (0 : Int) := (by omega)
        have q289 : 0 < (t283.length : Int) := of_decide_eq_true (by first | (with_reducible assumption) | assumption)
        obtain ⟨ad289, A289_0, c289_0, e289, hx289_0, hl289_0, hi289_0⟩ := at_T61 (Kd.S_reads' HO285.out).2.2 0 p289 q289
        cases e289
        have qi289 : (0 < t283.length) = True := eq_true (by omega)
        (try rw [show ((0 : Int)).toNat = 0 from rfl] at hx289_0)
        (try rw [Addr.add_zero'] at hx289_0)
        have hn289_0 : ad289.block ≠ gb288 := Kd.own_blk (Kd.S_ne HO285.out BK288.out (by decide))
        have hn289_1 : ad289.block ≠ gb288 := Kd.own_blk (Kd.S_ne HO285.out BK288.out (by decide))
        have HR289_0 := Aside0.mk hi289_0
        have HC289_0 := Aside0.mk hl289_0
        clear hi289_0 hl289_0
        replace hx289_0 := (cell_far (p := ⟨gb288, 0, none⟩) (by first | (rw [add_block]; exact hn289_0) | (show (Addr.add _ _).block ≠ _; rw [add_block]; exact hn289_0) | exact hn289_0) (.int .i64 t279)).trans hx289_0
        replace hx289_0 := (cell_far (p := ⟨gb288, 1, none⟩) (by first | (rw [add_block]; exact hn289_1) | (show (Addr.add _ _).block ≠ _; rw [add_block]; exact hn289_1) | exact hn289_1) (.slice Ao10 t280.length co10)).trans hx289_0
        clear hn289_0
        clear hn289_1
        replace p289 := eq_true p289
        replace q289 := eq_true q289
        go_wp2
        go_meet
        case rel => exact ⟨_, (((((rd_T61 t283 0).f0).length : Int) == 0)), (by first | rfl | (simp; done) | (simp [*]; done)), H', ⟨by first | omega | exact Nat.le_refl _⟩, ⟨by (with_reducible repeat (first | apply Kd.S_alloc | apply Kd.S_drewN | apply Kd.S_drew)); exact Kd.S_mono (Kd.S_far (p := ⟨gb288, 1, none⟩) (Kd.S_far (p := ⟨gb288, 0, none⟩) (Kd.S_types HO285.out BK288.out (by decide)) (fun _ hk => hk.2) (.int .i64 t279)) (fun _ hk => hk.2) (.slice Ao10 t280.length co10)) (fun _ hk => trivial)⟩, ⟨by (with_reducible repeat (first | apply Kd.R_alloc | apply Kd.R_drewN | apply Kd.R_drew)); exact Kd.R_mono (Kd.R_far (p := ⟨gb288, 1, none⟩) (Kd.R_far (p := ⟨gb288, 0, none⟩) (Kd.R_types HO282.out BK288.out (by decide)) (fun _ hk => hk.2) (.int .i64 t279)) (fun _ hk => hk.2) (.slice Ao10 t280.length co10)) (fun _ hk => trivial)⟩, ⟨by (with_reducible repeat (first | refine blk_drewN ?_ _ | refine blk_drew ?_ | refine blk_alloc ?_ _)); refine blk_far ?_ NB278_288.out _; (with_reducible repeat (first | refine blk_drewN ?_ _ | refine blk_drew ?_ | refine blk_alloc ?_ _)); refine blk_far ?_ NB278_288.out _; (with_reducible repeat (first | refine blk_drewN ?_ _ | refine blk_drew ?_ | refine blk_alloc ?_ _)); exact BK278.out⟩, ⟨by (with_reducible repeat (first | refine blk_drewN ?_ _ | refine blk_drew ?_ | refine blk_alloc ?_ _)); refine blk_put (cs := #[.int .i64 t279, .slice none 0 0]) ?_ 1 _ rfl; (with_reducible repeat (first | refine blk_drewN ?_ _ | refine blk_drew ?_ | refine blk_alloc ?_ _)); refine blk_put (cs := #[.int .i64 0, .slice none 0 0]) ?_ 0 _ rfl; (with_reducible repeat (first | refine blk_drewN ?_ _ | refine blk_drew ?_ | refine blk_alloc ?_ _)); exact BK288.out⟩, ⟨hi2_ HI0 NB0_278.out NB0_288.out⟩, ⟨kb2_ HK GW278.out GW288.out⟩, ⟨bw3_ HB (IsS113.ge HI0.out) GE278.out GE288.out⟩⟩
      · rw [if_neg c13] at H
        exact absurd H (by simp)
  case rest =>
    clear HC3
    (try clear c1); (try clear c2); (try clear p2); (try clear q2); (try clear hx2); (try clear qi2); (try clear c7); (try clear c8); (try clear c9); (try clear c11); (try clear c11b0); (try clear c11b1); (try clear c11b2); (try clear c13); (try clear c13b0); (try clear c13b1); (try clear hcz9_0); (try clear hcz9_1); (try clear hfz9_0); (try clear hfz9_1); (try clear hx289_0); (try clear p289); (try clear q289)
    obtain ⟨kq, x21_2, rfl, HA, HJ2, HO_5, HO_289001, BK278, BK288, HI0, HK, HB⟩ := hcut
    cases kq with
    | zero => exact absurd HA.out (by simp [any13S.j0])
    | succ kj2 =>
      have H := HA.out
      clear HA
      simp only [any13S.j0] at H
      by_cases c15 : x21_2 = true
      · subst c15
        have H1 : (some (t279, t280, t283, t286, t287)) = some (r1, r2, r3, r4, r5) := by rw [if_pos rfl] at H; exact H
        clear H
        have H := H1
        clear H1
        simp only [Option.some.injEq, Prod.mk.injEq] at H
        obtain ⟨rfl, rfl, rfl, rfl, rfl⟩ := H
        have hnb16 := NB288_278.out
        have hnc16 := NB278_288.out
        have hnb17 := NB288_0.out
        have hnc17 := NB0_288.out
        have hcz18_0 : wc.cell? ⟨gb288, 0, none⟩ = some (.int .i64 t279) := (blk_cell BK288.out 0).trans rfl
        have hcz18_1 : wc.cell? ⟨gb288, 1, none⟩ = some (.slice Ao10 t280.length co10) := (blk_cell BK288.out 1).trans rfl
        have hfz18_0 := blk_frozen BK288.out 0
        have hfz18_1 := blk_frozen BK288.out 1
        have hnb19 := NB278_0.out
        have hnc19 := NB0_278.out
        have hcz20_0 : wc.cell? ⟨gb278, 0, none⟩ = some (.int .i64 0) := (blk_cell BK278.out 0).trans rfl
        have hcz20_1 : wc.cell? ⟨gb278, 1, none⟩ = some (.slice none 0 0) := (blk_cell BK278.out 1).trans rfl
        have hfz20_0 := blk_frozen BK278.out 0
        have hfz20_1 := blk_frozen BK278.out 1
        go_wp2
        refine bodyPost_ret (results_ct rfl _ _ gb278 54 #[.int .i64 t279, .slice Ao10 t280.length co10] (0, 0) _ rfl (by (with_reducible repeat (first | refine blk_drewN ?_ _ | refine blk_drew ?_ | refine blk_alloc ?_ _)); refine blk_put (cs := #[.int .i64 t279, .slice none 0 0]) ?_ 1 _ rfl; (with_reducible repeat (first | refine blk_drewN ?_ _ | refine blk_drew ?_ | refine blk_alloc ?_ _)); refine blk_put (cs := #[.int .i64 0, .slice none 0 0]) ?_ 0 _ rfl; (with_reducible repeat (first | refine blk_drewN ?_ _ | refine blk_drew ?_ | refine blk_alloc ?_ _)); exact BK278.out) Try.underlying54 rfl (by kernel_rfl)) rfl ?_
        exact ⟨_, _, by first | rfl | (simp [errW_none, errW_some] <;> rfl) | (simp [*, errW_none, errW_some] <;> rfl), by (with_reducible repeat (first | apply Kd.R_alloc | apply Kd.R_drewN | apply Kd.R_drew)); exact Kd.R_mono (Kd.R_far (p := ⟨gb278, 1, none⟩) (Kd.R_far (p := ⟨gb278, 0, none⟩) (Kd.R_types HO_289001.out BK278.out (by decide)) (fun _ hk => hk.2) (.int .i64 t279)) (fun _ hk => hk.2) (.slice Ao10 t280.length co10)) (fun _ hk => trivial), by (with_reducible repeat (first | apply Kd.S_alloc | apply Kd.S_drewN | apply Kd.S_drew)); exact Kd.S_mono (Kd.S_far (p := ⟨gb278, 1, none⟩) (Kd.S_far (p := ⟨gb278, 0, none⟩) (Kd.S_types HO_5.out BK278.out (by decide)) (fun _ hk => hk.2) (.int .i64 t279)) (fun _ hk => hk.2) (.slice Ao10 t280.length co10)) (fun _ hk => trivial), hi2_ HI0 NB0_278.out NB0_288.out, bw3_ HB (IsS113.ge HI0.out) GE278.out GE288.out, kb2_ HK GW278.out GW288.out⟩
      · replace c15 := Bool.eq_false_iff.mpr c15
        subst c15
        have H1 : ((spec_l1Below.f s0_0 t286 t287 8).bind fun bt290 => (if bt290.1 = 0 then (if 0 < (t283.length : Int) then ((spec_l1Int.f s0_0 bt290.2.1 bt290.2.2 (([(-2), 8, 0] : List Int))).bind fun bt297 => (if 0 < (((rd_T61 t283 0).f0).length : Int) then (some (t279, t280, (t283.set (0 : Int).toNat (⟨(((rd_T61 t283 0).f0).set (0 : Int).toNat bt297.1)⟩ : S61)), bt297.2.1, bt297.2.2)) else (none))) else (none)) else (if bt290.1 = 1 then (if 0 < (t283.length : Int) then ((spec_l1Below.f s0_0 bt290.2.1 bt290.2.2 9).bind fun bt304 => (if ((rd_T61 t283 0).f0).length < 17592186044416 then (some (t279, t280, (t283.set (0 : Int).toNat (⟨(((rd_T61 t283 0).f0) ++ [wrap64 (bt304.1 - 1)])⟩ : S61)), bt304.2.1, bt304.2.2)) else (none))) else (none)) else (if bt290.1 = 2 then none else (some (t279, t280, t283, bt290.2.1, bt290.2.2)))))) = some (r1, r2, r3, r4, r5) := by rw [if_neg (show ¬ (false = true) by decide)] at H; exact H
        clear H
        have H := H1
        clear H1
        replace H := Option.bind_eq_some_iff.mp H
        obtain ⟨⟨t290, t291, t292⟩, A210, H⟩ := H
        replace H : (if t290 = 0 then (if 0 < (t283.length : Int) then ((spec_l1Int.f s0_0 t291 t292 (([(-2), 8, 0] : List Int))).bind fun bt297 => (if 0 < (((rd_T61 t283 0).f0).length : Int) then (some (t279, t280, (t283.set (0 : Int).toNat (⟨(((rd_T61 t283 0).f0).set (0 : Int).toNat bt297.1)⟩ : S61)), bt297.2.1, bt297.2.2)) else (none))) else (none)) else (if t290 = 1 then (if 0 < (t283.length : Int) then ((spec_l1Below.f s0_0 t291 t292 9).bind fun bt304 => (if ((rd_T61 t283 0).f0).length < 17592186044416 then (some (t279, t280, (t283.set (0 : Int).toNat (⟨(((rd_T61 t283 0).f0) ++ [wrap64 (bt304.1 - 1)])⟩ : S61)), bt304.2.1, bt304.2.2)) else (none))) else (none)) else (if t290 = 2 then none else (some (t279, t280, t283, t291, t292))))) = some (r1, r2, r3, r4, r5) := H
        have A21 := Aside0.mk A210
        clear A210
        by_cases c22 : t290 = 0
        · rw [if_pos c22] at H
          have c22b0 : (t290 == 0) = true := beq_iff_eq.mpr c22
          have c22b1 : (t290 != 0) = false := bne_eq_false_iff_eq.mpr c22
          clear c22
          by_cases c23 : 0 < (t283.length : Int)
          · rw [if_pos c23] at H
            have c23b0 : decide (0 < (t283.length : Int)) = true := decide_eq_true c23
            have c23b1 : decide (0 < t283.length) = true := decide_eq_true (by omega)
            clear c23
            obtain ⟨y294, hy294⟩ : ∃ y_ : List Int, y_ = (([(-2), 8, 0] : List Int)) := ⟨_, rfl⟩
            replace H : ((spec_l1Int.f s0_0 t291 t292 y294).bind fun bt297 => (if 0 < (((rd_T61 t283 0).f0).length : Int) then (some (t279, t280, (t283.set (0 : Int).toNat (⟨(((rd_T61 t283 0).f0).set (0 : Int).toNat bt297.1)⟩ : S61)), bt297.2.1, bt297.2.2)) else (none))) = some (r1, r2, r3, r4, r5) := by first | (rw [hy294]; with_reducible exact H) | (have H2_ := (Option.bind_some _ _).symm.trans H; rw [hy294]; with_reducible exact H2_) | (have H2_ := (Option.bind_some _ _).symm.trans H; with_reducible exact H2_) | with_reducible exact H | (rw [hy294]; exact H) | exact H
            have Ny294 := Aside0.mk hy294
            clear hy294
            replace H := Option.bind_eq_some_iff.mp H
            obtain ⟨⟨t297, t298, t299⟩, A240, H⟩ := H
            replace H : (if 0 < (((rd_T61 t283 0).f0).length : Int) then (some (t279, t280, (t283.set (0 : Int).toNat (⟨(((rd_T61 t283 0).f0).set (0 : Int).toNat t297)⟩ : S61)), t298, t299)) else (none)) = some (r1, r2, r3, r4, r5) := H
            have A24 := Aside0.mk A240
            clear A240
            by_cases c25 : 0 < (((rd_T61 t283 0).f0).length : Int)
            · rw [if_pos c25] at H
              have c25b0 : decide (0 < (((rd_T61 t283 0).f0).length : Int)) = true := decide_eq_true c25
              have c25b1 : decide (0 < ((rd_T61 t283 0).f0).length) = true := decide_eq_true (by omega)
              clear c25
              obtain ⟨y300, hy300⟩ : ∃ y_ : List Int, y_ = (((rd_T61 t283 0).f0).set (0 : Int).toNat t297) := ⟨_, rfl⟩
              replace H : (some (t279, t280, (t283.set (0 : Int).toNat (⟨y300⟩ : S61)), t298, t299)) = some (r1, r2, r3, r4, r5) := by first | (rw [hy300]; with_reducible exact H) | (have H2_ := (Option.bind_some _ _).symm.trans H; rw [hy300]; with_reducible exact H2_) | (have H2_ := (Option.bind_some _ _).symm.trans H; with_reducible exact H2_) | with_reducible exact H | (rw [hy300]; exact H) | exact H
              have Ny300 := Aside0.mk hy300
              clear hy300
              obtain ⟨y302, hy302⟩ : ∃ y_ : List (S61), y_ = (t283.set (0 : Int).toNat (⟨y300⟩ : S61)) := ⟨_, rfl⟩
              replace H : (some (t279, t280, y302, t298, t299)) = some (r1, r2, r3, r4, r5) := by first | (rw [hy302]; with_reducible exact H) | (have H2_ := (Option.bind_some _ _).symm.trans H; rw [hy302]; with_reducible exact H2_) | (have H2_ := (Option.bind_some _ _).symm.trans H; with_reducible exact H2_) | with_reducible exact H | (rw [hy302]; exact H) | exact H
              have Ny302 := Aside0.mk hy302
              clear hy302
              simp only [Option.some.injEq, Prod.mk.injEq] at H
              obtain ⟨rfl, rfl, rfl, rfl, rfl⟩ := H
              try go_wp2_with (first | ((with_reducible refine gate_callee (f := 96) rfl ?_); refine goesL_ (some 25) rfl rfl Try.func96 (by kernel_rfl) rfl #[.pointer (some ⟨g, 0, none⟩), .int .i64 8] rfl (by (try simp only [List.map_toArray, List.map_cons, List.map_nil]); first | done | rfl | (simp only [List.length_drop, List.length_take]; rfl)) ?_; (with_reducible refine (spec_l1Below.calls g s0_0 t286 t287 8 t290 t291 t292 w0 _ ?side1 ?side2 A21.out).mono ?_); (case side1 => repeat (first | (with_reducible first | exact HI0.out | apply IsS113.alloc | apply IsS113.drewN | apply IsS113.drew | apply IsS113.set_1 | apply IsS113.set_2 | refine IsS113.far ?_ NB0_278.out _ | refine IsS113.far ?_ NB0_288.out _) | exact HI0.out)); (case side2 => repeat (first | (with_reducible first | exact HB.out | apply below_alloc | apply pw_below_drewN | apply below_drew1 | refine below_set ?_ (IsS113.ge HI0.out) | refine below_set ?_ GE278.out | refine below_set ?_ GE288.out) | exact HB.out)); rintro e w27 ⟨rfl, hi, hb, hk⟩; refine ⟨_, rfl, ?_⟩; have n0_ := Aside0.mk (Kd.S_mono (Kd.S_keep (IsS113.apartS (show IsS113 w0 _ g s0_0 t286 t287 from hi2_ HI0 NB0_278.out NB0_288.out) (ks_ HO_5) (by decide)) hk (fun _ h => h.2)) (fun _ h => h.1)); have n1_ := Aside0.mk (Kd.R_mono (Kd.R_keep (IsS113.apart (show IsS113 w0 _ g s0_0 t286 t287 from hi2_ HI0 NB0_278.out NB0_288.out) (kr_ HO_289001) (by decide)) hk (fun _ h => h.2)) (fun _ h => h.1)); have n2_ := Aside0.mk (KeepBut.blk hk (g' := gb278) (o := .cells #[.int .i64 0, .slice none 0 0] 54 (0, 0)) (bk_ BK278) NB278_0.out (by simp)); have n3_ := Aside0.mk (KeepBut.blk hk (g' := gb288) (o := .cells #[.int .i64 t279, .slice Ao10 t280.length co10] 54 (0, 0)) (bk_ BK288) NB288_0.out (by simp)); have n4_ := Aside0.mk (KeepBut.trans (kb2_ HK GW278.out GW288.out) hk (.inl rfl)); have n5_ := Aside0.mk (hb); have n6_ := Aside0.mk (hi); clear HO_5; clear HO_289001; clear BK278; clear BK288; clear HK; clear HB; clear HI0; have HO_5 := n0_; have HO_289001 := n1_; have BK278 := n2_; have BK288 := n3_; have HK := n4_; have HB := n5_; have HI0 := n6_; clear n0_ n1_ n2_ n3_ n4_ n5_ n6_; (try clear hb); (try clear hb2); (try clear hk); (try clear hi)))
              have n0_ := Aside0.mk (Kd.S_drew HO_5.out)
              have n1_ := Aside0.mk (Kd.R_drew HO_289001.out)
              have n2_ := Aside0.mk (blk_drew BK278.out)
              have n3_ := Aside0.mk (blk_drew BK288.out)
              have n4_ := Aside0.mk (IsS113.drew HI0.out)
              have n5_ := Aside0.mk (keep_drew HK.out)
              have n6_ := Aside0.mk (below_drew1 HB.out)
              clear HO_5
              clear HO_289001
              clear BK278
              clear BK288
              clear HI0
              clear HK
              clear HB
              have HO_5 := n0_
              have HO_289001 := n1_
              have BK278 := n2_
              have BK288 := n3_
              have HI0 := n4_
              have HK := n5_
              have HB := n6_
              clear n0_ n1_ n2_ n3_ n4_ n5_ n6_
              obtain ⟨Ao29, co29, eo29⟩ := Kd.S_slice HO_5.out
              (first | subst eo29 | (injection eo29 with f1_ f2_ f3_; have f4_ := f1_.symm; have f5_ := f3_.symm; clear f1_ f2_ f3_; subst f4_; subst f5_))
              have p293 : 0 ≤ (0 : Int) := (by omega)
              have q293 : 0 < (t283.length : Int) := of_decide_eq_true (by first | (with_reducible assumption) | assumption)
              obtain ⟨ad293, A293_0, c293_0, e293, hx293_0, hl293_0, hi293_0⟩ := at_T61 (Kd.S_reads' HO_5.out).2.2 0 p293 q293
              cases e293
              obtain ⟨ce293, hce293, hMe293, hcc293⟩ := Kd.S_get HO_5.out z61 0 p293 (by first | exact q293 | exact of_decide_eq_true (by first | (with_reducible assumption) | assumption) | (have e_ := (Kd.S_reads' HO_5.out).1; omega))
              obtain ⟨ve293_0, rfl, ge293_0⟩ := k61_openM hMe293
              have hv293_0 := hcc293 0 _ rfl
              rw [Nat.add_zero, show (k61).sz = 1 from rfl, Nat.mul_one] at hv293_0
              replace hv293_0 := Option.some.inj (hv293_0.symm.trans hx293_0)
              rw [hv293_0] at ge293_0
              have HL293_0 := Aside0.mk (show Kd.R (Kd.int .i64) 3 _ _ _ _ ((rd_T61 t283 0).f0) from ge293_0)
              clear hv293_0 ge293_0
              have HX293_0 := Aside0.mk hx293_0
              clear hcc293 hce293
              have qi293 : (0 < t283.length) = True := eq_true (by omega)
              (try rw [show ((0 : Int)).toNat = 0 from rfl] at hx293_0)
              (try rw [Addr.add_zero'] at hx293_0)
              have HR293_0 := Aside0.mk hi293_0
              have HC293_0 := Aside0.mk hl293_0
              clear hi293_0 hl293_0
              replace p293 := eq_true p293
              replace q293 := eq_true q293
              refine start_ (n := 9) (S := fun w' => w'.cell? ad293 = some (.slice A293_0 ((rd_T61 t283 0).f0).length c293_0)) (ds := [8]) #[false, false, false, false, false, false, false, false, false] (by kernel_rfl) rfl rfl (hx293_0) (fun hHeld => ?_); refine with_tabW any13S.tab6 any13S.bits6 (fun HT_ HW_ => ?_)
              generalize w27.drew = w28 at HO_5 HO_289001 BK278 BK288 HI0 HK HB HL293_0 HR293_0 HX293_0 hx293_0 hHeld ⊢
              refine pure_ (i := 0) (N := some 28) (v := ?_) (a' := ?_) #[true, false, false, false, false, false, false, false, false] rfl rfl (any_of HT_.out (by kernel_rfl)) (fun _ _ _ h => h) (Or.inl ⟨by rfl, ?_⟩) ?_ ?_
              rotate_left
              · intro w'
                go_simp
                with_reducible rfl
              rotate_left
              · simp only [Act.put, List.setIfInBounds_toArray, List.set_cons_zero, List.set_cons_succ, i64_w, i32_w]
                rfl
              refine pure_ (i := 1) (N := some 29) (v := ?_) (a' := ?_) #[true, true, false, false, false, false, false, false, false] rfl rfl (any_of HT_.out (by kernel_rfl)) (fun _ _ _ h => h) (Or.inl ⟨by rfl, ?_⟩) ?_ ?_
              rotate_left
              · intro w'
                go_simp
                with_reducible rfl
              rotate_left
              · simp only [Act.put, List.setIfInBounds_toArray, List.set_cons_zero, List.set_cons_succ, i64_w, i32_w]
                rfl
              refine pure_ (i := 2) (N := some 30) (v := ?_) (a' := ?_) #[true, true, true, false, false, false, false, false, false] rfl rfl (any_of HT_.out (by kernel_rfl)) (fun _ _ _ h => h) (Or.inl ⟨by rfl, ?_⟩) ?_ ?_
              rotate_left
              · intro w'
                go_simp
                with_reducible rfl
              rotate_left
              · simp only [Act.put, List.setIfInBounds_toArray, List.set_cons_zero, List.set_cons_succ, i64_w, i32_w]
                rfl
              refine pure_ (i := 4) (N := some 32) (v := ?_) (a' := ?_) #[true, true, true, false, true, false, false, false, false] rfl rfl (any_of HT_.out (by kernel_rfl)) (fun _ _ _ h => h) (Or.inl ⟨by rfl, ?_⟩) ?_ ?_
              rotate_left
              · intro w'
                go_simp
                with_reducible rfl
              rotate_left
              · simp only [Act.put, List.setIfInBounds_toArray, List.set_cons_zero, List.set_cons_succ, i64_w, i32_w]
                rfl
              refine take_ (i := 3) (N := some 31) (v := ?_) (a' := ?_) #[true, true, true, true, true, false, false, false, false] rfl rfl (take_ofW HT_.out HW_.out (by kernel_rfl)) (fun _ _ _ h => h) (Or.inl ⟨by rfl, ?_⟩) hHeld ?_ ?_
              rotate_left
              · intro w' s0
                go_simp
                with_reducible rfl
              rotate_left
              · simp only [Act.put, List.setIfInBounds_toArray, List.set_cons_zero, List.set_cons_succ, i64_w, i32_w]
                rfl
              refine one_ (i := 5) (N := some 33) #[true, true, true, true, true, true, false, false, false] rfl rfl (one_of HT_.out (by kernel_rfl)) (by decide) (fun K hK => ?_)
              refine Kd.R_lit_step (Kd.int .i64) _ 3 ?hg (N := 33) ?hd (xs := ([(-2), 8, 0] : List Int)) (inner := [.int .i64 (-2), .int .i64 8, .int .i64 0]) (ok := fun _ => True) (okp := fun _ => True) ?hr ?hp (fun _ hk => hk) trivial (Below.refl _ _) (Nat.le_refl _) (by simp) ?_; (case hd => rfl); (case hg => rfl); (case hr => first | (go_simp; done) | (go_simp; rfl)); (case hp => exact (Reps.one (show Kd.M (Kd.int .i64) _ _ _ (-2) [.int .i64 (-2)] from rfl) (Reps.one (show Kd.M (Kd.int .i64) _ _ _ 8 [.int .i64 8] from rfl) (Reps.one (show Kd.M (Kd.int .i64) _ _ _ 0 [.int .i64 0] from rfl) (Reps.none _ _)))))
              intro v295 w30 ho31 hb hg_ hnew_
              have HS0_ := (hb.cell (World.block_lt_of_cell? _ _ (hHeld))).trans (hHeld)
              clear hg_ hnew_
              (first | rw [← Ny294.out] at ho31 | (simp only [Int.reduceToNat] at ho31; rw [← Ny294.out] at ho31))
              have n0_ := Aside0.mk (Kd.S_elder' (ks_ HO_5) (Kd.R_base ho31) hb)
              have n1_ := Aside0.mk (Kd.R_below (kr_ HO_289001) hb)
              have n2_ := Aside0.mk (Kd.R_elder' (kr_ HL293_0) (Kd.R_base ho31) hb)
              have n3_ := Aside0.mk (Kd.R_lower (Kd.R_new' ho31 (Kd.R_lt (kr_ HL293_0))) (keep_size (w := w) (g := g) (row := none) (kb2_ HK GW278.out GW288.out)))
              have n4_ := Aside0.mk (blk_below (g := gb278) (o := .cells #[.int .i64 0, .slice none 0 0] 54 (0, 0)) (bk_ BK278) hb)
              have n5_ := Aside0.mk (blk_below (g := gb288) (o := .cells #[.int .i64 t279, .slice Ao10 t280.length co10] 54 (0, 0)) (bk_ BK288) hb)
              have n6_ := Aside0.mk (IsS113.below (hi2_ HI0 NB0_278.out NB0_288.out) hb)
              have n7_ := Aside0.mk (Kd.C_below (by repeat (first | (with_reducible exact HR293_0.out) | (with_reducible refine Kd.C_alloc ?_ _) | (with_reducible refine Kd.C_drewN ?_ _) | (with_reducible refine Kd.C_drew ?_) | exact HR293_0.out)) hb)
              have n8_ := Aside0.mk (pw_cell_below hb HX293_0.out)
              have n9_ := Aside0.mk (KeepBut.trans (kb2_ HK GW278.out GW288.out) (KeepBut.of_below hb g none) (.inl rfl))
              have n10_ := Aside0.mk (below_step (bw3_ HB (IsS113.ge HI0.out) GE278.out GE288.out) hb)
              clear HO_5
              clear HO_289001
              clear HL293_0
              clear BK278
              clear BK288
              clear HI0
              clear HR293_0
              clear HX293_0
              clear HK
              clear HB
              have HO_5 := n0_
              have HO_289001 := n1_
              have HL293_0 := n2_
              have HO296 := n3_
              have BK278 := n4_
              have BK288 := n5_
              have HI0 := n6_
              have HR293_0 := n7_
              have HX293_0 := n8_
              have HK := n9_
              have HB := n10_
              clear n0_ n1_ n2_ n3_ n4_ n5_ n6_ n7_ n8_ n9_ n10_
              clear hb ho31
              obtain ⟨Ao32, co32, eo32⟩ := Kd.R_slice HO296.out
              (first | subst eo32 | (injection eo32 with f1_ f2_ f3_; have f4_ := f1_.symm; have f5_ := f3_.symm; clear f1_ f2_ f3_; subst f4_; subst f5_))
              refine hK.out _ _ (HS0_) (fun hHeld => ?_)
              clear hK K
              refine norm_ (a' := ?_) ?_ ?_
              rotate_left
              · show Act.put _ (some 33) _ = _
                simp only [Act.put, List.setIfInBounds_toArray, List.set_cons_zero, List.set_cons_succ, i64_w, i32_w]
                rfl
              refine one_ (i := 6) (N := some 34) #[true, true, true, true, true, true, true, false, false] rfl rfl (one_of HT_.out (by kernel_rfl)) (by decide) (fun K hK => ?_)
              refine goes_ Try.func97 (by kernel_rfl) rfl #[.pointer (some ⟨g, 0, none⟩), .slice Ao32 y294.length co32] (by rfl) rfl rfl (by (try simp only [List.map_toArray, List.map_cons, List.map_nil]); first | done | rfl | (simp only [List.length_drop, List.length_take]; rfl)) ?_
              with_reducible refine (spec_l1Int.calls g s0_0 t291 t292 _ _ y294 t297 t298 t299 w0 _ ?side1 ?side2 ?side3 ?side4 ?side5 A24.out).mono ?_
              (case side1 => repeat (first | (with_reducible first | exact HI0.out | apply IsS113.alloc | apply IsS113.drewN | apply IsS113.drew | apply IsS113.set_1 | apply IsS113.set_2 | refine IsS113.far ?_ NB0_278.out _ | refine IsS113.far ?_ NB0_288.out _) | exact HI0.out))
              (case side2 => repeat (first | (with_reducible first | exact HB.out | apply below_alloc | apply pw_below_drewN | apply below_drew1 | refine below_set ?_ (IsS113.ge HI0.out) | refine below_set ?_ GE278.out | refine below_set ?_ GE288.out) | exact HB.out))
              (case side3 => repeat (first | exact (Kd.R_reads' HO296.out).2.2 | (with_reducible refine Kd.C_alloc ?_ _) | (with_reducible refine Kd.C_drewN ?_ _) | (with_reducible refine Kd.C_drew ?_)))
              (case side4 => exact (Kd.R_reads' HO296.out).2.1)
              (case side5 => exact far_slice (IsS113.own_ne HI0.out HO296.out (by decide)))
              rintro e w33 ⟨rfl, hi, hb, hk⟩
              have HS0_ := keep_cell hk (hHeld) (by first | (rw [add_block]; exact Kd.own_blk (IsS113.own_neS HI0.out HO_5.out (by decide))) | (show (Addr.add _ _).block ≠ _; rw [add_block]; exact Kd.own_blk (IsS113.own_neS HI0.out HO_5.out (by decide))) | exact Kd.own_blk (IsS113.own_neS HI0.out HO_5.out (by decide)))
              refine ⟨_, rfl, ?_⟩
              have n0_ := Aside0.mk (Kd.S_mono (Kd.S_keep (IsS113.apartS (show IsS113 w0 _ g s0_0 t291 t292 from hi2_ HI0 NB0_278.out NB0_288.out) (ks_ HO_5) (by decide)) hk (fun _ h => h.2)) (fun _ h => h.1))
              have n1_ := Aside0.mk (Kd.R_mono (Kd.R_keep (IsS113.apart (show IsS113 w0 _ g s0_0 t291 t292 from hi2_ HI0 NB0_278.out NB0_288.out) (kr_ HO_289001) (by decide)) hk (fun _ h => h.2)) (fun _ h => h.1))
              have n2_ := Aside0.mk (KeepBut.blk hk (g' := gb278) (o := .cells #[.int .i64 0, .slice none 0 0] 54 (0, 0)) (bk_ BK278) NB278_0.out (by simp))
              have n3_ := Aside0.mk (KeepBut.blk hk (g' := gb288) (o := .cells #[.int .i64 t279, .slice Ao10 t280.length co10] 54 (0, 0)) (bk_ BK288) NB288_0.out (by simp))
              have n4_ := Aside0.mk (Kd.R_mono (Kd.R_keep (IsS113.apart (show IsS113 w0 _ g s0_0 t291 t292 from hi2_ HI0 NB0_278.out NB0_288.out) (kr_ HL293_0) (by decide)) hk (fun _ h => h.2)) (fun _ h => h.1))
              have n5_ := Aside0.mk (keep_cell hk HX293_0.out (by first | (rw [add_block]; exact Kd.own_blk (IsS113.own_neS HI0.out HO_5.out (by decide))) | (show (Addr.add _ _).block ≠ _; rw [add_block]; exact Kd.own_blk (IsS113.own_neS HI0.out HO_5.out (by decide))) | exact Kd.own_blk (IsS113.own_neS HI0.out HO_5.out (by decide)) | (dsimp only; exact Kd.own_blk (IsS113.own_neS HI0.out HO_5.out (by decide)))))
              have n6_ := Aside0.mk (Kd.R_mono (Kd.R_keep (IsS113.apart (show IsS113 w0 _ g s0_0 t291 t292 from hi2_ HI0 NB0_278.out NB0_288.out) (kr_ HO296) (by decide)) hk (fun _ h => h.2)) (fun _ h => h.1))
              have n7_ := Aside0.mk (KeepBut.trans (kb2_ HK GW278.out GW288.out) hk (.inl rfl))
              have n8_ := Aside0.mk (hb)
              have n9_ := Aside0.mk (hi)
              clear HO_5
              clear HO_289001
              clear BK278
              clear BK288
              clear HL293_0
              clear HX293_0
              clear HO296
              clear HK
              clear HB
              clear HI0
              have HO_5 := n0_
              have HO_289001 := n1_
              have BK278 := n2_
              have BK288 := n3_
              have HL293_0 := n4_
              have HX293_0 := n5_
              have HO296 := n6_
              have HK := n7_
              have HB := n8_
              have HI0 := n9_
              clear n0_ n1_ n2_ n3_ n4_ n5_ n6_ n7_ n8_ n9_
              (try clear hb)
              (try clear hb2)
              (try clear hk)
              (try clear hi)
              have p26 : 0 ≤ (0 : Int) := (by omega)
              have q26 : (0 : Int) < ((((rd_T61 t283 0).f0).length : Int) : Int) := of_decide_eq_true (by first | (with_reducible assumption) | assumption)
              have qi26 : (0 < ((rd_T61 t283 0).f0).length) = True := eq_true (by omega)
              obtain ⟨go26, co26, eo26, gb26, gl26, cl26, HG26⟩ := Kd.R_form HL293_0.out (by omega)
              (first | cases eo26 | (injection eo26 with ea_ en_ ec_; (first | subst ea_ | (injection ea_ with ea_; subst ea_)); subst ec_; clear en_))
              have GB26 := Aside0.mk gb26
              have GG26 := Aside0.mk HG26
              clear gb26 gl26 HG26
              obtain ⟨hx26_0, hf26_0⟩ := Kd.R_celln 0 HL293_0.out (0 : Int) p26 q26
              (try rw [show ((0 : Int)).toNat = 0 from rfl] at hx26_0)
              (try simp only [Nat.reduceMul, Nat.zero_mul, Nat.zero_add, Nat.reduceAdd] at hx26_0)
              (try rw [show ((0 : Int)).toNat = 0 from rfl] at hf26_0)
              (try simp only [Nat.reduceMul, Nat.zero_mul, Nat.zero_add, Nat.reduceAdd] at hf26_0)
              replace p26 := eq_true p26
              replace q26 := eq_true q26
              have n_ := Aside0.mk (Kd.S_mono (ok' := (fun k_ => some k_ ≠ (.slice Ao32 y294.length co32 : Value).ownBlock)) HO_5.out (fun k_ hk => hk.2))
              clear HO_5
              have HO_5 := n_
              clear n_
              have hq34 : (0 : Int) < (t283.length : Int) := (by have h_ : (0 : Int) < ((t283.length : Int) : Int) := of_decide_eq_true (by first | (with_reducible assumption) | assumption); first | exact h_ | (have e_ := (Kd.S_reads' HO_5.out).1; omega) | simpa only [List.length_set, List.length_set] using h_)
              obtain ⟨oki34, ce34, hcl34, hM34, hcc34, hok34, hbk34⟩ := Kd.S_borrow HO_5.out z61 (0 : Int) (by omega) hq34
              obtain ⟨ve34_0, rfl, ge34_0⟩ := k61_openM hM34
              have hv34 := hcc34 0 _ rfl
              rw [Nat.add_zero, show (k61).sz = 1 from rfl, Nat.mul_one] at hv34
              replace hv34 := Option.some.inj (hv34.symm.trans HX293_0.out)
              subst hv34
              clear hcc34 hcl34
              replace ge34_0 := (show Kd.R (Kd.int .i64) 3 _ _ _ _ ((rd_T61 t283 0).f0) from ge34_0)
              have HP34 := Kd.R_putg ge34_0 (0 : Int) t297
              have HN0_go26 := Aside0.mk (show g ≠ go26 from by have h_ := IsS113.own_ne HI0.out HL293_0.out (by decide); intro e_; exact h_ (by rw [e_]; rfl))
              rw [← Ny300.out] at HP34
              have HS34 := hbk34 HP34.2 (fun k_ e_ => by injection e_ with e_; subst e_; exact ge34_0.1 _ rfl) (x' := (⟨y300⟩ : S61)) (k61_mkM _ _ _ (⟨y300⟩ : S61) HP34.1)
              rw [← Ny302.out] at HS34
              have HQ34 := Aside0.mk HS34
              clear HP34 HS34 hbk34 hok34
              refine hK.out _ _ (HS0_) (fun hHeld => ?_)
              clear hK K
              refine norm_ (a' := ?_) ?_ ?_
              rotate_left
              · show Act.put _ (some 34) _ = _
                simp only [Act.put, List.setIfInBounds_toArray, List.set_cons_zero, List.set_cons_succ, i64_w, i32_w]
                rfl
              refine pure_ (i := 7) (N := some 35) (v := ?_) (a' := ?_) #[true, true, true, true, true, true, true, true, false] rfl rfl (any_of HT_.out (by kernel_rfl)) (fun _ _ _ h => h) (Or.inl ⟨by rfl, ?_⟩) ?_ ?_
              rotate_left
              · intro w'
                go_simp
                with_reducible rfl
              rotate_left
              · simp only [Act.put, List.setIfInBounds_toArray, List.set_cons_zero, List.set_cons_succ, i64_w, i32_w]
                rfl
              refine last_ (i := 8) (N := none) #[true, true, true, true, true, true, true, true, true] rfl rfl (one_of HT_.out (by kernel_rfl)) (by decide) (fun K hK => ?_)
              refine skip_ (w1 := ?_) (by rfl) rfl ?_ ?_
              rotate_left
              · go_simp
                rfl
              refine hK.out _ _ ?_
              clear hK K
              refine done_ (done_of HT_.out (by kernel_rfl)) ?_
              have n0_ : Aside0 (Kd.S k61 61 (w33.setCell ⟨go26, 0, none⟩ (.int .i64 t297)) w.heap.size (fun k_ => some k_ ≠ (.slice Ao32 y294.length co32 : Value).ownBlock) (.slice (some ad293) t283.length co29) y302) := ⟨ks_ HQ34⟩
              have n1_ : Aside0 (Kd.R k63 63 (w33.setCell ⟨go26, 0, none⟩ (.int .i64 t297)) w.heap.size (fun _ => True) (.slice Ao10 t280.length co10) t280) := ⟨by (with_reducible repeat (first | apply Kd.R_alloc | apply Kd.R_drewN | apply Kd.R_drew)); exact Kd.R_mono (Kd.R_far (p := ⟨go26, 0, none⟩) (Kd.R_types HO_289001.out GG26.out (by decide)) (fun _ hk => hk.2) (.int .i64 t297)) (fun _ hk => trivial)⟩
              have n2_ : Aside0 (Kd.R (Kd.int .i64) 3 (w33.setCell ⟨go26, 0, none⟩ (.int .i64 t297)) w.heap.size (fun _ => True) (.slice Ao32 y294.length co32) y294) := ⟨by (with_reducible repeat (first | apply Kd.R_alloc | apply Kd.R_drewN | apply Kd.R_drew)); exact Kd.R_mono (Kd.R_far (p := ⟨go26, 0, none⟩) (Kd.R_far1 HO296.out rfl ((HL293_0.out.1 _ rfl).2)) (fun _ hk => hk.2) (.int .i64 t297)) (fun _ hk => trivial)⟩
              have n3_ : Aside0 ((w33.setCell ⟨go26, 0, none⟩ (.int .i64 t297)).heap[gb278]? = some (.cells #[.int .i64 0, .slice none 0 0] 54 (0, 0))) := ⟨by (with_reducible repeat (first | refine blk_drewN ?_ _ | refine blk_drew ?_ | refine blk_alloc ?_ _)); refine blk_far ?_ (by have h_ := Kd.R_ne HL293_0.out BK278.out (by decide); intro e_; exact h_ (by rw [e_]; rfl)) _; (with_reducible repeat (first | refine blk_drewN ?_ _ | refine blk_drew ?_ | refine blk_alloc ?_ _)); exact BK278.out⟩
              have n4_ : Aside0 ((w33.setCell ⟨go26, 0, none⟩ (.int .i64 t297)).heap[gb288]? = some (.cells #[.int .i64 t279, .slice Ao10 t280.length co10] 54 (0, 0))) := ⟨by (with_reducible repeat (first | refine blk_drewN ?_ _ | refine blk_drew ?_ | refine blk_alloc ?_ _)); refine blk_far ?_ (by have h_ := Kd.R_ne HL293_0.out BK288.out (by decide); intro e_; exact h_ (by rw [e_]; rfl)) _; (with_reducible repeat (first | refine blk_drewN ?_ _ | refine blk_drew ?_ | refine blk_alloc ?_ _)); exact BK288.out⟩
              have n5_ : Aside0 (IsS113 w0 (w33.setCell ⟨go26, 0, none⟩ (.int .i64 t297)) g s0_0 t298 t299) := ⟨hi3_ HI0 HN0_go26.out NB0_278.out NB0_288.out⟩
              have n6_ : Aside0 (KeepBut w (w33.setCell ⟨go26, 0, none⟩ (.int .i64 t297)) g none) := ⟨kb3_ HK GB26.out GW278.out GW288.out⟩
              have n7_ : Aside0 (Below w0.heap.size w0 (w33.setCell ⟨go26, 0, none⟩ (.int .i64 t297))) := ⟨bw4_ HB (Nat.le_trans HL.out GB26.out) (IsS113.ge HI0.out) GE278.out GE288.out⟩
              (try clear HO_5)
              (try clear HO_289001)
              (try clear HO296)
              (try clear BK278)
              (try clear BK288)
              (try clear HI0)
              (try clear HK)
              (try clear HB)
              generalize (w33.setCell ⟨go26, 0, none⟩ (.int .i64 t297)) = w36 at n0_ n1_ n2_ n3_ n4_ n5_ n6_ n7_ ⊢
              have HO_5 := n0_
              have HO_289001 := n1_
              have HO296 := n2_
              have BK278 := n3_
              have BK288 := n4_
              have HI0 := n5_
              have HK := n6_
              have HB := n7_
              clear n0_ n1_ n2_ n3_ n4_ n5_ n6_ n7_
              have hnb37 := NB288_278.out
              have hnc37 := NB278_288.out
              have hnb38 := NB288_0.out
              have hnc38 := NB0_288.out
              have hcz39_0 : w36.cell? ⟨gb288, 0, none⟩ = some (.int .i64 t279) := (blk_cell BK288.out 0).trans rfl
              have hcz39_1 : w36.cell? ⟨gb288, 1, none⟩ = some (.slice Ao10 t280.length co10) := (blk_cell BK288.out 1).trans rfl
              have hfz39_0 := blk_frozen BK288.out 0
              have hfz39_1 := blk_frozen BK288.out 1
              have hnb40 := NB278_0.out
              have hnc40 := NB0_278.out
              have hcz41_0 : w36.cell? ⟨gb278, 0, none⟩ = some (.int .i64 0) := (blk_cell BK278.out 0).trans rfl
              have hcz41_1 : w36.cell? ⟨gb278, 1, none⟩ = some (.slice none 0 0) := (blk_cell BK278.out 1).trans rfl
              have hfz41_0 := blk_frozen BK278.out 0
              have hfz41_1 := blk_frozen BK278.out 1
              try go_wp2
              refine bodyPost_ret (results_ct rfl _ _ gb278 54 #[.int .i64 t279, .slice Ao10 t280.length co10] (0, 0) _ rfl (by (with_reducible repeat (first | refine blk_drewN ?_ _ | refine blk_drew ?_ | refine blk_alloc ?_ _)); refine blk_put (cs := #[.int .i64 t279, .slice none 0 0]) ?_ 1 _ rfl; (with_reducible repeat (first | refine blk_drewN ?_ _ | refine blk_drew ?_ | refine blk_alloc ?_ _)); refine blk_put (cs := #[.int .i64 0, .slice none 0 0]) ?_ 0 _ rfl; (with_reducible repeat (first | refine blk_drewN ?_ _ | refine blk_drew ?_ | refine blk_alloc ?_ _)); exact BK278.out) Try.underlying54 rfl (by kernel_rfl)) rfl ?_
              exact ⟨_, _, by first | rfl | (simp [errW_none, errW_some] <;> rfl) | (simp [*, errW_none, errW_some] <;> rfl), by (with_reducible repeat (first | apply Kd.R_alloc | apply Kd.R_drewN | apply Kd.R_drew)); exact Kd.R_mono (Kd.R_far (p := ⟨gb278, 1, none⟩) (Kd.R_far (p := ⟨gb278, 0, none⟩) (Kd.R_types HO_289001.out BK278.out (by decide)) (fun _ hk => hk.2) (.int .i64 t279)) (fun _ hk => hk.2) (.slice Ao10 t280.length co10)) (fun _ hk => trivial), by (with_reducible repeat (first | apply Kd.S_alloc | apply Kd.S_drewN | apply Kd.S_drew)); exact Kd.S_mono (Kd.S_far (p := ⟨gb278, 1, none⟩) (Kd.S_far (p := ⟨gb278, 0, none⟩) (Kd.S_types HO_5.out BK278.out (by decide)) (fun _ hk => hk.2) (.int .i64 t279)) (fun _ hk => hk.2) (.slice Ao10 t280.length co10)) (fun _ hk => trivial), hi2_ HI0 NB0_278.out NB0_288.out, bw3_ HB (IsS113.ge HI0.out) GE278.out GE288.out, kb2_ HK GW278.out GW288.out⟩
            · rw [if_neg c25] at H
              exact absurd H (by simp)
          · rw [if_neg c23] at H
            exact absurd H (by simp)
        · rw [if_neg c22] at H
          have c22b0 : (t290 == 0) = false := beq_eq_false_iff_ne.mpr c22
          have c22b1 : (t290 != 0) = true := bne_iff_ne.mpr c22
          by_cases c42 : t290 = 1
          · rw [if_pos c42] at H
            have c42b0 : (t290 == 1) = true := beq_iff_eq.mpr c42
            have c42b1 : (t290 != 1) = false := bne_eq_false_iff_eq.mpr c42
            clear c42
            by_cases c43 : 0 < (t283.length : Int)
            · rw [if_pos c43] at H
              have c43b0 : decide (0 < (t283.length : Int)) = true := decide_eq_true c43
              have c43b1 : decide (0 < t283.length) = true := decide_eq_true (by omega)
              clear c43
              replace H := Option.bind_eq_some_iff.mp H
              obtain ⟨⟨t304, t305, t306⟩, A440, H⟩ := H
              replace H : (if ((rd_T61 t283 0).f0).length < 17592186044416 then (some (t279, t280, (t283.set (0 : Int).toNat (⟨(((rd_T61 t283 0).f0) ++ [wrap64 (t304 - 1)])⟩ : S61)), t305, t306)) else (none)) = some (r1, r2, r3, r4, r5) := H
              have A44 := Aside0.mk A440
              clear A440
              by_cases c45 : ((rd_T61 t283 0).f0).length < 17592186044416
              · rw [if_pos c45] at H
                have LMc45 := Aside0.mk c45
                clear c45
                obtain ⟨y307, hy307⟩ : ∃ y_ : List Int, y_ = (((rd_T61 t283 0).f0) ++ [wrap64 (t304 - 1)]) := ⟨_, rfl⟩
                replace H : (some (t279, t280, (t283.set (0 : Int).toNat (⟨y307⟩ : S61)), t305, t306)) = some (r1, r2, r3, r4, r5) := by first | (rw [hy307]; with_reducible exact H) | (have H2_ := (Option.bind_some _ _).symm.trans H; rw [hy307]; with_reducible exact H2_) | (have H2_ := (Option.bind_some _ _).symm.trans H; with_reducible exact H2_) | with_reducible exact H | (rw [hy307]; exact H) | exact H
                have Ny307 := Aside0.mk hy307
                clear hy307
                obtain ⟨y310, hy310⟩ : ∃ y_ : List (S61), y_ = (t283.set (0 : Int).toNat (⟨y307⟩ : S61)) := ⟨_, rfl⟩
                replace H : (some (t279, t280, y310, t305, t306)) = some (r1, r2, r3, r4, r5) := by first | (rw [hy310]; with_reducible exact H) | (have H2_ := (Option.bind_some _ _).symm.trans H; rw [hy310]; with_reducible exact H2_) | (have H2_ := (Option.bind_some _ _).symm.trans H; with_reducible exact H2_) | with_reducible exact H | (rw [hy310]; exact H) | exact H
                have Ny310 := Aside0.mk hy310
                clear hy310
                simp only [Option.some.injEq, Prod.mk.injEq] at H
                obtain ⟨rfl, rfl, rfl, rfl, rfl⟩ := H
                go_wp2_with (first | ((with_reducible refine gate_callee (f := 96) rfl ?_); refine goesL_ (some 25) rfl rfl Try.func96 (by kernel_rfl) rfl #[.pointer (some ⟨g, 0, none⟩), .int .i64 8] rfl (by (try simp only [List.map_toArray, List.map_cons, List.map_nil]); first | done | rfl | (simp only [List.length_drop, List.length_take]; rfl)) ?_; (with_reducible refine (spec_l1Below.calls g s0_0 t286 t287 8 t290 t291 t292 w0 _ ?side1 ?side2 A21.out).mono ?_); (case side1 => repeat (first | (with_reducible first | exact HI0.out | apply IsS113.alloc | apply IsS113.drewN | apply IsS113.drew | apply IsS113.set_1 | apply IsS113.set_2 | refine IsS113.far ?_ NB0_278.out _ | refine IsS113.far ?_ NB0_288.out _) | exact HI0.out)); (case side2 => repeat (first | (with_reducible first | exact HB.out | apply below_alloc | apply pw_below_drewN | apply below_drew1 | refine below_set ?_ (IsS113.ge HI0.out) | refine below_set ?_ GE278.out | refine below_set ?_ GE288.out) | exact HB.out)); rintro e w47 ⟨rfl, hi, hb, hk⟩; refine ⟨_, rfl, ?_⟩; have n0_ := Aside0.mk (Kd.S_mono (Kd.S_keep (IsS113.apartS (show IsS113 w0 _ g s0_0 t286 t287 from hi2_ HI0 NB0_278.out NB0_288.out) (ks_ HO_5) (by decide)) hk (fun _ h => h.2)) (fun _ h => h.1)); have n1_ := Aside0.mk (Kd.R_mono (Kd.R_keep (IsS113.apart (show IsS113 w0 _ g s0_0 t286 t287 from hi2_ HI0 NB0_278.out NB0_288.out) (kr_ HO_289001) (by decide)) hk (fun _ h => h.2)) (fun _ h => h.1)); have n2_ := Aside0.mk (KeepBut.blk hk (g' := gb278) (o := .cells #[.int .i64 0, .slice none 0 0] 54 (0, 0)) (bk_ BK278) NB278_0.out (by simp)); have n3_ := Aside0.mk (KeepBut.blk hk (g' := gb288) (o := .cells #[.int .i64 t279, .slice Ao10 t280.length co10] 54 (0, 0)) (bk_ BK288) NB288_0.out (by simp)); have n4_ := Aside0.mk (KeepBut.trans (kb2_ HK GW278.out GW288.out) hk (.inl rfl)); have n5_ := Aside0.mk (hb); have n6_ := Aside0.mk (hi); clear HO_5; clear HO_289001; clear BK278; clear BK288; clear HK; clear HB; clear HI0; have HO_5 := n0_; have HO_289001 := n1_; have BK278 := n2_; have BK288 := n3_; have HK := n4_; have HB := n5_; have HI0 := n6_; clear n0_ n1_ n2_ n3_ n4_ n5_ n6_; (try clear hb); (try clear hb2); (try clear hk); (try clear hi); obtain ⟨Ao48, co48, eo48⟩ := Kd.S_slice HO_5.out; subst eo48; have p303 : 0 ≤ (0 : Int) := (by omega); have q303 : 0 < (t283.length : Int) := of_decide_eq_true (by first | (with_reducible assumption) | assumption); obtain ⟨ad303, A303_0, c303_0, e303, hx303_0, hl303_0, hi303_0⟩ := at_T61 (Kd.S_reads' HO_5.out).2.2 0 p303 q303; cases e303; obtain ⟨ce303, hce303, hMe303, hcc303⟩ := Kd.S_get HO_5.out z61 0 p303 (by first | exact q303 | exact of_decide_eq_true (by first | (with_reducible assumption) | assumption) | (have e_ := (Kd.S_reads' HO_5.out).1; omega)); obtain ⟨ve303_0, rfl, ge303_0⟩ := k61_openM hMe303; have hv303_0 := hcc303 0 _ rfl; rw [Nat.add_zero, show (k61).sz = 1 from rfl, Nat.mul_one] at hv303_0; replace hv303_0 := Option.some.inj (hv303_0.symm.trans hx303_0); rw [hv303_0] at ge303_0; have HL303_0 := Aside0.mk (show Kd.R (Kd.int .i64) 3 _ _ _ _ ((rd_T61 t283 0).f0) from ge303_0); clear hv303_0 ge303_0; have HX303_0 := Aside0.mk hx303_0; clear hcc303 hce303; have qi303 : (0 < t283.length) = True := eq_true (by omega); (try rw [show ((0 : Int)).toNat = 0 from rfl] at hx303_0); (try rw [Addr.add_zero'] at hx303_0); have HR303_0 := Aside0.mk hi303_0; have HC303_0 := Aside0.mk hl303_0; clear hi303_0 hl303_0; replace p303 := eq_true p303; replace q303 := eq_true q303))
                have HOg := Aside0.mk (IsS113.apartS HI0.out HO_5.out (by decide))
                clear HO_5
                have HO_5 := HOg
                clear HOg
                obtain ⟨go50, co50, eo50, gb50, gl50, cl50, HG50⟩ := Kd.S_form HO_5.out (by have h_ : (0 : Int) < ((t283.length : Int) : Int) := of_decide_eq_true (by first | (with_reducible assumption) | assumption); have h2_ : 0 ≤ (0 : Int) := (by omega); omega)
                (first | cases eo50 | (injection eo50 with ea_ en_ ec_; (first | subst ea_ | (injection ea_ with ea_; subst ea_)); subst ec_; clear en_))
                have GB50 := Aside0.mk gb50
                have GG50 := Aside0.mk HG50
                clear gb50 gl50 HG50
                (first | simp only [add_plain] at hx303_0 | skip)
                obtain ⟨oki50, ce50, hcl50, hM50, hcc50, hfr50, hoki50, hH50⟩ := Kd.S_elem HO_5.out z61 (0 : Int) (by omega) (by have h_ : (0 : Int) < ((t283.length : Int) : Int) := of_decide_eq_true (by first | (with_reducible assumption) | assumption); first | exact h_ | (have e_ := (Kd.S_reads' HO_5.out).1; omega) | simpa using h_)
                obtain ⟨ve50_0, rfl, ge50_0⟩ := k61_openM hM50
                have hv50 := hcc50 0 _ rfl
                have hX50 := HX303_0.out
                (try simp only [add_plain] at hX50)
                (try simp only [Nat.add_zero] at hv50)
                (try rw [show (k61).sz = 1 from rfl, Nat.mul_one] at hv50)
                replace hv50 := Option.some.inj (hv50.symm.trans hX50)
                subst hv50
                clear hX50 hcc50 hcl50
                have UU50 := Aside0.mk (show Kd.R (Kd.int .i64) 3 _ w.heap.size oki50 (.slice A303_0 ((rd_T61 t283 0).f0).length c303_0) ((rd_T61 t283 0).f0) from ge50_0)
                have HH50 := Aside0.mk hH50
                have HN50 := Aside0.mk (Kd.S_reads' HO_5.out).1
                clear hH50 ge50_0 hfr50; have HOK50 := Aside0.mk hoki50; clear hoki50
                go_region_law (first | (refine Kd.R_append_rows_step (Kd.int .i64) (Rr := fun x cs => cs = [Value.int .i64 x]) (w0 := w49) w.heap.size (by rfl) (.tmp 42) (.tmp 46) 37 3 (.int .i64 0) 8 (by rfl) Try.underlying37 info3 (by rfl) (by decide) (by omega) _ ((rd_T61 t283 0).f0) [IntKind.i64.wrap (t304 - 1)] _ _ _ (fun k_ => oki50 k_ ∨ (True ∧ k_ ≠ g) ∧ w49.heap.size ≤ k_) (fun _ => False) (by rfl) (by rfl) ?aO ?aR (fun _ _ h => h) (fun _ h => h.elim) ?aF ?aB ?aS ?aL ?_; (case aO => exact (by (with_reducible repeat (first | apply Kd.R_alloc | apply Kd.R_drewN | apply Kd.R_drew)); exact Kd.R_mono UUc.out (fun _ hk => .inl hk))); (case aR => exact C_one13 (c := IntKind.i64.wrap (t304 - 1)) (blk_new w49 _)); (case aF => exact (fun k hk => .inr ⟨⟨trivial, by have := HGL.out; (try simp at hk); omega⟩, Nat.le_trans (by first | exact Nat.le_refl _ | (simp; done) | (simp; omega)) hk⟩)); (case aB => exact (Below.refl _ _).alloc HKc.out.1 _); (case aS => exact Nat.le_trans HKc.out.1 (below_size (by repeat (first | exact Below.refl _ _ | (with_reducible first | apply below_alloc | apply pw_below_drewN | apply below_drew1))))); (case aL => have := LMc45.out; omega); intro v308 w51 ho hb hg hat; rw [i64_w, ← Ny307.out] at ho; have HLw := Aside0.mk (Kd.R_alloc HLc.out (Obj.cells #[Value.int IntKind.i64 (IntKind.i64.wrap (t304 - 1))] 3)); have q0_ := Aside0.mk (Kd.R_over' (v := (.slice A303_0 ((rd_T61 t283 0).f0).length c303_0)) (kr_ HO1c) (Kd.R_typed HLw.out) (by decide) hg); have q1_ := Aside0.mk (blk_grown (g := gb278) (o := .cells #[.int .i64 0, .slice none 0 0] 54 (0, 0)) (bk_ BK278c) hg (Kd.R_ne HLc.out BK278c.out (by decide))); have q2_ := Aside0.mk (blk_grown (g := gb288) (o := .cells #[.int .i64 t279, .slice Ao10 t280.length co10] 54 (0, 0)) (bk_ BK288c) hg (Kd.R_ne HLc.out BK288c.out (by decide))); have q3_ := Aside0.mk (IsS113.grown (hi2_ HIc NB0_278.out NB0_288.out) hg (IsS113.own_ne HIc.out HLc.out (by decide))); have q4_ := Aside0.mk (below_weaken (bw3_ HBc (IsS113.ge HIc.out) GE278.out GE288.out) HL.out hb); have q5_ := Aside0.mk (KeepBut.trans (kb2_ HKc GW278.out GW288.out) (KeepBut.of_grown hg g) (Kd.R_base2 HLc.out)); have HH51 := Aside0.mk (Kd.H_grown (Kd.H_alloc HHw.out (Obj.cells #[Value.int IntKind.i64 (IntKind.i64.wrap (t304 - 1))] 3)) hg (fun k_ e_ => .inl (UUc.out.1 k_ e_))); have HO309 := Aside0.mk ho; clear ho hb hg hat; have p46 : 0 ≤ (0 : Int) := (by omega); have q46 : (0 : Int) < ((t283.length : Int) : Int) := of_decide_eq_true (by first | (with_reducible assumption) | assumption); replace p46 := eq_true p46; replace q46 := eq_true q46; obtain ⟨Ao54, co54, eo54⟩ := Kd.R_slice HO309.out; subst eo54; obtain ⟨_, _, hraw52, _, _, hcc52, _⟩ := Kd.H_raw HH51.out (by omega) (by have h_ : (0 : Int) < ((t283.length : Int) : Int) := of_decide_eq_true (by first | (with_reducible assumption) | assumption); first | exact h_ | (have e_ := (HN50.out); omega) | simpa using h_); obtain ⟨_, hfr52⟩ := Kd.H_at HH51.out (by omega) (by have h_ : (0 : Int) < ((t283.length : Int) : Int) := of_decide_eq_true (by first | (with_reducible assumption) | assumption); first | exact h_ | (have e_ := (HN50.out); omega) | simpa using h_); have hx52_0 := hcc52 0 _ rfl; have hf52_0 := hfr52 0; (try simp only [Nat.add_zero] at hx52_0 hf52_0); (try rw [show (k61).sz = 1 from rfl, Nat.mul_one] at hx52_0); (try rw [show (k61).sz = 1 from rfl, Nat.mul_one] at hf52_0); (try rw [show ((0 : Int)).toNat = 0 from rfl] at hx52_0); (try simp only [Nat.reduceMul, Nat.zero_mul, Nat.zero_add, Nat.reduceAdd] at hx52_0); (try rw [show ((0 : Int)).toNat = 0 from rfl] at hf52_0); (try simp only [Nat.reduceMul, Nat.zero_mul, Nat.zero_add, Nat.reduceAdd] at hf52_0); have HP52 := Kd.S_seg0 HH51.out (by omega) (by have h_ : (0 : Int) < ((t283.length : Int) : Int) := of_decide_eq_true (by first | (with_reducible assumption) | assumption); first | exact h_ | (have e_ := (HN50.out); omega) | simpa using h_) (seg := [.slice Ao54 y307.length co54]) (j := 0) (show 1 ≤ 1 from by decide) (x' := (⟨y307⟩ : S61)) (k61_mkM _ _ _ (⟨y307⟩ : S61) HO309.out) (fun _ hk => hk); (try simp only [show (k61).sz = 1 from rfl, Nat.mul_one, Nat.add_zero] at HP52); clear hcc52 hfr52; have hg53 := HP52.2; have HS53 := Aside0.mk HP52.1; have z0_ := Aside0.mk (Kd.R_over' (v := (.slice (some ⟨go50, 0, none⟩) t283.length co48)) (kr_ q0_) (Kd.R_typed hraw52) (by decide) hg53); have z1_ := Aside0.mk (blk_grown (g := gb278) (o := .cells #[.int .i64 0, .slice none 0 0] 54 (0, 0)) (bk_ q1_) hg53 (Kd.R_ne hraw52 q1_.out (by decide))); have z2_ := Aside0.mk (blk_grown (g := gb288) (o := .cells #[.int .i64 t279, .slice Ao10 t280.length co10] 54 (0, 0)) (bk_ q2_) hg53 (Kd.R_ne hraw52 q2_.out (by decide))); have z3_ := Aside0.mk (IsS113.grown (hi2_ q3_ NB0_278.out NB0_288.out) hg53 (IsS113.own_ne q3_.out hraw52 (by decide))); have z5_ := Aside0.mk (KeepBut.trans (kb2_ q5_ GW278.out GW288.out) (KeepBut.of_grown hg53 g) (Kd.R_base2 hraw52)); have hW53 : w51.setCells go50 (0 : Int).toNat [.slice Ao54 y307.length co54] = (w51.setCell ⟨go50, 0, none⟩ (.slice Ao54 y307.length co54)) := rfl; simp only [hW53] at z0_ z1_ z2_ z3_ z5_ HS53; have z4_ := Aside0.mk (below_set q4_.out (Nat.le_trans HL.out GB50.out) : Below w0.heap.size w0 (w51.setCell ⟨go50, 0, none⟩ (.slice Ao54 y307.length co54))); have hcz57_0 : (w51.setCell ⟨go50, 0, none⟩ (.slice Ao54 y307.length co54)).cell? ⟨gb288, 0, none⟩ = some (.int .i64 t279) := (blk_cell z2_.out 0).trans rfl; have hcz57_1 : (w51.setCell ⟨go50, 0, none⟩ (.slice Ao54 y307.length co54)).cell? ⟨gb288, 1, none⟩ = some (.slice Ao10 t280.length co10) := (blk_cell z2_.out 1).trans rfl; have hcz59_0 : (w51.setCell ⟨go50, 0, none⟩ (.slice Ao54 y307.length co54)).cell? ⟨gb278, 0, none⟩ = some (.int .i64 0) := (blk_cell z1_.out 0).trans rfl; have hcz59_1 : (w51.setCell ⟨go50, 0, none⟩ (.slice Ao54 y307.length co54)).cell? ⟨gb278, 1, none⟩ = some (.slice none 0 0) := (blk_cell z1_.out 1).trans rfl; have hfz59_0 := blk_frozen z1_.out 0; have hfz59_1 := blk_frozen z1_.out 1; have hnb55 := NB288_278.out; have hnc55 := NB278_288.out) | (go_simp; (with_reducible refine (spec_l1Below.calls g s0_0 t291 t292 9 t304 t305 t306 w0 _ ?side1 ?side2 A44.out).mono ?_); (case side1 => repeat (first | (with_reducible first | exact HI0.out | apply IsS113.alloc | apply IsS113.drewN | apply IsS113.drew | apply IsS113.set_1 | apply IsS113.set_2 | refine IsS113.far ?_ NB0_278.out _ | refine IsS113.far ?_ NB0_288.out _) | exact HI0.out)); (case side2 => repeat (first | (with_reducible first | exact HB.out | apply below_alloc | apply pw_below_drewN | apply below_drew1 | refine below_set ?_ (IsS113.ge HI0.out) | refine below_set ?_ GE278.out | refine below_set ?_ GE288.out) | exact HB.out)); rintro e w49 ⟨rfl, hi, hb, hk⟩; have HO1c := Aside0.mk (Kd.R_mono (Kd.R_keep (IsS113.apart (show IsS113 w0 _ g s0_0 t291 t292 from hi2_ HI0 NB0_278.out NB0_288.out) (kr_ HO_289001) (by decide)) hk (fun _ h => h.2)) (fun _ h => h.1)); have BK278c := Aside0.mk (KeepBut.blk hk (g' := gb278) (o := .cells #[.int .i64 0, .slice none 0 0] 54 (0, 0)) (bk_ BK278) NB278_0.out (by simp)); have BK288c := Aside0.mk (KeepBut.blk hk (g' := gb288) (o := .cells #[.int .i64 t279, .slice Ao10 t280.length co10] 54 (0, 0)) (bk_ BK288) NB288_0.out (by simp)); have UUc := Aside0.mk (Kd.R_keep (kr_ UU50) hk (fun k hk_ => (HOK50.out k hk_).1.2)); have HLc := Aside0.mk (Kd.R_mono (Kd.R_keep (IsS113.apart (show IsS113 w0 _ g s0_0 t291 t292 from hi2_ HI0 NB0_278.out NB0_288.out) (kr_ HL303_0) (by decide)) hk (fun _ h => h.2)) (fun _ h => h.1)); have HX303c := Aside0.mk (keep_cell hk HX303_0.out (by first | (rw [add_block]; exact Kd.own_blk (IsS113.own_neS HI0.out HO_5.out (by decide))) | (show (Addr.add _ _).block ≠ _; rw [add_block]; exact Kd.own_blk (IsS113.own_neS HI0.out HO_5.out (by decide))) | exact Kd.own_blk (IsS113.own_neS HI0.out HO_5.out (by decide)) | (dsimp only; exact Kd.own_blk (IsS113.own_neS HI0.out HO_5.out (by decide))))); have hx49 := HX303c.out; (try simp only [add_plain] at hx49); (try rw [show ((0 : Int)).toNat = 0 from rfl] at hx49); (try rw [Addr.add_zero'] at hx49); have hx49a := pw_cell_below (below_alloc (Below.refl _ _) (Obj.cells #[Value.int IntKind.i64 (IntKind.i64.wrap (t304 - 1))] 3)) hx49; have HHw := Aside0.mk (Kd.H_widen (Kd.H_keep (Kd.H_drew HH50.out) hk (fun k (h : True ∧ k ≠ g) => h.2))); have HKc := Aside0.mk (KeepBut.trans (kb2_ HK GW278.out GW288.out) hk (.inl rfl)); have HBc := Aside0.mk hb; have HIc := Aside0.mk hi; have HGL := Aside0.mk (IsS113.lt hi); clear hi hb hk))
                all_goals go_wp2
                all_goals (refine bodyPost_ret (results_ct rfl _ _ gb278 54 #[.int .i64 t279, .slice Ao10 t280.length co10] (0, 0) _ rfl (by (with_reducible repeat (first | refine blk_drewN ?_ _ | refine blk_drew ?_ | refine blk_alloc ?_ _)); refine blk_put (cs := #[.int .i64 t279, .slice none 0 0]) ?_ 1 _ rfl; (with_reducible repeat (first | refine blk_drewN ?_ _ | refine blk_drew ?_ | refine blk_alloc ?_ _)); refine blk_put (cs := #[.int .i64 0, .slice none 0 0]) ?_ 0 _ rfl; (with_reducible repeat (first | refine blk_drewN ?_ _ | refine blk_drew ?_ | refine blk_alloc ?_ _)); exact z1_.out) Try.underlying54 rfl (by kernel_rfl)) rfl ?_)
                all_goals exact ⟨_, _, by first | rfl | (simp [errW_none, errW_some] <;> rfl) | (simp [*, errW_none, errW_some] <;> rfl), by (with_reducible repeat (first | apply Kd.R_alloc | apply Kd.R_drewN | apply Kd.R_drew)); exact Kd.R_mono (Kd.R_far (p := ⟨gb278, 1, none⟩) (Kd.R_far (p := ⟨gb278, 0, none⟩) (Kd.R_types z0_.out z1_.out (by decide)) (fun _ hk => hk.2) (.int .i64 t279)) (fun _ hk => hk.2) (.slice Ao10 t280.length co10)) (fun _ hk => trivial), by (with_reducible repeat (first | apply Kd.S_alloc | apply Kd.S_drewN | apply Kd.S_drew)); exact Kd.S_mono (Kd.S_far (p := ⟨gb278, 1, none⟩) (Kd.S_far (p := ⟨gb278, 0, none⟩) (Kd.S_types (by rw [Ny310.out]; exact HS53.out) z1_.out (by decide)) (fun _ hk => hk.2) (.int .i64 t279)) (fun _ hk => hk.2) (.slice Ao10 t280.length co10)) (fun _ hk => trivial), hi2_ z3_ NB0_278.out NB0_288.out, bw3_ z4_ (IsS113.ge z3_.out) GE278.out GE288.out, kb2_ z5_ GW278.out GW288.out⟩
              · rw [if_neg c45] at H
                exact absurd H (by simp)
            · rw [if_neg c43] at H
              exact absurd H (by simp)
          · rw [if_neg c42] at H
            have c42b0 : (t290 == 1) = false := beq_eq_false_iff_ne.mpr c42
            have c42b1 : (t290 != 1) = true := bne_iff_ne.mpr c42
            by_cases c60 : t290 = 2
            · rw [if_pos c60] at H
              exact absurd H (by simp)
            · rw [if_neg c60] at H
              have c60b0 : (t290 == 2) = false := beq_eq_false_iff_ne.mpr c60
              have c60b1 : (t290 != 2) = true := bne_iff_ne.mpr c60
              simp only [Option.some.injEq, Prod.mk.injEq] at H
              obtain ⟨rfl, rfl, rfl, rfl, rfl⟩ := H
              go_wp2_with (first | ((with_reducible refine gate_callee (f := 96) rfl ?_); refine goesL_ (some 25) rfl rfl Try.func96 (by kernel_rfl) rfl #[.pointer (some ⟨g, 0, none⟩), .int .i64 8] rfl (by (try simp only [List.map_toArray, List.map_cons, List.map_nil]); first | done | rfl | (simp only [List.length_drop, List.length_take]; rfl)) ?_; (with_reducible refine (spec_l1Below.calls g s0_0 t286 t287 8 t290 t291 t292 w0 _ ?side1 ?side2 A21.out).mono ?_); (case side1 => repeat (first | (with_reducible first | exact HI0.out | apply IsS113.alloc | apply IsS113.drewN | apply IsS113.drew | apply IsS113.set_1 | apply IsS113.set_2 | refine IsS113.far ?_ NB0_278.out _ | refine IsS113.far ?_ NB0_288.out _) | exact HI0.out)); (case side2 => repeat (first | (with_reducible first | exact HB.out | apply below_alloc | apply pw_below_drewN | apply below_drew1 | refine below_set ?_ (IsS113.ge HI0.out) | refine below_set ?_ GE278.out | refine below_set ?_ GE288.out) | exact HB.out)); rintro e w67 ⟨rfl, hi, hb, hk⟩; refine ⟨_, rfl, ?_⟩; have n0_ := Aside0.mk (Kd.S_mono (Kd.S_keep (IsS113.apartS (show IsS113 w0 _ g s0_0 t286 t287 from hi2_ HI0 NB0_278.out NB0_288.out) (ks_ HO_5) (by decide)) hk (fun _ h => h.2)) (fun _ h => h.1)); have n1_ := Aside0.mk (Kd.R_mono (Kd.R_keep (IsS113.apart (show IsS113 w0 _ g s0_0 t286 t287 from hi2_ HI0 NB0_278.out NB0_288.out) (kr_ HO_289001) (by decide)) hk (fun _ h => h.2)) (fun _ h => h.1)); have n2_ := Aside0.mk (KeepBut.blk hk (g' := gb278) (o := .cells #[.int .i64 0, .slice none 0 0] 54 (0, 0)) (bk_ BK278) NB278_0.out (by simp)); have n3_ := Aside0.mk (KeepBut.blk hk (g' := gb288) (o := .cells #[.int .i64 t279, .slice Ao10 t280.length co10] 54 (0, 0)) (bk_ BK288) NB288_0.out (by simp)); have n4_ := Aside0.mk (KeepBut.trans (kb2_ HK GW278.out GW288.out) hk (.inl rfl)); have n5_ := Aside0.mk (hb); have n6_ := Aside0.mk (hi); clear HO_5; clear HO_289001; clear BK278; clear BK288; clear HK; clear HB; clear HI0; have HO_5 := n0_; have HO_289001 := n1_; have BK278 := n2_; have BK288 := n3_; have HK := n4_; have HB := n5_; have HI0 := n6_; clear n0_ n1_ n2_ n3_ n4_ n5_ n6_; (try clear hb); (try clear hb2); (try clear hk); (try clear hi); have hnb68 := NB288_278.out; have hnc68 := NB278_288.out; have hnb69 := NB288_0.out; have hnc69 := NB0_288.out; have hcz70_0 : w67.cell? ⟨gb288, 0, none⟩ = some (.int .i64 t279) := (blk_cell BK288.out 0).trans rfl; have hcz70_1 : w67.cell? ⟨gb288, 1, none⟩ = some (.slice Ao10 t280.length co10) := (blk_cell BK288.out 1).trans rfl; have hfz70_0 := blk_frozen BK288.out 0; have hfz70_1 := blk_frozen BK288.out 1; have hnb71 := NB278_0.out; have hnc71 := NB0_278.out; have hcz72_0 : w67.cell? ⟨gb278, 0, none⟩ = some (.int .i64 0) := (blk_cell BK278.out 0).trans rfl; have hcz72_1 : w67.cell? ⟨gb278, 1, none⟩ = some (.slice none 0 0) := (blk_cell BK278.out 1).trans rfl; have hfz72_0 := blk_frozen BK278.out 0; have hfz72_1 := blk_frozen BK278.out 1))
              refine bodyPost_ret (results_ct rfl _ _ gb278 54 #[.int .i64 t279, .slice Ao10 t280.length co10] (0, 0) _ rfl (by (with_reducible repeat (first | refine blk_drewN ?_ _ | refine blk_drew ?_ | refine blk_alloc ?_ _)); refine blk_put (cs := #[.int .i64 t279, .slice none 0 0]) ?_ 1 _ rfl; (with_reducible repeat (first | refine blk_drewN ?_ _ | refine blk_drew ?_ | refine blk_alloc ?_ _)); refine blk_put (cs := #[.int .i64 0, .slice none 0 0]) ?_ 0 _ rfl; (with_reducible repeat (first | refine blk_drewN ?_ _ | refine blk_drew ?_ | refine blk_alloc ?_ _)); exact BK278.out) Try.underlying54 rfl (by kernel_rfl)) rfl ?_
              exact ⟨_, _, by first | rfl | (simp [errW_none, errW_some] <;> rfl) | (simp [*, errW_none, errW_some] <;> rfl), by (with_reducible repeat (first | apply Kd.R_alloc | apply Kd.R_drewN | apply Kd.R_drew)); exact Kd.R_mono (Kd.R_far (p := ⟨gb278, 1, none⟩) (Kd.R_far (p := ⟨gb278, 0, none⟩) (Kd.R_types HO_289001.out BK278.out (by decide)) (fun _ hk => hk.2) (.int .i64 t279)) (fun _ hk => hk.2) (.slice Ao10 t280.length co10)) (fun _ hk => trivial), by (with_reducible repeat (first | apply Kd.S_alloc | apply Kd.S_drewN | apply Kd.S_drew)); exact Kd.S_mono (Kd.S_far (p := ⟨gb278, 1, none⟩) (Kd.S_far (p := ⟨gb278, 0, none⟩) (Kd.S_types HO_5.out BK278.out (by decide)) (fun _ hk => hk.2) (.int .i64 t279)) (fun _ hk => hk.2) (.slice Ao10 t280.length co10)) (fun _ hk => trivial), hi2_ HI0 NB0_278.out NB0_288.out, bw3_ HB (IsS113.ge HI0.out) GE278.out GE288.out, kb2_ HK GW278.out GW288.out⟩
mutual
def any13N.j0 : Nat → List (S61) → Bool → List Int → Int → Int → Int → List (S63) → Option (Int × (List (S63)) × (List (S61)) × Int × Int)
  | 0, _, _, _, _, _, _, _ => none
  | k + 1, x5, x21, x1000, x1001, x1002, x289000, x289001 => if x21 = true then (some (x289000, x289001, x5, x1001, x1002)) else ((spec_l1Below.f x1000 x1001 x1002 8).bind fun bt290 => (if bt290.1 = 0 then none else (if bt290.1 = 1 then none else (if bt290.1 = 2 then (any13N.l0 k x5 x1000 bt290.2.1 bt290.2.2 x289000 x289001) else (some (x289000, x289001, x5, bt290.2.1, bt290.2.2))))))
def any13N.l0 : Nat → List (S61) → List Int → Int → Int → Int → List (S63) → Option (Int × (List (S63)) × (List (S61)) × Int × Int)
  | 0, _, _, _, _, _, _ => none
  | k + 1, x5, x1000, x1001, x1002, x289000, x289001 => if (x5.length : Int) < 9 then (if 0 < (x5.length : Int) then (if x5.length < 5864062014805 then (any13N.l0 k (x5 ++ [(⟨(rd_T61 x5 0).f0⟩ : S61)]) x1000 x1001 x1002 x289000 x289001) else (none)) else (none)) else (some (x289000, x289001, x5, x1001, x1002))
end
def any13N.f (k : Nat) (s0_0 : List Int) (s0_1 : Int) (s0_2 : Int) : Option (Int × (List (S63)) × (List (S61)) × Int × Int) := (spec_l13Draw.f k s0_0 s0_1 s0_2).bind fun bt279 => (if (bt279.2.2.1.length : Int) = 0 then (any13N.j0 k bt279.2.2.1 true s0_0 bt279.2.2.2.1 bt279.2.2.2.2 bt279.1 bt279.2.1) else (if 0 < (bt279.2.2.1.length : Int) then (any13N.j0 k bt279.2.2.1 ((((rd_T61 bt279.2.2.1 0).f0).length : Int) == 0) s0_0 bt279.2.2.2.1 bt279.2.2.2.2 bt279.1 bt279.2.1) else (none)))
theorem any13N.mono_l : ∀ k, (∀ y0 y1 y2 y3 y4 y5 y6, LeO (any13N.j0 k y0 y1 y2 y3 y4 y5 y6) (any13N.j0 (k + 1) y0 y1 y2 y3 y4 y5 y6)) ∧ (∀ y0 y1 y2 y3 y4 y5, LeO (any13N.l0 k y0 y1 y2 y3 y4 y5) (any13N.l0 (k + 1) y0 y1 y2 y3 y4 y5))
  | 0 => ⟨fun _ _ _ _ _ _ _ r h => by simp [any13N.j0] at h, fun _ _ _ _ _ _ r h => by simp [any13N.l0] at h⟩
  | k + 1 => by
    obtain ⟨ih0, ih1⟩ := any13N.mono_l k
    refine ⟨?_, ?_⟩
    · intro y0 y1 y2 y3 y4 y5 y6
      unfold any13N.j0
      repeat' first
      | (with_reducible exact ih0 _ _ _ _ _ _ _)
      | (with_reducible exact ih1 _ _ _ _ _ _)
      | (with_reducible exact spec_l13Draw.mono _ _ _ _)
      | (with_reducible exact LeO.refl _)
      | (with_reducible exact LeO.none _)
      | (with_reducible refine LeO.ite ?_ ?_)
      | (with_reducible refine LeO.bind ?_ (fun _ => ?_))
      | exact ih0 _ _ _ _ _ _ _
      | exact ih1 _ _ _ _ _ _
      | exact spec_l13Draw.mono _ _ _ _
      | exact LeO.none _
      | refine LeO.ite ?_ ?_
      | refine LeO.bind ?_ (fun _ => ?_)
    · intro y0 y1 y2 y3 y4 y5
      unfold any13N.l0
      repeat' first
      | (with_reducible exact ih0 _ _ _ _ _ _ _)
      | (with_reducible exact ih1 _ _ _ _ _ _)
      | (with_reducible exact spec_l13Draw.mono _ _ _ _)
      | (with_reducible exact LeO.refl _)
      | (with_reducible exact LeO.none _)
      | (with_reducible refine LeO.ite ?_ ?_)
      | (with_reducible refine LeO.bind ?_ (fun _ => ?_))
      | exact ih0 _ _ _ _ _ _ _
      | exact ih1 _ _ _ _ _ _
      | exact spec_l13Draw.mono _ _ _ _
      | exact LeO.none _
      | refine LeO.ite ?_ ?_
      | refine LeO.bind ?_ (fun _ => ?_)
theorem any13N.mono : ∀ a0 a1 a2 k, LeO (any13N.f k a0 a1 a2) (any13N.f (k + 1) a0 a1 a2) := by
  intro a0 a1 a2 k
  obtain ⟨ih0, ih1⟩ := any13N.mono_l k
  unfold any13N.f
  repeat' first
      | (with_reducible exact ih0 _ _ _ _ _ _ _)
      | (with_reducible exact ih1 _ _ _ _ _ _)
      | (with_reducible exact spec_l13Draw.mono _ _ _ _)
      | (with_reducible exact LeO.refl _)
      | (with_reducible exact LeO.none _)
      | (with_reducible refine LeO.ite ?_ ?_)
      | (with_reducible refine LeO.bind ?_ (fun _ => ?_))
      | exact ih0 _ _ _ _ _ _ _
      | exact ih1 _ _ _ _ _ _
      | exact spec_l13Draw.mono _ _ _ _
      | exact LeO.none _
      | refine LeO.ite ?_ ?_
      | refine LeO.bind ?_ (fun _ => ?_)
set_option maxHeartbeats 8000000 in
set_option maxRecDepth 100000 in
theorem any13N.calls (k : Nat) (g : Nat) (s0_0 : List Int) (s0_1 : Int) (s0_2 : Int) (r1 : Int) (r2 : List (S63)) (r3 : List (S61)) (r4 : Int) (r5 : Int) (w0 w : World) (hI : IsS113 w0 w g s0_0 s0_1 s0_2) (hB : Below w0.heap.size w0 w) (h : any13N.f k s0_0 s0_1 s0_2 = some (r1, r2, r3, r4, r5)) :
    Calls Try.prog 75 #[.pointer (some ⟨g, 0, none⟩)] w fun e w' => ∃ v1_ v2_ : Value, e = .returned (.tuple #[.agg #[.int .i64 r1, v1_], v2_]) ∧ Kd.R k63 63 w' w.heap.size (fun k_ => (w.heap.size ≤ k_)) v1_ r2 ∧ Kd.N k61 61 w' w.heap.size (fun k_ => (w.heap.size ≤ k_) ∧ some k_ ≠ (v1_ : Value).ownBlock) v2_ r3 ∧ IsS113 w0 w' g s0_0 r4 r5 ∧ Below w0.heap.size w0 w' ∧ KeepBut w w' g none := by
  have hu54 := Try.underlying54
  have hu61 := Try.underlying61
  have HI0 := Aside0.mk hI
  have HK := Aside0.mk (KeepBut.refl w g none)
  have HL := Aside0.mk hB.size
  clear hI
  have HW0 := Aside0.mk hB.size
  have HB := Aside0.mk hB
  clear hB
  have H : ((spec_l13Draw.f k s0_0 s0_1 s0_2).bind fun bt279 => (if (bt279.2.2.1.length : Int) = 0 then (any13N.j0 k bt279.2.2.1 true s0_0 bt279.2.2.2.1 bt279.2.2.2.2 bt279.1 bt279.2.1) else (if 0 < (bt279.2.2.1.length : Int) then (any13N.j0 k bt279.2.2.1 ((((rd_T61 bt279.2.2.1 0).f0).length : Int) == 0) s0_0 bt279.2.2.2.1 bt279.2.2.2.2 bt279.1 bt279.2.1) else (none)))) = some (r1, r2, r3, r4, r5) := h
  clear h
  replace H := Option.bind_eq_some_iff.mp H
  obtain ⟨⟨t279, t280, t283, t286, t287⟩, A20, H⟩ := H
  replace H : (if (t283.length : Int) = 0 then (any13N.j0 k t283 true s0_0 t286 t287 t279 t280) else (if 0 < (t283.length : Int) then (any13N.j0 k t283 ((((rd_T61 t283 0).f0).length : Int) == 0) s0_0 t286 t287 t279 t280) else (none))) = some (r1, r2, r3, r4, r5) := H
  have A2 := Aside0.mk A20
  clear A20
  have HC3 := Aside0.mk H
  clear H
  go_enter Try.func75, Try.ntmps75
  go_upto_region 2 with (first | ((with_reducible refine gate_dst (N := 2) rfl ?_); (try (refine gate_guard (by rfl) ?_; dsimp only)); refine box_event ?hg (N := 2) ?hd (cs := #[.int .i64 0, .slice none 0 0]) (t := 54) ?hr ?_; (case hd => rfl); (case hg => rfl); (case hr => first | (go_simp; done) | (go_simp; rfl)); intro gb278 hg w4 hbox hb; have n0_ := Aside0.mk (IsS113.below (hi0_ HI0) hb); have n1_ := Aside0.mk (KeepBut.trans (kb0_ HK) (KeepBut.of_below hb g none) (.inl rfl)); have n2_ := Aside0.mk (below_step (bw1_ HB (IsS113.ge HI0.out)) hb); have n3_ := Aside0.mk (hbox); have n4_ := Aside0.mk ((by rw [hg]; exact (keep_size (w := w) (g := g) (row := none) (kb0_ HK)) : w.heap.size ≤ gb278)); have n5_ := Aside0.mk ((Nat.le_trans HW0.out (by rw [hg]; exact (keep_size (w := w) (g := g) (row := none) (kb0_ HK)) : w.heap.size ≤ gb278) : w0.heap.size ≤ gb278)); have n6_ := Aside0.mk ((by rw [hg]; exact Nat.ne_of_lt (IsS113.lt (show IsS113 w0 _ g s0_0 s0_1 s0_2 from hi0_ HI0)) : g ≠ gb278)); have n7_ := Aside0.mk ((by rw [hg]; exact Nat.ne_of_gt (IsS113.lt (show IsS113 w0 _ g s0_0 s0_1 s0_2 from hi0_ HI0)) : gb278 ≠ g)); clear HI0; clear HK; clear HB; have HI0 := n0_; have HK := n1_; have HB := n2_; have BK278 := n3_; have GW278 := n4_; have GE278 := n5_; have NB0_278 := n6_; have NB278_0 := n7_; clear n0_ n1_ n2_ n3_ n4_ n5_ n6_ n7_; clear hb hbox hg) | ((with_reducible refine gate_callee (f := 95) rfl ?_); refine goesL_ (some 8) rfl rfl Try.func95 (by kernel_rfl) rfl #[.pointer (some ⟨g, 0, none⟩)] rfl (by (try simp only [List.map_toArray, List.map_cons, List.map_nil]); first | done | rfl | (simp only [List.length_drop, List.length_take]; rfl)) ?_; (with_reducible refine (spec_l13Draw.calls k g s0_0 s0_1 s0_2 t279 t280 t283 t286 t287 w0 _ ?side1 ?side2 A2.out).mono ?_); (case side1 => repeat (first | (with_reducible first | exact HI0.out | apply IsS113.alloc | apply IsS113.drewN | apply IsS113.drew | apply IsS113.set_1 | apply IsS113.set_2 | refine IsS113.far ?_ NB0_278.out _) | exact HI0.out)); (case side2 => repeat (first | (with_reducible first | exact HB.out | apply below_alloc | apply pw_below_drewN | apply below_drew1 | refine below_set ?_ (IsS113.ge HI0.out) | refine below_set ?_ GE278.out) | exact HB.out)); rintro e w5 ⟨v281, v284, rfl, ho0, ho1, hi, hb, hk⟩; refine ⟨_, rfl, ?_⟩; have n0_ := Aside0.mk (KeepBut.blk hk (g' := gb278) (o := .cells #[.int .i64 0, .slice none 0 0] 54 (0, 0)) (bk_ BK278) NB278_0.out (by simp)); have n1_ := Aside0.mk (Kd.R_lower (Kd.R_newM (M := fun k_ => (w.heap.size ≤ k_)) ho0 (keep_size (w := w) (g := g) (row := none) (kb1_ HK GW278.out)) (fun k_ h_ => h_)) (keep_size (w := w) (g := g) (row := none) (kb1_ HK GW278.out))); have n2_ := Aside0.mk (Kd.N_lower (Kd.N_mono (ok' := fun k_ => (w.heap.size ≤ k_) ∧ some k_ ≠ (v281 : Value).ownBlock ∧ k_ ≠ gb278 ∧ k_ ≠ g) (Kd.S_N (Kd.S_bound (Kd.S_apart' ho1 (Kd.R_typed ho0) (by decide)))) (fun k_ hk_ => ⟨(Nat.le_trans (keep_size (w := w) (g := g) (row := none) (kb1_ HK GW278.out)) hk_.2.1), hk_.1.2, (Kd.freshB (g := gb278) (o := .cells #[.int .i64 0, .slice none 0 0] 54 (0, 0)) (bk_ BK278) k_ hk_.2.1), (IsS113.fresh (hi1_ HI0 NB0_278.out) k_ hk_.2.1)⟩)) (keep_size (w := w) (g := g) (row := none) (kb1_ HK GW278.out))); have n3_ := Aside0.mk (KeepBut.trans (kb1_ HK GW278.out) hk (.inl rfl)); have n4_ := Aside0.mk (hb); have n5_ := Aside0.mk (hi); clear BK278; clear HK; clear HB; clear HI0; have BK278 := n0_; have HO282 := n1_; have HO285 := n2_; have HK := n3_; have HB := n4_; have HI0 := n5_; clear n0_ n1_ n2_ n3_ n4_ n5_; (try clear hb); (try clear hb2); (try clear hk); (try clear hi); (try clear ho0); (try clear ho1)) | ((with_reducible refine gate_dst (N := 4) rfl ?_); (try (refine gate_guard (by rfl) ?_; dsimp only)); refine box_event ?hg (N := 4) ?hd (cs := #[.int .i64 0, .slice none 0 0]) (t := 54) ?hr ?_; (case hd => rfl); (case hg => rfl); (case hr => first | (go_simp; done) | (go_simp; rfl)); intro gb288 hg w6 hbox hb; have n0_ := Aside0.mk (Kd.R_below (kr_ HO282) hb); have n1_ := Aside0.mk (Kd.N_below (Kd.N_elderB (by (with_reducible repeat (first | apply Kd.N_alloc | apply Kd.N_drewN | apply Kd.N_drew)); exact HO285.out) gb288 (Nat.le_of_eq hg.symm)) hb); have n2_ := Aside0.mk (IsS113.below (hi1_ HI0 NB0_278.out) hb); have n3_ := Aside0.mk (blk_below (g := gb278) (o := .cells #[.int .i64 0, .slice none 0 0] 54 (0, 0)) (bk_ BK278) hb); have n4_ := Aside0.mk (KeepBut.trans (kb1_ HK GW278.out) (KeepBut.of_below hb g none) (.inl rfl)); have n5_ := Aside0.mk (below_step (bw2_ HB (IsS113.ge HI0.out) GE278.out) hb); have n6_ := Aside0.mk (hbox); have n7_ := Aside0.mk ((by rw [hg]; exact (keep_size (w := w) (g := g) (row := none) (kb1_ HK GW278.out)) : w.heap.size ≤ gb288)); have n8_ := Aside0.mk ((Nat.le_trans HW0.out (by rw [hg]; exact (keep_size (w := w) (g := g) (row := none) (kb1_ HK GW278.out)) : w.heap.size ≤ gb288) : w0.heap.size ≤ gb288)); have n9_ := Aside0.mk ((by rw [hg]; exact Nat.ne_of_lt (blk_lt (g := gb278) (o := .cells #[.int .i64 0, .slice none 0 0] 54 (0, 0)) (bk_ BK278)) : gb278 ≠ gb288)); have n10_ := Aside0.mk ((by rw [hg]; exact Nat.ne_of_gt (blk_lt (g := gb278) (o := .cells #[.int .i64 0, .slice none 0 0] 54 (0, 0)) (bk_ BK278)) : gb288 ≠ gb278)); have n11_ := Aside0.mk ((by rw [hg]; exact Nat.ne_of_lt (IsS113.lt (show IsS113 w0 _ g s0_0 t286 t287 from hi1_ HI0 NB0_278.out)) : g ≠ gb288)); have n12_ := Aside0.mk ((by rw [hg]; exact Nat.ne_of_gt (IsS113.lt (show IsS113 w0 _ g s0_0 t286 t287 from hi1_ HI0 NB0_278.out)) : gb288 ≠ g)); clear HO282; clear HO285; clear HI0; clear BK278; clear HK; clear HB; have HO282 := n0_; have HO285 := n1_; have HI0 := n2_; have BK278 := n3_; have HK := n4_; have HB := n5_; have BK288 := n6_; have GW288 := n7_; have GE288 := n8_; have NB278_288 := n9_; have NB288_278 := n10_; have NB0_288 := n11_; have NB288_0 := n12_; clear n0_ n1_ n2_ n3_ n4_ n5_ n6_ n7_ n8_ n9_ n10_ n11_ n12_; clear hb hbox hg; have hnb7 := NB288_278.out; have hnc7 := NB278_288.out; have hnb8 := NB288_0.out; have hnc8 := NB0_288.out; have hcz9_0 : w6.cell? ⟨gb288, 0, none⟩ = some (.int .i64 0) := (blk_cell BK288.out 0).trans rfl; have hcz9_1 : w6.cell? ⟨gb288, 1, none⟩ = some (.slice none 0 0) := (blk_cell BK288.out 1).trans rfl; have hfz9_0 := blk_frozen BK288.out 0; have hfz9_1 := blk_frozen BK288.out 1; obtain ⟨Ao10, co10, eo10⟩ := Kd.R_slice HO282.out; subst eo10))
  (try simp only [Act.put, List.setIfInBounds_toArray, List.set_cons_zero, List.set_cons_succ])
  go_cut [21] (fun v21 wc => ∃ (kq : Nat) (x21_2 : Bool), v21 = .bool x21_2 ∧ Aside0 (any13N.j0 kq t283 x21_2 s0_0 t286 t287 t279 t280 = some (r1, r2, r3, r4, r5)) ∧ Aside0 (kq ≤ k) ∧ Aside0 (Kd.N k61 61 wc w.heap.size (fun k_ => (w.heap.size ≤ k_) ∧ some k_ ≠ ((.slice Ao10 t280.length co10) : Value).ownBlock ∧ k_ ≠ gb278 ∧ k_ ≠ gb288 ∧ k_ ≠ g) v284 t283) ∧ Aside0 (Kd.R k63 63 wc w.heap.size (fun k_ => (w.heap.size ≤ k_)) (.slice Ao10 t280.length co10) t280) ∧ Aside0 (wc.heap[gb278]? = some (.cells #[.int .i64 0, (.slice none 0 0)] 54 (0, 0))) ∧ Aside0 (wc.heap[gb288]? = some (.cells #[.int .i64 t279, (.slice Ao10 t280.length co10)] 54 (0, 0))) ∧ Aside0 (IsS113 w0 wc g s0_0 t286 t287) ∧ Aside0 (KeepBut w wc g none) ∧ Aside0 (Below w0.heap.size w0 wc))
  case first =>
    have H := HC3.out
    clear HC3
    by_cases c11 : (t283.length : Int) = 0
    · rw [if_pos c11] at H
      have c11b0 : ((t283.length : Int) == 0) = true := beq_iff_eq.mpr c11
      have c11b1 : ((t283.length : Int) != 0) = false := bne_eq_false_iff_eq.mpr c11
      clear c11
      (first | rw [c11b0] | (simp only [i64_w, i32_w]; rw [c11b0]) | skip)
      have H' := Aside0.mk H
      clear H
      obtain ⟨Ao12, co12, eo12⟩ := Kd.N_slice HO285.out
      subst eo12
      go_wp2
      go_meet
      case rel => exact ⟨_, (true), (by first | rfl | (simp; done) | (simp [*]; done)), H', ⟨by first | omega | exact Nat.le_refl _⟩, ⟨by (with_reducible repeat (first | apply Kd.N_alloc | apply Kd.N_drewN | apply Kd.N_drew)); exact Kd.N_mono (Kd.N_far (p := ⟨gb288, 1, none⟩) (Kd.N_far (p := ⟨gb288, 0, none⟩) (Kd.N_mono HO285.out (fun k_ hk => (⟨hk, hk.2⟩ : _ ∧ k_ ≠ gb288))) (fun _ hk => hk.2) (.int .i64 t279)) (fun _ hk => hk.2) (.slice Ao10 t280.length co10)) (fun _ hk => ⟨hk.1.1.1, ⟨hk.1.1.2.1, ⟨hk.1.1.2.2.1, ⟨hk.1.2, hk.1.1.2.2.2⟩⟩⟩⟩)⟩, ⟨by (with_reducible repeat (first | apply Kd.R_alloc | apply Kd.R_drewN | apply Kd.R_drew)); exact Kd.R_mono (Kd.R_far (p := ⟨gb288, 1, none⟩) (Kd.R_far (p := ⟨gb288, 0, none⟩) (Kd.R_types HO282.out BK288.out (by decide)) (fun _ hk => hk.2) (.int .i64 t279)) (fun _ hk => hk.2) (.slice Ao10 t280.length co10)) (fun _ hk => hk.1.1)⟩, ⟨by (with_reducible repeat (first | refine blk_drewN ?_ _ | refine blk_drew ?_ | refine blk_alloc ?_ _)); refine blk_far ?_ NB278_288.out _; (with_reducible repeat (first | refine blk_drewN ?_ _ | refine blk_drew ?_ | refine blk_alloc ?_ _)); refine blk_far ?_ NB278_288.out _; (with_reducible repeat (first | refine blk_drewN ?_ _ | refine blk_drew ?_ | refine blk_alloc ?_ _)); exact BK278.out⟩, ⟨by (with_reducible repeat (first | refine blk_drewN ?_ _ | refine blk_drew ?_ | refine blk_alloc ?_ _)); refine blk_put (cs := #[.int .i64 t279, .slice none 0 0]) ?_ 1 _ rfl; (with_reducible repeat (first | refine blk_drewN ?_ _ | refine blk_drew ?_ | refine blk_alloc ?_ _)); refine blk_put (cs := #[.int .i64 0, .slice none 0 0]) ?_ 0 _ rfl; (with_reducible repeat (first | refine blk_drewN ?_ _ | refine blk_drew ?_ | refine blk_alloc ?_ _)); exact BK288.out⟩, ⟨hi2_ HI0 NB0_278.out NB0_288.out⟩, ⟨kb2_ HK GW278.out GW288.out⟩, ⟨bw3_ HB (IsS113.ge HI0.out) GE278.out GE288.out⟩⟩
    · rw [if_neg c11] at H
      have c11b0 : ((t283.length : Int) == 0) = false := beq_eq_false_iff_ne.mpr c11
      have c11b1 : ((t283.length : Int) != 0) = true := bne_iff_ne.mpr c11
      have c11b2 : ¬ (t283 = []) := fun h_ => c11 (by rw [h_]; rfl)
      (first | rw [c11b0] | (simp only [i64_w, i32_w]; rw [c11b0]) | skip)
      by_cases c13 : 0 < (t283.length : Int)
      · rw [if_pos c13] at H
        have c13b0 : decide (0 < (t283.length : Int)) = true := decide_eq_true c13
        have c13b1 : decide (0 < t283.length) = true := decide_eq_true (by omega)
        clear c13
        have H' := Aside0.mk H
        clear H
        obtain ⟨Ao14, co14, eo14⟩ := Kd.N_slice HO285.out
        subst eo14
        have p289 : 0 ≤ (0 : Int) := (by omega)
        have q289 : 0 < (t283.length : Int) := of_decide_eq_true (by first | (with_reducible assumption) | assumption)
        obtain ⟨ad289, A289_0, c289_0, e289, hx289_0, hl289_0, hi289_0⟩ := at_T61 (Kd.N_reads' HO285.out).2.2 0 p289 q289
        cases e289
        have qi289 : (0 < t283.length) = True := eq_true (by omega)
        (try rw [show ((0 : Int)).toNat = 0 from rfl] at hx289_0)
        (try rw [Addr.add_zero'] at hx289_0)
        have hn289_0 : ad289.block ≠ gb288 := Kd.own_blk (Kd.N_ne HO285.out BK288.out (by decide))
        have hn289_1 : ad289.block ≠ gb288 := Kd.own_blk (Kd.N_ne HO285.out BK288.out (by decide))
        have HR289_0 := Aside0.mk hi289_0
        have HC289_0 := Aside0.mk hl289_0
        clear hi289_0 hl289_0
        replace hx289_0 := (cell_far (p := ⟨gb288, 0, none⟩) (by first | (rw [add_block]; exact hn289_0) | (show (Addr.add _ _).block ≠ _; rw [add_block]; exact hn289_0) | exact hn289_0) (.int .i64 t279)).trans hx289_0
        replace hx289_0 := (cell_far (p := ⟨gb288, 1, none⟩) (by first | (rw [add_block]; exact hn289_1) | (show (Addr.add _ _).block ≠ _; rw [add_block]; exact hn289_1) | exact hn289_1) (.slice Ao10 t280.length co10)).trans hx289_0
        clear hn289_0
        clear hn289_1
        replace p289 := eq_true p289
        replace q289 := eq_true q289
        go_wp2
        go_meet
        case rel => exact ⟨_, (((((rd_T61 t283 0).f0).length : Int) == 0)), (by first | rfl | (simp; done) | (simp [*]; done)), H', ⟨by first | omega | exact Nat.le_refl _⟩, ⟨by (with_reducible repeat (first | apply Kd.N_alloc | apply Kd.N_drewN | apply Kd.N_drew)); exact Kd.N_mono (Kd.N_far (p := ⟨gb288, 1, none⟩) (Kd.N_far (p := ⟨gb288, 0, none⟩) (Kd.N_mono HO285.out (fun k_ hk => (⟨hk, hk.2⟩ : _ ∧ k_ ≠ gb288))) (fun _ hk => hk.2) (.int .i64 t279)) (fun _ hk => hk.2) (.slice Ao10 t280.length co10)) (fun _ hk => ⟨hk.1.1.1, ⟨hk.1.1.2.1, ⟨hk.1.1.2.2.1, ⟨hk.1.2, hk.1.1.2.2.2⟩⟩⟩⟩)⟩, ⟨by (with_reducible repeat (first | apply Kd.R_alloc | apply Kd.R_drewN | apply Kd.R_drew)); exact Kd.R_mono (Kd.R_far (p := ⟨gb288, 1, none⟩) (Kd.R_far (p := ⟨gb288, 0, none⟩) (Kd.R_types HO282.out BK288.out (by decide)) (fun _ hk => hk.2) (.int .i64 t279)) (fun _ hk => hk.2) (.slice Ao10 t280.length co10)) (fun _ hk => hk.1.1)⟩, ⟨by (with_reducible repeat (first | refine blk_drewN ?_ _ | refine blk_drew ?_ | refine blk_alloc ?_ _)); refine blk_far ?_ NB278_288.out _; (with_reducible repeat (first | refine blk_drewN ?_ _ | refine blk_drew ?_ | refine blk_alloc ?_ _)); refine blk_far ?_ NB278_288.out _; (with_reducible repeat (first | refine blk_drewN ?_ _ | refine blk_drew ?_ | refine blk_alloc ?_ _)); exact BK278.out⟩, ⟨by (with_reducible repeat (first | refine blk_drewN ?_ _ | refine blk_drew ?_ | refine blk_alloc ?_ _)); refine blk_put (cs := #[.int .i64 t279, .slice none 0 0]) ?_ 1 _ rfl; (with_reducible repeat (first | refine blk_drewN ?_ _ | refine blk_drew ?_ | refine blk_alloc ?_ _)); refine blk_put (cs := #[.int .i64 0, .slice none 0 0]) ?_ 0 _ rfl; (with_reducible repeat (first | refine blk_drewN ?_ _ | refine blk_drew ?_ | refine blk_alloc ?_ _)); exact BK288.out⟩, ⟨hi2_ HI0 NB0_278.out NB0_288.out⟩, ⟨kb2_ HK GW278.out GW288.out⟩, ⟨bw3_ HB (IsS113.ge HI0.out) GE278.out GE288.out⟩⟩
      · rw [if_neg c13] at H
        exact absurd H (by simp)
  case rest =>
    clear HC3
    (try clear c1); (try clear c2); (try clear p2); (try clear q2); (try clear hx2); (try clear qi2); (try clear c7); (try clear c8); (try clear c9); (try clear c11); (try clear c11b0); (try clear c11b1); (try clear c11b2); (try clear c13); (try clear c13b0); (try clear c13b1); (try clear hcz9_0); (try clear hcz9_1); (try clear hfz9_0); (try clear hfz9_1); (try clear hx289_0); (try clear p289); (try clear q289)
    obtain ⟨kq, x21_2, rfl, HA, HJ2, HO_5, HO_289001, BK278, BK288, HI0, HK, HB⟩ := hcut
    cases kq with
    | zero => exact absurd HA.out (by simp [any13N.j0])
    | succ kj2 =>
      have H := HA.out
      clear HA
      simp only [any13N.j0] at H
      by_cases c15 : x21_2 = true
      · subst c15
        have H1 : (some (t279, t280, t283, t286, t287)) = some (r1, r2, r3, r4, r5) := by rw [if_pos rfl] at H; exact H
        clear H
        have H := H1
        clear H1
        simp only [Option.some.injEq, Prod.mk.injEq] at H
        obtain ⟨rfl, rfl, rfl, rfl, rfl⟩ := H
        have hnb16 := NB288_278.out
        have hnc16 := NB278_288.out
        have hnb17 := NB288_0.out
        have hnc17 := NB0_288.out
        have hcz18_0 : wc.cell? ⟨gb288, 0, none⟩ = some (.int .i64 t279) := (blk_cell BK288.out 0).trans rfl
        have hcz18_1 : wc.cell? ⟨gb288, 1, none⟩ = some (.slice Ao10 t280.length co10) := (blk_cell BK288.out 1).trans rfl
        have hfz18_0 := blk_frozen BK288.out 0
        have hfz18_1 := blk_frozen BK288.out 1
        have hnb19 := NB278_0.out
        have hnc19 := NB0_278.out
        have hcz20_0 : wc.cell? ⟨gb278, 0, none⟩ = some (.int .i64 0) := (blk_cell BK278.out 0).trans rfl
        have hcz20_1 : wc.cell? ⟨gb278, 1, none⟩ = some (.slice none 0 0) := (blk_cell BK278.out 1).trans rfl
        have hfz20_0 := blk_frozen BK278.out 0
        have hfz20_1 := blk_frozen BK278.out 1
        go_wp2
        refine bodyPost_ret (results_ct rfl _ _ gb278 54 #[.int .i64 t279, .slice Ao10 t280.length co10] (0, 0) _ rfl (by (with_reducible repeat (first | refine blk_drewN ?_ _ | refine blk_drew ?_ | refine blk_alloc ?_ _)); refine blk_put (cs := #[.int .i64 t279, .slice none 0 0]) ?_ 1 _ rfl; (with_reducible repeat (first | refine blk_drewN ?_ _ | refine blk_drew ?_ | refine blk_alloc ?_ _)); refine blk_put (cs := #[.int .i64 0, .slice none 0 0]) ?_ 0 _ rfl; (with_reducible repeat (first | refine blk_drewN ?_ _ | refine blk_drew ?_ | refine blk_alloc ?_ _)); exact BK278.out) Try.underlying54 rfl (by kernel_rfl)) rfl ?_
        exact ⟨_, _, by first | rfl | (simp [errW_none, errW_some] <;> rfl) | (simp [*, errW_none, errW_some] <;> rfl), by (with_reducible repeat (first | apply Kd.R_alloc | apply Kd.R_drewN | apply Kd.R_drew)); exact Kd.R_mono (Kd.R_far (p := ⟨gb278, 1, none⟩) (Kd.R_far (p := ⟨gb278, 0, none⟩) (Kd.R_types HO_289001.out BK278.out (by decide)) (fun _ hk => hk.2) (.int .i64 t279)) (fun _ hk => hk.2) (.slice Ao10 t280.length co10)) (fun _ hk => hk.1), by (with_reducible repeat (first | apply Kd.N_alloc | apply Kd.N_drewN | apply Kd.N_drew)); exact Kd.N_mono (Kd.N_far (p := ⟨gb278, 1, none⟩) (Kd.N_far (p := ⟨gb278, 0, none⟩) (Kd.N_mono HO_5.out (fun k_ hk => (⟨hk, hk.2.2.1⟩ : _ ∧ k_ ≠ gb278))) (fun _ hk => hk.2) (.int .i64 t279)) (fun _ hk => hk.2) (.slice Ao10 t280.length co10)) (fun _ hk => ⟨hk.1.1, hk.1.2.1⟩), hi2_ HI0 NB0_278.out NB0_288.out, bw3_ HB (IsS113.ge HI0.out) GE278.out GE288.out, kb2_ HK GW278.out GW288.out⟩
      · replace c15 := Bool.eq_false_iff.mpr c15
        subst c15
        have H1 : ((spec_l1Below.f s0_0 t286 t287 8).bind fun bt290 => (if bt290.1 = 0 then none else (if bt290.1 = 1 then none else (if bt290.1 = 2 then (any13N.l0 kj2 t283 s0_0 bt290.2.1 bt290.2.2 t279 t280) else (some (t279, t280, t283, bt290.2.1, bt290.2.2)))))) = some (r1, r2, r3, r4, r5) := by rw [if_neg (show ¬ (false = true) by decide)] at H; exact H
        clear H
        have H := H1
        clear H1
        replace H := Option.bind_eq_some_iff.mp H
        obtain ⟨⟨t290, t291, t292⟩, A210, H⟩ := H
        replace H : (if t290 = 0 then none else (if t290 = 1 then none else (if t290 = 2 then (any13N.l0 kj2 t283 s0_0 t291 t292 t279 t280) else (some (t279, t280, t283, t291, t292))))) = some (r1, r2, r3, r4, r5) := H
        have A21 := Aside0.mk A210
        clear A210
        by_cases c22 : t290 = 0
        · rw [if_pos c22] at H
          exact absurd H (by simp)
        · rw [if_neg c22] at H
          have c22b0 : (t290 == 0) = false := beq_eq_false_iff_ne.mpr c22
          have c22b1 : (t290 != 0) = true := bne_iff_ne.mpr c22
          by_cases c29 : t290 = 1
          · rw [if_pos c29] at H
            exact absurd H (by simp)
          · rw [if_neg c29] at H
            have c29b0 : (t290 == 1) = false := beq_eq_false_iff_ne.mpr c29
            have c29b1 : (t290 != 1) = true := bne_iff_ne.mpr c29
            by_cases c36 : t290 = 2
            · rw [if_pos c36] at H
              have c36b0 : (t290 == 2) = true := beq_iff_eq.mpr c36
              have c36b1 : (t290 != 2) = false := bne_eq_false_iff_eq.mpr c36
              clear c36
              have H' := Aside0.mk H
              clear H
              go_wp2_with (first | ((with_reducible refine gate_callee (f := 96) rfl ?_); refine goesL_ (some 25) rfl rfl Try.func96 (by kernel_rfl) rfl #[.pointer (some ⟨g, 0, none⟩), .int .i64 8] rfl (by (try simp only [List.map_toArray, List.map_cons, List.map_nil]); first | done | rfl | (simp only [List.length_drop, List.length_take]; rfl)) ?_; (with_reducible refine (spec_l1Below.calls g s0_0 t286 t287 8 t290 t291 t292 w0 _ ?side1 ?side2 A21.out).mono ?_); (case side1 => repeat (first | (with_reducible first | exact HI0.out | apply IsS113.alloc | apply IsS113.drewN | apply IsS113.drew | apply IsS113.set_1 | apply IsS113.set_2 | refine IsS113.far ?_ NB0_278.out _ | refine IsS113.far ?_ NB0_288.out _) | exact HI0.out)); (case side2 => repeat (first | (with_reducible first | exact HB.out | apply below_alloc | apply pw_below_drewN | apply below_drew1 | refine below_set ?_ (IsS113.ge HI0.out) | refine below_set ?_ GE278.out | refine below_set ?_ GE288.out) | exact HB.out)); rintro e w37 ⟨rfl, hi, hb, hk⟩; refine ⟨_, rfl, ?_⟩; have n0_ := Aside0.mk (Kd.N_mono (Kd.N_keep (Kd.N_mono (ok := fun k_ => (((w.heap.size ≤ k_)) ∧ (some k_ ≠ (.slice Ao10 t280.length co10 : Value).ownBlock ∧ (k_ ≠ gb278 ∧ (k_ ≠ gb288 ∧ k_ ≠ g))))) (by (with_reducible repeat (first | apply Kd.N_alloc | apply Kd.N_drewN | apply Kd.N_drew)); exact HO_5.out) (fun k_ hk_ => (⟨hk_, hk_.2.2.2.2⟩ : _ ∧ k_ ≠ g))) hk (fun _ h => h.2)) (fun _ h => h.1)); have n1_ := Aside0.mk (Kd.R_mono (Kd.R_keep (IsS113.apart (show IsS113 w0 _ g s0_0 t286 t287 from hi2_ HI0 NB0_278.out NB0_288.out) (kr_ HO_289001) (by decide)) hk (fun _ h => h.2)) (fun _ h => h.1)); have n2_ := Aside0.mk (KeepBut.blk hk (g' := gb278) (o := .cells #[.int .i64 0, .slice none 0 0] 54 (0, 0)) (bk_ BK278) NB278_0.out (by simp)); have n3_ := Aside0.mk (KeepBut.blk hk (g' := gb288) (o := .cells #[.int .i64 t279, .slice Ao10 t280.length co10] 54 (0, 0)) (bk_ BK288) NB288_0.out (by simp)); have n4_ := Aside0.mk (KeepBut.trans (kb2_ HK GW278.out GW288.out) hk (.inl rfl)); have n5_ := Aside0.mk (hb); have n6_ := Aside0.mk (hi); clear HO_5; clear HO_289001; clear BK278; clear BK288; clear HK; clear HB; clear HI0; have HO_5 := n0_; have HO_289001 := n1_; have BK278 := n2_; have BK288 := n3_; have HK := n4_; have HB := n5_; have HI0 := n6_; clear n0_ n1_ n2_ n3_ n4_ n5_ n6_; (try clear hb); (try clear hb2); (try clear hk); (try clear hi)))
              go_loopg [5] kj2 (fun kq v5 w' => ∃ (x5_2 : List (S61)), Aside0 (any13N.l0 kq x5_2 s0_0 t291 t292 t279 t280 = some (r1, r2, r3, r4, r5)) ∧ Aside0 (kq ≤ kj2) ∧ Aside0 (Kd.N k61 61 w' w.heap.size (fun k_ => (w.heap.size ≤ k_) ∧ some k_ ≠ ((.slice Ao10 t280.length co10) : Value).ownBlock ∧ k_ ≠ gb278 ∧ k_ ≠ gb288 ∧ k_ ≠ g) v5 x5_2) ∧ Aside0 (Kd.R k63 63 w' w.heap.size (fun k_ => (w.heap.size ≤ k_)) (.slice Ao10 t280.length co10) t280) ∧ Aside0 (w'.heap[gb278]? = some (.cells #[.int .i64 0, (.slice none 0 0)] 54 (0, 0))) ∧ Aside0 (w'.heap[gb288]? = some (.cells #[.int .i64 t279, (.slice Ao10 t280.length co10)] 54 (0, 0))) ∧ Aside0 (IsS113 w0 w' g s0_0 t291 t292) ∧ Aside0 (KeepBut w w' g none) ∧ Aside0 (Below w0.heap.size w0 w'))
              case atStart => exact ⟨(t283), H', ⟨Nat.le_refl _⟩, ⟨by (with_reducible repeat (first | apply Kd.N_alloc | apply Kd.N_drewN | apply Kd.N_drew)); exact HO_5.out⟩, ⟨kr_ HO_289001⟩, ⟨bk_ BK278⟩, ⟨bk_ BK288⟩, ⟨hi2_ HI0 NB0_278.out NB0_288.out⟩, ⟨kb2_ HK GW278.out GW288.out⟩, ⟨bw3_ HB (IsS113.ge HI0.out) GE278.out GE288.out⟩⟩
              case round =>
                clear H'
                (try clear c1); (try clear c2); (try clear p2); (try clear q2); (try clear hx2); (try clear qi2); (try clear c3); (try clear c7); (try clear c8); (try clear c9); (try clear c11); (try clear c11b0); (try clear c11b1); (try clear c11b2); (try clear c13); (try clear c13b0); (try clear c13b1); (try clear c15); (try clear c16); (try clear c17); (try clear c19); (try clear c22); (try clear c22b0); (try clear c22b1); (try clear c24); (try clear c25); (try clear c27); (try clear c28); (try clear p28); (try clear q28); (try clear hx28); (try clear qi28); (try clear c29); (try clear c29b0); (try clear c29b1); (try clear c31); (try clear c32); (try clear c34); (try clear c36); (try clear c36b0); (try clear c36b1); (try clear hcz18_0); (try clear hcz18_1); (try clear hcz20_0); (try clear hcz20_1); (try clear hcz26_0); (try clear hcz26_1); (try clear hcz28_0); (try clear hcz28_1); (try clear hcz33_0); (try clear hcz33_1); (try clear hcz35_0); (try clear hcz35_1); (try clear hcz9_0); (try clear hcz9_1); (try clear hfz18_0); (try clear hfz18_1); (try clear hfz20_0); (try clear hfz20_1); (try clear hfz26_0); (try clear hfz26_1); (try clear hfz28_0); (try clear hfz28_1); (try clear hfz33_0); (try clear hfz33_1); (try clear hfz35_0); (try clear hfz35_1); (try clear hfz9_0); (try clear hfz9_1); (try clear hx289_0); (try clear p2); (try clear p289); (try clear q2); (try clear q289)
                obtain ⟨x5_2, HA, HK2, HO_5, HO_289001, BK278, BK288, HI0, HK, HB⟩ := hrel
                cases gk with
                | zero => exact absurd HA.out (by simp [any13N.l0])
                | succ k2 =>
                  have H := HA.out
                  clear HA
                  simp only [any13N.l0] at H
                  by_cases c38 : (x5_2.length : Int) < 9
                  · rw [if_pos c38] at H
                    have c38b0 : decide ((x5_2.length : Int) < 9) = true := decide_eq_true c38
                    have c38b1 : decide (x5_2.length < 9) = true := decide_eq_true (by omega)
                    clear c38
                    by_cases c39 : 0 < (x5_2.length : Int)
                    · rw [if_pos c39] at H
                      have c39b0 : decide (0 < (x5_2.length : Int)) = true := decide_eq_true c39
                      have c39b1 : decide (0 < x5_2.length) = true := decide_eq_true (by omega)
                      clear c39
                      by_cases c40 : x5_2.length < 5864062014805
                      · rw [if_pos c40] at H
                        have LMc40 := Aside0.mk c40
                        clear c40
                        obtain ⟨y294, hy294⟩ : ∃ y_ : List (S61), y_ = (x5_2 ++ [(⟨(rd_T61 x5_2 0).f0⟩ : S61)]) := ⟨_, rfl⟩
                        replace H : (any13N.l0 k2 y294 s0_0 t291 t292 t279 t280) = some (r1, r2, r3, r4, r5) := by first | (rw [hy294]; with_reducible exact H) | (have H2_ := (Option.bind_some _ _).symm.trans H; rw [hy294]; with_reducible exact H2_) | (have H2_ := (Option.bind_some _ _).symm.trans H; with_reducible exact H2_) | with_reducible exact H | (rw [hy294]; exact H) | exact H
                        have Ny294 := Aside0.mk hy294
                        clear hy294
                        have H' := Aside0.mk H
                        clear H
                        obtain ⟨Ao41, co41, eo41⟩ := Kd.N_slice HO_5.out
                        subst eo41
                        have p293 : 0 ≤ (0 : Int) := (by omega)
                        have q293 : 0 < (x5_2.length : Int) := of_decide_eq_true (by first | (with_reducible assumption) | assumption)
                        obtain ⟨ad293, A293_0, c293_0, e293, hx293_0, hl293_0, hi293_0⟩ := at_T61 (Kd.N_reads' HO_5.out).2.2 0 p293 q293
                        cases e293
                        obtain ⟨ce293, hce293, hMe293, hcc293⟩ := Kd.N_get HO_5.out z61 0 p293 (by first | exact q293 | exact of_decide_eq_true (by first | (with_reducible assumption) | assumption) | (have e_ := (Kd.N_reads' HO_5.out).1; omega))
                        obtain ⟨ua293_0, uc293_0, rfl, ul293_0, ge293_0⟩ := k61_openF hMe293
                        have hv293_0 := hcc293 0 _ rfl
                        rw [Nat.add_zero, show (k61).sz = 1 from rfl, Nat.mul_one] at hv293_0
                        replace hv293_0 := Option.some.inj (hv293_0.symm.trans hx293_0)
                        injection hv293_0 with hva_ hvn_ hvc_
                        rw [hva_] at ge293_0
                        rw [hvc_] at ul293_0
                        have HL293_0 := Aside0.mk (show Kd.V (Kd.int .i64) 3 _ w.heap.size _ _ ((rd_T61 x5_2 0).f0) from Kd.V_mk ul293_0 ge293_0)
                        clear hva_ hvn_ hvc_ ge293_0 ul293_0
                        clear hcc293 hce293
                        have qi293 : (0 < x5_2.length) = True := eq_true (by omega)
                        (try rw [show ((0 : Int)).toNat = 0 from rfl] at hx293_0)
                        (try rw [Addr.add_zero'] at hx293_0)
                        have HR293_0 := Aside0.mk hi293_0
                        have HC293_0 := Aside0.mk hl293_0
                        clear hi293_0 hl293_0
                        replace p293 := eq_true p293
                        replace q293 := eq_true q293
                        go_wp2_with (first | ((with_reducible refine gate_builtin (b := .append) (xs := #[.tmp 55, .tmp 59]) rfl ?_); (try (refine gate_guard (by rfl) ?_; dsimp only)); at_builtin; refine Kd.N_append k61 w.heap.size rfl (.tmp 55) (.tmp 59) 46 61 (.agg #[(.slice none 0 0)]) 24 rfl Try.underlying46 info61 rfl (by decide) (by omega) (.slice (some ad293) x5_2.length co41) x5_2 (⟨(rd_T61 x5_2 0).f0⟩ : S61) [.slice A293_0 ((rd_T61 x5_2 0).f0).length c293_0] (fun k_ => (w.heap.size ≤ k_) ∧ some k_ ≠ (.slice Ao10 t280.length co10 : Value).ownBlock ∧ k_ ≠ gb278 ∧ k_ ≠ gb288 ∧ k_ ≠ g) (fun k_ => ((fun k_ => (w.heap.size ≤ k_) ∧ some k_ ≠ (.slice Ao10 t280.length co10 : Value).ownBlock ∧ k_ ≠ gb278 ∧ k_ ≠ gb288 ∧ k_ ≠ g)) k_ ∧ some k_ ≠ (.slice (some ad293) x5_2.length co41 : Value).ownBlock) rfl rfl ?aP (fun _ hk => hk) ?aF ?aO (Below.refl _ _) ?aS ?aL ?_; (case aP => exact (k61_mkF _ _ (⟨(rd_T61 x5_2 0).f0⟩ : S61) (Kd.V_reads' (Kd.V_mono (ok' := (fun k_ => ((fun k_ => (w.heap.size ≤ k_) ∧ some k_ ≠ (.slice Ao10 t280.length co10 : Value).ownBlock ∧ k_ ≠ gb278 ∧ k_ ≠ gb288 ∧ k_ ≠ g)) k_ ∧ some k_ ≠ (.slice (some ad293) x5_2.length co41 : Value).ownBlock)) (HL293_0.out) (fun k_ hk => ⟨⟨hk.1.1, ⟨hk.1.2.1, ⟨hk.1.2.2.1, ⟨hk.1.2.2.2.1, hk.1.2.2.2.2⟩⟩⟩⟩, hk.2⟩))).2.1 (Kd.V_F (Kd.V_mono (ok' := (fun k_ => ((fun k_ => (w.heap.size ≤ k_) ∧ some k_ ≠ (.slice Ao10 t280.length co10 : Value).ownBlock ∧ k_ ≠ gb278 ∧ k_ ≠ gb288 ∧ k_ ≠ g)) k_ ∧ some k_ ≠ (.slice (some ad293) x5_2.length co41 : Value).ownBlock)) (HL293_0.out) (fun k_ hk => ⟨⟨hk.1.1, ⟨hk.1.2.1, ⟨hk.1.2.2.1, ⟨hk.1.2.2.2.1, hk.1.2.2.2.2⟩⟩⟩⟩, hk.2⟩))))); (case aF => exact (fun k_ hk => ⟨(Nat.le_trans (keep_size (w := w) (g := g) (row := none) (kb2_ HK GW278.out GW288.out)) hk), Kd.fresh' (Kd.R_lt (kr_ HO_289001)) k_ hk, Kd.freshB (g := gb278) (o := .cells #[.int .i64 0, .slice none 0 0] 54 (0, 0)) (bk_ BK278) k_ hk, Kd.freshB (g := gb288) (o := .cells #[.int .i64 t279, .slice Ao10 t280.length co10] 54 (0, 0)) (bk_ BK288) k_ hk, IsS113.fresh (hi2_ HI0 NB0_278.out NB0_288.out) k_ hk⟩)); (case aO => exact (by (with_reducible repeat (first | apply Kd.N_alloc | apply Kd.N_drewN | apply Kd.N_drew)); exact HO_5.out)); (case aS => exact (keep_size (w := w) (g := g) (row := none) (kb2_ HK GW278.out GW288.out))); (case aL => have := LMc40.out; omega); intro v295 w42 ho hb hg hat; rw [← Ny294.out] at ho; have n0_ := Aside0.mk (Kd.R_over' (kr_ HO_289001) (Kd.N_typed (by (with_reducible repeat (first | apply Kd.N_alloc | apply Kd.N_drewN | apply Kd.N_drew)); exact HO_5.out)) (by decide) hg); have n1_ := Aside0.mk (blk_grown (g := gb278) (o := .cells #[.int .i64 0, .slice none 0 0] 54 (0, 0)) (bk_ BK278) hg (Kd.N_ne HO_5.out BK278.out (by decide))); have n2_ := Aside0.mk (blk_grown (g := gb288) (o := .cells #[.int .i64 t279, .slice Ao10 t280.length co10] 54 (0, 0)) (bk_ BK288) hg (Kd.N_ne HO_5.out BK288.out (by decide))); have n3_ := Aside0.mk (IsS113.grown (hi2_ HI0 NB0_278.out NB0_288.out) hg (IsS113.own_neN HI0.out HO_5.out (by decide))); have n4_ := Aside0.mk (Kd.V_afterv (ok := (fun k_ => (w.heap.size ≤ k_) ∧ some k_ ≠ (.slice Ao10 t280.length co10 : Value).ownBlock ∧ k_ ≠ gb278 ∧ k_ ≠ gb288 ∧ k_ ≠ g)) (kv_ HL293_0) hg hat); have n5_ := Aside0.mk (below_weaken (bw3_ HB (IsS113.ge HI0.out) GE278.out GE288.out) HL.out hb); have n6_ := Aside0.mk (KeepBut.trans (kb2_ HK GW278.out GW288.out) (KeepBut.of_grown hg g) (Kd.N_base2 HO_5.out)); have n7_ := Aside0.mk (ho); clear HO_289001; clear BK278; clear BK288; clear HI0; clear HL293_0; clear HB; clear HK; clear HO_5; have HO_289001 := n0_; have BK278 := n1_; have BK288 := n2_; have HI0 := n3_; have HL293_0 := n4_; have HB := n5_; have HK := n6_; have HO296 := n7_; clear n0_ n1_ n2_ n3_ n4_ n5_ n6_ n7_; clear ho hb hg hat))
                        go_roundg k2
                        case measure => have := HJ2.out; have := HK2.out; omega
                        case rel => exact ⟨(y294), H', ⟨by have := HJ2.out; have := HK2.out; omega⟩, ⟨by (with_reducible repeat (first | apply Kd.N_alloc | apply Kd.N_drewN | apply Kd.N_drew)); exact HO296.out⟩, ⟨kr_ HO_289001⟩, ⟨bk_ BK278⟩, ⟨bk_ BK288⟩, ⟨hi2_ HI0 NB0_278.out NB0_288.out⟩, ⟨kb2_ HK GW278.out GW288.out⟩, ⟨bw3_ HB (IsS113.ge HI0.out) GE278.out GE288.out⟩⟩
                      · rw [if_neg c40] at H
                        exact absurd H (by simp)
                    · rw [if_neg c39] at H
                      exact absurd H (by simp)
                  · rw [if_neg c38] at H
                    have c38b0 : decide ((x5_2.length : Int) < 9) = false := decide_eq_false c38
                    have c38b1 : decide (x5_2.length < 9) = false := decide_eq_false (by omega)
                    clear c38
                    simp only [Option.some.injEq, Prod.mk.injEq] at H
                    obtain ⟨rfl, rfl, rfl, rfl, rfl⟩ := H
                    obtain ⟨Ao43, co43, eo43⟩ := Kd.N_slice HO_5.out
                    subst eo43
                    have hnb44 := NB288_278.out
                    have hnc44 := NB278_288.out
                    have hnb45 := NB288_0.out
                    have hnc45 := NB0_288.out
                    have hcz46_0 : wr.cell? ⟨gb288, 0, none⟩ = some (.int .i64 t279) := (blk_cell BK288.out 0).trans rfl
                    have hcz46_1 : wr.cell? ⟨gb288, 1, none⟩ = some (.slice Ao10 t280.length co10) := (blk_cell BK288.out 1).trans rfl
                    have hfz46_0 := blk_frozen BK288.out 0
                    have hfz46_1 := blk_frozen BK288.out 1
                    have hnb47 := NB278_0.out
                    have hnc47 := NB0_278.out
                    have hcz48_0 : wr.cell? ⟨gb278, 0, none⟩ = some (.int .i64 0) := (blk_cell BK278.out 0).trans rfl
                    have hcz48_1 : wr.cell? ⟨gb278, 1, none⟩ = some (.slice none 0 0) := (blk_cell BK278.out 1).trans rfl
                    have hfz48_0 := blk_frozen BK278.out 0
                    have hfz48_1 := blk_frozen BK278.out 1
                    go_wp2
                    refine bodyPost_ret (results_ct rfl _ _ gb278 54 #[.int .i64 t279, .slice Ao10 t280.length co10] (0, 0) _ rfl (by (with_reducible repeat (first | refine blk_drewN ?_ _ | refine blk_drew ?_ | refine blk_alloc ?_ _)); refine blk_put (cs := #[.int .i64 t279, .slice none 0 0]) ?_ 1 _ rfl; (with_reducible repeat (first | refine blk_drewN ?_ _ | refine blk_drew ?_ | refine blk_alloc ?_ _)); refine blk_put (cs := #[.int .i64 0, .slice none 0 0]) ?_ 0 _ rfl; (with_reducible repeat (first | refine blk_drewN ?_ _ | refine blk_drew ?_ | refine blk_alloc ?_ _)); exact BK278.out) Try.underlying54 rfl (by kernel_rfl)) rfl ?_
                    exact ⟨_, _, by first | rfl | (simp [errW_none, errW_some] <;> rfl) | (simp [*, errW_none, errW_some] <;> rfl), by (with_reducible repeat (first | apply Kd.R_alloc | apply Kd.R_drewN | apply Kd.R_drew)); exact Kd.R_mono (Kd.R_far (p := ⟨gb278, 1, none⟩) (Kd.R_far (p := ⟨gb278, 0, none⟩) (Kd.R_types HO_289001.out BK278.out (by decide)) (fun _ hk => hk.2) (.int .i64 t279)) (fun _ hk => hk.2) (.slice Ao10 t280.length co10)) (fun _ hk => hk.1), by (with_reducible repeat (first | apply Kd.N_alloc | apply Kd.N_drewN | apply Kd.N_drew)); exact Kd.N_mono (Kd.N_far (p := ⟨gb278, 1, none⟩) (Kd.N_far (p := ⟨gb278, 0, none⟩) (Kd.N_mono HO_5.out (fun k_ hk => (⟨hk, hk.2.2.1⟩ : _ ∧ k_ ≠ gb278))) (fun _ hk => hk.2) (.int .i64 t279)) (fun _ hk => hk.2) (.slice Ao10 t280.length co10)) (fun _ hk => ⟨hk.1.1, hk.1.2.1⟩), hi2_ HI0 NB0_278.out NB0_288.out, bw3_ HB (IsS113.ge HI0.out) GE278.out GE288.out, kb2_ HK GW278.out GW288.out⟩
            · rw [if_neg c36] at H
              have c36b0 : (t290 == 2) = false := beq_eq_false_iff_ne.mpr c36
              have c36b1 : (t290 != 2) = true := bne_iff_ne.mpr c36
              simp only [Option.some.injEq, Prod.mk.injEq] at H
              obtain ⟨rfl, rfl, rfl, rfl, rfl⟩ := H
              go_wp2_with (first | ((with_reducible refine gate_callee (f := 96) rfl ?_); refine goesL_ (some 25) rfl rfl Try.func96 (by kernel_rfl) rfl #[.pointer (some ⟨g, 0, none⟩), .int .i64 8] rfl (by (try simp only [List.map_toArray, List.map_cons, List.map_nil]); first | done | rfl | (simp only [List.length_drop, List.length_take]; rfl)) ?_; (with_reducible refine (spec_l1Below.calls g s0_0 t286 t287 8 t290 t291 t292 w0 _ ?side1 ?side2 A21.out).mono ?_); (case side1 => repeat (first | (with_reducible first | exact HI0.out | apply IsS113.alloc | apply IsS113.drewN | apply IsS113.drew | apply IsS113.set_1 | apply IsS113.set_2 | refine IsS113.far ?_ NB0_278.out _ | refine IsS113.far ?_ NB0_288.out _) | exact HI0.out)); (case side2 => repeat (first | (with_reducible first | exact HB.out | apply below_alloc | apply pw_below_drewN | apply below_drew1 | refine below_set ?_ (IsS113.ge HI0.out) | refine below_set ?_ GE278.out | refine below_set ?_ GE288.out) | exact HB.out)); rintro e w49 ⟨rfl, hi, hb, hk⟩; refine ⟨_, rfl, ?_⟩; have n0_ := Aside0.mk (Kd.N_mono (Kd.N_keep (Kd.N_mono (ok := fun k_ => (((w.heap.size ≤ k_)) ∧ (some k_ ≠ (.slice Ao10 t280.length co10 : Value).ownBlock ∧ (k_ ≠ gb278 ∧ (k_ ≠ gb288 ∧ k_ ≠ g))))) (by (with_reducible repeat (first | apply Kd.N_alloc | apply Kd.N_drewN | apply Kd.N_drew)); exact HO_5.out) (fun k_ hk_ => (⟨hk_, hk_.2.2.2.2⟩ : _ ∧ k_ ≠ g))) hk (fun _ h => h.2)) (fun _ h => h.1)); have n1_ := Aside0.mk (Kd.R_mono (Kd.R_keep (IsS113.apart (show IsS113 w0 _ g s0_0 t286 t287 from hi2_ HI0 NB0_278.out NB0_288.out) (kr_ HO_289001) (by decide)) hk (fun _ h => h.2)) (fun _ h => h.1)); have n2_ := Aside0.mk (KeepBut.blk hk (g' := gb278) (o := .cells #[.int .i64 0, .slice none 0 0] 54 (0, 0)) (bk_ BK278) NB278_0.out (by simp)); have n3_ := Aside0.mk (KeepBut.blk hk (g' := gb288) (o := .cells #[.int .i64 t279, .slice Ao10 t280.length co10] 54 (0, 0)) (bk_ BK288) NB288_0.out (by simp)); have n4_ := Aside0.mk (KeepBut.trans (kb2_ HK GW278.out GW288.out) hk (.inl rfl)); have n5_ := Aside0.mk (hb); have n6_ := Aside0.mk (hi); clear HO_5; clear HO_289001; clear BK278; clear BK288; clear HK; clear HB; clear HI0; have HO_5 := n0_; have HO_289001 := n1_; have BK278 := n2_; have BK288 := n3_; have HK := n4_; have HB := n5_; have HI0 := n6_; clear n0_ n1_ n2_ n3_ n4_ n5_ n6_; (try clear hb); (try clear hb2); (try clear hk); (try clear hi); have hnb50 := NB288_278.out; have hnc50 := NB278_288.out; have hnb51 := NB288_0.out; have hnc51 := NB0_288.out; have hcz52_0 : w49.cell? ⟨gb288, 0, none⟩ = some (.int .i64 t279) := (blk_cell BK288.out 0).trans rfl; have hcz52_1 : w49.cell? ⟨gb288, 1, none⟩ = some (.slice Ao10 t280.length co10) := (blk_cell BK288.out 1).trans rfl; have hfz52_0 := blk_frozen BK288.out 0; have hfz52_1 := blk_frozen BK288.out 1; have hnb53 := NB278_0.out; have hnc53 := NB0_278.out; have hcz54_0 : w49.cell? ⟨gb278, 0, none⟩ = some (.int .i64 0) := (blk_cell BK278.out 0).trans rfl; have hcz54_1 : w49.cell? ⟨gb278, 1, none⟩ = some (.slice none 0 0) := (blk_cell BK278.out 1).trans rfl; have hfz54_0 := blk_frozen BK278.out 0; have hfz54_1 := blk_frozen BK278.out 1))
              refine bodyPost_ret (results_ct rfl _ _ gb278 54 #[.int .i64 t279, .slice Ao10 t280.length co10] (0, 0) _ rfl (by (with_reducible repeat (first | refine blk_drewN ?_ _ | refine blk_drew ?_ | refine blk_alloc ?_ _)); refine blk_put (cs := #[.int .i64 t279, .slice none 0 0]) ?_ 1 _ rfl; (with_reducible repeat (first | refine blk_drewN ?_ _ | refine blk_drew ?_ | refine blk_alloc ?_ _)); refine blk_put (cs := #[.int .i64 0, .slice none 0 0]) ?_ 0 _ rfl; (with_reducible repeat (first | refine blk_drewN ?_ _ | refine blk_drew ?_ | refine blk_alloc ?_ _)); exact BK278.out) Try.underlying54 rfl (by kernel_rfl)) rfl ?_
              exact ⟨_, _, by first | rfl | (simp [errW_none, errW_some] <;> rfl) | (simp [*, errW_none, errW_some] <;> rfl), by (with_reducible repeat (first | apply Kd.R_alloc | apply Kd.R_drewN | apply Kd.R_drew)); exact Kd.R_mono (Kd.R_far (p := ⟨gb278, 1, none⟩) (Kd.R_far (p := ⟨gb278, 0, none⟩) (Kd.R_types HO_289001.out BK278.out (by decide)) (fun _ hk => hk.2) (.int .i64 t279)) (fun _ hk => hk.2) (.slice Ao10 t280.length co10)) (fun _ hk => hk.1), by (with_reducible repeat (first | apply Kd.N_alloc | apply Kd.N_drewN | apply Kd.N_drew)); exact Kd.N_mono (Kd.N_far (p := ⟨gb278, 1, none⟩) (Kd.N_far (p := ⟨gb278, 0, none⟩) (Kd.N_mono HO_5.out (fun k_ hk => (⟨hk, hk.2.2.1⟩ : _ ∧ k_ ≠ gb278))) (fun _ hk => hk.2) (.int .i64 t279)) (fun _ hk => hk.2) (.slice Ao10 t280.length co10)) (fun _ hk => ⟨hk.1.1, hk.1.2.1⟩), hi2_ HI0 NB0_278.out NB0_288.out, bw3_ HB (IsS113.ge HI0.out) GE278.out GE288.out, kb2_ HK GW278.out GW288.out⟩

/-- Both roads: the copies (2), all else. -/
def spec_l13Any.f (k : Nat) (s0_0 : List Int) (s0_1 : Int) (s0_2 : Int) : Option (Int × (List (S63)) × (List (S61)) × Int × Int) := (spec_l13Draw.f k s0_0 s0_1 s0_2).bind fun t => if (t.2.2.1.length : Int) = 0 ∨ ((rd_T61 t.2.2.1 0).f0.length : Int) = 0 then any13S.f k s0_0 s0_1 s0_2 else (spec_l1Below.f s0_0 t.2.2.2.1 t.2.2.2.2 8).bind fun v => if v.1 = 2 then any13N.f k s0_0 s0_1 s0_2 else any13S.f k s0_0 s0_1 s0_2
theorem spec_l13Any.mono : ∀ a0 a1 a2 k, LeO (spec_l13Any.f k a0 a1 a2) (spec_l13Any.f (k + 1) a0 a1 a2) := fun _ _ _ k => LeO.bind (spec_l13Draw.mono _ _ _ k) (fun _ => LeO.ite (any13S.mono _ _ _ k) (LeO.bind (LeO.refl _) (fun _ => LeO.ite (any13N.mono _ _ _ k) (any13S.mono _ _ _ k))))
theorem any13_out {W : World} {base : Nat} {v1 v2 : Value} {r2 : List S63} {r3 : List S61} (h1 : Kd.R k63 63 W base (fun _ => True) v1 r2) (h2 : Kd.S k61 61 W base (fun _ => True) v2 r3) : Kd.R k63 63 W base (fun k_ => (base ≤ k_)) v1 r2 ∧ Kd.V k61 61 W base (fun k_ => (base ≤ k_) ∧ some k_ ≠ (v1 : Value).ownBlock) v2 r3 :=
  ⟨Kd.R_mono (Kd.R_bound h1) (fun _ hk => hk.2.1), Kd.S_V (Kd.S_mono (Kd.S_bound (Kd.S_apart' h2 (Kd.R_typed h1) (by decide))) (fun _ hk => ⟨hk.2.1, hk.1.2⟩))⟩
theorem spec_l13Any.calls (k : Nat) (g : Nat) (s0_0 : List Int) (s0_1 : Int) (s0_2 : Int) (r1 : Int) (r2 : List (S63)) (r3 : List (S61)) (r4 : Int) (r5 : Int) (w0 w : World) (hI : IsS113 w0 w g s0_0 s0_1 s0_2) (hB : Below w0.heap.size w0 w) (h : spec_l13Any.f k s0_0 s0_1 s0_2 = some (r1, r2, r3, r4, r5)) :
    Calls Try.prog 75 #[.pointer (some ⟨g, 0, none⟩)] w fun e w' => ∃ v1_ v2_ : Value, e = .returned (.tuple #[.agg #[.int .i64 r1, v1_], v2_]) ∧ Kd.R k63 63 w' w.heap.size (fun k_ => (w.heap.size ≤ k_)) v1_ r2 ∧ Kd.V k61 61 w' w.heap.size (fun k_ => (w.heap.size ≤ k_) ∧ some k_ ≠ (v1_ : Value).ownBlock) v2_ r3 ∧ IsS113 w0 w' g s0_0 r4 r5 ∧ Below w0.heap.size w0 w' ∧ KeepBut w w' g none := by
  have hS : any13S.f k s0_0 s0_1 s0_2 = some (r1, r2, r3, r4, r5) → Calls Try.prog 75 #[.pointer (some ⟨g, 0, none⟩)] w fun e w' => ∃ v1_ v2_ : Value, e = .returned (.tuple #[.agg #[.int .i64 r1, v1_], v2_]) ∧ Kd.R k63 63 w' w.heap.size (fun k_ => (w.heap.size ≤ k_)) v1_ r2 ∧ Kd.V k61 61 w' w.heap.size (fun k_ => (w.heap.size ≤ k_) ∧ some k_ ≠ (v1_ : Value).ownBlock) v2_ r3 ∧ IsS113 w0 w' g s0_0 r4 r5 ∧ Below w0.heap.size w0 w' ∧ KeepBut w w' g none := fun h => by
    refine (any13S.calls k g s0_0 s0_1 s0_2 r1 r2 r3 r4 r5 w0 w hI hB h).mono ?_
    rintro e w' ⟨v1, v2, he, h1, h2, hr⟩
    obtain ⟨h3, h4⟩ := any13_out h1 h2
    exact ⟨v1, v2, he, h3, h4, hr⟩
  unfold spec_l13Any.f at h
  obtain ⟨t, h1, h⟩ := Option.bind_eq_some_iff.1 h
  by_cases hz : (t.2.2.1.length : Int) = 0 ∨ ((rd_T61 t.2.2.1 0).f0.length : Int) = 0
  · rw [if_pos hz] at h
    exact hS h
  rw [if_neg hz] at h
  obtain ⟨v, h2, h⟩ := Option.bind_eq_some_iff.1 h
  by_cases h3 : v.1 = 2
  · rw [if_pos h3] at h
    refine (any13N.calls k g s0_0 s0_1 s0_2 r1 r2 r3 r4 r5 w0 w hI hB h).mono ?_
    rintro e w' ⟨v1, v2, he, h1, h2, hr⟩
    exact ⟨v1, v2, he, h1, Kd.N_V h2, hr⟩
  · rw [if_neg h3] at h
    exact hS h

end Go.Proofs.Ytgghhcifkgdpeaa.Z
