-- Written by this session's wip/mp/mp.py out of the translation. Lean checks it.
import Derived.Test.YtabjcjieniokaaaZ0
import Derived.Test.YtabjcjieniokaaaZ5
import Derived.Test.YtabjcjieniokaaaZ7
namespace Go.Proofs.Ytabjcjieniokaaa.Z
open Go.RowKit Go.Proofs.YtabjcjieniokaaaW.PrintWords Go.Proofs.YtabjcjieniokaaaW.PrintLast Go.Proofs.YtabjcjieniokaaaW.PrintMore
attribute [local go_sem] max2_int min2_int max_two min_two max_three min_three max_four min_four   -- for this text's walks alone
set_option linter.unusedVariables false
set_option linter.unusedSimpArgs false

-- GIVEN
-- FUNCTION loop.example/g00958/impl.reduced rounds
-- ALONE
-- EXTRA loop.example/g00958/impl.gcd
-- EXTRA loop.example/g00958/impl.IsRatio
-- KIND 52
-- INFO 52
/-! ### impl_reduced: function 95 -/
def redO (k : Nat) (n d g : Int) : Option (Int × Int × Bool) := if g = 0 then none else (impl_IsRatio.f k (wrap64 (Int.tdiv n g)) (wrap64 (Int.tdiv d g))).bind fun b => if b = true then some (wrap64 (Int.tdiv n g), wrap64 (Int.tdiv d g), true) else some (0, 0, false)
def impl_reduced.f (k : Nat) (a0 a1 : Int) : Option (Int × Int × Bool) := (impl_gcd.f k a0 a1).bind fun g => redO k a0 a1 (if a1 < 0 then wrap64 (-g) else g)
theorem impl_reduced.mono : ∀ a0 a1 k, LeO (impl_reduced.f k a0 a1) (impl_reduced.f (k + 1) a0 a1) := fun _ _ _ => LeO.bind (impl_gcd.mono _ _ _) (fun _ => LeO.ite (LeO.refl _) (LeO.bind (impl_IsRatio.mono _ _ _) (fun _ => LeO.refl _)))

set_option maxRecDepth 100000 in
set_option maxHeartbeats 4000000 in
theorem impl_reduced.calls (k : Nat) (a0 a1 : Int) (r1 r2 : Int) (r3 : Bool) (w : World) (h : impl_reduced.f k a0 a1 = some (r1, r2, r3)) :
    Calls Try.prog 95 #[.int .i64 a0, .int .i64 a1] w fun e w' => e = .returned (.tuple #[.agg #[.int .i64 r1, .int .i64 r2], .bool r3]) ∧ Below w.heap.size w w' := by
  have hu := Try.underlying52
  unfold impl_reduced.f at h
  obtain ⟨g0, h1, h⟩ := Option.bind_eq_some_iff.1 h
  have HG := Aside0.mk (fun (W : World) => impl_gcd.calls k a0 a1 g0 W h1)
  obtain ⟨g, hg⟩ : ∃ g, (if a1 < 0 then wrap64 (-g0) else g0) = g := ⟨_, rfl⟩
  rw [hg] at h
  unfold redO at h
  by_cases hz : g = 0
  · rw [if_pos hz] at h; cases h
  rw [if_neg hz] at h
  have z1 : (g == 0) = false := beq_false_of_ne hz
  have z2 : decide (g = 0) = false := decide_eq_false hz
  have z3 : (g != 0) = true := bne_iff_ne.mpr hz
  have z4 := eq_false hz
  obtain ⟨N, hN⟩ : ∃ N, wrap64 (Int.tdiv a0 g) = N := ⟨_, rfl⟩
  obtain ⟨D, hD⟩ : ∃ D, wrap64 (Int.tdiv a1 g) = D := ⟨_, rfl⟩
  rw [hN, hD] at h
  obtain ⟨b, h2, h⟩ := Option.bind_eq_some_iff.1 h
  have HI := Aside0.mk (fun (W : World) => impl_IsRatio.calls k N D b W h2)
  have HNN := Aside0.mk hN
  have HDD := Aside0.mk hD
  go_enter Try.func95, Try.ntmps95
  by_cases hneg : a1 < 0
  · rw [if_pos hneg] at hg
    have d1 : decide (a1 < 0) = true := decide_eq_true hneg
    clear h1 h2 hz hN hD hneg
    go_wp2_with (first | ((with_reducible refine gate_dst (N := 4) rfl ?_); refine box_event ?hg (N := 4) ?hd (cs := #[.int .i64 0, .int .i64 0]) (t := 52) ?hr ?_; (case hd => rfl); (case hg => rfl); (case hr => first | (go_simp; done) | (go_simp; rfl)); intro g4 hg w1 hbox hb; have Bw1 := Aside0.mk (below_step (by repeat (first | exact Below.refl _ _ | (with_reducible first | apply below_alloc | apply pw_below_drewN | apply below_drew1))) hb : Below w.heap.size w w1); have Kg4 := Aside0.mk hbox; have Gg4 := Aside0.mk (show w.heap.size ≤ g4 by rw [hg]; exact below_size (by repeat (first | exact Below.refl _ _ | (with_reducible first | apply below_alloc | apply pw_below_drewN | apply below_drew1)))); clear hb hbox hg) | ((with_reducible refine gate_callee (f := 94) rfl ?_); refine goesL_ (some 10) rfl rfl Try.func94 (by kernel_rfl) rfl #[.int .i64 a0, .int .i64 a1] rfl (by (try simp only [List.map_toArray, List.map_cons, List.map_nil]); first | done | rfl | (simp only [List.length_drop, List.length_take]; rfl)) ?_; (with_reducible refine (HG.out _).mono ?_); rintro e w2 ⟨rfl, hd2⟩; refine ⟨_, rfl, ?_⟩; obtain ⟨nd, hd2⟩ := hd2; have hb2 : Below w1.heap.size w1 w2 := (by rw [hd2]; exact (by repeat (first | exact Below.refl _ _ | (with_reducible first | apply below_alloc | apply pw_below_drewN | apply below_drew1)))); have K4 := Aside0.mk (blk_below Kg4.out hb2); have HB2 := Aside0.mk (below_step Bw1.out hb2 : Below w.heap.size w w2); clear hd2 hb2))
    rw [hg]
    clear hg
    go_cut [7] (fun s7 wx => ∃ (W' : World) (g7 : Nat), W' = wx ∧ s7 = .pointer (some ⟨g7, 0, none⟩) ∧ Aside0 (W'.heap[g7]? = some (.cells #[.int .i64 N, .int .i64 D] 52 (0, 0))) ∧ Aside0 (Below w2.heap.size w2 W'))
    case first =>
      go_region_held3 (fun _ => True) (go_keep) (fail)
      all_goals (go_wp2; go_meet)
      all_goals exact ⟨_, _, rfl, rfl, ⟨by rw [← HNN.out, ← HDD.out, ← IntWalk.i64_left, ← IntWalk.i64_left]; exact blk_drew (blk_new _ _)⟩, ⟨(by repeat (first | exact Below.refl _ _ | (with_reducible first | apply below_alloc | apply pw_below_drewN | apply below_drew1)))⟩⟩
    case rest =>
      obtain ⟨W5, g7, rfl, rfl, BK, HB9⟩ := hcut
      have K4b := Aside0.mk (blk_below K4.out HB9.out)
      have HBb := Aside0.mk (HB2.out.trans (HB9.out.mono HB2.out.size))
      have v6 : W5.cell? ⟨g7, 0, none⟩ = some (.int .i64 N) := (blk_cell BK.out 0).trans rfl
      have v7 : W5.cell? ⟨g7, 1, none⟩ = some (.int .i64 D) := (blk_cell BK.out 1).trans rfl
      cases b with
      | false =>
        rw [if_neg (by decide)] at h
        simp only [Option.some.injEq, Prod.mk.injEq] at h
        obtain ⟨rfl, rfl, rfl⟩ := h
        go_wp2_with (first | (go_at_call 113; (with_reducible refine (HI.out _).mono ?_); rintro e w9 ⟨rfl, hb9⟩; have K4c := Aside0.mk (blk_below K4b.out hb9); have K7c := Aside0.mk (blk_below BK.out hb9); have HBc := Aside0.mk (below_step HBb.out hb9 : Below w.heap.size w w9); clear hb9; have d0 : w9.cell? ⟨g4, 0, none⟩ = some (.int .i64 0) := (blk_cell K4c.out 0).trans rfl; have d1 : w9.cell? ⟨g4, 1, none⟩ = some (.int .i64 0) := (blk_cell K4c.out 1).trans rfl; have d2 : w9.frozen? ⟨g4, 0, none⟩ = false := blk_frozen K4c.out 0; have d3 : w9.frozen? ⟨g4, 1, none⟩ = false := blk_frozen K4c.out 1; have d4 : w9.cell? ⟨g7, 0, none⟩ = some (.int .i64 N) := (blk_cell K7c.out 0).trans rfl; have d5 : w9.cell? ⟨g7, 1, none⟩ = some (.int .i64 D) := (blk_cell K7c.out 1).trans rfl))
        (try simp only [Exit.inBlock, Exit.then]); refine bodyPost_ret (results_ct rfl _ _ g4 52 #[.int .i64 0, .int .i64 0] (0, 0) _ rfl (by refine blk_put (cs := #[.int .i64 0, .int .i64 0]) ?_ 1 _ rfl; refine blk_put (cs := #[.int .i64 0, .int .i64 0]) ?_ 0 _ rfl; exact K4c.out) Try.underlying52 rfl (by kernel_rfl)) rfl ?_
        exact ⟨by first | rfl | (simp; done), below_set (below_set HBc.out Gg4.out) Gg4.out⟩
      | true =>
        rw [if_pos rfl] at h
        simp only [Option.some.injEq, Prod.mk.injEq] at h
        obtain ⟨rfl, rfl, rfl⟩ := h
        go_wp2_with (first | (go_at_call 113; (with_reducible refine (HI.out _).mono ?_); rintro e w9 ⟨rfl, hb9⟩; have K4c := Aside0.mk (blk_below K4b.out hb9); have K7c := Aside0.mk (blk_below BK.out hb9); have HBc := Aside0.mk (below_step HBb.out hb9 : Below w.heap.size w w9); clear hb9; have d0 : w9.cell? ⟨g4, 0, none⟩ = some (.int .i64 0) := (blk_cell K4c.out 0).trans rfl; have d1 : w9.cell? ⟨g4, 1, none⟩ = some (.int .i64 0) := (blk_cell K4c.out 1).trans rfl; have d2 : w9.frozen? ⟨g4, 0, none⟩ = false := blk_frozen K4c.out 0; have d3 : w9.frozen? ⟨g4, 1, none⟩ = false := blk_frozen K4c.out 1; have d4 : w9.cell? ⟨g7, 0, none⟩ = some (.int .i64 N) := (blk_cell K7c.out 0).trans rfl; have d5 : w9.cell? ⟨g7, 1, none⟩ = some (.int .i64 D) := (blk_cell K7c.out 1).trans rfl))
        (try simp only [Exit.inBlock, Exit.then]); refine bodyPost_ret (results_ct rfl _ _ g4 52 #[.int .i64 N, .int .i64 D] (0, 0) _ rfl (by refine blk_put (cs := #[.int .i64 N, .int .i64 0]) ?_ 1 _ rfl; refine blk_put (cs := #[.int .i64 0, .int .i64 0]) ?_ 0 _ rfl; exact K4c.out) Try.underlying52 rfl (by kernel_rfl)) rfl ?_
        exact ⟨by first | rfl | (simp; done), below_set (below_set HBc.out Gg4.out) Gg4.out⟩
  · rw [if_neg hneg] at hg
    have d1 : decide (a1 < 0) = false := decide_eq_false hneg
    subst hg
    clear h1 h2 hz hN hD hneg
    go_wp2_with (first | ((with_reducible refine gate_dst (N := 4) rfl ?_); refine box_event ?hg (N := 4) ?hd (cs := #[.int .i64 0, .int .i64 0]) (t := 52) ?hr ?_; (case hd => rfl); (case hg => rfl); (case hr => first | (go_simp; done) | (go_simp; rfl)); intro g4 hg w1 hbox hb; have Bw1 := Aside0.mk (below_step (by repeat (first | exact Below.refl _ _ | (with_reducible first | apply below_alloc | apply pw_below_drewN | apply below_drew1))) hb : Below w.heap.size w w1); have Kg4 := Aside0.mk hbox; have Gg4 := Aside0.mk (show w.heap.size ≤ g4 by rw [hg]; exact below_size (by repeat (first | exact Below.refl _ _ | (with_reducible first | apply below_alloc | apply pw_below_drewN | apply below_drew1)))); clear hb hbox hg) | ((with_reducible refine gate_callee (f := 94) rfl ?_); refine goesL_ (some 10) rfl rfl Try.func94 (by kernel_rfl) rfl #[.int .i64 a0, .int .i64 a1] rfl (by (try simp only [List.map_toArray, List.map_cons, List.map_nil]); first | done | rfl | (simp only [List.length_drop, List.length_take]; rfl)) ?_; (with_reducible refine (HG.out _).mono ?_); rintro e w2 ⟨rfl, hd2⟩; refine ⟨_, rfl, ?_⟩; obtain ⟨nd, hd2⟩ := hd2; have hb2 : Below w1.heap.size w1 w2 := (by rw [hd2]; exact (by repeat (first | exact Below.refl _ _ | (with_reducible first | apply below_alloc | apply pw_below_drewN | apply below_drew1)))); have K4 := Aside0.mk (blk_below Kg4.out hb2); have HB2 := Aside0.mk (below_step Bw1.out hb2 : Below w.heap.size w w2); clear hd2 hb2))
    go_cut [7] (fun s7 wx => ∃ (W' : World) (g7 : Nat), W' = wx ∧ s7 = .pointer (some ⟨g7, 0, none⟩) ∧ Aside0 (W'.heap[g7]? = some (.cells #[.int .i64 N, .int .i64 D] 52 (0, 0))) ∧ Aside0 (Below w2.heap.size w2 W'))
    case first =>
      go_region_held3 (fun _ => True) (go_keep) (fail)
      all_goals (go_wp2; go_meet)
      all_goals exact ⟨_, _, rfl, rfl, ⟨by rw [← HNN.out, ← HDD.out, ← IntWalk.i64_left, ← IntWalk.i64_left]; exact blk_drew (blk_new _ _)⟩, ⟨(by repeat (first | exact Below.refl _ _ | (with_reducible first | apply below_alloc | apply pw_below_drewN | apply below_drew1)))⟩⟩
    case rest =>
      obtain ⟨W5, g7, rfl, rfl, BK, HB9⟩ := hcut
      have K4b := Aside0.mk (blk_below K4.out HB9.out)
      have HBb := Aside0.mk (HB2.out.trans (HB9.out.mono HB2.out.size))
      have v6 : W5.cell? ⟨g7, 0, none⟩ = some (.int .i64 N) := (blk_cell BK.out 0).trans rfl
      have v7 : W5.cell? ⟨g7, 1, none⟩ = some (.int .i64 D) := (blk_cell BK.out 1).trans rfl
      cases b with
      | false =>
        rw [if_neg (by decide)] at h
        simp only [Option.some.injEq, Prod.mk.injEq] at h
        obtain ⟨rfl, rfl, rfl⟩ := h
        go_wp2_with (first | (go_at_call 113; (with_reducible refine (HI.out _).mono ?_); rintro e w9 ⟨rfl, hb9⟩; have K4c := Aside0.mk (blk_below K4b.out hb9); have K7c := Aside0.mk (blk_below BK.out hb9); have HBc := Aside0.mk (below_step HBb.out hb9 : Below w.heap.size w w9); clear hb9; have d0 : w9.cell? ⟨g4, 0, none⟩ = some (.int .i64 0) := (blk_cell K4c.out 0).trans rfl; have d1 : w9.cell? ⟨g4, 1, none⟩ = some (.int .i64 0) := (blk_cell K4c.out 1).trans rfl; have d2 : w9.frozen? ⟨g4, 0, none⟩ = false := blk_frozen K4c.out 0; have d3 : w9.frozen? ⟨g4, 1, none⟩ = false := blk_frozen K4c.out 1; have d4 : w9.cell? ⟨g7, 0, none⟩ = some (.int .i64 N) := (blk_cell K7c.out 0).trans rfl; have d5 : w9.cell? ⟨g7, 1, none⟩ = some (.int .i64 D) := (blk_cell K7c.out 1).trans rfl))
        (try simp only [Exit.inBlock, Exit.then]); refine bodyPost_ret (results_ct rfl _ _ g4 52 #[.int .i64 0, .int .i64 0] (0, 0) _ rfl (by refine blk_put (cs := #[.int .i64 0, .int .i64 0]) ?_ 1 _ rfl; refine blk_put (cs := #[.int .i64 0, .int .i64 0]) ?_ 0 _ rfl; exact K4c.out) Try.underlying52 rfl (by kernel_rfl)) rfl ?_
        exact ⟨by first | rfl | (simp; done), below_set (below_set HBc.out Gg4.out) Gg4.out⟩
      | true =>
        rw [if_pos rfl] at h
        simp only [Option.some.injEq, Prod.mk.injEq] at h
        obtain ⟨rfl, rfl, rfl⟩ := h
        go_wp2_with (first | (go_at_call 113; (with_reducible refine (HI.out _).mono ?_); rintro e w9 ⟨rfl, hb9⟩; have K4c := Aside0.mk (blk_below K4b.out hb9); have K7c := Aside0.mk (blk_below BK.out hb9); have HBc := Aside0.mk (below_step HBb.out hb9 : Below w.heap.size w w9); clear hb9; have d0 : w9.cell? ⟨g4, 0, none⟩ = some (.int .i64 0) := (blk_cell K4c.out 0).trans rfl; have d1 : w9.cell? ⟨g4, 1, none⟩ = some (.int .i64 0) := (blk_cell K4c.out 1).trans rfl; have d2 : w9.frozen? ⟨g4, 0, none⟩ = false := blk_frozen K4c.out 0; have d3 : w9.frozen? ⟨g4, 1, none⟩ = false := blk_frozen K4c.out 1; have d4 : w9.cell? ⟨g7, 0, none⟩ = some (.int .i64 N) := (blk_cell K7c.out 0).trans rfl; have d5 : w9.cell? ⟨g7, 1, none⟩ = some (.int .i64 D) := (blk_cell K7c.out 1).trans rfl))
        (try simp only [Exit.inBlock, Exit.then]); refine bodyPost_ret (results_ct rfl _ _ g4 52 #[.int .i64 N, .int .i64 D] (0, 0) _ rfl (by refine blk_put (cs := #[.int .i64 N, .int .i64 0]) ?_ 1 _ rfl; refine blk_put (cs := #[.int .i64 0, .int .i64 0]) ?_ 0 _ rfl; exact K4c.out) Try.underlying52 rfl (by kernel_rfl)) rfl ?_
        exact ⟨by first | rfl | (simp; done), below_set (below_set HBc.out Gg4.out) Gg4.out⟩

end Go.Proofs.Ytabjcjieniokaaa.Z
