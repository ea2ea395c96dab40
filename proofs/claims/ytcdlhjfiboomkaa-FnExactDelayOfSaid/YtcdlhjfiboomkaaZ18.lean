-- Written by this session's wip/mp/mp.py out of the translation. Lean checks it.
import Derived.Test.YtcdlhjfiboomkaaZ0
import Derived.Test.YtcdlhjfiboomkaaZ7
import Derived.Test.YtcdlhjfiboomkaaZ8
import Derived.Test.YtcdlhjfiboomkaaZFirst
namespace Go.Proofs.Ytcdlhjfiboomkaa.Z
open Go.RowKit Go.Proofs.YtcdlhjfiboomkaaW.PrintWords Go.Proofs.YtcdlhjfiboomkaaW.PrintLast Go.Proofs.YtcdlhjfiboomkaaW.PrintMore
attribute [local go_sem] max2_int min2_int max_two min_two max_three min_three max_four min_four   -- for this text's walks alone
set_option linter.unusedVariables false
set_option linter.unusedSimpArgs false

-- GIVEN
-- FUNCTION loop.example/g00958/spec.l6Dot rounds
-- ALONE
-- EXTRA loop.example/g00958/spec.TimesRatios
-- EXTRA loop.example/g00958/spec.AddRatios
-- IMPORT Derived.Test.YtcdlhjfiboomkaaZFirst
-- KIND 52
-- INFO 52
/-! ### spec_l6Dot: function 59 -/
def dotO (k : Nat) : List Int → List S52 → Int → Int → Option (Int × Int × Bool)
 | r :: rs, x :: xs, a, b => (spec_TimesRatios.f k r 1 x.f0 x.f1).bind fun t => if t.2.2 = true then ((spec_AddRatios.f k a b t.1 t.2.1).bind fun u => if u.2.2 = true then dotO k rs xs u.1 u.2.1 else some (0, 0, false)) else some (0, 0, false)
 | _, _, a, b => some (a, b, true)
theorem dotO_mono (k : Nat) : ∀ rs xs a b, LeO (dotO k rs xs a b) (dotO (k + 1) rs xs a b)
 | [], _, _, _ => LeO.refl _
 | _ :: _, [], _, _ => LeO.refl _
 | _ :: rs, _ :: xs, _, _ => LeO.bind (spec_TimesRatios.mono _ _ _ _ _) (fun _ => LeO.ite (LeO.bind (spec_AddRatios.mono _ _ _ _ _) (fun _ => LeO.ite (dotO_mono k rs xs _ _) (LeO.refl _))) (LeO.refl _))
def spec_l6Dot.f (k : Nat) (l0 : List Int) (l1 : List S52) : Option (Int × Int × Bool) := if l0.length ≤ 4096 then dotO k l0 l1 0 1 else none
theorem spec_l6Dot.mono : ∀ a0 a1 k, LeO (spec_l6Dot.f k a0 a1) (spec_l6Dot.f (k + 1) a0 a1) := fun _ _ k => LeO.ite (dotO_mono k _ _ _ _) (LeO.refl _)

set_option maxRecDepth 100000 in
set_option maxHeartbeats 8000000 in
theorem spec_l6Dot.calls (k : Nat) (A0 : Option Addr) (c0 : Nat) (l0 : List Int) (A1 : Option Addr) (c1 : Nat) (l1 : List S52) (r1 r2 : Int) (r3 : Bool) (w : World) (hr0 : Kd.C (Kd.int .i64) w A0 l0.length l0) (hc0 : l0.length ≤ c0) (hr1 : Kd.C k52 w A1 l1.length l1) (hc1 : l1.length ≤ c1) (h : spec_l6Dot.f k l0 l1 = some (r1, r2, r3)) :
  Calls Try.prog 59 #[.slice A0 l0.length c0, .slice A1 l1.length c1] w fun e w' => e = .returned (.tuple #[.agg #[.int .i64 r1, .int .i64 r2], .bool r3]) ∧ Below w.heap.size w w' := by
 have hu := Try.underlying52
 have _ := hc0
 have _ := hc1
 unfold spec_l6Dot.f at h
 by_cases hn : l0.length ≤ 4096
 rotate_left
 ·rw [if_neg hn] at h; cases h
 rw [if_pos hn] at h
 obtain ⟨n, en⟩ : ∃ n, l0.length = n := ⟨_, rfl⟩
 obtain ⟨p, ep⟩ : ∃ p, l1.length = p := ⟨_, rfl⟩
 rw [en] at hr0 hn ⊢
 rw [ep] at hr1 ⊢
 have HN := Aside0.mk hn
 have EN := Aside0.mk en
 have EP := Aside0.mk ep
 have HE0 := Aside0.mk h
 have HR0 := Aside0.mk hr0
 have HR1 := Aside0.mk hr1
 clear h hn en ep hr0 hr1 hc0 hc1
 go_enter Try.func59, Try.ntmps59
 go_wp2_with (first | ((with_reducible refine gate_dst (N := 4) rfl ?_); refine box_event ?hg (N := 4) ?hd (cs := #[.int .i64 0, .int .i64 0]) (t := 52) ?hr ?_; (case hd => rfl); (case hg => rfl); (case hr => first | (go_simp; done) | (go_simp; rfl)); intro g4 hg w1 hbox hb; have Bw1 := Aside0.mk (below_step (by repeat (first | exact Below.refl _ _ | (with_reducible first | apply below_alloc | apply pw_below_drewN | apply below_drew1))) hb : Below w.heap.size w w1); have Kg4 := Aside0.mk hbox; have Gg4 := Aside0.mk (show w.heap.size ≤ g4 by rw [hg]; exact below_size (by repeat (first | exact Below.refl _ _ | (with_reducible first | apply below_alloc | apply pw_below_drewN | apply below_drew1)))); clear hb hbox hg) | ((with_reducible refine gate_dst (N := 6) rfl ?_); refine box_event ?hg (N := 6) ?hd (cs := #[.int .i64 0, .int .i64 0]) (t := 52) ?hr ?_; (case hd => rfl); (case hg => rfl); (case hr => first | (go_simp; done) | (go_simp; rfl)); intro g6 hg w2 hbox hb; have Bw2 := Aside0.mk (below_step (by repeat (first | exact Bw1.out | (with_reducible first | apply below_alloc | apply pw_below_drewN | apply below_drew1))) hb : Below w.heap.size w w2); have Kg6 := Aside0.mk hbox; have Gg6 := Aside0.mk (show w.heap.size ≤ g6 by rw [hg]; exact below_size (by repeat (first | exact Bw1.out | (with_reducible first | apply below_alloc | apply pw_below_drewN | apply below_drew1)))); have Ng4g6 := Aside0.mk (show g4 ≠ g6 by have h_ := blk_lt Kg4.out; (try simp at hg); omega); have Kg4 := Aside0.mk (blk_below Kg4.out hb); clear hb hbox hg; have x0 : w2.cell? ⟨g6, 0, none⟩ = some (.int .i64 0) := (blk_cell Kg6.out 0).trans rfl; have x1 : w2.cell? ⟨g6, 1, none⟩ = some (.int .i64 0) := (blk_cell Kg6.out 1).trans rfl; have f0 : w2.frozen? ⟨g6, 0, none⟩ = false := blk_frozen Kg6.out 0; have f1 : w2.frozen? ⟨g6, 1, none⟩ = false := blk_frozen Kg6.out 1))
 go_loopg [7] (n + 1) (fun kq v7 wr => ∃ (i : Nat) (a b : Int), v7 = .int .i64 (i : Int) ∧ Aside0 (i ≤ n ∧ n + 1 ≤ i + kq) ∧ Aside0 (dotO k (l0.drop i) (l1.drop i) a b = some (r1, r2, r3)) ∧ Aside0 (wr.heap[g6]? = some (.cells #[.int .i64 a, .int .i64 b] 52 (0, 0))) ∧ Aside0 (wr.heap[g4]? = some (.cells #[.int .i64 0, .int .i64 0] 52 (0, 0))) ∧ Aside0 (Below w.heap.size w wr))
 case atStart => exact ⟨0, 0, 1, rfl, ⟨by omega⟩, HE0, ⟨by refine blk_put (cs := #[.int .i64 0, .int .i64 0]) ?_ 1 _ rfl; refine blk_put (cs := #[.int .i64 0, .int .i64 0]) ?_ 0 _ rfl; exact Kg6.out⟩, ⟨by rw [Below.heap_setCell _ _ _ _ Ng4g6.out, Below.heap_setCell _ _ _ _ Ng4g6.out]; exact Kg4.out⟩, ⟨below_set (below_set Bw2.out Gg6.out) Gg6.out⟩⟩
 case round =>
  clear Kg6 Kg4 HE0
  obtain ⟨i, a, b, rfl, HI, HE, K6, K4, HB⟩ := hrel
  have hx0 : wr.cell? ⟨g6, 0, none⟩ = some (.int .i64 a) := (blk_cell K6.out 0).trans rfl
  have hx1 : wr.cell? ⟨g6, 1, none⟩ = some (.int .i64 b) := (blk_cell K6.out 1).trans rfl
  have hx2 : wr.cell? ⟨g4, 0, none⟩ = some (.int .i64 0) := (blk_cell K4.out 0).trans rfl
  have hx3 : wr.cell? ⟨g4, 1, none⟩ = some (.int .i64 0) := (blk_cell K4.out 1).trans rfl
  have hx4 : wr.frozen? ⟨g4, 0, none⟩ = false := blk_frozen K4.out 0
  have hx5 : wr.frozen? ⟨g4, 1, none⟩ = false := blk_frozen K4.out 1
  cases gk with
  | zero => exact absurd HI.out (by omega)
  | succ k1 =>
   by_cases hin : i < n ∧ i < p
   ·obtain ⟨hi, hp⟩ := hin
    have cb := decide_eq_true (show (i : Int) < (n : Int) by omega)
    have cb2 := decide_eq_true hi
    have cp := decide_eq_true (show (i : Int) < (p : Int) by omega)
    have cp2 := decide_eq_true hp
    have z0 := eq_true (show (0 : Int) ≤ (i : Int) by omega)
    have z1 := eq_true (show (i : Int) < (n : Int) by omega)
    have z2 := eq_true (show (i : Int) < (p : Int) by omega)
    have HL := Aside0.mk hi
    have HW := Aside0.mk (show wrap64 ((i : Int) + 1) = ((i + 1 : Nat) : Int) by
     have := HN.out
     rw [IntWalk.wrap64_in _ ⟨by omega, by omega⟩]
     omega)
    obtain ⟨ad0, e0, q0⟩ := at_int (Kd.C_below HR0.out HB.out) (i : Int) (by omega) (by omega)
    cases e0
    obtain ⟨ad1, e1, q1, q2⟩ := at_T52 (Kd.C_below HR1.out HB.out) (i : Int) (by omega) (by omega)
    cases e1
    have hil : i < l0.length := by rw [EN.out]; exact hi
    have hpl : i < l1.length := by rw [EP.out]; exact hp
    rw [show rd l0 (i : Int) = l0[i] from getD_at l0 i _ hil] at q0
    rw [show rd_T52 l1 (i : Int) = l1[i] from getD_at l1 i _ hpl] at q1 q2
    simp only [Int.toNat_natCast] at q0 q1 q2
    have hse := HE.out
    rw [List.drop_eq_getElem_cons hil, List.drop_eq_getElem_cons hpl] at hse
    generalize l0[i] = y0 at q0 hse
    generalize l1[i] = y at q1 q2 hse
    obtain ⟨⟨N, D, ok⟩, ht, hse⟩ := Option.bind_eq_some_iff.1 hse
    dsimp only at hse
    have HT := Aside0.mk (fun (W : World) => spec_TimesRatios.calls k y0 1 y.f0 y.f1 N D ok W ht)
    generalize y.f0 = x0 at q1 HT
    generalize y.f1 = x1 at q2 HT
    clear ht hi hp hil hpl
    go_wp2
    go_cut [8, 9] (fun s8 s9 wx => ∃ (W' : World) (g8 : Nat), W' = wx ∧ s8 = .pointer (some ⟨g8, 0, none⟩) ∧ s9 = .bool ok ∧ Aside0 (W'.heap[g8]? = some (.cells #[.int .i64 N, .int .i64 D] 52 (0, 0))) ∧ Aside0 (Below wr.heap.size wr W'))
    case first =>
     go_region_held3 (fun w' => w'.cell? (ad0.add i) = some (.int .i64 y0) ∧ w'.cell? (ad1.add (i * 2)) = some (.int .i64 x0) ∧ w'.cell? ⟨(ad1.add (i * 2)).block, (ad1.add (i * 2)).off + 1, none⟩ = some (.int .i64 x1)) (go_keep) (first | (go_at_call 78; (with_reducible refine (HT.out _).mono ?_); rintro e w7 ⟨rfl, hb7⟩; (try (have BN := Aside0.mk (show w7.heap[wr.heap.size]? = some (.cells #[.int .i64 0, .int .i64 0] 52 (0, 0)) from (by first | exact blk_below (blk_drew (blk_new _ _)) hb7 | exact blk_below (blk_new _ _) hb7)); have n0 : w7.cell? ⟨wr.heap.size, 0, none⟩ = some (.int .i64 0) := (blk_cell BN.out 0).trans rfl; have n1 : w7.cell? ⟨wr.heap.size, 1, none⟩ = some (.int .i64 0) := (blk_cell BN.out 1).trans rfl; have n2 : w7.frozen? ⟨wr.heap.size, 0, none⟩ = false := blk_frozen BN.out 0; have n3 : w7.frozen? ⟨wr.heap.size, 1, none⟩ = false := blk_frozen BN.out 1)); have HB7 := Aside0.mk (below_step (by repeat (first | exact Below.refl _ _ | (with_reducible first | apply below_alloc | apply pw_below_drewN | apply below_drew1))) hb7 : Below wr.heap.size wr w7); clear hb7; have u0 := pw_cell_below HB7.out q0; have u1 := pw_cell_below HB7.out q1; have u2 := pw_cell_below HB7.out q2; (try have sA0 := fun (x y : Value) => (show ((w7.setCell ⟨wr.heap.size, 0, none⟩ x).setCell ⟨wr.heap.size, 1, none⟩ y).cell? (ad0.add i) = some _ from by rw [World.cell?_setCell_far _ _ _ _ (show wr.heap.size ≠ _ from by have h1_ := World.block_lt_of_cell? _ _ q0; have h2_ := HB7.out.size; omega), World.cell?_setCell_far _ _ _ _ (show wr.heap.size ≠ _ from by have h1_ := World.block_lt_of_cell? _ _ q0; have h2_ := HB7.out.size; omega)]; exact u0)); (try have sB0 := fun (o : Obj) (x y : Value) => (show (((w7.alloc o).setCell ⟨w7.heap.size, 0, none⟩ x).setCell ⟨w7.heap.size, 1, none⟩ y).cell? (ad0.add i) = some _ from by rw [World.cell?_setCell_far _ _ _ _ (show w7.heap.size ≠ _ from by have h1_ := World.block_lt_of_cell? _ _ q0; have h2_ := HB7.out.size; omega), World.cell?_setCell_far _ _ _ _ (show w7.heap.size ≠ _ from by have h1_ := World.block_lt_of_cell? _ _ q0; have h2_ := HB7.out.size; omega)]; exact pw_cell_below (below_alloc (Below.refl _ _) o) u0)); (try have sA1 := fun (x y : Value) => (show ((w7.setCell ⟨wr.heap.size, 0, none⟩ x).setCell ⟨wr.heap.size, 1, none⟩ y).cell? (ad1.add (i * 2)) = some _ from by rw [World.cell?_setCell_far _ _ _ _ (show wr.heap.size ≠ _ from by have h1_ := World.block_lt_of_cell? _ _ q1; have h2_ := HB7.out.size; omega), World.cell?_setCell_far _ _ _ _ (show wr.heap.size ≠ _ from by have h1_ := World.block_lt_of_cell? _ _ q1; have h2_ := HB7.out.size; omega)]; exact u1)); (try have sB1 := fun (o : Obj) (x y : Value) => (show (((w7.alloc o).setCell ⟨w7.heap.size, 0, none⟩ x).setCell ⟨w7.heap.size, 1, none⟩ y).cell? (ad1.add (i * 2)) = some _ from by rw [World.cell?_setCell_far _ _ _ _ (show w7.heap.size ≠ _ from by have h1_ := World.block_lt_of_cell? _ _ q1; have h2_ := HB7.out.size; omega), World.cell?_setCell_far _ _ _ _ (show w7.heap.size ≠ _ from by have h1_ := World.block_lt_of_cell? _ _ q1; have h2_ := HB7.out.size; omega)]; exact pw_cell_below (below_alloc (Below.refl _ _) o) u1)); (try have sA2 := fun (x y : Value) => (show ((w7.setCell ⟨wr.heap.size, 0, none⟩ x).setCell ⟨wr.heap.size, 1, none⟩ y).cell? ⟨(ad1.add (i * 2)).block, (ad1.add (i * 2)).off + 1, none⟩ = some _ from by rw [World.cell?_setCell_far _ _ _ _ (show wr.heap.size ≠ _ from by have h1_ := World.block_lt_of_cell? _ _ q2; have h2_ := HB7.out.size; omega), World.cell?_setCell_far _ _ _ _ (show wr.heap.size ≠ _ from by have h1_ := World.block_lt_of_cell? _ _ q2; have h2_ := HB7.out.size; omega)]; exact u2)); (try have sB2 := fun (o : Obj) (x y : Value) => (show (((w7.alloc o).setCell ⟨w7.heap.size, 0, none⟩ x).setCell ⟨w7.heap.size, 1, none⟩ y).cell? ⟨(ad1.add (i * 2)).block, (ad1.add (i * 2)).off + 1, none⟩ = some _ from by rw [World.cell?_setCell_far _ _ _ _ (show w7.heap.size ≠ _ from by have h1_ := World.block_lt_of_cell? _ _ q2; have h2_ := HB7.out.size; omega), World.cell?_setCell_far _ _ _ _ (show w7.heap.size ≠ _ from by have h1_ := World.block_lt_of_cell? _ _ q2; have h2_ := HB7.out.size; omega)]; exact pw_cell_below (below_alloc (Below.refl _ _) o) u2))) | fail)
     all_goals (go_wp2; go_meet)
     all_goals first | exact ⟨_, _, rfl, rfl, rfl, ⟨blk_new _ _⟩, ⟨below_alloc HB7.out _⟩⟩ | exact ⟨_, _, rfl, rfl, rfl, ⟨by refine blk_put (cs := #[.int .i64 N, .int .i64 0]) ?_ 1 _ rfl; refine blk_put (cs := #[.int .i64 0, .int .i64 0]) ?_ 0 _ rfl; exact BN.out⟩, ⟨below_set (below_set HB7.out (Nat.le_refl _)) (Nat.le_refl _)⟩⟩
    case rest =>
     obtain ⟨W5, g8, rfl, rfl, rfl, BK, HB9⟩ := hcut
     have K6b := Aside0.mk (blk_below K6.out HB9.out)
     have K4b := Aside0.mk (blk_below K4.out HB9.out)
     have HBb := Aside0.mk (HB.out.trans (HB9.out.mono HB.out.size))
     have v0 := pw_cell_below HB9.out hx0
     have v1 := pw_cell_below HB9.out hx1
     have v2 := pw_cell_below HB9.out hx2
     have v3 := pw_cell_below HB9.out hx3
     have v4 : W5.frozen? ⟨g4, 0, none⟩ = false := blk_frozen K4b.out 0
     have v5 : W5.frozen? ⟨g4, 1, none⟩ = false := blk_frozen K4b.out 1
     have v6 : W5.cell? ⟨g8, 0, none⟩ = some (.int .i64 N) := (blk_cell BK.out 0).trans rfl
     have v7 : W5.cell? ⟨g8, 1, none⟩ = some (.int .i64 D) := (blk_cell BK.out 1).trans rfl
     cases ok with
     | false =>
      rw [if_neg (by decide)] at hse
      simp only [Option.some.injEq, Prod.mk.injEq] at hse
      obtain ⟨rfl, rfl, rfl⟩ := hse
      go_wp2
      (try simp only [Exit.inBlock, Exit.then]); refine bodyPost_ret (results_ct rfl _ _ g4 52 #[.int .i64 0, .int .i64 0] (0, 0) _ rfl (by refine blk_put (cs := #[.int .i64 0, .int .i64 0]) ?_ 1 _ rfl; refine blk_put (cs := #[.int .i64 0, .int .i64 0]) ?_ 0 _ rfl; exact K4b.out) Try.underlying52 rfl (by kernel_rfl)) rfl ?_
      exact ⟨by first | rfl | (simp; done), below_set (below_set HBb.out Gg4.out) Gg4.out⟩
     | true =>
      rw [if_pos rfl] at hse
      obtain ⟨⟨u1, u2, o2⟩, ha, hse⟩ := Option.bind_eq_some_iff.1 hse
      dsimp only at hse
      have HA := Aside0.mk (fun (W : World) => spec_AddRatios.calls k a b N D u1 u2 o2 W ha)
      clear ha
      cases o2 with
      | false =>
       rw [if_neg (by decide)] at hse
       simp only [Option.some.injEq, Prod.mk.injEq] at hse
       obtain ⟨rfl, rfl, rfl⟩ := hse
       go_wp2_with (first | (go_at_call 79; (with_reducible refine (HA.out _).mono ?_); rintro e w9 ⟨rfl, hb9⟩; have K6c := Aside0.mk (blk_below K6b.out hb9); have K4c := Aside0.mk (blk_below K4b.out hb9); have HBc := Aside0.mk (below_step (by repeat (first | exact HBb.out | (with_reducible first | apply below_alloc | apply pw_below_drewN | apply below_drew1))) hb9 : Below w.heap.size w w9); clear hb9; have c0 : w9.cell? ⟨g6, 0, none⟩ = some (.int .i64 a) := (blk_cell K6c.out 0).trans rfl; have c1_ : w9.cell? ⟨g6, 1, none⟩ = some (.int .i64 b) := (blk_cell K6c.out 1).trans rfl; have c2 : w9.frozen? ⟨g6, 0, none⟩ = false := blk_frozen K6c.out 0; have c3 : w9.frozen? ⟨g6, 1, none⟩ = false := blk_frozen K6c.out 1; have d0 : w9.cell? ⟨g4, 0, none⟩ = some (.int .i64 0) := (blk_cell K4c.out 0).trans rfl; have d1 : w9.cell? ⟨g4, 1, none⟩ = some (.int .i64 0) := (blk_cell K4c.out 1).trans rfl; have d2 : w9.frozen? ⟨g4, 0, none⟩ = false := blk_frozen K4c.out 0; have d3 : w9.frozen? ⟨g4, 1, none⟩ = false := blk_frozen K4c.out 1; have K4d := Aside0.mk (show ((w9.setCell ⟨g6, 0, none⟩ (.int .i64 u1)).setCell ⟨g6, 1, none⟩ (.int .i64 u2)).heap[g4]? = some (.cells #[.int .i64 0, .int .i64 0] 52 (0, 0)) from ((Below.heap_setCell _ ⟨g6, 1, none⟩ _ _ Ng4g6.out).trans (Below.heap_setCell _ ⟨g6, 0, none⟩ _ _ Ng4g6.out)).trans K4c.out); have e0 : ((w9.setCell ⟨g6, 0, none⟩ (.int .i64 u1)).setCell ⟨g6, 1, none⟩ (.int .i64 u2)).cell? ⟨g4, 0, none⟩ = some (.int .i64 0) := (blk_cell K4d.out 0).trans rfl; have e1 : ((w9.setCell ⟨g6, 0, none⟩ (.int .i64 u1)).setCell ⟨g6, 1, none⟩ (.int .i64 u2)).cell? ⟨g4, 1, none⟩ = some (.int .i64 0) := (blk_cell K4d.out 1).trans rfl; have e2 : ((w9.setCell ⟨g6, 0, none⟩ (.int .i64 u1)).setCell ⟨g6, 1, none⟩ (.int .i64 u2)).frozen? ⟨g4, 0, none⟩ = false := blk_frozen K4d.out 0; have e3 : ((w9.setCell ⟨g6, 0, none⟩ (.int .i64 u1)).setCell ⟨g6, 1, none⟩ (.int .i64 u2)).frozen? ⟨g4, 1, none⟩ = false := blk_frozen K4d.out 1))
       (try simp only [Exit.inBlock, Exit.then]); refine bodyPost_ret (results_ct rfl _ _ g4 52 #[.int .i64 0, .int .i64 0] (0, 0) _ rfl (by refine blk_put (cs := #[.int .i64 0, .int .i64 0]) ?_ 1 _ rfl; refine blk_put (cs := #[.int .i64 0, .int .i64 0]) ?_ 0 _ rfl; exact K4d.out) Try.underlying52 rfl (by kernel_rfl)) rfl ?_
       exact ⟨by first | rfl | (simp; done), by repeat (first | exact HBc.out | refine below_set ?_ Gg4.out | refine below_set ?_ Gg6.out)⟩
      | true =>
       rw [if_pos rfl] at hse
       have HE2 := Aside0.mk hse
       clear hse
       go_wp2_with (first | (go_at_call 79; (with_reducible refine (HA.out _).mono ?_); rintro e w9 ⟨rfl, hb9⟩; have K6c := Aside0.mk (blk_below K6b.out hb9); have K4c := Aside0.mk (blk_below K4b.out hb9); have HBc := Aside0.mk (below_step (by repeat (first | exact HBb.out | (with_reducible first | apply below_alloc | apply pw_below_drewN | apply below_drew1))) hb9 : Below w.heap.size w w9); clear hb9; have c0 : w9.cell? ⟨g6, 0, none⟩ = some (.int .i64 a) := (blk_cell K6c.out 0).trans rfl; have c1_ : w9.cell? ⟨g6, 1, none⟩ = some (.int .i64 b) := (blk_cell K6c.out 1).trans rfl; have c2 : w9.frozen? ⟨g6, 0, none⟩ = false := blk_frozen K6c.out 0; have c3 : w9.frozen? ⟨g6, 1, none⟩ = false := blk_frozen K6c.out 1; have d0 : w9.cell? ⟨g4, 0, none⟩ = some (.int .i64 0) := (blk_cell K4c.out 0).trans rfl; have d1 : w9.cell? ⟨g4, 1, none⟩ = some (.int .i64 0) := (blk_cell K4c.out 1).trans rfl; have d2 : w9.frozen? ⟨g4, 0, none⟩ = false := blk_frozen K4c.out 0; have d3 : w9.frozen? ⟨g4, 1, none⟩ = false := blk_frozen K4c.out 1; have K4d := Aside0.mk (show ((w9.setCell ⟨g6, 0, none⟩ (.int .i64 u1)).setCell ⟨g6, 1, none⟩ (.int .i64 u2)).heap[g4]? = some (.cells #[.int .i64 0, .int .i64 0] 52 (0, 0)) from ((Below.heap_setCell _ ⟨g6, 1, none⟩ _ _ Ng4g6.out).trans (Below.heap_setCell _ ⟨g6, 0, none⟩ _ _ Ng4g6.out)).trans K4c.out); have e0 : ((w9.setCell ⟨g6, 0, none⟩ (.int .i64 u1)).setCell ⟨g6, 1, none⟩ (.int .i64 u2)).cell? ⟨g4, 0, none⟩ = some (.int .i64 0) := (blk_cell K4d.out 0).trans rfl; have e1 : ((w9.setCell ⟨g6, 0, none⟩ (.int .i64 u1)).setCell ⟨g6, 1, none⟩ (.int .i64 u2)).cell? ⟨g4, 1, none⟩ = some (.int .i64 0) := (blk_cell K4d.out 1).trans rfl; have e2 : ((w9.setCell ⟨g6, 0, none⟩ (.int .i64 u1)).setCell ⟨g6, 1, none⟩ (.int .i64 u2)).frozen? ⟨g4, 0, none⟩ = false := blk_frozen K4d.out 0; have e3 : ((w9.setCell ⟨g6, 0, none⟩ (.int .i64 u1)).setCell ⟨g6, 1, none⟩ (.int .i64 u2)).frozen? ⟨g4, 1, none⟩ = false := blk_frozen K4d.out 1))
       go_roundg k1
       case measure => omega
       case rel => exact ⟨i + 1, u1, u2, by first | rw [HW.out] | rfl | simp, ⟨by have := HI.out; have := HL.out; omega⟩, HE2, ⟨by refine blk_put (cs := #[.int .i64 u1, .int .i64 b]) ?_ 1 _ rfl; refine blk_put (cs := #[.int .i64 a, .int .i64 b]) ?_ 0 _ rfl; exact K6c.out⟩, ⟨by rw [Below.heap_setCell _ _ _ _ Ng4g6.out, Below.heap_setCell _ _ _ _ Ng4g6.out]; exact K4c.out⟩, ⟨below_set (below_set HBc.out Gg6.out) Gg6.out⟩⟩
   ·have hse := HE.out
    have hend : dotO k (l0.drop i) (l1.drop i) a b = some (a, b, true) := by
     by_cases hi : i < n
     ·rw [show l1.drop i = [] from List.drop_of_length_le (by rw [EP.out]; omega)]
      cases l0.drop i <;> rfl
     ·rw [show l0.drop i = [] from List.drop_of_length_le (by rw [EN.out]; omega)]
      rfl
    rw [hend] at hse
    simp only [Option.some.injEq, Prod.mk.injEq] at hse
    obtain ⟨rfl, rfl, rfl⟩ := hse
    clear hend
    by_cases hi : i < n
    ·have cb := decide_eq_true (show (i : Int) < (n : Int) by omega)
     have cb2 := decide_eq_true hi
     have cp := decide_eq_false (show ¬ (i : Int) < (p : Int) by omega)
     have cp2 := decide_eq_false (show ¬ i < p by omega)
     go_wp2
     (try simp only [Exit.inBlock, Exit.then]); refine bodyPost_ret (results_ct rfl _ _ g4 52 #[.int .i64 a, .int .i64 b] (0, 0) _ rfl (by refine blk_put (cs := #[.int .i64 a, .int .i64 0]) ?_ 1 _ rfl; refine blk_put (cs := #[.int .i64 0, .int .i64 0]) ?_ 0 _ rfl; exact K4.out) Try.underlying52 rfl (by kernel_rfl)) rfl ?_
     exact ⟨by first | rfl | (simp; done), below_set (below_set HB.out Gg4.out) Gg4.out⟩
    ·have cb := decide_eq_false (show ¬ (i : Int) < (n : Int) by omega)
     have cb2 := decide_eq_false hi
     go_wp2
     (try simp only [Exit.inBlock, Exit.then]); refine bodyPost_ret (results_ct rfl _ _ g4 52 #[.int .i64 a, .int .i64 b] (0, 0) _ rfl (by refine blk_put (cs := #[.int .i64 a, .int .i64 0]) ?_ 1 _ rfl; refine blk_put (cs := #[.int .i64 0, .int .i64 0]) ?_ 0 _ rfl; exact K4.out) Try.underlying52 rfl (by kernel_rfl)) rfl ?_
     exact ⟨by first | rfl | (simp; done), below_set (below_set HB.out Gg4.out) Gg4.out⟩

end Go.Proofs.Ytcdlhjfiboomkaa.Z
