-- Written by this session's wip/mp/mp.py out of the translation. Lean checks it.
import Derived.Test.YtcdlhjfiboomkaaZ0
import Derived.Test.YtcdlhjfiboomkaaZ3
import Derived.Test.YtcdlhjfiboomkaaZ5
import Derived.Test.YtcdlhjfiboomkaaZ6
import Derived.Test.YtcdlhjfiboomkaaZFirst
namespace Go.Proofs.Ytcdlhjfiboomkaa.Z
open Go.RowKit Go.Proofs.YtcdlhjfiboomkaaW.PrintWords Go.Proofs.YtcdlhjfiboomkaaW.PrintLast Go.Proofs.YtcdlhjfiboomkaaW.PrintMore
attribute [local go_sem] max2_int min2_int max_two min_two max_three min_three max_four min_four   -- for this text's walks alone
set_option linter.unusedVariables false
set_option linter.unusedSimpArgs false

-- GIVEN
-- FUNCTION loop.example/g00958/spec.SolutionOf rounds
-- ALONE
-- EXTRA loop.example/g00958/spec.IsSolvable
-- EXTRA loop.example/g00958/spec.l6Rows
-- EXTRA loop.example/g00958/spec.l5Lead
-- EXTRA loop.example/g00958/spec.l4Make
-- IMPORT Derived.Test.YtcdlhjfiboomkaaZFirst
-- KIND 52
-- INFO 52
/-! ### spec_SolutionOf: function 57 -/
def solO (k n : Nat) : List (List Int) → List S52 → Option (List S52 × Bool)
 | [], x => some (x, true)
 | r :: rs, x => (spec_l5Lead.f k r).bind fun q => if (n : Int) ≤ q then solO k n rs x else if (n < r.length ∧ 0 ≤ q ∧ q < (r.length : Int)) then (spec_l4Make.f k (rd r (n : Int)) (rd r q)).bind fun t => if t.2.2 = true then solO k n rs (x.set q.toNat ⟨t.1, t.2.1⟩) else some ([], false) else none
theorem solO_mono (n k : Nat) : ∀ rs x, LeO (solO k n rs x) (solO (k + 1) n rs x)
 | [], _ => LeO.refl _
 | r :: rs, x => LeO.bind (spec_l5Lead.mono _ _) (fun q => LeO.ite (solO_mono n k rs x) (LeO.ite (LeO.bind (spec_l4Make.mono _ _ _) (fun t => LeO.ite (solO_mono n k rs _) (LeO.refl _))) (LeO.refl _)))
def spec_SolutionOf.f (k : Nat) (l0 : List (List Int)) (l1 : List Int) (a2 : Int) : Option (List S52 × Bool) := (spec_IsSolvable.f k l0 l1 a2).bind fun b => if b = true then (if 0 ≤ a2 ∧ a2 ≤ 4096 then (spec_l6Rows.f k l0 l1 a2).bind fun rows => solO k a2.toNat rows (List.replicate a2.toNat ⟨0, 1⟩) else none) else some ([], false)
theorem spec_SolutionOf.mono : ∀ a0 a1 a2 k, LeO (spec_SolutionOf.f k a0 a1 a2) (spec_SolutionOf.f (k + 1) a0 a1 a2) := fun a0 a1 a2 k => LeO.bind (spec_IsSolvable.mono _ _ _ _) (fun _ => LeO.ite (LeO.ite (LeO.bind (spec_l6Rows.mono _ _ _ _) (fun rows => solO_mono _ k rows _)) (LeO.refl _)) (LeO.refl _))

set_option maxRecDepth 100000 in
set_option maxHeartbeats 16000000 in
theorem spec_SolutionOf.calls (k : Nat) (A0 : Option Addr) (c0 : Nat) (l0 : List (List Int)) (A1 : Option Addr) (c1 : Nat) (l1 : List Int) (a2 : Int) (r1 : List S52) (r2 : Bool) (w : World) (hr0 : Kd.C (Kd.slice 3 (Kd.int .i64)) w A0 l0.length l0) (hc0 : l0.length ≤ c0) (hr1 : Kd.C (Kd.int .i64) w A1 l1.length l1) (hc1 : l1.length ≤ c1) (h : spec_SolutionOf.f k l0 l1 a2 = some (r1, r2)) :
  Calls Try.prog 57 #[.slice A0 l0.length c0, .slice A1 l1.length c1, .int .i64 a2] w fun e w' => ∃ v0_ : Value, e = .returned (.tuple #[v0_, .bool r2]) ∧ Kd.R k52 52 w' w.heap.size (fun _ => True) v0_ r1 ∧ Below w.heap.size w w' := by
 have hu := Try.underlying52
 unfold spec_SolutionOf.f at h
 obtain ⟨b, hb, h⟩ := Option.bind_eq_some_iff.1 h
 have HS := Aside0.mk (fun (W : World) (hb0 : Below w.heap.size w W) => spec_IsSolvable.calls k A0 c0 l0 A1 c1 l1 a2 b W (Kd.C_below hr0 hb0) hc0 (Kd.C_below hr1 hb0) hc1 hb)
 cases b with
 | false =>
  rw [if_neg (by decide)] at h
  obtain ⟨rfl, rfl⟩ := Prod.mk.inj (Option.some.inj h)
  clear h hb hr0 hc0 hr1 hc1
  go_enter Try.func57, Try.ntmps57
  go_wp2_with (first | (go_at_call 73; (with_reducible refine (HS.out _ ?m1).mono ?_); (case m1 => exact (by repeat (first | exact Below.refl _ _ | (with_reducible first | apply below_alloc | apply pw_below_drewN | apply below_drew1)))); rintro e w5 ⟨rfl, hb5⟩; have HB5 := Aside0.mk (below_step (by repeat (first | exact Below.refl _ _ | (with_reducible first | apply below_alloc | apply pw_below_drewN | apply below_drew1))) hb5 : Below w.heap.size w w5); clear hb5) | ((with_reducible refine gate_dst (N := 20) rfl ?_); refine Kd.R_lit k52 _ 52 ?hg (N := 20) ?hd (xs := ([] : List (S52))) (inner := []) (ok := fun _ => True) (okp := fun _ => True) ?hr ?hp (fun _ hk => hk) trivial (Below.refl _ _) (Nat.le_refl _) (by simp) ?_; (case hd => rfl); (case hg => rfl); (case hr => first | (go_simp; done) | (go_simp; rfl)); (case hp => exact (Reps.none _ _)); intro v20 w6 ho6 hb6 hg6 hn6; have HO6 := Aside0.mk (Kd.R_lower ho6 (below_size (by repeat (first | exact HB5.out | (with_reducible first | apply below_alloc | apply pw_below_drewN | apply below_drew1))))); have HB6 := Aside0.mk (below_step (by repeat (first | exact HB5.out | (with_reducible first | apply below_alloc | apply pw_below_drewN | apply below_drew1))) hb6 : Below w.heap.size w w6); clear ho6 hb6 hg6 hn6))
  go_ret2
  exact ⟨_, by first | rfl | (simp; done), HO6.out, HB6.out⟩
 | true =>
  rw [if_pos rfl] at h
  by_cases hn : 0 ≤ a2 ∧ a2 ≤ 4096
  rotate_left
  ·rw [if_neg hn] at h; cases h
  rw [if_pos hn] at h
  obtain ⟨rows, hrw, h⟩ := Option.bind_eq_some_iff.1 h
  have HRW := Aside0.mk (fun (W : World) (hb0 : Below w.heap.size w W) => spec_l6Rows.calls k A0 c0 l0 A1 c1 l1 a2 rows W (Kd.C_below hr0 hb0) hc0 (Kd.C_below hr1 hb0) hc1 hrw)
  obtain ⟨n, rfl⟩ : ∃ n : Nat, a2 = (n : Int) := ⟨a2.toNat, by omega⟩
  rw [Int.toNat_natCast] at h
  have HN := Aside0.mk (show n ≤ 4096 by omega)
  have HE0 := Aside0.mk h
  clear h hb hrw hr0 hc0 hr1 hc1 hn
  go_enter Try.func57, Try.ntmps57
  go_wp2_with (first | (go_at_call 73; (with_reducible refine (HS.out _ ?m1).mono ?_); (case m1 => exact (by repeat (first | exact Below.refl _ _ | (with_reducible first | apply below_alloc | apply pw_below_drewN | apply below_drew1)))); rintro e w5 ⟨rfl, hb5⟩; have HB5 := Aside0.mk (below_step (by repeat (first | exact Below.refl _ _ | (with_reducible first | apply below_alloc | apply pw_below_drewN | apply below_drew1))) hb5 : Below w.heap.size w w5); clear hb5) | ((with_reducible refine gate_dst (N := 21) rfl ?_); refine Kd.R_lit k52 _ 52 ?hg (N := 21) ?hd (xs := ([] : List (S52))) (inner := []) (ok := fun _ => True) (okp := fun _ => True) ?hr ?hp (fun _ hk => hk) trivial (Below.refl _ _) (Nat.le_refl _) (by simp) ?_; (case hd => rfl); (case hg => rfl); (case hr => first | (go_simp; done) | (go_simp; rfl)); (case hp => exact (Reps.none _ _)); intro v20 w6 ho6 hb6 hg6 hn6; have HO6 := Aside0.mk (Kd.R_lower ho6 (below_size (by repeat (first | exact HB5.out | (with_reducible first | apply below_alloc | apply pw_below_drewN | apply below_drew1))))); have HB6 := Aside0.mk (below_step (by repeat (first | exact HB5.out | (with_reducible first | apply below_alloc | apply pw_below_drewN | apply below_drew1))) hb6 : Below w.heap.size w w6); clear ho6 hb6 hg6 hn6))
  go_loopg [8, 9] (n + 1) (fun kq v8 v9 wr => ∃ i : Nat, v9 = .int .i64 (i : Int) ∧ Aside0 (i ≤ n ∧ n + 1 ≤ i + kq) ∧ Aside0 (Kd.R k52 52 wr w.heap.size (fun _ => True) v8 (List.replicate i (⟨0, 1⟩ : S52))) ∧ Aside0 (Below w.heap.size w wr))
  case atStart => exact ⟨0, rfl, ⟨by omega⟩, HO6, HB6⟩
  case round =>
   obtain ⟨i, rfl, HI, HO, HB⟩ := hrel
   cases gk with
   | zero => exact absurd HI.out (by omega)
   | succ k1 =>
    by_cases hi : i < n
    ·have cb : decide ((i : Int) < (n : Int)) = true := decide_eq_true (by omega)
     have cb2 : decide (i < n) = true := decide_eq_true hi
     have HL := Aside0.mk hi
     have HW := Aside0.mk (show wrap64 ((i : Int) + 1) = ((i + 1 : Nat) : Int) by
      have := HN.out
      rw [IntWalk.wrap64_in _ ⟨by omega, by omega⟩]
      omega)
     clear hi
     go_wp2_with (first | ((with_reducible refine gate_builtin (b := .append) (xs := #[.tmp 27, .tmp 29]) rfl ?_); at_builtin; refine Kd.R_append k52 (w0 := w) w.heap.size rfl (.tmp 27) (.tmp 29) 78 52 (.agg #[(.int .i64 0), (.int .i64 0)]) 16 rfl Try.underlying78 info52 rfl (by decide) (by omega) _ (List.replicate i (⟨0, 1⟩ : S52)) (⟨0, 1⟩ : S52) [.int .i64 0, .int .i64 1] (fun _ => True) (fun _ => False) rfl rfl ?aP (fun _ hk => hk.elim) ?aF ?aO ?aB ?aS ?aL ?_; (case aP => exact k52_mkM _ _ _ (⟨0, 1⟩ : S52)); (case aB => exact (by repeat (first | exact HB.out | (with_reducible first | apply below_alloc | apply pw_below_drewN | apply below_drew1)))); (case aF => exact (fun _ _ => trivial)); (case aO => exact (by (with_reducible repeat (first | apply Kd.R_alloc | apply Kd.R_drewN | apply Kd.R_drew)); exact HO.out)); (case aS => exact (below_size (by repeat (first | exact HB.out | (with_reducible first | apply below_alloc | apply pw_below_drewN | apply below_drew1))))); (case aL => have := HN.out; have := HL.out; rw [List.length_replicate]; omega); intro v7 w7 ho7 hb7 hg7 hat7; rw [← List.replicate_succ'] at ho7; have HO7 := Aside0.mk ho7; have HB7 := Aside0.mk hb7; clear ho7 hb7 hg7 hat7))
     go_roundg k1
     case measure => omega
     case rel => exact ⟨i + 1, by first | rw [HW.out] | rfl | simp, ⟨by have := HI.out; have := HL.out; omega⟩, HO7, HB7⟩
    ·have cb : decide ((i : Int) < (n : Int)) = false := decide_eq_false (by omega)
     have cb2 : decide (i < n) = false := decide_eq_false hi
     have hin : i = n := by have := HI.out; omega
     subst hin
     obtain ⟨m, hm⟩ : ∃ m, rows.length = m := ⟨_, rfl⟩
     have HM := Aside0.mk hm
     obtain ⟨A8, c8, e8⟩ := Kd.R_slice HO.out
     rw [List.length_replicate] at e8
     subst e8
     clear hi hm
     go_wp2_with (first | (go_at_call 74; (with_reducible refine (HRW.out _ ?m1).mono ?_); (case m1 => exact (by repeat (first | exact HB.out | (with_reducible first | apply below_alloc | apply pw_below_drewN | apply below_drew1)))); rintro e w3 ⟨v10, rfl, ho3, hb3⟩; have HB3 := Aside0.mk (below_step (by repeat (first | exact HB.out | (with_reducible first | apply below_alloc | apply pw_below_drewN | apply below_drew1))) hb3 : Below w.heap.size w w3); have HO3 := Aside0.mk (Kd.R_mono (Kd.R_bound (Kd.R_below HO.out (below_step (by repeat (first | exact Below.refl _ _ | (with_reducible first | apply below_alloc | apply pw_below_drewN | apply below_drew1))) hb3 : Below wr.heap.size wr w3))) (fun k hk => hk.2.2.1)); have HROW := Aside0.mk (show ∀ W, Kept w3 W (fun k => some k = (Value.slice A8 i c8).ownBlock) → ∃ A c, v10 = .slice A m c ∧ Kd.C (Kd.slice 3 (Kd.int .i64)) W A m rows from fun W hk => by (have h1 := Kd.N_kept ho3 hk (fun k h1 h2 => by have h3 := Kd.R_lt HO.out k h2.symm; (try simp at h1); omega)); obtain ⟨A, c, e⟩ := Kd.N_slice h1; rw [HM.out] at e; subst e; exact ⟨A, c, rfl, by have h2 := (Kd.N_reads' h1).2.2; rwa [HM.out] at h2⟩); obtain ⟨A10, c10, e10⟩ := Kd.N_slice ho3; rw [HM.out] at e10; subst e10; clear ho3 hb3; have HROW2 := HROW.out; clear HROW; have HROW := Aside0.mk (show ∀ W, Kept w3 W (fun k => some k = (Value.slice A8 i c8).ownBlock) → Kd.C (Kd.slice 3 (Kd.int .i64)) W A10 m rows from fun W hk => by obtain ⟨A, c, e, h⟩ := HROW2 W hk; cases e; exact h); clear HROW2; have HMB := Aside0.mk (show m ≤ 9223372036854775807 from (HROW.out w3 (Kept.refl _ _)).2.1)))
     go_loopg [11] (m + 1) (fun kq v11 wx => ∃ (j : Nat) (x : List S52), v11 = .int .i64 (j : Int) ∧ Aside0 (j ≤ m ∧ m + 1 ≤ j + kq) ∧ Aside0 (solO k i (rows.drop j) x = some (r1, r2)) ∧ Aside0 (x.length = i) ∧ Aside0 (Kd.R k52 52 wx w.heap.size (fun k => k < w3.heap.size) (.slice A8 i c8) x) ∧ Aside0 (Kept w3 wx (fun k => some k = (Value.slice A8 i c8).ownBlock)) ∧ Aside0 (Below w.heap.size w wx))
     case atStart => exact ⟨0, List.replicate i ⟨0, 1⟩, rfl, ⟨by omega⟩, HE0, ⟨List.length_replicate⟩, HO3, ⟨Kept.refl _ _⟩, HB3⟩
     case round =>
      clear HO3 HB3 HO HB
      obtain ⟨j, x, rfl, HJ, HE, HXL, HX, HK, HBx⟩ := hrel
      cases gk with
      | zero => exact absurd HJ.out (by omega)
      | succ k2 =>
       by_cases hj : j < m
       ·have HLJ := Aside0.mk hj
        have cj : decide ((j : Int) < (m : Int)) = true := decide_eq_true (by omega)
        have cj2 : decide (j < m) = true := decide_eq_true hj
        have hjz := eq_true (show (j : Int) < (m : Int) by omega)
        have hj0 := eq_true (show (0 : Int) ≤ (j : Int) by omega)
        have hjl : j < rows.length := by rw [HM.out]; exact hj
        have HWJ := Aside0.mk (show wrap64 ((j : Int) + 1) = ((j + 1 : Nat) : Int) by
         have := HMB.out
         rw [IntWalk.wrap64_in _ ⟨by omega, by omega⟩]
         omega)
        obtain ⟨ad, A', c', e0, hx, hl, hC⟩ := at_L1 (HROW.out _ HK.out) (j : Int) (by omega) (by omega)
        cases e0
        rw [show rd_L1 rows (j : Int) = rows[j] from getD_at rows j _ hjl] at hx hl hC
        rw [Int.toNat_natCast] at hx
        have hse := HE.out
        rw [List.drop_eq_getElem_cons hjl] at hse
        generalize rows[j] = row at hx hl hC hse
        obtain ⟨rn, hrn⟩ : ∃ rn, row.length = rn := ⟨_, rfl⟩
        obtain ⟨q, hq, hse⟩ := Option.bind_eq_some_iff.1 hse
        have HLD := Aside0.mk (fun (W : World) (hb0 : Below wr.heap.size wr W) => (show Calls Try.prog 71 #[.slice A' rn c'] W fun e w' => e = .returned (.int .i64 q) ∧ Drawn0 W w' by
         have h_ := spec_l5Lead.calls k A' c' row q W (Kd.C_below hC hb0) hl hq
         rw [hrn] at h_
         exact h_))
        rw [hrn] at hx
        have HC := Aside0.mk hC
        have HRN := Aside0.mk hrn
        clear hC hl hq hj hjl hrn
        by_cases hqn : (i : Int) ≤ q
        ·rw [if_pos hqn] at hse
         have HE2 := Aside0.mk hse
         have cq : decide ((i : Int) ≤ q) = true := decide_eq_true hqn
         clear hse hqn
         go_wp2_with (first | (go_at_call 71; (with_reducible refine (HLD.out _ ?m1).mono ?_); (case m1 => exact (by repeat (first | exact Below.refl _ _ | (with_reducible first | apply below_alloc | apply pw_below_drewN | apply below_drew1)))); rintro e w5 ⟨rfl, hd5⟩; obtain ⟨nd, hd5⟩ := hd5; have HB5 := Aside0.mk (show Below wr.heap.size wr w5 by rw [hd5]; exact (by repeat (first | exact Below.refl _ _ | (with_reducible first | apply below_alloc | apply pw_below_drewN | apply below_drew1)))); clear hd5))
         go_roundg k2
         case measure => omega
         case rel => exact ⟨j + 1, x, by first | rw [HWJ.out] | rfl | simp, ⟨by have := HJ.out; have := HLJ.out; omega⟩, HE2, HXL, ⟨Kd.R_below HX.out HB5.out⟩, ⟨Kept.below HK.out HB5.out⟩, ⟨HBx.out.trans (HB5.out.mono HBx.out.size)⟩⟩
        ·rw [if_neg hqn] at hse
         by_cases hcd : i < row.length ∧ 0 ≤ q ∧ q < (row.length : Int)
         rotate_left
         ·rw [if_neg hcd] at hse; cases hse
         rw [if_pos hcd] at hse
         obtain ⟨⟨N, D, ok⟩, hmk, hse⟩ := Option.bind_eq_some_iff.1 hse
         dsimp only at hse
         obtain ⟨hcd1, hcd2, hcd3⟩ := hcd
         rw [HRN.out] at hcd1 hcd3
         obtain ⟨qq, rfl⟩ : ∃ qq : Nat, q = (qq : Int) := ⟨q.toNat, by omega⟩
         have cq : decide ((i : Int) ≤ (qq : Int)) = false := decide_eq_false (by omega)
         have cq2 : decide (i ≤ qq) = false := decide_eq_false (by omega)
         have z1 := eq_true (show (0 : Int) ≤ (qq : Int) by omega)
         have z2 := eq_true (show (qq : Int) < (rn : Int) by omega)
         have z3 := eq_true (show (0 : Int) ≤ (i : Int) by omega)
         have z4 := eq_true (show (i : Int) < (rn : Int) by omega)
         have HQI := Aside0.mk (show qq < i by omega)
         obtain ⟨ad1, e1, hx1⟩ := at_int HC.out (i : Int) (by omega) (by rw [HRN.out]; omega)
         cases e1
         obtain ⟨ad2, e2, hx2⟩ := at_int HC.out (qq : Int) (by omega) (by rw [HRN.out]; omega)
         cases e2
         rw [Int.toNat_natCast] at hx1 hx2
         have HMK := Aside0.mk (fun (W : World) => spec_l4Make.calls k (rd row (i : Int)) (rd row (qq : Int)) N D ok W hmk)
         generalize rd row (i : Int) = num at hx1 HMK
         generalize rd row (qq : Int) = den at hx2 HMK
         clear hmk hcd1 hcd2 hcd3 hqn
         go_wp2_with (first | (go_at_call 71; (with_reducible refine (HLD.out _ ?m1).mono ?_); (case m1 => exact (by repeat (first | exact Below.refl _ _ | (with_reducible first | apply below_alloc | apply pw_below_drewN | apply below_drew1)))); rintro e w5 ⟨rfl, hd5⟩; obtain ⟨nd, hd5⟩ := hd5; have HB5 := Aside0.mk (show Below wr.heap.size wr w5 by rw [hd5]; exact (by repeat (first | exact Below.refl _ _ | (with_reducible first | apply below_alloc | apply pw_below_drewN | apply below_drew1)))); clear hd5))
         have y0 := pw_cell_below HB5.out hx
         have y1 := pw_cell_below HB5.out hx1
         have y2 := pw_cell_below HB5.out hx2
         go_cut [13, 14] (fun s13 s14 wx => ∃ (W' : World) (gb : Nat), W' = wx ∧ s13 = .pointer (some ⟨gb, 0, none⟩) ∧ s14 = .bool ok ∧ Aside0 (W'.heap[gb]? = some (.cells #[.int .i64 N, .int .i64 D] 52 (0, 0))) ∧ Aside0 (Below wr.heap.size wr W') ∧ Aside0 (wr.heap.size ≤ gb))
         case first =>
          go_region_held3 (fun w' => w'.cell? (ad.add j) = some (.slice (some ad1) rn c') ∧ w'.cell? (ad1.add i) = some (.int .i64 num) ∧ w'.cell? (ad1.add qq) = some (.int .i64 den)) (go_keep) (first | (go_at_call 75; (with_reducible refine (HMK.out _).mono ?_); rintro e w7 ⟨rfl, hb7⟩; (try (have BN := Aside0.mk (show w7.heap[w5.heap.size]? = some (.cells #[.int .i64 0, .int .i64 0] 52 (0, 0)) from (by first | exact blk_below (blk_drew (blk_new _ _)) hb7 | exact blk_below (blk_new _ _) hb7)); have q0 : w7.cell? ⟨w5.heap.size, 0, none⟩ = some (.int .i64 0) := (blk_cell BN.out 0).trans rfl; have q1 : w7.cell? ⟨w5.heap.size, 1, none⟩ = some (.int .i64 0) := (blk_cell BN.out 1).trans rfl; have q2 : w7.frozen? ⟨w5.heap.size, 0, none⟩ = false := blk_frozen BN.out 0; have q3 : w7.frozen? ⟨w5.heap.size, 1, none⟩ = false := blk_frozen BN.out 1)); have HB7 := Aside0.mk (below_step (by repeat (first | exact Below.refl _ _ | (with_reducible first | apply below_alloc | apply pw_below_drewN | apply below_drew1))) hb7 : Below w5.heap.size w5 w7); clear hb7; have u0 := pw_cell_below HB7.out y0; have u1 := pw_cell_below HB7.out y1; have u2 := pw_cell_below HB7.out y2; (try have sA0 := fun (x y : Value) => (show ((w7.setCell ⟨w5.heap.size, 0, none⟩ x).setCell ⟨w5.heap.size, 1, none⟩ y).cell? (ad.add j) = some _ from by rw [World.cell?_setCell_far _ _ _ _ (show w5.heap.size ≠ _ from by have h1_ := World.block_lt_of_cell? _ _ y0; have h2_ := HB7.out.size; omega), World.cell?_setCell_far _ _ _ _ (show w5.heap.size ≠ _ from by have h1_ := World.block_lt_of_cell? _ _ y0; have h2_ := HB7.out.size; omega)]; exact u0)); (try have sB0 := fun (o : Obj) (x y : Value) => (show (((w7.alloc o).setCell ⟨w7.heap.size, 0, none⟩ x).setCell ⟨w7.heap.size, 1, none⟩ y).cell? (ad.add j) = some _ from by rw [World.cell?_setCell_far _ _ _ _ (show w7.heap.size ≠ _ from by have h1_ := World.block_lt_of_cell? _ _ y0; have h2_ := HB7.out.size; omega), World.cell?_setCell_far _ _ _ _ (show w7.heap.size ≠ _ from by have h1_ := World.block_lt_of_cell? _ _ y0; have h2_ := HB7.out.size; omega)]; exact pw_cell_below (below_alloc (Below.refl _ _) o) u0)); (try have sA1 := fun (x y : Value) => (show ((w7.setCell ⟨w5.heap.size, 0, none⟩ x).setCell ⟨w5.heap.size, 1, none⟩ y).cell? (ad1.add i) = some _ from by rw [World.cell?_setCell_far _ _ _ _ (show w5.heap.size ≠ _ from by have h1_ := World.block_lt_of_cell? _ _ y1; have h2_ := HB7.out.size; omega), World.cell?_setCell_far _ _ _ _ (show w5.heap.size ≠ _ from by have h1_ := World.block_lt_of_cell? _ _ y1; have h2_ := HB7.out.size; omega)]; exact u1)); (try have sB1 := fun (o : Obj) (x y : Value) => (show (((w7.alloc o).setCell ⟨w7.heap.size, 0, none⟩ x).setCell ⟨w7.heap.size, 1, none⟩ y).cell? (ad1.add i) = some _ from by rw [World.cell?_setCell_far _ _ _ _ (show w7.heap.size ≠ _ from by have h1_ := World.block_lt_of_cell? _ _ y1; have h2_ := HB7.out.size; omega), World.cell?_setCell_far _ _ _ _ (show w7.heap.size ≠ _ from by have h1_ := World.block_lt_of_cell? _ _ y1; have h2_ := HB7.out.size; omega)]; exact pw_cell_below (below_alloc (Below.refl _ _) o) u1)); (try have sA2 := fun (x y : Value) => (show ((w7.setCell ⟨w5.heap.size, 0, none⟩ x).setCell ⟨w5.heap.size, 1, none⟩ y).cell? (ad1.add qq) = some _ from by rw [World.cell?_setCell_far _ _ _ _ (show w5.heap.size ≠ _ from by have h1_ := World.block_lt_of_cell? _ _ y2; have h2_ := HB7.out.size; omega), World.cell?_setCell_far _ _ _ _ (show w5.heap.size ≠ _ from by have h1_ := World.block_lt_of_cell? _ _ y2; have h2_ := HB7.out.size; omega)]; exact u2)); (try have sB2 := fun (o : Obj) (x y : Value) => (show (((w7.alloc o).setCell ⟨w7.heap.size, 0, none⟩ x).setCell ⟨w7.heap.size, 1, none⟩ y).cell? (ad1.add qq) = some _ from by rw [World.cell?_setCell_far _ _ _ _ (show w7.heap.size ≠ _ from by have h1_ := World.block_lt_of_cell? _ _ y2; have h2_ := HB7.out.size; omega), World.cell?_setCell_far _ _ _ _ (show w7.heap.size ≠ _ from by have h1_ := World.block_lt_of_cell? _ _ y2; have h2_ := HB7.out.size; omega)]; exact pw_cell_below (below_alloc (Below.refl _ _) o) u2))) | fail)
          all_goals (go_wp2; go_meet)
          all_goals first | exact ⟨_, _, rfl, rfl, rfl, ⟨blk_new _ _⟩, ⟨HB5.out.trans ((below_alloc HB7.out _).mono HB5.out.size)⟩, ⟨Nat.le_trans HB5.out.size HB7.out.size⟩⟩ | exact ⟨_, _, rfl, rfl, rfl, ⟨by refine blk_put (cs := #[.int .i64 N, .int .i64 0]) ?_ 1 _ rfl; refine blk_put (cs := #[.int .i64 0, .int .i64 0]) ?_ 0 _ rfl; exact BN.out⟩, ⟨HB5.out.trans ((below_set (below_set HB7.out (Nat.le_refl _)) (Nat.le_refl _)).mono HB5.out.size)⟩, ⟨HB5.out.size⟩⟩
         case rest =>
          obtain ⟨W5, gb, rfl, rfl, rfl, BK, HB9, HGB⟩ := hcut
          have HX9 := Aside0.mk (Kd.R_below HX.out HB9.out)
          have HK9 := Aside0.mk (Kept.below HK.out HB9.out)
          have HBx9 := Aside0.mk (HBx.out.trans (HB9.out.mono HBx.out.size))
          cases ok with
          | false =>
           rw [if_neg (by decide)] at hse
           obtain ⟨rfl, rfl⟩ := Prod.mk.inj (Option.some.inj hse)
           clear hse
           go_wp2_with (first | ((with_reducible refine gate_dst (N := 69) rfl ?_); refine Kd.R_lit k52 _ 52 ?hg (N := 69) ?hd (xs := ([] : List (S52))) (inner := []) (ok := fun _ => True) (okp := fun _ => True) ?hr ?hp (fun _ hk => hk) trivial (Below.refl _ _) (Nat.le_refl _) (by simp) ?_; (case hd => rfl); (case hg => rfl); (case hr => first | (go_simp; done) | (go_simp; rfl)); (case hp => exact (Reps.none _ _)); intro v20 w6 ho6 hb6 hg6 hn6; have HO6 := Aside0.mk (Kd.R_lower ho6 (below_size (by repeat (first | exact HBx9.out | (with_reducible first | apply below_alloc | apply pw_below_drewN | apply below_drew1))))); have HB6 := Aside0.mk (below_step (by repeat (first | exact HBx9.out | (with_reducible first | apply below_alloc | apply pw_below_drewN | apply below_drew1))) hb6 : Below w.heap.size w w6); clear ho6 hb6 hg6 hn6))
           go_ret2
           exact ⟨_, by first | rfl | (simp; done), HO6.out, HB6.out⟩
          | true =>
           rw [if_pos rfl] at hse
           rw [Int.toNat_natCast] at hse
           have HE2 := Aside0.mk hse
           have hz0 : W5.cell? ⟨gb, 0, none⟩ = some (.int .i64 N) := (blk_cell BK.out 0).trans rfl
           have hz1 : W5.cell? ⟨gb, 1, none⟩ = some (.int .i64 D) := (blk_cell BK.out 1).trans rfl
           obtain ⟨g8, rfl⟩ : ∃ g8, A8 = some ⟨g8, 0, none⟩ := by
            obtain ⟨g8, cap, eo, _⟩ := Kd.R_form HX9.out (by rw [HXL.out]; have := HQI.out; omega)
            injection eo with e1
            exact ⟨g8, e1⟩
           have HG8 := Aside0.mk (show w.heap.size ≤ g8 from Kd.R_base HX9.out g8 (by simp [Value.ownBlock]))
           have z5 := eq_true (show (qq : Int) < (i : Int) by have := HQI.out; omega)
           obtain ⟨ce, hcl, hM, hcc, hfr⟩ := Kd.R_elem HX9.out z52 (qq : Int) (by omega) (by have := HQI.out; omega)
           obtain rfl := k52_openM hM
           have HP := Aside0.mk (Kd.R_seg HX9.out (qq : Int) (by omega) (by have := HQI.out; omega) (seg := [.int .i64 N, .int .i64 D]) (j := 0) hcl hcc (show 2 ≤ 2 from by decide) (x' := (⟨N, D⟩ : S52)) (k52_mkM _ _ _ (⟨N, D⟩ : S52)) (fun _ hk => hk))
           have hx0 := hcc 0 _ rfl
           have hf0 := hfr 0
           have hx1 := hcc 1 _ rfl
           have hf1 := hfr 1
           rw [Int.toNat_natCast] at HP
           simp only [show (k52).sz = 2 from rfl, Nat.add_zero, Int.toNat_natCast] at hx0 hf0 hx1 hf1
           clear hM hcl hcc hfr hse
           go_wp2
           go_roundg k2
           case measure => omega
           case rel => exact ⟨j + 1, x.set qq ⟨N, D⟩, by first | rw [HWJ.out] | rfl | simp, ⟨by have := HJ.out; have := HLJ.out; omega⟩, HE2, ⟨by rw [List.length_set]; exact HXL.out⟩, ⟨HP.out.1⟩, ⟨Kept.setCell (Kept.setCell HK9.out (.inl (by simp [Value.ownBlock])) _) (.inl (by simp [Value.ownBlock])) _⟩, ⟨below_set (below_set HBx9.out HG8.out) HG8.out⟩⟩
       ·have cj : decide ((j : Int) < (m : Int)) = false := decide_eq_false (by omega)
        have cj2 : decide (j < m) = false := decide_eq_false hj
        have hse := HE.out
        rw [List.drop_of_length_le (by rw [HM.out]; omega)] at hse
        obtain ⟨rfl, rfl⟩ := Prod.mk.inj (Option.some.inj hse)
        clear hse
        go_wp2
        go_ret2
        exact ⟨_, by first | rfl | (simp; done), Kd.R_mono HX.out (fun _ _ => trivial), HBx.out⟩

end Go.Proofs.Ytcdlhjfiboomkaa.Z
