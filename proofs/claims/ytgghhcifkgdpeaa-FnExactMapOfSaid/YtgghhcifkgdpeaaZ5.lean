-- Written by this session's wip/mp/mp.py out of the translation. Lean checks it.
import Derived.Test.YtgghhcifkgdpeaaZ0
import Derived.Test.YtgghhcifkgdpeaaZ1
import Derived.Test.YtgghhcifkgdpeaaZFirst
import Derived.Deep.RegionLaw
namespace Go.Proofs.Ytgghhcifkgdpeaa.Z
open Go.RowKit Go.Proofs.YtgghhcifkgdpeaaW.PrintWords Go.Proofs.YtgghhcifkgdpeaaW.PrintLast Go.Proofs.YtgghhcifkgdpeaaW.PrintMore
attribute [local go_sem] max2_int min2_int max_two min_two max_three min_three max_four min_four   -- for this text's walks alone
set_option linter.unusedVariables false
set_option linter.unusedSimpArgs false

attribute [local go_sem high] eqA63
-- GIVEN
-- FUNCTION loop.example/g00958/spec.l13Put
-- ALONE
-- OWN 0,0
-- KIND 63
-- INFO 63
-- EQT 63
-- IMPORT Derived.Test.YtgghhcifkgdpeaaZFirst
-- IMPORT Derived.Deep.RegionLaw
/-! ### spec_l13Put: function 63 -/
def lessL (a b : Int) (x : S63) : Bool := decide (x.f0 < a) || (decide (x.f0 = a) && decide (x.f1 < b))
def posL (a b : Int) : List S63 → Nat
  | [] => 0
  | x :: l => if lessL a b x = true then posL a b l + 1 else 0
/-- A link put into links: behind those that are less; where it is there already they stay. -/
def putL (l : List S63) (a b : Int) : List S63 := if decide (posL a b l < l.length) && ((rd_T63 l (posL a b l : Nat)).f0 == a && (rd_T63 l (posL a b l : Nat)).f1 == b) then l else l.take (posL a b l) ++ ⟨a, b⟩ :: l.drop (posL a b l)
def spec_l13Put.f (l0 : List S63) (a1_0 : Int) (a1_1 : Int) : Option (List S63) := if l0.length < 4398046511104 then some (putL l0 a1_0 a1_1) else none

theorem posL_le (a b : Int) : ∀ l, posL a b l ≤ l.length
  | [] => Nat.le_refl _
  | x :: l => by rw [posL, List.length_cons]; have := posL_le a b l; split <;> omega
theorem C_two {W : World} {g : Nat} {a b : Int} (h : W.heap[g]? = some (.cells #[.int .i64 a, .int .i64 b] 63 (0, 0))) : Kd.C k63 W (some ⟨g, 0, none⟩) 1 [(⟨a, b⟩ : S63)] := by
  refine ⟨rfl, by decide, fun _ => ⟨⟨g, 0, none⟩, rfl, fun j p hj => ?_⟩⟩
  match j, hj with
  | 0, hj =>
    obtain rfl := Option.some.inj hj
    refine ⟨[.int .i64 a, .int .i64 b], rfl, k63_mk _ (⟨a, b⟩ : S63), fun i u hi => ?_⟩
    match i, hi with
    | 0, hi =>
      obtain rfl := Option.some.inj hi
      rw [Nat.zero_mul, Nat.add_zero, Addr.add_zero']
      exact (blk_cell h 0).trans rfl
    | 1, hi =>
      obtain rfl := Option.some.inj hi
      exact (blk_cell h 1).trans rfl
    | i + 2, hi => simp at hi
  | j + 1, hj => simp at hj
theorem blk_new1 (w : World) (o o' : Obj) : ((w.alloc o).alloc o').heap[w.heap.size + 1]? = some o' := by
  have h := blk_new (w.alloc o) o'
  rwa [show (w.alloc o).heap.size = w.heap.size + 1 by simp] at h
theorem C_takeM {W W' : World} {A : Option Addr} {l : List S63} {i base : Nat} {ok : Nat → Prop} (h : Kd.C k63 W A l.length l) (hb : Below W.heap.size W W') (hi : (l.take i).length = i) (hm : i ≤ l.length) : ReadsRow (k63.M W' base ok) k63.sz W' A i (l.take i) := by
  have h_ := Kd.C_take (Kd.C_below h hb) (m := i) hm
  rw [hi] at h_
  exact h_
theorem R_empty {W : World} {g base : Nat} {ok : Nat → Prop} (h : W.heap[g]? = some (.cells #[] 63 (0, 0))) (hb : base ≤ g) (ho : ok g) : Kd.R k63 63 W base ok (.slice (some ⟨g, 0, none⟩) 0 0) ([] : List S63) := by
  refine ⟨fun k hk => ?_, [], ⟨rfl, .inr ⟨g, 0, #[], rfl, hb, h, Nat.le_refl _, by decide, rfl, rfl⟩⟩, Reps.none _ _⟩
  have e : g = k := by simpa [Value.ownBlock] using hk
  exact e ▸ ho


theorem posL_drop (a b : Int) (l : List S63) (i : Nat) (h : i < l.length) (e : posL a b (l.drop i) + i = posL a b l) : posL a b l = if lessL a b l[i] = true then posL a b (l.drop (i + 1)) + (i + 1) else i := by
  rw [List.drop_eq_getElem_cons h, posL] at e
  by_cases q : lessL a b l[i] = true
  · rw [if_pos q] at e ⊢; omega
  · rw [if_neg q] at e ⊢; omega

set_option maxRecDepth 100000 in
set_option maxHeartbeats 8000000 in
theorem spec_l13Put.calls (P0_ : Nat → Prop) (u9000_ : Value) (l0 : List S63) (a1_0 : Int) (a1_1 : Int) (r : List S63) (w0 w : World) (hB : Below w0.heap.size w0 w) (ho0 : Kd.R k63 63 w w0.heap.size P0_ u9000_ l0) (h : spec_l13Put.f l0 a1_0 a1_1 = some r) :
    Calls Try.prog 63 #[u9000_, .agg #[.int .i64 a1_0, .int .i64 a1_1]] w fun e w' => ∃ v0_ : Value, e = .returned (v0_) ∧ Kd.R k63 63 w' w0.heap.size (fun k_ => (P0_ k_ ∨ w.heap.size ≤ k_)) v0_ r ∧ Below w0.heap.size w0 w' ∧ Kept w w' (fun k_ => P0_ k_) := by
  have hu := Try.underlying63
  unfold spec_l13Put.f at h
  by_cases hl : l0.length < 4398046511104
  rotate_left
  · rw [if_neg hl] at h
    cases h
  rw [if_pos hl] at h
  have HR := Aside0.mk (Option.some.inj h).symm
  clear h
  obtain ⟨A0, c0, e0⟩ := Kd.R_slice ho0
  subst e0
  have hrd := Kd.R_reads' ho0
  have HO0 := Aside0.mk ho0
  have HBW := Aside0.mk hB
  have HCC := Aside0.mk hrd.2.2
  have HC0 := Aside0.mk hrd.2.1
  obtain ⟨n, hn⟩ : ∃ n, l0.length = n := ⟨_, rfl⟩
  rw [hn] at HO0 HCC HC0 hl ⊢
  have HN := Aside0.mk hn
  have HLN := Aside0.mk hl
  clear ho0 hB hrd hn hl
  go_enter Try.func63, Try.ntmps63
  go_wp2_with (first | ((with_reducible refine gate_dst (N := 3) rfl ?_); refine box_event ?hg (N := 3) ?hd (cs := #[.int .i64 a1_0, .int .i64 a1_1]) (t := 63) ?hr ?_; (case hd => rfl); (case hg => rfl); (case hr => first | (go_simp; done) | (go_simp; rfl)); intro g3 hg wb3 hbox hb; have HB3 := Aside0.mk (below_step (Below.refl _ _) hb : Below w.heap.size w wb3); have BK3 := Aside0.mk hbox; have GE3 := Aside0.mk (by rw [hg]; exact Nat.le_refl _ : w.heap.size ≤ g3); have hcz0 : wb3.cell? ⟨g3, 0, none⟩ = some (.int .i64 a1_0) := (blk_cell BK3.out 0).trans rfl; have hcz1 : wb3.cell? ⟨g3, 1, none⟩ = some (.int .i64 a1_1) := (blk_cell BK3.out 1).trans rfl; have hfz0 := blk_frozen BK3.out 0; have hfz1 := blk_frozen BK3.out 1; clear hbox hb hg))
  go_loopg [5] (n + 1) (fun kq v5 w' => ∃ i : Nat, v5 = .int .i64 (i : Int) ∧ Aside0 (i ≤ n ∧ n + 1 ≤ i + kq) ∧ Aside0 (posL a1_0 a1_1 (l0.drop i) + i = posL a1_0 a1_1 l0) ∧ ∃ m, w' = wb3.drewN m)
  case atStart => exact ⟨0, rfl, ⟨by omega⟩, ⟨by rw [List.drop_zero, Nat.add_zero]⟩, ⟨0, rfl⟩⟩
  case round =>
    obtain ⟨i, rfl, HI, HP, m, rfl⟩ := hrel
    cases gk with
    | zero => exact absurd HI.out (by omega)
    | succ k1 =>
      have HTI := Aside0.mk (show (l0.take i).length = i by rw [List.length_take, HN.out]; have := HI.out; omega)
      have HDI := Aside0.mk (show (l0.drop i).length = n - i by rw [List.length_drop, HN.out])
      have HC3 := Aside0.mk (show Kd.C k63 wb3 A0 l0.length l0 by rw [HN.out]; exact Kd.C_below HCC.out HB3.out)
      have HC3K := Aside0.mk (fun (W : World) (hk : Kept wb3 W (fun _ => False)) => (show Kd.C k63 W A0 l0.length l0 from (Kd.R_reads' (Kd.R_kept (Kd.R_below HO0.out HB3.out) hk (fun _ _ => id))).2.2))
      have hzA0 := fun (q : Nat) (o : Obj) => (show ((wb3.drewN q).alloc o).cell? ⟨g3, 0, none⟩ = some (.int .i64 a1_0) from pw_cell_below (below_alloc (pw_below_drewN (Below.refl _ wb3) q) o) hcz0)
      have hzA1 := fun (q : Nat) (o : Obj) => (show ((wb3.drewN q).alloc o).cell? ⟨g3, 1, none⟩ = some (.int .i64 a1_1) from pw_cell_below (below_alloc (pw_below_drewN (Below.refl _ wb3) q) o) hcz1)
      have hic := eq_true (show i ≤ c0 by have := HI.out; have := HC0.out; omega)
      have hicz := eq_true (show (i : Int) ≤ (c0 : Int) by have := HI.out; have := HC0.out; omega)
      have hin := eq_true (show i ≤ n from HI.out.1)
      have hinz := eq_true (show (i : Int) ≤ (n : Int) by have := HI.out; omega)
      have hi0 := eq_true (show (0 : Int) ≤ (i : Int) by omega)
      by_cases hi : i < n
      · have HL := Aside0.mk hi
        have cb : decide ((i : Int) < (n : Int)) = true := decide_eq_true (by omega)
        have cb2 : decide (i < n) = true := decide_eq_true hi
        have hil : i < l0.length := by rw [HN.out]; exact hi
        obtain ⟨ad, e0, q0, q1⟩ := at_T63 HC3.out (i : Int) (by omega) (by rw [HN.out]; omega)
        cases e0
        have hx : rd_T63 l0 (i : Int) = l0[i] := getD_at l0 i _ hil
        have HPX := posL_drop a1_0 a1_1 l0 i hil HP.out
        have HX := Aside0.mk hx
        rw [hx] at q0 q1
        simp only [Int.toNat_natCast] at q0 q1
        clear hx
        generalize l0[i] = x at q0 q1 HPX HX
        clear hil
        have HPX := Aside0.mk HPX
        have hiz := eq_true (show (i : Int) < (n : Int) by omega)
        have hi0 := eq_true (show (0 : Int) ≤ (i : Int) by omega)
        have HW := Aside0.mk (show wrap64 ((i : Int) + 1) = ((i + 1 : Nat) : Int) by
          have := HLN.out
          rw [IntWalk.wrap64_in _ ⟨by omega, by omega⟩]
          omega)
        by_cases c1 : x.f0 < a1_0
        · have d1 : decide (x.f0 < a1_0) = true := decide_eq_true c1
          have HP2 := Aside0.mk (show posL a1_0 a1_1 (l0.drop (i + 1)) + (i + 1) = posL a1_0 a1_1 l0 by rw [HPX.out, if_pos (by unfold lessL; rw [d1]; rfl)])
          clear c1
          go_wp2
          repeat (go_quiet (fail); try go_wp2)
          go_roundg k1
          case measure => omega
          case rel => exact ⟨i + 1, by first | rw [HW.out] | rfl | simp, ⟨by have := HI.out; have := HL.out; omega⟩, HP2, _, by first | exact World.drewN_drewN _ _ _ | rfl⟩
        · have d1 : decide (x.f0 < a1_0) = false := decide_eq_false c1
          by_cases c2 : x.f0 = a1_0
          · have d2 : (x.f0 == a1_0) = true := beq_iff_eq.2 c2
            have d2b : decide (x.f0 = a1_0) = true := decide_eq_true c2
            by_cases c3 : x.f1 < a1_1
            · have d3 : decide (x.f1 < a1_1) = true := decide_eq_true c3
              have HP2 := Aside0.mk (show posL a1_0 a1_1 (l0.drop (i + 1)) + (i + 1) = posL a1_0 a1_1 l0 by rw [HPX.out, if_pos (by unfold lessL; rw [d1, d2b, d3]; rfl)])
              clear c1 c2 c3
              go_wp2
              repeat (go_quiet (fail); try go_wp2)
              go_roundg k1
              case measure => omega
              case rel => exact ⟨i + 1, by first | rw [HW.out] | rfl | simp, ⟨by have := HI.out; have := HL.out; omega⟩, HP2, _, by first | exact World.drewN_drewN _ _ _ | rfl⟩
            · have d3 : decide (x.f1 < a1_1) = false := decide_eq_false c3
              have HPE := Aside0.mk (show posL a1_0 a1_1 l0 = i by rw [HPX.out, if_neg (by unfold lessL; rw [d1, d2b, d3]; decide)])
              by_cases c4 : x.f1 = a1_1
              · have d4 : (x.f1 == a1_1) = true := beq_iff_eq.2 c4
                have d4b : decide (x.f1 = a1_1) = true := decide_eq_true c4
                have HRR := Aside0.mk (show r = l0 by rw [HR.out]; unfold putL; rw [HPE.out, HX.out, d2, d4, decide_eq_true (by rw [HN.out]; exact hi)]; rfl)
                clear c1 c2 c3 c4
                go_wp2
                repeat (go_quiet (fail); try go_wp2)
                go_ret
                refine ⟨_, rfl, by rw [HRR.out]; exact Kd.R_below (Kd.R_mono HO0.out (fun _ h_ => .inl h_)) (by repeat (first | exact HB3.out | (with_reducible first | apply below_alloc | apply pw_below_drewN | apply below_drew1))), below_step HBW.out (by repeat (first | exact HB3.out | (with_reducible first | apply below_alloc | apply pw_below_drewN | apply below_drew1))), Kept.below (Kept.refl w _) (by repeat (first | exact HB3.out | (with_reducible first | apply below_alloc | apply pw_below_drewN | apply below_drew1)))⟩
              · have d4 : (x.f1 == a1_1) = false := beq_false_of_ne c4
                have d4b : decide (x.f1 = a1_1) = false := decide_eq_false c4
                have HRR := Aside0.mk (show r = l0.take i ++ [(⟨a1_0, a1_1⟩ : S63)] ++ l0.drop i by rw [HR.out]; unfold putL; rw [HPE.out, HX.out, d2, d4]; simp)
                clear c1 c2 c3 c4
                go_wp2
                repeat (go_quiet (fail); try go_wp2)
                go_region_law (first | (refine Kd.R_append_rows_step k63 (w0 := w0) w0.heap.size (by rfl) (.tmp 55) (.tmp 58) 44 63 (.agg #[(.int .i64 0), (.int .i64 0)]) 16 (by rfl) Try.underlying44 info63 (by rfl) (by decide) (by omega) _ [] (l0.take i) _ _ _ (fun k => wb3.heap.size ≤ k) (fun _ => False) (by rfl) (by rfl) ?aO ?aR (fun _ _ h => h) (fun _ h => h.elim) ?aF ?aB ?aS ?aL ?_; (case aO => exact R_empty (by first | exact blk_new1 _ _ _ | exact blk_new _ _ | exact blk_alloc (blk_new _ _) _ | exact blk_drewN (blk_new _ _) _ | exact blk_drew (blk_new _ _)) (Nat.le_trans (Nat.le_trans HBW.out.size HB3.out.size) (by first | omega | (simp; done) | exact below_size (by repeat (first | exact Below.refl _ _ | (with_reducible first | apply below_alloc | apply pw_below_drewN | apply below_drew1) | exact below_drew (Below.refl _ _))))) (by first | omega | (simp; done) | exact below_size (by repeat (first | exact Below.refl _ _ | (with_reducible first | apply below_alloc | apply pw_below_drewN | apply below_drew1) | exact below_drew (Below.refl _ _))))); (case aR => exact C_takeM HC3.out (by repeat (first | exact Below.refl _ _ | (with_reducible first | apply below_alloc | apply pw_below_drewN | apply below_drew1) | exact below_drew (Below.refl _ _))) HTI.out (by rw [HN.out]; exact HI.out.1)); (case aF => exact (fun k hk => Nat.le_trans (below_size (by repeat (first | exact Below.refl _ _ | (with_reducible first | apply below_alloc | apply pw_below_drewN | apply below_drew1) | exact below_drew (Below.refl _ _)))) hk)); (case aB => exact below_step (below_step HBW.out HB3.out) (by repeat (first | exact Below.refl _ _ | (with_reducible first | apply below_alloc | apply pw_below_drewN | apply below_drew1) | exact below_drew (Below.refl _ _)))); (case aS => exact below_size (below_step (below_step HBW.out HB3.out) (by repeat (first | exact Below.refl _ _ | (with_reducible first | apply below_alloc | apply pw_below_drewN | apply below_drew1) | exact below_drew (Below.refl _ _))))); (case aL => have := HLN.out; rw [List.length_nil]; omega); intro v1 w1 ho1 hb1 hg1 hat1; rw [List.nil_append] at ho1; have HO1 := Aside0.mk ho1; have HB1 := Aside0.mk hb1; have G1 := Aside0.mk (Kept.of_grown hg1 (Kept.of_below (by repeat (first | exact Below.refl _ _ | (with_reducible first | apply below_alloc | apply pw_below_drewN | apply below_drew1) | exact below_drew (Below.refl _ _))) (fun _ => False)) (fun k e_ => .inr (by have e_ := Option.some.inj e_; subst e_; first | omega | (simp; done) | exact below_size (by repeat (first | exact Below.refl _ _ | (with_reducible first | apply below_alloc | apply pw_below_drewN | apply below_drew1) | exact below_drew (Below.refl _ _))))) : Kept wb3 w1 (fun _ => False)); (try have BL := Aside0.mk (blk_grown (o := .cells #[.int .i64 a1_0, .int .i64 a1_1] 63 (0, 0)) (by first | exact blk_new1 _ _ _ | exact blk_new _ _ | exact blk_alloc (blk_new _ _) _ | exact blk_drewN (blk_new _ _) _ | exact blk_drew (blk_new _ _)) hg1 (fun e_ => by have e_ := Option.some.inj e_; simp at e_))); clear ho1 hb1 hg1 hat1; have BK1 := Aside0.mk (blk_kept BK3.out G1.out id); have z0 : w1.cell? ⟨g3, 0, none⟩ = some (.int .i64 a1_0) := (blk_cell BK1.out 0).trans rfl; have z1 : w1.cell? ⟨g3, 1, none⟩ = some (.int .i64 a1_1) := (blk_cell BK1.out 1).trans rfl; obtain ⟨A1, c1, e1⟩ := Kd.R_slice HO1.out; rw [HTI.out] at e1; subst e1) | (refine Kd.R_append_rows_step k63 (w0 := w0) w0.heap.size (by rfl) (.tmp 59) (.tmp 61) 44 63 (.agg #[(.int .i64 0), (.int .i64 0)]) 16 (by rfl) Try.underlying44 info63 (by rfl) (by decide) (by omega) _ (l0.take i) [(⟨a1_0, a1_1⟩ : S63)] _ _ _ (fun k => wb3.heap.size ≤ k) (fun _ => False) (by rfl) (by rfl) ?aO ?aR (fun _ _ h => h) (fun _ h => h.elim) ?aF ?aB ?aS ?aL ?_; (case aO => exact (by (with_reducible repeat (first | apply Kd.R_alloc | apply Kd.R_drewN | apply Kd.R_drew)); exact HO1.out)); (case aR => exact C_two (by first | exact blk_new _ _ | exact BL.out)); (case aF => exact (fun k hk => by have := G1.out.1; (try simp at hk); omega)); (case aB => exact (by repeat (first | exact HB1.out | (with_reducible first | apply below_alloc | apply pw_below_drewN | apply below_drew1)))); (case aS => exact below_size (by repeat (first | exact HB1.out | (with_reducible first | apply below_alloc | apply pw_below_drewN | apply below_drew1)))); (case aL => have := HLN.out; rw [HTI.out]; omega); intro v2 w2 ho2 hb2 hg2 hat2; have HO2 := Aside0.mk ho2; have HB2 := Aside0.mk hb2; have G2 := Aside0.mk (G1.out.then_ (Kept.of_grown hg2 (Kept.of_below (by repeat (first | exact Below.refl _ _ | (with_reducible first | apply below_alloc | apply pw_below_drewN | apply below_drew1))) (fun k => wb3.heap.size ≤ k)) (fun k e_ => .inl (HO1.out.1 k e_))) (fun k hk => .inr hk) : Kept wb3 w2 (fun _ => False)); clear ho2 hb2 hg2 hat2; obtain ⟨A2, c2, e2⟩ := Kd.R_slice HO2.out; rw [List.length_append, List.length_singleton, HTI.out] at e2; subst e2) | (refine Kd.R_append_rows_step k63 (w0 := w0) w0.heap.size (by rfl) (.tmp 62) (.tmp 65) 44 63 (.agg #[(.int .i64 0), (.int .i64 0)]) 16 (by rfl) Try.underlying44 info63 (by rfl) (by decide) (by omega) _ (l0.take i ++ [(⟨a1_0, a1_1⟩ : S63)]) (l0.drop i) _ _ _ (fun k => wb3.heap.size ≤ k) (fun _ => False) (by rfl) (by rfl) ?aO ?aR (fun _ _ h => h) (fun _ h => h.elim) ?aF ?aB ?aS ?aL ?_; (case aO => exact HO2.out); (case aR => exact (by have h_ := Kd.C_drop (c := c0) (HC3K.out _ G2.out) (m := i) (by rw [HN.out]; omega) (by rw [HN.out]; exact HC0.out); rw [HDI.out] at h_; first | exact h_ | (rw [Option.map_none, ite_self] at h_; exact h_))); (case aF => exact (fun k hk => Nat.le_trans G2.out.1 hk)); (case aB => exact HB2.out); (case aS => exact below_size HB2.out); (case aL => have := HLN.out; rw [List.length_append, HTI.out, List.length_singleton]; omega); intro v3 w3 ho3 hb3 hg3 hat3; have HO3 := Aside0.mk ho3; have HB3_ := Aside0.mk hb3; have G3 := Aside0.mk (G2.out.then_ (Kept.of_grown hg3 (Kept.refl _ (fun k => wb3.heap.size ≤ k)) (fun k e_ => .inl (HO2.out.1 k e_))) (fun k hk => .inr hk) : Kept wb3 w3 (fun _ => False)); clear ho3 hb3 hg3 hat3) | fail)
                all_goals go_wp2
                all_goals go_ret
                all_goals exact ⟨_, rfl, by rw [HRR.out]; exact Kd.R_mono HO3.out (fun k hk => .inr (Nat.le_trans HB3.out.size hk)), HB3_.out, (Kept.below (Kept.refl w _) HB3.out).then_ G3.out (fun _ h_ => h_.elim)⟩
          · have d2 : (x.f0 == a1_0) = false := beq_false_of_ne c2
            have d2b : decide (x.f0 = a1_0) = false := decide_eq_false c2
            have HPE := Aside0.mk (show posL a1_0 a1_1 l0 = i by rw [HPX.out, if_neg (by unfold lessL; rw [d1, d2b]; simp)])
            have HRR := Aside0.mk (show r = l0.take i ++ [(⟨a1_0, a1_1⟩ : S63)] ++ l0.drop i by rw [HR.out]; unfold putL; rw [HPE.out, HX.out, d2]; simp)
            clear c1 c2
            go_wp2
            repeat (go_quiet (fail); try go_wp2)
            go_region_law (first | (refine Kd.R_append_rows_step k63 (w0 := w0) w0.heap.size (by rfl) (.tmp 55) (.tmp 58) 44 63 (.agg #[(.int .i64 0), (.int .i64 0)]) 16 (by rfl) Try.underlying44 info63 (by rfl) (by decide) (by omega) _ [] (l0.take i) _ _ _ (fun k => wb3.heap.size ≤ k) (fun _ => False) (by rfl) (by rfl) ?aO ?aR (fun _ _ h => h) (fun _ h => h.elim) ?aF ?aB ?aS ?aL ?_; (case aO => exact R_empty (by first | exact blk_new1 _ _ _ | exact blk_new _ _ | exact blk_alloc (blk_new _ _) _ | exact blk_drewN (blk_new _ _) _ | exact blk_drew (blk_new _ _)) (Nat.le_trans (Nat.le_trans HBW.out.size HB3.out.size) (by first | omega | (simp; done) | exact below_size (by repeat (first | exact Below.refl _ _ | (with_reducible first | apply below_alloc | apply pw_below_drewN | apply below_drew1) | exact below_drew (Below.refl _ _))))) (by first | omega | (simp; done) | exact below_size (by repeat (first | exact Below.refl _ _ | (with_reducible first | apply below_alloc | apply pw_below_drewN | apply below_drew1) | exact below_drew (Below.refl _ _))))); (case aR => exact C_takeM HC3.out (by repeat (first | exact Below.refl _ _ | (with_reducible first | apply below_alloc | apply pw_below_drewN | apply below_drew1) | exact below_drew (Below.refl _ _))) HTI.out (by rw [HN.out]; exact HI.out.1)); (case aF => exact (fun k hk => Nat.le_trans (below_size (by repeat (first | exact Below.refl _ _ | (with_reducible first | apply below_alloc | apply pw_below_drewN | apply below_drew1) | exact below_drew (Below.refl _ _)))) hk)); (case aB => exact below_step (below_step HBW.out HB3.out) (by repeat (first | exact Below.refl _ _ | (with_reducible first | apply below_alloc | apply pw_below_drewN | apply below_drew1) | exact below_drew (Below.refl _ _)))); (case aS => exact below_size (below_step (below_step HBW.out HB3.out) (by repeat (first | exact Below.refl _ _ | (with_reducible first | apply below_alloc | apply pw_below_drewN | apply below_drew1) | exact below_drew (Below.refl _ _))))); (case aL => have := HLN.out; rw [List.length_nil]; omega); intro v1 w1 ho1 hb1 hg1 hat1; rw [List.nil_append] at ho1; have HO1 := Aside0.mk ho1; have HB1 := Aside0.mk hb1; have G1 := Aside0.mk (Kept.of_grown hg1 (Kept.of_below (by repeat (first | exact Below.refl _ _ | (with_reducible first | apply below_alloc | apply pw_below_drewN | apply below_drew1) | exact below_drew (Below.refl _ _))) (fun _ => False)) (fun k e_ => .inr (by have e_ := Option.some.inj e_; subst e_; first | omega | (simp; done) | exact below_size (by repeat (first | exact Below.refl _ _ | (with_reducible first | apply below_alloc | apply pw_below_drewN | apply below_drew1) | exact below_drew (Below.refl _ _))))) : Kept wb3 w1 (fun _ => False)); (try have BL := Aside0.mk (blk_grown (o := .cells #[.int .i64 a1_0, .int .i64 a1_1] 63 (0, 0)) (by first | exact blk_new1 _ _ _ | exact blk_new _ _ | exact blk_alloc (blk_new _ _) _ | exact blk_drewN (blk_new _ _) _ | exact blk_drew (blk_new _ _)) hg1 (fun e_ => by have e_ := Option.some.inj e_; simp at e_))); clear ho1 hb1 hg1 hat1; have BK1 := Aside0.mk (blk_kept BK3.out G1.out id); have z0 : w1.cell? ⟨g3, 0, none⟩ = some (.int .i64 a1_0) := (blk_cell BK1.out 0).trans rfl; have z1 : w1.cell? ⟨g3, 1, none⟩ = some (.int .i64 a1_1) := (blk_cell BK1.out 1).trans rfl; obtain ⟨A1, c1, e1⟩ := Kd.R_slice HO1.out; rw [HTI.out] at e1; subst e1) | (refine Kd.R_append_rows_step k63 (w0 := w0) w0.heap.size (by rfl) (.tmp 59) (.tmp 61) 44 63 (.agg #[(.int .i64 0), (.int .i64 0)]) 16 (by rfl) Try.underlying44 info63 (by rfl) (by decide) (by omega) _ (l0.take i) [(⟨a1_0, a1_1⟩ : S63)] _ _ _ (fun k => wb3.heap.size ≤ k) (fun _ => False) (by rfl) (by rfl) ?aO ?aR (fun _ _ h => h) (fun _ h => h.elim) ?aF ?aB ?aS ?aL ?_; (case aO => exact (by (with_reducible repeat (first | apply Kd.R_alloc | apply Kd.R_drewN | apply Kd.R_drew)); exact HO1.out)); (case aR => exact C_two (by first | exact blk_new _ _ | exact BL.out)); (case aF => exact (fun k hk => by have := G1.out.1; (try simp at hk); omega)); (case aB => exact (by repeat (first | exact HB1.out | (with_reducible first | apply below_alloc | apply pw_below_drewN | apply below_drew1)))); (case aS => exact below_size (by repeat (first | exact HB1.out | (with_reducible first | apply below_alloc | apply pw_below_drewN | apply below_drew1)))); (case aL => have := HLN.out; rw [HTI.out]; omega); intro v2 w2 ho2 hb2 hg2 hat2; have HO2 := Aside0.mk ho2; have HB2 := Aside0.mk hb2; have G2 := Aside0.mk (G1.out.then_ (Kept.of_grown hg2 (Kept.of_below (by repeat (first | exact Below.refl _ _ | (with_reducible first | apply below_alloc | apply pw_below_drewN | apply below_drew1))) (fun k => wb3.heap.size ≤ k)) (fun k e_ => .inl (HO1.out.1 k e_))) (fun k hk => .inr hk) : Kept wb3 w2 (fun _ => False)); clear ho2 hb2 hg2 hat2; obtain ⟨A2, c2, e2⟩ := Kd.R_slice HO2.out; rw [List.length_append, List.length_singleton, HTI.out] at e2; subst e2) | (refine Kd.R_append_rows_step k63 (w0 := w0) w0.heap.size (by rfl) (.tmp 62) (.tmp 65) 44 63 (.agg #[(.int .i64 0), (.int .i64 0)]) 16 (by rfl) Try.underlying44 info63 (by rfl) (by decide) (by omega) _ (l0.take i ++ [(⟨a1_0, a1_1⟩ : S63)]) (l0.drop i) _ _ _ (fun k => wb3.heap.size ≤ k) (fun _ => False) (by rfl) (by rfl) ?aO ?aR (fun _ _ h => h) (fun _ h => h.elim) ?aF ?aB ?aS ?aL ?_; (case aO => exact HO2.out); (case aR => exact (by have h_ := Kd.C_drop (c := c0) (HC3K.out _ G2.out) (m := i) (by rw [HN.out]; omega) (by rw [HN.out]; exact HC0.out); rw [HDI.out] at h_; first | exact h_ | (rw [Option.map_none, ite_self] at h_; exact h_))); (case aF => exact (fun k hk => Nat.le_trans G2.out.1 hk)); (case aB => exact HB2.out); (case aS => exact below_size HB2.out); (case aL => have := HLN.out; rw [List.length_append, HTI.out, List.length_singleton]; omega); intro v3 w3 ho3 hb3 hg3 hat3; have HO3 := Aside0.mk ho3; have HB3_ := Aside0.mk hb3; have G3 := Aside0.mk (G2.out.then_ (Kept.of_grown hg3 (Kept.refl _ (fun k => wb3.heap.size ≤ k)) (fun k e_ => .inl (HO2.out.1 k e_))) (fun k hk => .inr hk) : Kept wb3 w3 (fun _ => False)); clear ho3 hb3 hg3 hat3) | fail)
            all_goals go_wp2
            all_goals go_ret
            all_goals exact ⟨_, rfl, by rw [HRR.out]; exact Kd.R_mono HO3.out (fun k hk => .inr (Nat.le_trans HB3.out.size hk)), HB3_.out, (Kept.below (Kept.refl w _) HB3.out).then_ G3.out (fun _ h_ => h_.elim)⟩
      · have e : i = n := by have := HI.out; omega
        have cb : decide ((i : Int) < (n : Int)) = false := decide_eq_false (by omega)
        have cb2 : decide (i < n) = false := decide_eq_false hi
        have HPE := Aside0.mk (show posL a1_0 a1_1 l0 = i by rw [← HP.out, List.drop_of_length_le (by rw [HN.out]; omega), posL, Nat.zero_add])
        have HRR := Aside0.mk (show r = l0.take i ++ [(⟨a1_0, a1_1⟩ : S63)] ++ l0.drop i by rw [HR.out]; unfold putL; rw [HPE.out, decide_eq_false (by rw [HN.out]; omega)]; simp)
        clear hi
        have hiz := eq_true (show (i : Int) ≤ (n : Int) by omega)
        have hi0 := eq_true (show (0 : Int) ≤ (i : Int) by omega)
        have hin : i ≤ n := by omega
        clear e
        cases A0 with
        | some ad =>
          go_wp2
          repeat (go_quiet (fail); try go_wp2)
          go_region_law (first | (refine Kd.R_append_rows_step k63 (w0 := w0) w0.heap.size (by rfl) (.tmp 55) (.tmp 58) 44 63 (.agg #[(.int .i64 0), (.int .i64 0)]) 16 (by rfl) Try.underlying44 info63 (by rfl) (by decide) (by omega) _ [] (l0.take i) _ _ _ (fun k => wb3.heap.size ≤ k) (fun _ => False) (by rfl) (by rfl) ?aO ?aR (fun _ _ h => h) (fun _ h => h.elim) ?aF ?aB ?aS ?aL ?_; (case aO => exact R_empty (by first | exact blk_new1 _ _ _ | exact blk_new _ _ | exact blk_alloc (blk_new _ _) _ | exact blk_drewN (blk_new _ _) _ | exact blk_drew (blk_new _ _)) (Nat.le_trans (Nat.le_trans HBW.out.size HB3.out.size) (by first | omega | (simp; done) | exact below_size (by repeat (first | exact Below.refl _ _ | (with_reducible first | apply below_alloc | apply pw_below_drewN | apply below_drew1) | exact below_drew (Below.refl _ _))))) (by first | omega | (simp; done) | exact below_size (by repeat (first | exact Below.refl _ _ | (with_reducible first | apply below_alloc | apply pw_below_drewN | apply below_drew1) | exact below_drew (Below.refl _ _))))); (case aR => exact C_takeM HC3.out (by repeat (first | exact Below.refl _ _ | (with_reducible first | apply below_alloc | apply pw_below_drewN | apply below_drew1) | exact below_drew (Below.refl _ _))) HTI.out (by rw [HN.out]; exact HI.out.1)); (case aF => exact (fun k hk => Nat.le_trans (below_size (by repeat (first | exact Below.refl _ _ | (with_reducible first | apply below_alloc | apply pw_below_drewN | apply below_drew1) | exact below_drew (Below.refl _ _)))) hk)); (case aB => exact below_step (below_step HBW.out HB3.out) (by repeat (first | exact Below.refl _ _ | (with_reducible first | apply below_alloc | apply pw_below_drewN | apply below_drew1) | exact below_drew (Below.refl _ _)))); (case aS => exact below_size (below_step (below_step HBW.out HB3.out) (by repeat (first | exact Below.refl _ _ | (with_reducible first | apply below_alloc | apply pw_below_drewN | apply below_drew1) | exact below_drew (Below.refl _ _))))); (case aL => have := HLN.out; rw [List.length_nil]; omega); intro v1 w1 ho1 hb1 hg1 hat1; rw [List.nil_append] at ho1; have HO1 := Aside0.mk ho1; have HB1 := Aside0.mk hb1; have G1 := Aside0.mk (Kept.of_grown hg1 (Kept.of_below (by repeat (first | exact Below.refl _ _ | (with_reducible first | apply below_alloc | apply pw_below_drewN | apply below_drew1) | exact below_drew (Below.refl _ _))) (fun _ => False)) (fun k e_ => .inr (by have e_ := Option.some.inj e_; subst e_; first | omega | (simp; done) | exact below_size (by repeat (first | exact Below.refl _ _ | (with_reducible first | apply below_alloc | apply pw_below_drewN | apply below_drew1) | exact below_drew (Below.refl _ _))))) : Kept wb3 w1 (fun _ => False)); (try have BL := Aside0.mk (blk_grown (o := .cells #[.int .i64 a1_0, .int .i64 a1_1] 63 (0, 0)) (by first | exact blk_new1 _ _ _ | exact blk_new _ _ | exact blk_alloc (blk_new _ _) _ | exact blk_drewN (blk_new _ _) _ | exact blk_drew (blk_new _ _)) hg1 (fun e_ => by have e_ := Option.some.inj e_; simp at e_))); clear ho1 hb1 hg1 hat1; have BK1 := Aside0.mk (blk_kept BK3.out G1.out id); have z0 : w1.cell? ⟨g3, 0, none⟩ = some (.int .i64 a1_0) := (blk_cell BK1.out 0).trans rfl; have z1 : w1.cell? ⟨g3, 1, none⟩ = some (.int .i64 a1_1) := (blk_cell BK1.out 1).trans rfl; obtain ⟨A1, c1, e1⟩ := Kd.R_slice HO1.out; rw [HTI.out] at e1; subst e1) | (refine Kd.R_append_rows_step k63 (w0 := w0) w0.heap.size (by rfl) (.tmp 59) (.tmp 61) 44 63 (.agg #[(.int .i64 0), (.int .i64 0)]) 16 (by rfl) Try.underlying44 info63 (by rfl) (by decide) (by omega) _ (l0.take i) [(⟨a1_0, a1_1⟩ : S63)] _ _ _ (fun k => wb3.heap.size ≤ k) (fun _ => False) (by rfl) (by rfl) ?aO ?aR (fun _ _ h => h) (fun _ h => h.elim) ?aF ?aB ?aS ?aL ?_; (case aO => exact (by (with_reducible repeat (first | apply Kd.R_alloc | apply Kd.R_drewN | apply Kd.R_drew)); exact HO1.out)); (case aR => exact C_two (by first | exact blk_new _ _ | exact BL.out)); (case aF => exact (fun k hk => by have := G1.out.1; (try simp at hk); omega)); (case aB => exact (by repeat (first | exact HB1.out | (with_reducible first | apply below_alloc | apply pw_below_drewN | apply below_drew1)))); (case aS => exact below_size (by repeat (first | exact HB1.out | (with_reducible first | apply below_alloc | apply pw_below_drewN | apply below_drew1)))); (case aL => have := HLN.out; rw [HTI.out]; omega); intro v2 w2 ho2 hb2 hg2 hat2; have HO2 := Aside0.mk ho2; have HB2 := Aside0.mk hb2; have G2 := Aside0.mk (G1.out.then_ (Kept.of_grown hg2 (Kept.of_below (by repeat (first | exact Below.refl _ _ | (with_reducible first | apply below_alloc | apply pw_below_drewN | apply below_drew1))) (fun k => wb3.heap.size ≤ k)) (fun k e_ => .inl (HO1.out.1 k e_))) (fun k hk => .inr hk) : Kept wb3 w2 (fun _ => False)); clear ho2 hb2 hg2 hat2; obtain ⟨A2, c2, e2⟩ := Kd.R_slice HO2.out; rw [List.length_append, List.length_singleton, HTI.out] at e2; subst e2) | (refine Kd.R_append_rows_step k63 (w0 := w0) w0.heap.size (by rfl) (.tmp 62) (.tmp 65) 44 63 (.agg #[(.int .i64 0), (.int .i64 0)]) 16 (by rfl) Try.underlying44 info63 (by rfl) (by decide) (by omega) _ (l0.take i ++ [(⟨a1_0, a1_1⟩ : S63)]) (l0.drop i) _ _ _ (fun k => wb3.heap.size ≤ k) (fun _ => False) (by rfl) (by rfl) ?aO ?aR (fun _ _ h => h) (fun _ h => h.elim) ?aF ?aB ?aS ?aL ?_; (case aO => exact HO2.out); (case aR => exact (by have h_ := Kd.C_drop (c := c0) (HC3K.out _ G2.out) (m := i) (by rw [HN.out]; omega) (by rw [HN.out]; exact HC0.out); rw [HDI.out] at h_; first | exact h_ | (rw [Option.map_none, ite_self] at h_; exact h_))); (case aF => exact (fun k hk => Nat.le_trans G2.out.1 hk)); (case aB => exact HB2.out); (case aS => exact below_size HB2.out); (case aL => have := HLN.out; rw [List.length_append, HTI.out, List.length_singleton]; omega); intro v3 w3 ho3 hb3 hg3 hat3; have HO3 := Aside0.mk ho3; have HB3_ := Aside0.mk hb3; have G3 := Aside0.mk (G2.out.then_ (Kept.of_grown hg3 (Kept.refl _ (fun k => wb3.heap.size ≤ k)) (fun k e_ => .inl (HO2.out.1 k e_))) (fun k hk => .inr hk) : Kept wb3 w3 (fun _ => False)); clear ho3 hb3 hg3 hat3) | fail)
          all_goals go_wp2
          all_goals go_ret
          all_goals exact ⟨_, rfl, by rw [HRR.out]; exact Kd.R_mono HO3.out (fun k hk => .inr (Nat.le_trans HB3.out.size hk)), HB3_.out, (Kept.below (Kept.refl w _) HB3.out).then_ G3.out (fun _ h_ => h_.elim)⟩
        | none =>
          go_wp2
          repeat (go_quiet (fail); try go_wp2)
          go_region_law (first | (refine Kd.R_append_rows_step k63 (w0 := w0) w0.heap.size (by rfl) (.tmp 55) (.tmp 58) 44 63 (.agg #[(.int .i64 0), (.int .i64 0)]) 16 (by rfl) Try.underlying44 info63 (by rfl) (by decide) (by omega) _ [] (l0.take i) _ _ _ (fun k => wb3.heap.size ≤ k) (fun _ => False) (by rfl) (by rfl) ?aO ?aR (fun _ _ h => h) (fun _ h => h.elim) ?aF ?aB ?aS ?aL ?_; (case aO => exact R_empty (by first | exact blk_new1 _ _ _ | exact blk_new _ _ | exact blk_alloc (blk_new _ _) _ | exact blk_drewN (blk_new _ _) _ | exact blk_drew (blk_new _ _)) (Nat.le_trans (Nat.le_trans HBW.out.size HB3.out.size) (by first | omega | (simp; done) | exact below_size (by repeat (first | exact Below.refl _ _ | (with_reducible first | apply below_alloc | apply pw_below_drewN | apply below_drew1) | exact below_drew (Below.refl _ _))))) (by first | omega | (simp; done) | exact below_size (by repeat (first | exact Below.refl _ _ | (with_reducible first | apply below_alloc | apply pw_below_drewN | apply below_drew1) | exact below_drew (Below.refl _ _))))); (case aR => exact C_takeM HC3.out (by repeat (first | exact Below.refl _ _ | (with_reducible first | apply below_alloc | apply pw_below_drewN | apply below_drew1) | exact below_drew (Below.refl _ _))) HTI.out (by rw [HN.out]; exact HI.out.1)); (case aF => exact (fun k hk => Nat.le_trans (below_size (by repeat (first | exact Below.refl _ _ | (with_reducible first | apply below_alloc | apply pw_below_drewN | apply below_drew1) | exact below_drew (Below.refl _ _)))) hk)); (case aB => exact below_step (below_step HBW.out HB3.out) (by repeat (first | exact Below.refl _ _ | (with_reducible first | apply below_alloc | apply pw_below_drewN | apply below_drew1) | exact below_drew (Below.refl _ _)))); (case aS => exact below_size (below_step (below_step HBW.out HB3.out) (by repeat (first | exact Below.refl _ _ | (with_reducible first | apply below_alloc | apply pw_below_drewN | apply below_drew1) | exact below_drew (Below.refl _ _))))); (case aL => have := HLN.out; rw [List.length_nil]; omega); intro v1 w1 ho1 hb1 hg1 hat1; rw [List.nil_append] at ho1; have HO1 := Aside0.mk ho1; have HB1 := Aside0.mk hb1; have G1 := Aside0.mk (Kept.of_grown hg1 (Kept.of_below (by repeat (first | exact Below.refl _ _ | (with_reducible first | apply below_alloc | apply pw_below_drewN | apply below_drew1) | exact below_drew (Below.refl _ _))) (fun _ => False)) (fun k e_ => .inr (by have e_ := Option.some.inj e_; subst e_; first | omega | (simp; done) | exact below_size (by repeat (first | exact Below.refl _ _ | (with_reducible first | apply below_alloc | apply pw_below_drewN | apply below_drew1) | exact below_drew (Below.refl _ _))))) : Kept wb3 w1 (fun _ => False)); (try have BL := Aside0.mk (blk_grown (o := .cells #[.int .i64 a1_0, .int .i64 a1_1] 63 (0, 0)) (by first | exact blk_new1 _ _ _ | exact blk_new _ _ | exact blk_alloc (blk_new _ _) _ | exact blk_drewN (blk_new _ _) _ | exact blk_drew (blk_new _ _)) hg1 (fun e_ => by have e_ := Option.some.inj e_; simp at e_))); clear ho1 hb1 hg1 hat1; have BK1 := Aside0.mk (blk_kept BK3.out G1.out id); have z0 : w1.cell? ⟨g3, 0, none⟩ = some (.int .i64 a1_0) := (blk_cell BK1.out 0).trans rfl; have z1 : w1.cell? ⟨g3, 1, none⟩ = some (.int .i64 a1_1) := (blk_cell BK1.out 1).trans rfl; obtain ⟨A1, c1, e1⟩ := Kd.R_slice HO1.out; rw [HTI.out] at e1; subst e1) | (refine Kd.R_append_rows_step k63 (w0 := w0) w0.heap.size (by rfl) (.tmp 59) (.tmp 61) 44 63 (.agg #[(.int .i64 0), (.int .i64 0)]) 16 (by rfl) Try.underlying44 info63 (by rfl) (by decide) (by omega) _ (l0.take i) [(⟨a1_0, a1_1⟩ : S63)] _ _ _ (fun k => wb3.heap.size ≤ k) (fun _ => False) (by rfl) (by rfl) ?aO ?aR (fun _ _ h => h) (fun _ h => h.elim) ?aF ?aB ?aS ?aL ?_; (case aO => exact (by (with_reducible repeat (first | apply Kd.R_alloc | apply Kd.R_drewN | apply Kd.R_drew)); exact HO1.out)); (case aR => exact C_two (by first | exact blk_new _ _ | exact BL.out)); (case aF => exact (fun k hk => by have := G1.out.1; (try simp at hk); omega)); (case aB => exact (by repeat (first | exact HB1.out | (with_reducible first | apply below_alloc | apply pw_below_drewN | apply below_drew1)))); (case aS => exact below_size (by repeat (first | exact HB1.out | (with_reducible first | apply below_alloc | apply pw_below_drewN | apply below_drew1)))); (case aL => have := HLN.out; rw [HTI.out]; omega); intro v2 w2 ho2 hb2 hg2 hat2; have HO2 := Aside0.mk ho2; have HB2 := Aside0.mk hb2; have G2 := Aside0.mk (G1.out.then_ (Kept.of_grown hg2 (Kept.of_below (by repeat (first | exact Below.refl _ _ | (with_reducible first | apply below_alloc | apply pw_below_drewN | apply below_drew1))) (fun k => wb3.heap.size ≤ k)) (fun k e_ => .inl (HO1.out.1 k e_))) (fun k hk => .inr hk) : Kept wb3 w2 (fun _ => False)); clear ho2 hb2 hg2 hat2; obtain ⟨A2, c2, e2⟩ := Kd.R_slice HO2.out; rw [List.length_append, List.length_singleton, HTI.out] at e2; subst e2) | (refine Kd.R_append_rows_step k63 (w0 := w0) w0.heap.size (by rfl) (.tmp 62) (.tmp 65) 44 63 (.agg #[(.int .i64 0), (.int .i64 0)]) 16 (by rfl) Try.underlying44 info63 (by rfl) (by decide) (by omega) _ (l0.take i ++ [(⟨a1_0, a1_1⟩ : S63)]) (l0.drop i) _ _ _ (fun k => wb3.heap.size ≤ k) (fun _ => False) (by rfl) (by rfl) ?aO ?aR (fun _ _ h => h) (fun _ h => h.elim) ?aF ?aB ?aS ?aL ?_; (case aO => exact HO2.out); (case aR => exact (by have h_ := Kd.C_drop (c := c0) (HC3K.out _ G2.out) (m := i) (by rw [HN.out]; omega) (by rw [HN.out]; exact HC0.out); rw [HDI.out] at h_; first | exact h_ | (rw [Option.map_none, ite_self] at h_; exact h_))); (case aF => exact (fun k hk => Nat.le_trans G2.out.1 hk)); (case aB => exact HB2.out); (case aS => exact below_size HB2.out); (case aL => have := HLN.out; rw [List.length_append, HTI.out, List.length_singleton]; omega); intro v3 w3 ho3 hb3 hg3 hat3; have HO3 := Aside0.mk ho3; have HB3_ := Aside0.mk hb3; have G3 := Aside0.mk (G2.out.then_ (Kept.of_grown hg3 (Kept.refl _ (fun k => wb3.heap.size ≤ k)) (fun k e_ => .inl (HO2.out.1 k e_))) (fun k hk => .inr hk) : Kept wb3 w3 (fun _ => False)); clear ho3 hb3 hg3 hat3) | fail)
          all_goals go_wp2
          all_goals go_ret
          all_goals exact ⟨_, rfl, by rw [HRR.out]; exact Kd.R_mono HO3.out (fun k hk => .inr (Nat.le_trans HB3.out.size hk)), HB3_.out, (Kept.below (Kept.refl w _) HB3.out).then_ G3.out (fun _ h_ => h_.elim)⟩

end Go.Proofs.Ytgghhcifkgdpeaa.Z
