-- Written by this session's wip/mp/mp.py out of the translation. Lean checks it.
import Derived.Test.YtgaajmmbodfahaaZ0
import Derived.Test.YtgaajmmbodfahaaZ1
import Derived.Test.YtgaajmmbodfahaaZ2
import Derived.Test.YtgaajmmbodfahaaZFirst
import Derived.Deep.RegionLaw
import Derived.Laws.EntriesVeiled
namespace Go.Proofs.Ytgaajmmbodfahaa.Z
open Go.RowKit Go.Proofs.YtgaajmmbodfahaaW.PrintWords Go.Proofs.YtgaajmmbodfahaaW.PrintLast Go.Proofs.YtgaajmmbodfahaaW.PrintMore
attribute [local go_sem] max2_int min2_int max_two min_two max_three min_three max_four min_four   -- for this text's walks alone
set_option linter.unusedVariables false
set_option linter.unusedSimpArgs false

-- GIVEN
-- FUNCTION loop.example/g00958/impl.SetsOf
-- ALONE
-- EXTRA loop.example/g00958/impl.InRange
-- EXTRA slices.Clone[[]int,int]
-- INFO 3
-- INFO 27
-- IMPORT Derived.Test.YtgaajmmbodfahaaZFirst
-- IMPORT Derived.Deep.RegionLaw
-- IMPORT Derived.Laws.EntriesVeiled
/-! ### impl_SetsOf: function 6 -/
/-- The sets that the loop adds: d columns from c on are left. -/
def setsIn (size : Nat) : Nat → List Int → Int → List (List Int)
  | 0, _, _ => []
  | d + 1, set, c => (if set.length + 1 = size then [set ++ [c]] else setsIn size d (set ++ [c]) (c + 1)) ++ setsIn size d set (c + 1)
def setsTo (size d : Nat) (set : List Int) (c : Int) : List (List Int) := if set.length = size then [set] else setsIn size d set c
def impl_SetsOf.f (a0 : Int) (a1 : Int) : Option (List (List Int)) := some (if 0 ≤ a0 ∧ a0 ≤ 6 ∧ 0 ≤ a1 ∧ a1 ≤ a0 then setsTo a1.toNat a0.toNat [] 0 else [])

theorem setsIn_len (size : Nat) : ∀ (d : Nat) (set : List Int) (c : Int), (setsIn size d set c).length + 1 ≤ 2 ^ d
  | 0, _, _ => by simp [setsIn]
  | d + 1, set, c => by
    have h1 := setsIn_len size d (set ++ [c]) (c + 1)
    have h2 := setsIn_len size d set (c + 1)
    have h3 : 0 < 2 ^ d := Nat.pow_pos (by decide)
    rw [setsIn, List.length_append, Nat.pow_succ]
    split
    · rw [List.length_singleton]; omega
    · omega
theorem setsTo_len (size d : Nat) (set : List Int) (c : Int) : (setsTo size d set c).length ≤ 2 ^ d := by
  have h1 := setsIn_len size d set c
  have h3 : 0 < 2 ^ d := Nat.pow_pos (by decide)
  unfold setsTo
  split
  · rw [List.length_singleton]; omega
  · omega

abbrev KI : Kd (List Int) := Kd.slice 3 (Kd.int .i64)
/-- The four variables that the closure shares: the size, the answer, the columns, the closure itself. -/
def Vars (size cols : Nat) (gs go gc ga : Nat) (v : Value) (W : World) : Prop := W.heap[gs]? = some (.cells #[.int .i64 (size : Int)] 3 (0, 0)) ∧ W.heap[go]? = some (.cells #[v] 22 (0, 0)) ∧ W.heap[gc]? = some (.cells #[.int .i64 (cols : Int)] 3 (0, 0)) ∧ W.heap[ga]? = some (.cells #[.func (.func 19) #[] #[.pointer (some ⟨gs, 0, none⟩), .pointer (some ⟨go, 0, none⟩), .pointer (some ⟨gc, 0, none⟩), .pointer (some ⟨ga, 0, none⟩)]] 34 (0, 0))
theorem Vars.kept {size cols gs go gc ga : Nat} {v : Value} {W W2 : World} {S : Nat → Prop} (h : Vars size cols gs go gc ga v W) (hk : Kept W W2 S) (h1 : ¬ S gs) (h2 : ¬ S go) (h3 : ¬ S gc) (h4 : ¬ S ga) : Vars size cols gs go gc ga v W2 :=
  ⟨blk_kept h.1 hk h1, blk_kept h.2.1 hk h2, blk_kept h.2.2.1 hk h3, blk_kept h.2.2.2 hk h4⟩
theorem Vars.below {size cols gs go gc ga : Nat} {v : Value} {W W2 : World} (h : Vars size cols gs go gc ga v W) (hb : Below W.heap.size W W2) : Vars size cols gs go gc ga v W2 :=
  ⟨blk_below h.1 hb, blk_below h.2.1 hb, blk_below h.2.2.1 hb, blk_below h.2.2.2 hb⟩


theorem C_one {W : World} {g t : Nat} {c : Int} (h : W.heap[g]? = some (.cells #[.int .i64 c] t (0, 0))) : Kd.C (Kd.int .i64) W (some ⟨g, 0, none⟩) 1 [c] := by
  refine ⟨rfl, by decide, fun _ => ⟨⟨g, 0, none⟩, rfl, fun j p hj => ?_⟩⟩
  match j, hj with
  | 0, hj =>
    obtain rfl := Option.some.inj hj
    refine ⟨[.int .i64 c], rfl, rfl, fun i u hi => ?_⟩
    match i, hi with
    | 0, hi =>
      obtain rfl := Option.some.inj hi
      rw [Nat.zero_mul, Nat.add_zero, Addr.add_zero']
      exact (blk_cell h 0).trans rfl
    | i + 1, hi => simp at hi
  | j + 1, hj => simp at hj

set_option maxRecDepth 100000 in
set_option maxHeartbeats 8000000 in
theorem setsAdd_calls (size cols gs go gc ga : Nat) (hne : gs ≠ go ∧ gc ≠ go ∧ ga ≠ go) (hsz : size ≤ 6) (hcols : cols ≤ 6) (w0 : World) (hgo : w0.heap.size ≤ go) : ∀ (d c : Nat) (set : List Int) (A : Option Addr) (cap : Nat) (P : Nat → Prop) (v : Value) (xs : List (List Int)) (W : World),
    c + d = cols → Vars size cols gs go gc ga v W → ¬ P gs → ¬ P go → ¬ P gc → ¬ P ga → Below w0.heap.size w0 W → Kd.S KI 27 W w0.heap.size P v xs → (∀ W', Kept W W' (fun k => k = go ∨ P k) → Kd.C (Kd.int .i64) W' A set.length set) → set.length ≤ cap → set.length + d ≤ 12 → xs.length + 2 ^ d ≤ 100000 →
    Calls Try.prog 19 #[.slice A set.length cap, .int .i64 (c : Int), .pointer (some ⟨gs, 0, none⟩), .pointer (some ⟨go, 0, none⟩), .pointer (some ⟨gc, 0, none⟩), .pointer (some ⟨ga, 0, none⟩)] W fun e w' => e = .returned (.tuple #[]) ∧ ∃ v', Vars size cols gs go gc ga v' w' ∧ Kd.S KI 27 w' w0.heap.size (fun k => P k ∨ W.heap.size ≤ k) v' (xs ++ setsTo size d set (c : Int)) ∧ Kept W w' (fun k => k = go ∨ P k) ∧ Below w0.heap.size w0 w' := by
  intro d
  have eg : ∀ args w, (callFunc 19 args).run Try.prog w = .ok (.enter 19 args) w := enters_of Try.func19 (by kernel_rfl) rfl
  induction d using Nat.strongRecOn with
  | _ d ih =>
  intro c set A cap P v xs W hcd hv p1 p2 p3 p4 hB hS hset hcap hl12 hx
  have hn : set.length ≤ 12 := by omega
  have HCL := Aside0.mk (show slices_Clone_Sint.f set = some set by unfold slices_Clone_Sint.f; rw [if_pos (by omega)])
  have HV := Aside0.mk hv
  have HS := Aside0.mk hset
  have HO := Aside0.mk hS
  have HB := Aside0.mk hB
  have HP := Aside0.mk (And.intro p1 (And.intro p2 (And.intro p3 p4)))
  have HCP := Aside0.mk hcap
  have HX := Aside0.mk hx
  have HNE := Aside0.mk hne
  have HCD := Aside0.mk hcd
  have HL := Aside0.mk hl12
  have IH := Aside0.mk ih
  clear hv hset hS hB p1 p2 p3 p4 hx hcd hl12 ih hcap
  have qs : W.cell? ⟨gs, 0, none⟩ = some (.int .i64 (size : Int)) := (blk_cell HV.out.1 0).trans rfl
  have qo : W.cell? ⟨go, 0, none⟩ = some v := (blk_cell HV.out.2.1 0).trans rfl
  have qc : W.cell? ⟨gc, 0, none⟩ = some (.int .i64 (cols : Int)) := (blk_cell HV.out.2.2.1 0).trans rfl
  have qa : W.cell? ⟨ga, 0, none⟩ = some (.func (.func 19) #[] #[.pointer (some ⟨gs, 0, none⟩), .pointer (some ⟨go, 0, none⟩), .pointer (some ⟨gc, 0, none⟩), .pointer (some ⟨ga, 0, none⟩)]) := (blk_cell HV.out.2.2.2 0).trans rfl
  have qof := blk_frozen HV.out.2.1 0
  by_cases hsl : set.length = size
  · have cb : decide ((set.length : Int) = (size : Int)) = true := decide_eq_true (by omega)
    have cb2 : decide (set.length = size) = true := decide_eq_true hsl
    have cb3 : ((set.length : Int) == (size : Int)) = true := beq_iff_eq.2 (by omega)
    have HTO := Aside0.mk (show setsTo size d set (c : Int) = [set] by unfold setsTo; rw [if_pos hsl])
    have HSL := Aside0.mk hsl
    clear hsl
    have HN := Aside0.mk (show (xs.length + 1) * 24 ≤ 140737488355328 by have := HX.out; have : 0 < 2 ^ d := Nat.pow_pos (by decide); omega)
    go_enter Try.func19, Try.ntmps19
    go_wp2
    go_region_law (first | (go_simp; (go_at_call 20; (with_reducible refine (slices_Clone_Sint.calls A cap set set _ ?k1 ?k2 HCL.out).mono ?_); (case k1 => exact HS.out _ (Kept.of_below (by repeat (first | exact Below.refl _ _ | (with_reducible first | apply below_alloc | apply pw_below_drewN | apply below_drew1))) _)); (case k2 => exact HCP.out); rintro e w5 ⟨v5, rfl, ho5, hb5⟩; have B5 := Aside0.mk (below_step (by repeat (first | exact Below.refl _ _ | (with_reducible first | apply below_alloc | apply pw_below_drewN | apply below_drew1))) hb5 : Below W.heap.size W w5); have N5 := Aside0.mk (fun (k : Nat) (hk : v5.ownBlock = some k) => (Nat.le_trans (below_size (by repeat (first | exact Below.refl _ _ | (with_reducible first | apply below_alloc | apply pw_below_drewN | apply below_drew1)))) (Kd.R_base ho5 k hk) : W.heap.size ≤ k)); have HO5 := Aside0.mk (Kd.R_lower ho5 (Nat.le_trans HB.out.size (below_size (by repeat (first | exact Below.refl _ _ | (with_reducible first | apply below_alloc | apply pw_below_drewN | apply below_drew1))) : W.heap.size ≤ _))); have HB5 := Aside0.mk hb5; clear ho5 hb5; have q2 := pw_cell_below B5.out qo; have q3 := pw_cell_below B5.out qa; (try have q4 := (fun (o : Obj) => pw_cell_below (below_alloc (Below.refl _ _) o) q2)); have q5 := (fun (o : Obj) => pw_cell_below (below_alloc (Below.refl _ _) o) q3); obtain ⟨A5, c5, e5⟩ := Kd.R_slice HO5.out; subst e5)) | (refine Kd.S_append_step KI (w0 := w0) w0.heap.size (by rfl) (.tmp 13) (.tmp 16) 22 27 (.slice none 0 0) 24 (by rfl) Try.underlying22 info27 (by rfl) (by decide) (by omega) v xs set [.slice A5 set.length c5] (fun k => P k ∨ W.heap.size ≤ k) (fun k => some k = (.slice A5 set.length c5 : Value).ownBlock) (by rfl) (by rfl) ?aP ?aK ?aF ?aO ?aB ?aS ?aL ?_; (case aP => exact Kd.M_row (Kd.R_mono (Kd.R_tight rfl HO5.out) (fun _ h_ => h_))); (case aK => exact (fun k hk => ⟨.inr (N5.out k hk.symm), fun e_ => by have := N5.out k hk.symm; have := Kd.S_lt HO.out k e_.symm; omega⟩)); (case aF => exact (fun k hk => .inr (by have := B5.out.size; (try simp at hk); omega))); (case aO => exact (by (with_reducible repeat (first | apply Kd.S_alloc | apply Kd.S_drewN | apply Kd.S_drew)); exact Kd.S_below (Kd.S_mono (Kd.S_bound HO.out) (fun k hk => ⟨.inl hk.1, fun e_ => by have := N5.out k e_.symm; have := hk.2.2.1; omega⟩)) B5.out)); (case aB => exact below_step HB.out (by repeat (first | exact B5.out | (with_reducible first | apply below_alloc | apply pw_below_drewN | apply below_drew1)))); (case aS => exact below_size (below_step HB.out (by repeat (first | exact B5.out | (with_reducible first | apply below_alloc | apply pw_below_drewN | apply below_drew1))))); (case aL => exact HN.out); intro v6 w6 ho6 hb6 hg6 hat6; have HO6 := Aside0.mk ho6; have HB6 := Aside0.mk hb6; have HG6 := Aside0.mk (Kept.of_grown hg6 (Kept.of_below (by repeat (first | exact B5.out | (with_reducible first | apply below_alloc | apply pw_below_drewN | apply below_drew1))) (fun k => P k)) (fun k e_ => .inl ((Kd.S_R HO.out).1 k e_))); have HV6 := Aside0.mk (Vars.kept HV.out HG6.out HP.out.1 HP.out.2.1 HP.out.2.2.1 HP.out.2.2.2); clear ho6 hb6 hg6 hat6; have r2 : w6.cell? ⟨go, 0, none⟩ = some v := (blk_cell HV6.out.2.1 0).trans rfl; have r2f := blk_frozen HV6.out.2.1 0; obtain ⟨A6, c6, e6⟩ := Kd.S_slice HO6.out; rw [List.length_append, List.length_singleton] at e6; subst e6))
    all_goals go_wp2
    all_goals ((try simp only [Exit.inBlock, Exit.then]); refine bodyPost_ret (results_none rfl _ _ _) rfl ?_)
    all_goals refine ⟨rfl, _, ⟨blk_far HV6.out.1 HNE.out.1 _, blk_put HV6.out.2.1 0 _ rfl, blk_far HV6.out.2.2.1 HNE.out.2.1 _, blk_far HV6.out.2.2.2 HNE.out.2.2 _⟩, ?_, Kept.setCell (Kept.mono HG6.out (fun _ h_ => .inr h_)) (.inl (.inl rfl)) _, below_set HB6.out hgo⟩
    all_goals rw [HTO.out]
    all_goals exact Kd.S_far HO6.out (fun k hk e_ => by
      have e_ : k = go := e_
      subst e_
      rcases hk with hk | hk
      · exact HP.out.2.1 hk
      · exact absurd (blk_lt HV.out.2.1) (by omega)) _
  · have cb : decide ((set.length : Int) = (size : Int)) = false := decide_eq_false (by omega)
    have cb2 : decide (set.length = size) = false := decide_eq_false hsl
    have cb3 : ((set.length : Int) == (size : Int)) = false := beq_false_of_ne (by omega)
    have HTO := Aside0.mk (show setsTo size d set (c : Int) = setsIn size d set (c : Int) by unfold setsTo; rw [if_neg hsl])
    have HSL := Aside0.mk hsl
    clear hsl
    go_enter Try.func19, Try.ntmps19
    go_wp2
    go_loopg [8] (d + 1) (fun kq v8 w' => ∃ (n i : Nat) (u : Value) (done : List (List Int)), v8 = .int .i64 (i : Int) ∧ Aside0 (i + n = cols ∧ n ≤ d ∧ n + 1 ≤ kq ∧ done.length + 2 ^ n ≤ xs.length + 2 ^ d) ∧ Aside0 (done ++ setsIn size n set (i : Int) = xs ++ setsIn size d set (c : Int)) ∧ Aside0 (Vars size cols gs go gc ga u w') ∧ Aside0 (Kd.S KI 27 w' w0.heap.size (fun k => P k ∨ W.heap.size ≤ k) u done) ∧ Aside0 (Kept W w' (fun k => k = go ∨ P k)) ∧ Aside0 (Below w0.heap.size w0 w'))
    case atStart => exact ⟨d, c, v, xs, rfl, ⟨by have := HCD.out; omega⟩, ⟨rfl⟩, HV, ⟨Kd.S_mono HO.out (fun _ h_ => .inl h_)⟩, ⟨Kept.refl _ _⟩, HB⟩
    case round =>
      obtain ⟨n, i, u, done, rfl, HI, HE, HV1, HO1, HK1, HB1⟩ := hrel
      cases gk with
      | zero => exact absurd HI.out (by omega)
      | succ k1 =>
        clear qs qo qc qa qof cb cb2 cb3
        have qs : wr.cell? ⟨gs, 0, none⟩ = some (.int .i64 (size : Int)) := (blk_cell HV1.out.1 0).trans rfl
        have qc : wr.cell? ⟨gc, 0, none⟩ = some (.int .i64 (cols : Int)) := (blk_cell HV1.out.2.2.1 0).trans rfl
        have qa : wr.cell? ⟨ga, 0, none⟩ = some (.func (.func 19) #[] #[.pointer (some ⟨gs, 0, none⟩), .pointer (some ⟨go, 0, none⟩), .pointer (some ⟨gc, 0, none⟩), .pointer (some ⟨ga, 0, none⟩)]) := (blk_cell HV1.out.2.2.2 0).trans rfl
        have qaa := (fun (o : Obj) => pw_cell_below (below_alloc (Below.refl _ _) o) qa)
        cases n with
        | zero =>
          have e : i = cols := by have := HI.out; omega
          have ci : decide ((i : Int) < (cols : Int)) = false := decide_eq_false (by omega)
          have ci2 : decide (i < cols) = false := decide_eq_false (by omega)
          clear e
          go_wp2
          (try simp only [Exit.inBlock, Exit.then])
          refine bodyPost_end (results_none rfl _ _ _) rfl ?_
          have he := HE.out
          rw [show setsIn size 0 set (i : Int) = [] from rfl, List.append_nil] at he
          exact ⟨rfl, u, HV1.out, by rw [HTO.out, ← he]; exact HO1.out, HK1.out, HB1.out⟩
        | succ n =>
          have hic : i < cols := by have := HI.out; omega
          have ci : decide ((i : Int) < (cols : Int)) = true := decide_eq_true (by omega)
          have ci2 : decide (i < cols) = true := decide_eq_true hic
          have HN8 := Aside0.mk hn
          have HW := Aside0.mk (show wrap64 ((i : Int) + 1) = ((i + 1 : Nat) : Int) by
            rw [IntWalk.wrap64_in _ ⟨by omega, by omega⟩]
            omega)
          have HLT := Aside0.mk (blk_lt HV1.out.2.1)
          have HPW := Aside0.mk (show done.length + 2 ^ n + 2 ^ n ≤ xs.length + 2 ^ d by
            have := HI.out.2.2.2
            rw [Nat.pow_succ] at this
            omega)
          have HIH := Aside0.mk (show ∀ (x : Int), x = ((i + 1 : Nat) : Int) → ∀ (A' : Option Addr) (cap' : Nat) (W' : World), Vars size cols gs go gc ga u W' → Below w0.heap.size w0 W' → Kd.S KI 27 W' w0.heap.size (fun k => (P k ∨ W.heap.size ≤ k) ∧ k < wr.heap.size) u done → (∀ W'', Kept W' W'' (fun k => k = go ∨ ((P k ∨ W.heap.size ≤ k) ∧ k < wr.heap.size)) → Kd.C (Kd.int .i64) W'' A' (set.length + 1) (set ++ [(i : Int)])) → set.length + 1 ≤ cap' →
              Calls Try.prog 19 #[.slice A' (set.length + 1) cap', .int .i64 x, .pointer (some ⟨gs, 0, none⟩), .pointer (some ⟨go, 0, none⟩), .pointer (some ⟨gc, 0, none⟩), .pointer (some ⟨ga, 0, none⟩)] W' fun e w' => e = .returned (.tuple #[]) ∧ ∃ v', Vars size cols gs go gc ga v' w' ∧ Kd.S KI 27 w' w0.heap.size (fun k => ((P k ∨ W.heap.size ≤ k) ∧ k < wr.heap.size) ∨ W'.heap.size ≤ k) v' (done ++ setsTo size n (set ++ [(i : Int)]) ((i + 1 : Nat) : Int)) ∧ Kept W' w' (fun k => k = go ∨ ((P k ∨ W.heap.size ≤ k) ∧ k < wr.heap.size)) ∧ Below w0.heap.size w0 w' by
            intro x hx A' cap' W' hv' hB' hS' hset' hcap'
            subst hx
            have hlen : (set ++ [(i : Int)]).length = set.length + 1 := by simp
            have := IH.out n (by have := HI.out; omega) (i + 1) (set ++ [(i : Int)]) A' cap' (fun k => (P k ∨ W.heap.size ≤ k) ∧ k < wr.heap.size) u done W' (by have := HI.out; omega) hv'
              (fun h => h.1.elim HP.out.1 (fun h2 => by have := blk_lt HV.out.1; omega)) (fun h => h.1.elim HP.out.2.1 (fun h2 => by have := blk_lt HV.out.2.1; omega)) (fun h => h.1.elim HP.out.2.2.1 (fun h2 => by have := blk_lt HV.out.2.2.1; omega)) (fun h => h.1.elim HP.out.2.2.2 (fun h2 => by have := blk_lt HV.out.2.2.2; omega))
              hB' hS' (by rw [hlen]; exact hset') (by rw [hlen]; exact hcap') (by rw [hlen]; have := HL.out; have := HI.out; omega) (by have := HPW.out; have := HX.out; have : 0 < 2 ^ n := Nat.pow_pos (by decide); omega)
            rw [hlen] at this
            exact this)
          go_wp2
          go_region_law (first | (go_simp; (go_at_call 20; (with_reducible refine (slices_Clone_Sint.calls A cap set set _ ?k1 ?k2 HCL.out).mono ?_); (case k1 => exact HS.out _ (Kept.below HK1.out (by repeat (first | exact Below.refl _ _ | (with_reducible first | apply below_alloc | apply pw_below_drewN | apply below_drew1))))); (case k2 => exact HCP.out); rintro e w5 ⟨v5, rfl, ho5, hb5⟩; have B5 := Aside0.mk (below_step (by repeat (first | exact Below.refl _ _ | (with_reducible first | apply below_alloc | apply pw_below_drewN | apply below_drew1))) hb5 : Below wr.heap.size wr w5); have N5 := Aside0.mk (fun (k : Nat) (hk : v5.ownBlock = some k) => (Nat.le_trans (below_size (by repeat (first | exact Below.refl _ _ | (with_reducible first | apply below_alloc | apply pw_below_drewN | apply below_drew1)))) (Kd.R_base ho5 k hk) : wr.heap.size ≤ k)); have HO5 := Aside0.mk (Kd.R_lower ho5 (Nat.le_trans HB1.out.size (below_size (by repeat (first | exact Below.refl _ _ | (with_reducible first | apply below_alloc | apply pw_below_drewN | apply below_drew1))) : wr.heap.size ≤ _))); have HB5 := Aside0.mk hb5; clear ho5 hb5; have q3 := pw_cell_below B5.out qa; (try have q4 := (fun (o : Obj) => pw_cell_below (below_alloc (Below.refl _ _) o) q2)); have q5 := (fun (o : Obj) => pw_cell_below (below_alloc (Below.refl _ _) o) q3); obtain ⟨A5, c5, e5⟩ := Kd.R_slice HO5.out; subst e5)) | (go_simp; (go_at_fn 19; refine (HIH.out _ ?x1 A6 c6 _ HV6.out HB6.out HS6.out (Kd.C_kept_own HO6.out (fun k hk hs => by have := HLT.out; rcases hs with hs | hs <;> first | omega | (have := hs.2; omega))) (Kd.R_reads' HO6.out).2.1).mono ?_; (case x1 => first | rfl | (rw [i64_w, HW.out]; done) | (rw [i64_w, HW.out]; rfl) | (rw [HW.out]; done) | omega); rintro e w7 ⟨rfl, v7, hv7, ho7, hk7, hb7⟩; have HV7 := Aside0.mk hv7; have HO7 := Aside0.mk ho7; have HK7 := Aside0.mk ((HK1.out.then_ HG6.out (fun _ h => h.elim)).then_ hk7 (fun k hk => by rcases hk with hk | ⟨hk | hk, _⟩ <;> first | exact .inl (.inl hk) | exact .inl (.inr hk) | exact .inr hk)); have HB7 := Aside0.mk hb7; have HZ7 := Aside0.mk (Nat.le_trans HK1.out.1 HG6.out.1); clear hv7 ho7 hk7 hb7)) | (refine Kd.R_append_rows_step (Kd.int .i64) (Rr := fun x cs => cs = [Value.int .i64 x]) (w0 := w0) w0.heap.size (by rfl) (.tmp 26) (.tmp 28) 27 3 (.int .i64 0) 8 (by rfl) Try.underlying27 info3 (by rfl) (by decide) (by omega) _ set [(i : Int)] _ _ _ (fun k => wr.heap.size ≤ k) (fun _ => False) (by rfl) (by rfl) ?aO ?aR (fun _ _ h => h) (fun _ h => h.elim) ?aF ?aB ?aS ?aL ?_; (case aO => exact (by (with_reducible repeat (first | apply Kd.R_alloc | apply Kd.R_drewN | apply Kd.R_drew)); exact Kd.R_mono (Kd.R_tight rfl HO5.out) (fun k hk => N5.out k hk.symm))); (case aR => exact C_one (by first | exact blk_new _ _ | exact blk_below (by first | exact blk_new _ _ | exact blk_drew (blk_new _ _) | exact blk_drewN (blk_new _ _) _) HB5.out)); (case aF => exact (fun k hk => by have := B5.out.size; (try simp at hk); omega)); (case aB => exact below_step HB1.out (by repeat (first | exact B5.out | (with_reducible first | apply below_alloc | apply pw_below_drewN | apply below_drew1)))); (case aS => exact below_size (below_step HB1.out (by repeat (first | exact B5.out | (with_reducible first | apply below_alloc | apply pw_below_drewN | apply below_drew1))))); (case aL => have := HN8.out; omega); intro v6 w6 ho6 hb6 hg6 hat6; have HO6 := Aside0.mk ho6; have HB6 := Aside0.mk hb6; have HG6 := Aside0.mk (Kept.of_grown hg6 (Kept.of_below (by repeat (first | exact B5.out | (with_reducible first | apply below_alloc | apply pw_below_drewN | apply below_drew1))) (fun _ => False)) (fun k e_ => .inr (N5.out k e_))); have HV6 := Aside0.mk (Vars.kept HV1.out HG6.out id id id id); have HS6 := Aside0.mk (Kd.S_mono (Kd.S_kept (Kd.S_bound HO1.out) HG6.out (fun _ _ => id)) (fun k hk => (⟨hk.1, hk.2.2.1⟩ : (P k ∨ W.heap.size ≤ k) ∧ k < wr.heap.size))); clear ho6 hb6 hg6 hat6; have r3 : w6.cell? ⟨ga, 0, none⟩ = some (.func (.func 19) #[] #[.pointer (some ⟨gs, 0, none⟩), .pointer (some ⟨go, 0, none⟩), .pointer (some ⟨gc, 0, none⟩), .pointer (some ⟨ga, 0, none⟩)]) := (blk_cell HV6.out.2.2.2 0).trans rfl; obtain ⟨A6, c6, e6⟩ := Kd.R_slice HO6.out; rw [List.length_append, List.length_singleton] at e6; subst e6))
          all_goals go_wp2
          all_goals go_roundg k1
          all_goals first | omega | exact ⟨n, i + 1, _, _, by first | rw [HW.out] | rfl | simp, ⟨by have := HI.out; have := setsTo_len size n (set ++ [(i : Int)]) ((i + 1 : Nat) : Int); have := HPW.out; rw [List.length_append]; omega⟩, ⟨by rw [← HE.out, setsIn, List.append_assoc]; congr 1; unfold setsTo; rw [List.length_append, List.length_singleton]; rfl⟩, HV7, ⟨Kd.S_mono HO7.out (fun k hk => by rcases hk with hk | hk <;> first | exact hk.1 | exact .inr (by have := HZ7.out; omega))⟩, HK7, HB7⟩

theorem setsOf_in (x a b : Int) : impl_InRange.f x a b = some (decide (a ≤ x ∧ x ≤ b)) := by
  unfold impl_InRange.f
  by_cases h : a ≤ x
  · rw [if_pos h]; simp [h]
  · rw [if_neg h, decide_eq_false (fun q => h q.1)]

set_option maxRecDepth 100000 in
set_option maxHeartbeats 8000000 in
theorem impl_SetsOf.calls (a0 : Int) (a1 : Int) (r : List (List Int)) (w : World) (h : impl_SetsOf.f a0 a1 = some r) :
    Calls Try.prog 6 #[.int .i64 a0, .int .i64 a1] w fun e w' => ∃ v0_ : Value, e = .returned (v0_) ∧ Kd.S (Kd.slice 3 (Kd.int .i64)) 27 w' w.heap.size (fun _ => True) v0_ r ∧ Below w.heap.size w w' := by
  have eg : ∀ args w, (callFunc 19 args).run Try.prog w = .ok (.enter 19 args) w := enters_of Try.func19 (by kernel_rfl) rfl
  unfold impl_SetsOf.f at h
  obtain rfl := Option.some.inj h
  have HB := Aside0.mk (Below.refl w.heap.size w)
  have f1 := setsOf_in a0 0 6
  have f2 := setsOf_in a1 0 a0
  by_cases h1 : 0 ≤ a0 ∧ a0 ≤ 6
  · by_cases h2 : 0 ≤ a1 ∧ a1 ≤ a0
    · rw [if_pos ⟨h1.1, h1.2, h2.1, h2.2⟩]
      rw [decide_eq_true h1] at f1
      rw [decide_eq_true h2] at f2
      have F1 := Aside0.mk f1
      have F2 := Aside0.mk f2
      clear f1 f2 h
      obtain ⟨size, rfl⟩ : ∃ n : Nat, a1 = (n : Int) := ⟨a1.toNat, by omega⟩
      obtain ⟨cols, rfl⟩ : ∃ n : Nat, a0 = (n : Int) := ⟨a0.toNat, by omega⟩
      have hs6 : size ≤ 6 := by omega
      have hc6 : cols ≤ 6 := by omega
      simp only [Int.toNat_natCast]
      clear h1 h2
      go_enter Try.func6, Try.ntmps6
      go_wp2_with (first | ((with_reducible refine gate_dst (N := 2) rfl ?_); refine box_event ?hg (N := 2) ?hd (cs := #[.int .i64 (cols : Int)]) (t := 3) ?hr ?_; (case hd => rfl); (case hg => rfl); (case hr => first | (go_simp; done) | (go_simp; rfl)); intro g2 hg wb2 hbox hb; have n0_ := Aside0.mk (below_step HB.out (below_step (by repeat (first | exact Below.refl _ _ | (with_reducible first | apply below_alloc | apply pw_below_drewN | apply below_drew1))) hb)); have n1_ := Aside0.mk (hbox); have n2_ := Aside0.mk ((by rw [hg]; exact below_size (below_step HB.out (by repeat (first | exact Below.refl _ _ | (with_reducible first | apply below_alloc | apply pw_below_drewN | apply below_drew1)))) : w.heap.size ≤ g2)); clear HB; have HB := n0_; have BK2 := n1_; have GE2 := n2_; clear n0_ n1_ n2_; clear hb hbox hg; (try clear hcz2 hfz2); have hcz2 : wb2.cell? ⟨g2, 0, none⟩ = some (.int .i64 (cols : Int)) := (blk_cell BK2.out 0).trans rfl; have hfz2 := blk_frozen BK2.out 0) | ((with_reducible refine gate_dst (N := 3) rfl ?_); refine box_event ?hg (N := 3) ?hd (cs := #[.int .i64 (size : Int)]) (t := 3) ?hr ?_; (case hd => rfl); (case hg => rfl); (case hr => first | (go_simp; done) | (go_simp; rfl)); intro g3 hg wb3 hbox hb; have n0_ := Aside0.mk (below_step HB.out (below_step (by repeat (first | exact Below.refl _ _ | (with_reducible first | apply below_alloc | apply pw_below_drewN | apply below_drew1))) hb)); have n1_ := Aside0.mk (blk_below (g := g2) (o := .cells #[.int .i64 (cols : Int)] 3 (0, 0)) BK2.out (below_step (by repeat (first | exact Below.refl _ _ | (with_reducible first | apply below_alloc | apply pw_below_drewN | apply below_drew1))) hb)); have n2_ := Aside0.mk (hbox); have n3_ := Aside0.mk ((by rw [hg]; exact below_size (below_step HB.out (by repeat (first | exact Below.refl _ _ | (with_reducible first | apply below_alloc | apply pw_below_drewN | apply below_drew1)))) : w.heap.size ≤ g3)); have n4_ := Aside0.mk ((by rw [hg]; exact Nat.ne_of_lt (Nat.lt_of_lt_of_le (blk_lt BK2.out) (below_size (by repeat (first | exact Below.refl _ _ | (with_reducible first | apply below_alloc | apply pw_below_drewN | apply below_drew1))))) : g2 ≠ g3)); clear HB BK2; have HB := n0_; have BK2 := n1_; have BK3 := n2_; have GE3 := n3_; have NE2_3 := n4_; clear n0_ n1_ n2_ n3_ n4_; clear hb hbox hg; (try clear hcz2 hfz2); have hcz2 : wb3.cell? ⟨g2, 0, none⟩ = some (.int .i64 (cols : Int)) := (blk_cell BK2.out 0).trans rfl; have hfz2 := blk_frozen BK2.out 0; (try clear hcz3 hfz3); have hcz3 : wb3.cell? ⟨g3, 0, none⟩ = some (.int .i64 (size : Int)) := (blk_cell BK3.out 0).trans rfl; have hfz3 := blk_frozen BK3.out 0) | ((with_reducible refine gate_dst (N := 5) rfl ?_); refine box_event ?hg (N := 5) ?hd (cs := #[.slice none 0 0]) (t := 22) ?hr ?_; (case hd => rfl); (case hg => rfl); (case hr => first | (go_simp; done) | (go_simp; rfl)); intro g5 hg wb5 hbox hb; have n0_ := Aside0.mk (below_step HB.out (below_step (by repeat (first | exact Below.refl _ _ | (with_reducible first | apply below_alloc | apply pw_below_drewN | apply below_drew1))) hb)); have n1_ := Aside0.mk (blk_below (g := g2) (o := .cells #[.int .i64 (cols : Int)] 3 (0, 0)) BK2.out (below_step (by repeat (first | exact Below.refl _ _ | (with_reducible first | apply below_alloc | apply pw_below_drewN | apply below_drew1))) hb)); have n2_ := Aside0.mk (blk_below (g := g3) (o := .cells #[.int .i64 (size : Int)] 3 (0, 0)) BK3.out (below_step (by repeat (first | exact Below.refl _ _ | (with_reducible first | apply below_alloc | apply pw_below_drewN | apply below_drew1))) hb)); have n3_ := Aside0.mk (hbox); have n4_ := Aside0.mk ((by rw [hg]; exact below_size (below_step HB.out (by repeat (first | exact Below.refl _ _ | (with_reducible first | apply below_alloc | apply pw_below_drewN | apply below_drew1)))) : w.heap.size ≤ g5)); have n5_ := Aside0.mk ((by rw [hg]; exact Nat.ne_of_lt (Nat.lt_of_lt_of_le (blk_lt BK2.out) (below_size (by repeat (first | exact Below.refl _ _ | (with_reducible first | apply below_alloc | apply pw_below_drewN | apply below_drew1))))) : g2 ≠ g5)); have n6_ := Aside0.mk ((by rw [hg]; exact Nat.ne_of_lt (Nat.lt_of_lt_of_le (blk_lt BK3.out) (below_size (by repeat (first | exact Below.refl _ _ | (with_reducible first | apply below_alloc | apply pw_below_drewN | apply below_drew1))))) : g3 ≠ g5)); clear HB BK2 BK3; have HB := n0_; have BK2 := n1_; have BK3 := n2_; have BK5 := n3_; have GE5 := n4_; have NE2_5 := n5_; have NE3_5 := n6_; clear n0_ n1_ n2_ n3_ n4_ n5_ n6_; clear hb hbox hg; (try clear hcz2 hfz2); have hcz2 : wb5.cell? ⟨g2, 0, none⟩ = some (.int .i64 (cols : Int)) := (blk_cell BK2.out 0).trans rfl; have hfz2 := blk_frozen BK2.out 0; (try clear hcz3 hfz3); have hcz3 : wb5.cell? ⟨g3, 0, none⟩ = some (.int .i64 (size : Int)) := (blk_cell BK3.out 0).trans rfl; have hfz3 := blk_frozen BK3.out 0; (try clear hcz5 hfz5); have hcz5 : wb5.cell? ⟨g5, 0, none⟩ = some (.slice none 0 0) := (blk_cell BK5.out 0).trans rfl; have hfz5 := blk_frozen BK5.out 0) | ((with_reducible refine gate_dst (N := 6) rfl ?_); refine box_event ?hg (N := 6) ?hd (cs := #[.nilFunc]) (t := 34) ?hr ?_; (case hd => rfl); (case hg => rfl); (case hr => first | (go_simp; done) | (go_simp; rfl)); intro g6 hg wb6 hbox hb; have n0_ := Aside0.mk (below_step HB.out (below_step (by repeat (first | exact Below.refl _ _ | (with_reducible first | apply below_alloc | apply pw_below_drewN | apply below_drew1))) hb)); have n1_ := Aside0.mk (blk_below (g := g2) (o := .cells #[.int .i64 (cols : Int)] 3 (0, 0)) BK2.out (below_step (by repeat (first | exact Below.refl _ _ | (with_reducible first | apply below_alloc | apply pw_below_drewN | apply below_drew1))) hb)); have n2_ := Aside0.mk (blk_below (g := g3) (o := .cells #[.int .i64 (size : Int)] 3 (0, 0)) BK3.out (below_step (by repeat (first | exact Below.refl _ _ | (with_reducible first | apply below_alloc | apply pw_below_drewN | apply below_drew1))) hb)); have n3_ := Aside0.mk (blk_below (g := g5) (o := .cells #[.slice none 0 0] 22 (0, 0)) BK5.out (below_step (by repeat (first | exact Below.refl _ _ | (with_reducible first | apply below_alloc | apply pw_below_drewN | apply below_drew1))) hb)); have n4_ := Aside0.mk (hbox); have n5_ := Aside0.mk ((by rw [hg]; exact below_size (below_step HB.out (by repeat (first | exact Below.refl _ _ | (with_reducible first | apply below_alloc | apply pw_below_drewN | apply below_drew1)))) : w.heap.size ≤ g6)); have n6_ := Aside0.mk ((by rw [hg]; exact Nat.ne_of_lt (Nat.lt_of_lt_of_le (blk_lt BK2.out) (below_size (by repeat (first | exact Below.refl _ _ | (with_reducible first | apply below_alloc | apply pw_below_drewN | apply below_drew1))))) : g2 ≠ g6)); have n7_ := Aside0.mk ((by rw [hg]; exact Nat.ne_of_lt (Nat.lt_of_lt_of_le (blk_lt BK3.out) (below_size (by repeat (first | exact Below.refl _ _ | (with_reducible first | apply below_alloc | apply pw_below_drewN | apply below_drew1))))) : g3 ≠ g6)); have n8_ := Aside0.mk ((by rw [hg]; exact Nat.ne_of_lt (Nat.lt_of_lt_of_le (blk_lt BK5.out) (below_size (by repeat (first | exact Below.refl _ _ | (with_reducible first | apply below_alloc | apply pw_below_drewN | apply below_drew1))))) : g5 ≠ g6)); clear HB BK2 BK3 BK5; have HB := n0_; have BK2 := n1_; have BK3 := n2_; have BK5 := n3_; have BK6 := n4_; have GE6 := n5_; have NE2_6 := n6_; have NE3_6 := n7_; have NE5_6 := n8_; clear n0_ n1_ n2_ n3_ n4_ n5_ n6_ n7_ n8_; clear hb hbox hg; (try clear hcz2 hfz2); have hcz2 : wb6.cell? ⟨g2, 0, none⟩ = some (.int .i64 (cols : Int)) := (blk_cell BK2.out 0).trans rfl; have hfz2 := blk_frozen BK2.out 0; (try clear hcz3 hfz3); have hcz3 : wb6.cell? ⟨g3, 0, none⟩ = some (.int .i64 (size : Int)) := (blk_cell BK3.out 0).trans rfl; have hfz3 := blk_frozen BK3.out 0; (try clear hcz5 hfz5); have hcz5 : wb6.cell? ⟨g5, 0, none⟩ = some (.slice none 0 0) := (blk_cell BK5.out 0).trans rfl; have hfz5 := blk_frozen BK5.out 0; (try clear hcz6 hfz6); have hcz6 : wb6.cell? ⟨g6, 0, none⟩ = some (.nilFunc) := (blk_cell BK6.out 0).trans rfl; have hfz6 := blk_frozen BK6.out 0) | (go_at_call 18; (with_reducible refine (impl_InRange.calls (cols : Int) 0 6 true _ F1.out).mono ?_); rintro e w' ⟨rfl, ⟨nd, rfl⟩⟩) | (go_at_call 18; (with_reducible refine (impl_InRange.calls (size : Int) 0 (cols : Int) true _ F2.out).mono ?_); rintro e w' ⟨rfl, ⟨nd, rfl⟩⟩) | (go_at_fn 19; refine (setsAdd_calls size cols g3 g5 g2 g6 ⟨NE3_5.out, NE2_5.out, fun e_ => NE5_6.out e_.symm⟩ hs6 hc6 w GE5.out cols 0 [] _ _ (fun _ => False) (.slice none 0 0) [] _ (by omega) ⟨(by (with_reducible repeat (first | refine blk_drewN ?_ _ | refine blk_drew ?_ | refine blk_alloc ?_ _)); refine blk_far ?_ NE3_6.out _; (with_reducible repeat (first | refine blk_drewN ?_ _ | refine blk_drew ?_ | refine blk_alloc ?_ _)); exact BK3.out), (by (with_reducible repeat (first | refine blk_drewN ?_ _ | refine blk_drew ?_ | refine blk_alloc ?_ _)); refine blk_far ?_ NE5_6.out _; (with_reducible repeat (first | refine blk_drewN ?_ _ | refine blk_drew ?_ | refine blk_alloc ?_ _)); exact BK5.out), (by (with_reducible repeat (first | refine blk_drewN ?_ _ | refine blk_drew ?_ | refine blk_alloc ?_ _)); refine blk_far ?_ NE2_6.out _; (with_reducible repeat (first | refine blk_drewN ?_ _ | refine blk_drew ?_ | refine blk_alloc ?_ _)); exact BK2.out), (by (with_reducible repeat (first | refine blk_drewN ?_ _ | refine blk_drew ?_ | refine blk_alloc ?_ _)); refine blk_put (cs := #[.nilFunc]) ?_ 0 _ rfl; (with_reducible repeat (first | refine blk_drewN ?_ _ | refine blk_drew ?_ | refine blk_alloc ?_ _)); exact BK6.out)⟩ id id id id (by repeat (first | exact HB.out | (with_reducible first | apply below_alloc | apply pw_below_drewN | apply below_drew1) | refine below_set ?_ GE6.out)) (Kd.S_nil _ _ _ _ _) (fun W' _ => ⟨rfl, by decide, fun h => absurd h (by decide)⟩) (Nat.zero_le _) (by simp; omega) (by have : 2 ^ cols ≤ 2 ^ 6 := Nat.pow_le_pow_right (by decide) hc6; rw [List.length_nil]; omega)).mono ?_; rintro e w7 ⟨rfl, v7, hv7, ho7, hk7, hb7⟩; have HV7 := Aside0.mk hv7; have HO7 := Aside0.mk ho7; have HB7 := Aside0.mk hb7; clear hv7 ho7 hk7 hb7; have r7 : w7.cell? ⟨g5, 0, none⟩ = some v7 := (blk_cell HV7.out.2.1 0).trans rfl; have r7f := blk_frozen HV7.out.2.1 0))
      go_ret
      exact ⟨_, rfl, Kd.S_mono HO7.out (fun _ _ => trivial), HB7.out⟩
    · rw [if_neg (fun q => h2 ⟨q.2.2.1, q.2.2.2⟩)]
      rw [decide_eq_true h1] at f1
      rw [decide_eq_false h2] at f2
      have F1 := Aside0.mk f1
      have F2 := Aside0.mk f2
      clear f1 f2 h1 h2 h
      go_enter Try.func6, Try.ntmps6
      go_wp2_with (first | ((with_reducible refine gate_dst (N := 2) rfl ?_); refine box_event ?hg (N := 2) ?hd (cs := #[.int .i64 a0]) (t := 3) ?hr ?_; (case hd => rfl); (case hg => rfl); (case hr => first | (go_simp; done) | (go_simp; rfl)); intro g2 hg wb2 hbox hb; have n0_ := Aside0.mk (below_step HB.out (below_step (by repeat (first | exact Below.refl _ _ | (with_reducible first | apply below_alloc | apply pw_below_drewN | apply below_drew1))) hb)); have n1_ := Aside0.mk (hbox); have n2_ := Aside0.mk ((by rw [hg]; exact below_size (below_step HB.out (by repeat (first | exact Below.refl _ _ | (with_reducible first | apply below_alloc | apply pw_below_drewN | apply below_drew1)))) : w.heap.size ≤ g2)); clear HB; have HB := n0_; have BK2 := n1_; have GE2 := n2_; clear n0_ n1_ n2_; clear hb hbox hg; (try clear hcz2 hfz2); have hcz2 : wb2.cell? ⟨g2, 0, none⟩ = some (.int .i64 a0) := (blk_cell BK2.out 0).trans rfl; have hfz2 := blk_frozen BK2.out 0) | ((with_reducible refine gate_dst (N := 3) rfl ?_); refine box_event ?hg (N := 3) ?hd (cs := #[.int .i64 a1]) (t := 3) ?hr ?_; (case hd => rfl); (case hg => rfl); (case hr => first | (go_simp; done) | (go_simp; rfl)); intro g3 hg wb3 hbox hb; have n0_ := Aside0.mk (below_step HB.out (below_step (by repeat (first | exact Below.refl _ _ | (with_reducible first | apply below_alloc | apply pw_below_drewN | apply below_drew1))) hb)); have n1_ := Aside0.mk (blk_below (g := g2) (o := .cells #[.int .i64 a0] 3 (0, 0)) BK2.out (below_step (by repeat (first | exact Below.refl _ _ | (with_reducible first | apply below_alloc | apply pw_below_drewN | apply below_drew1))) hb)); have n2_ := Aside0.mk (hbox); have n3_ := Aside0.mk ((by rw [hg]; exact below_size (below_step HB.out (by repeat (first | exact Below.refl _ _ | (with_reducible first | apply below_alloc | apply pw_below_drewN | apply below_drew1)))) : w.heap.size ≤ g3)); have n4_ := Aside0.mk ((by rw [hg]; exact Nat.ne_of_lt (Nat.lt_of_lt_of_le (blk_lt BK2.out) (below_size (by repeat (first | exact Below.refl _ _ | (with_reducible first | apply below_alloc | apply pw_below_drewN | apply below_drew1))))) : g2 ≠ g3)); clear HB BK2; have HB := n0_; have BK2 := n1_; have BK3 := n2_; have GE3 := n3_; have NE2_3 := n4_; clear n0_ n1_ n2_ n3_ n4_; clear hb hbox hg; (try clear hcz2 hfz2); have hcz2 : wb3.cell? ⟨g2, 0, none⟩ = some (.int .i64 a0) := (blk_cell BK2.out 0).trans rfl; have hfz2 := blk_frozen BK2.out 0; (try clear hcz3 hfz3); have hcz3 : wb3.cell? ⟨g3, 0, none⟩ = some (.int .i64 a1) := (blk_cell BK3.out 0).trans rfl; have hfz3 := blk_frozen BK3.out 0) | (go_at_call 18; (with_reducible refine (impl_InRange.calls a0 0 6 true _ F1.out).mono ?_); rintro e w' ⟨rfl, ⟨nd, rfl⟩⟩) | (go_at_call 18; (with_reducible refine (impl_InRange.calls a1 0 a0 false _ F2.out).mono ?_); rintro e w' ⟨rfl, ⟨nd, rfl⟩⟩))
      go_ret
      exact ⟨_, rfl, Kd.S_nil _ _ _ _ _, by repeat (first | (with_reducible first | exact HB.out | apply below_alloc | apply pw_below_drewN | apply below_drew1) | exact HB.out)⟩
  · rw [if_neg (fun q => h1 ⟨q.1, q.2.1⟩)]
    rw [decide_eq_false h1] at f1
    have F1 := Aside0.mk f1
    clear f1 f2 h1 h
    go_enter Try.func6, Try.ntmps6
    go_wp2_with (first | ((with_reducible refine gate_dst (N := 2) rfl ?_); refine box_event ?hg (N := 2) ?hd (cs := #[.int .i64 a0]) (t := 3) ?hr ?_; (case hd => rfl); (case hg => rfl); (case hr => first | (go_simp; done) | (go_simp; rfl)); intro g2 hg wb2 hbox hb; have n0_ := Aside0.mk (below_step HB.out (below_step (by repeat (first | exact Below.refl _ _ | (with_reducible first | apply below_alloc | apply pw_below_drewN | apply below_drew1))) hb)); have n1_ := Aside0.mk (hbox); have n2_ := Aside0.mk ((by rw [hg]; exact below_size (below_step HB.out (by repeat (first | exact Below.refl _ _ | (with_reducible first | apply below_alloc | apply pw_below_drewN | apply below_drew1)))) : w.heap.size ≤ g2)); clear HB; have HB := n0_; have BK2 := n1_; have GE2 := n2_; clear n0_ n1_ n2_; clear hb hbox hg; (try clear hcz2 hfz2); have hcz2 : wb2.cell? ⟨g2, 0, none⟩ = some (.int .i64 a0) := (blk_cell BK2.out 0).trans rfl; have hfz2 := blk_frozen BK2.out 0) | ((with_reducible refine gate_dst (N := 3) rfl ?_); refine box_event ?hg (N := 3) ?hd (cs := #[.int .i64 a1]) (t := 3) ?hr ?_; (case hd => rfl); (case hg => rfl); (case hr => first | (go_simp; done) | (go_simp; rfl)); intro g3 hg wb3 hbox hb; have n0_ := Aside0.mk (below_step HB.out (below_step (by repeat (first | exact Below.refl _ _ | (with_reducible first | apply below_alloc | apply pw_below_drewN | apply below_drew1))) hb)); have n1_ := Aside0.mk (blk_below (g := g2) (o := .cells #[.int .i64 a0] 3 (0, 0)) BK2.out (below_step (by repeat (first | exact Below.refl _ _ | (with_reducible first | apply below_alloc | apply pw_below_drewN | apply below_drew1))) hb)); have n2_ := Aside0.mk (hbox); have n3_ := Aside0.mk ((by rw [hg]; exact below_size (below_step HB.out (by repeat (first | exact Below.refl _ _ | (with_reducible first | apply below_alloc | apply pw_below_drewN | apply below_drew1)))) : w.heap.size ≤ g3)); have n4_ := Aside0.mk ((by rw [hg]; exact Nat.ne_of_lt (Nat.lt_of_lt_of_le (blk_lt BK2.out) (below_size (by repeat (first | exact Below.refl _ _ | (with_reducible first | apply below_alloc | apply pw_below_drewN | apply below_drew1))))) : g2 ≠ g3)); clear HB BK2; have HB := n0_; have BK2 := n1_; have BK3 := n2_; have GE3 := n3_; have NE2_3 := n4_; clear n0_ n1_ n2_ n3_ n4_; clear hb hbox hg; (try clear hcz2 hfz2); have hcz2 : wb3.cell? ⟨g2, 0, none⟩ = some (.int .i64 a0) := (blk_cell BK2.out 0).trans rfl; have hfz2 := blk_frozen BK2.out 0; (try clear hcz3 hfz3); have hcz3 : wb3.cell? ⟨g3, 0, none⟩ = some (.int .i64 a1) := (blk_cell BK3.out 0).trans rfl; have hfz3 := blk_frozen BK3.out 0) | (go_at_call 18; (with_reducible refine (impl_InRange.calls a0 0 6 false _ F1.out).mono ?_); rintro e w' ⟨rfl, ⟨nd, rfl⟩⟩))
    go_ret
    exact ⟨_, rfl, Kd.S_nil _ _ _ _ _, by repeat (first | (with_reducible first | exact HB.out | apply below_alloc | apply pw_below_drewN | apply below_drew1) | exact HB.out)⟩

end Go.Proofs.Ytgaajmmbodfahaa.Z
