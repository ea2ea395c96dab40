-- Written by this session's wip/mp/mp.py out of the translation. Lean checks it.
import Derived.Test.YtabjcjieniokaaaZ0
import Derived.Test.YtabjcjieniokaaaZ1
import Derived.Test.YtabjcjieniokaaaZ2
import Derived.Test.YtabjcjieniokaaaZRowsC
import Derived.Lib.SliceRun
import Derived.Deep.RegionLaw
namespace Go.Proofs.Ytabjcjieniokaaa.Z
open Go.RowKit Go.Proofs.YtabjcjieniokaaaW.PrintWords Go.Proofs.YtabjcjieniokaaaW.PrintLast Go.Proofs.YtabjcjieniokaaaW.PrintMore
attribute [local go_sem] max2_int min2_int max_two min_two max_three min_three max_four min_four   -- for this text's walks alone
set_option linter.unusedVariables false
set_option linter.unusedSimpArgs false

-- GIVEN
-- FUNCTION loop.example/g00958/impl.IsInSpan rounds
-- ALONE
-- EXTRA loop.example/g00958/impl.IsMatrix
-- EXTRA loop.example/g00958/impl.reduceAny
-- INFO 40
-- IMPORT Derived.Test.YtabjcjieniokaaaZRowsC
-- IMPORT Derived.Lib.SliceRun
-- IMPORT Derived.Deep.RegionLaw
/-! ### impl_IsInSpan: function 56 -/
def impl_IsInSpan.f (k : Nat) (l0 : List (List Int)) (l1 : List Int) : Option Bool := (impl_IsMatrix.f k l0 (l1.length : Int)).bind fun b1 => if b1 = true then ((impl_IsMatrix.f k [l1] (l1.length : Int)).bind fun b2 => if b2 = true then ((impl_reduceAny.f k l0 (l1.length : Int)).bind fun r0 => if l0.length ≤ 1048576 then ((impl_reduceAny.f k (l0 ++ [l1]) (l1.length : Int)).bind fun r1 => some (decide (r0.length = r1.length))) else none) else some false) else some false
theorem impl_IsInSpan.mono : ∀ a0 a1 k, LeO (impl_IsInSpan.f k a0 a1) (impl_IsInSpan.f (k + 1) a0 a1) := fun a0 a1 k => LeO.bind (impl_IsMatrix.mono _ _ _) (fun _ => LeO.ite (LeO.bind (impl_IsMatrix.mono _ _ _) (fun _ => LeO.ite (LeO.bind (impl_reduceAny.mono _ _ _) (fun _ => LeO.ite (LeO.bind (impl_reduceAny.mono _ _ _) (fun _ => LeO.refl _)) (LeO.refl _))) (LeO.refl _))) (LeO.refl _))

set_option maxRecDepth 100000 in
set_option maxHeartbeats 2000000 in
theorem cloneRows_calls (A0 : Option Addr) (c0 : Nat) (l0 : List (List Int)) (w : World) (hr0 : Kd.C (Kd.slice 3 (Kd.int .i64)) w A0 l0.length l0) (hc0 : l0.length ≤ c0) (hl : l0.length ≤ 1048576) :
    Calls Try.prog 87 #[.slice A0 l0.length c0] w fun e w' => ∃ v0_ : Value, e = .returned (v0_) ∧ (KW w).R 40 w' w.heap.size (fun _ => True) v0_ l0 ∧ Below w.heap.size w w' := by
  have HL := Aside0.mk hl
  have HR0 := Aside0.mk hr0
  have HB := Aside0.mk (Below.refl w.heap.size w)
  clear hl hr0
  have hq := fun (w : World) (a : Option Addr) (n c : Nat) => Lib.run_eql_slice_nil (P := Try.prog) w 38 40 a n c 0 0 Try.underlying38
  cases A0 with
  | none =>
    have e : l0 = [] := by
      cases l0 with
      | nil => rfl
      | cons x xs =>
        obtain ⟨ad, c, e, _⟩ := Kd.C_get HR0.out x 0 (Int.le_refl _) (by simp)
        cases e
    subst e
    go_enter Try.func87, Try.ntmps87
    go_wp2
    go_ret
    exact ⟨_, rfl, Kd.R_nil _ _ _ _ _, HB.out⟩
  | some ad =>
    obtain ⟨n, hn⟩ : ∃ n, l0.length = n := ⟨_, rfl⟩
    rw [hn] at HR0 HL ⊢
    have HN := Aside0.mk hn
    clear hn hc0
    go_enter Try.func87, Try.ntmps87
    go_wp2_with (first | ((with_reducible refine gate_dst (N := 5) rfl ?_); refine Kd.R_lit (KW w) _ 40 ?hg (N := 5) ?hd (xs := ([] : List (List Int))) (inner := []) (ok := fun _ => True) (okp := fun _ => True) ?hr ?hp (fun _ hk => hk) trivial (Below.refl _ _) (Nat.le_refl _) (by simp) ?_; (case hd => rfl); (case hg => rfl); (case hr => first | (go_simp; done) | (go_simp; rfl)); (case hp => exact (Reps.none _ _)); intro v143 w8 ho9 hb hg_ hnew_; clear hg_ hnew_; have n0_ := Aside0.mk (Kd.R_lower ho9 (below_size (by repeat (first | exact HB.out | (with_reducible first | apply below_alloc | apply pw_below_drewN | apply below_drew1))))); have n1_ := Aside0.mk (below_step (by repeat (first | exact HB.out | (with_reducible first | apply below_alloc | apply pw_below_drewN | apply below_drew1))) hb); clear HB; have HO144 := n0_; have HB := n1_; clear n0_ n1_; clear hb ho9) | ((with_reducible refine gate_builtin (b := .append) (xs := #[.tmp 5, .tmp 6]) rfl ?_); at_builtin; refine Kd.R_append_rows (KW w) (Rr := (Kd.slice 3 (Kd.int .i64)).K w) (w0 := w) w.heap.size rfl (.tmp 5) (.tmp 6) 38 40 (.slice none 0 0) 24 rfl Try.underlying38 info40 rfl Nat.zero_lt_one (by omega) v143 [] l0 _ _ _ (fun _ => True) (fun _ => False) rfl rfl ?aO ?aR (fun _ _ h => h) (fun _ h => h.elim) ?aF ?aB ?aS ?aL ?_; (case aR => exact C_KW HR0.out (by repeat (first | exact HB.out | (with_reducible first | apply below_alloc | apply pw_below_drewN | apply below_drew1)))); (case aB => exact (by repeat (first | exact HB.out | (with_reducible first | apply below_alloc | apply pw_below_drewN | apply below_drew1)))); (case aF => exact (fun _ _ => trivial)); (case aO => exact (by (with_reducible repeat (first | apply Kd.R_alloc | apply Kd.R_drewN | apply Kd.R_drew)); exact HO144.out)); (case aS => exact (below_size (by repeat (first | exact HB.out | (with_reducible first | apply below_alloc | apply pw_below_drewN | apply below_drew1))))); (case aL => have := HL.out; simp only [List.length_nil, Nat.zero_add]; omega); intro v146 w10 ho hb hg hat; rw [List.nil_append] at ho; have n0_ := Aside0.mk hb; have n1_ := Aside0.mk ho; clear HB HO144; have HB := n0_; have HO147 := n1_; clear n0_ n1_; clear ho hb hg hat))
    go_ret
    exact ⟨_, rfl, HO147.out, HB.out⟩

set_option maxRecDepth 100000 in
set_option maxHeartbeats 4000000 in
theorem impl_IsInSpan.calls (k : Nat) (A0 : Option Addr) (c0 : Nat) (l0 : List (List Int)) (A1 : Option Addr) (c1 : Nat) (l1 : List Int) (r : Bool) (w : World) (hr0 : Kd.C (Kd.slice 3 (Kd.int .i64)) w A0 l0.length l0) (hc0 : l0.length ≤ c0) (hr1 : Kd.C (Kd.int .i64) w A1 l1.length l1) (hc1 : l1.length ≤ c1) (h : impl_IsInSpan.f k l0 l1 = some r) :
    Calls Try.prog 56 #[.slice A0 l0.length c0, .slice A1 l1.length c1] w fun e w' => e = .returned (.bool r) ∧ Below w.heap.size w w' := by
  unfold impl_IsInSpan.f at h
  obtain ⟨b1, h1, h⟩ := Option.bind_eq_some_iff.1 h
  have HM1 := Aside0.mk (fun (W : World) (hb : Below w.heap.size w W) => impl_IsMatrix.calls k A0 c0 l0 (l1.length : Int) b1 W (Kd.C_below hr0 hb) hc0 h1)
  cases b1 with
  | false =>
    rw [if_neg (by decide)] at h
    obtain rfl := Option.some.inj h
    clear h h1 hr0 hc0 hr1 hc1
    go_enter Try.func56, Try.ntmps56
    go_wp2_with (first | (go_at_call 33; (with_reducible refine (HM1.out _ ?m1).mono ?_); (case m1 => exact (by repeat (first | exact Below.refl _ _ | (with_reducible first | apply below_alloc | apply pw_below_drewN | apply below_drew1)))); rintro e w5 ⟨rfl, ⟨nd, rfl⟩⟩))
    go_ret
    exact ⟨rfl, (by repeat (first | exact Below.refl _ _ | (with_reducible first | apply below_alloc | apply pw_below_drewN | apply below_drew1)))⟩
  | true =>
    rw [if_pos rfl] at h
    obtain ⟨b2, h2, h⟩ := Option.bind_eq_some_iff.1 h
    have HM2 := Aside0.mk (fun (W : World) (A' : Option Addr) (c' : Nat) (hC : Kd.C (Kd.slice 3 (Kd.int .i64)) W A' 1 [l1]) (hc : 1 ≤ c') => (show Calls Try.prog 33 #[.slice A' 1 c', .int .i64 (l1.length : Int)] W fun e w' => e = .returned (.bool b2) ∧ Drawn0 W w' from impl_IsMatrix.calls k A' c' [l1] (l1.length : Int) b2 W hC hc h2))
    have HR1 := Aside0.mk hr1
    have HC1 := Aside0.mk hc1
    cases b2 with
    | false =>
      rw [if_neg (by decide)] at h
      obtain rfl := Option.some.inj h
      clear h h1 h2 hr0 hc0 hr1 hc1
      go_enter Try.func56, Try.ntmps56
      go_wp2_with (first | (go_at_call 33; (with_reducible refine (HM1.out _ ?m1).mono ?_); (case m1 => exact (by repeat (first | exact Below.refl _ _ | (with_reducible first | apply below_alloc | apply pw_below_drewN | apply below_drew1)))); rintro e w5 ⟨rfl, ⟨nd, rfl⟩⟩) | (go_at_call 33; (with_reducible refine (HM2.out _ _ _ ?m2 ?m3).mono ?_); (case m3 => exact Nat.le_refl 1); (case m2 => exact C_oneRow (c := c1) (by first | exact blk_new _ _ | exact blk_drew (blk_new _ _) | exact blk_drewN (blk_new _ _) _ | exact blk_alloc (blk_new _ _) _) HC1.out (Kd.C_below HR1.out (by repeat (first | exact Below.refl _ _ | (with_reducible first | apply below_alloc | apply pw_below_drewN | apply below_drew1))))); rintro e w6 ⟨rfl, ⟨nd2, rfl⟩⟩))
      go_ret
      exact ⟨rfl, (by repeat (first | exact Below.refl _ _ | (with_reducible first | apply below_alloc | apply pw_below_drewN | apply below_drew1)))⟩
    | true =>
      rw [if_pos rfl] at h
      obtain ⟨r0, h3, h⟩ := Option.bind_eq_some_iff.1 h
      by_cases hn : l0.length ≤ 1048576
      rotate_left
      · rw [if_neg hn] at h; cases h
      rw [if_pos hn] at h
      obtain ⟨r1, h4, h⟩ := Option.bind_eq_some_iff.1 h
      obtain rfl := Option.some.inj h
      obtain ⟨m2, hm2⟩ : ∃ m2, (l0 ++ [l1]).length = m2 := ⟨_, rfl⟩
      have HMM := Aside0.mk hm2
      have HX1 := Aside0.mk (fun (W : World) (hb : Below w.heap.size w W) => impl_reduceAny.calls k A0 c0 l0 (l1.length : Int) r0 W (Kd.C_below hr0 hb) hc0 h3)
      have HX2 := Aside0.mk (fun (W : World) (A' : Option Addr) (c' : Nat) (hC : Kd.C (Kd.slice 3 (Kd.int .i64)) W A' (l0 ++ [l1]).length (l0 ++ [l1])) (hc : m2 ≤ c') => (show Calls Try.prog 86 #[.slice A' m2 c', .int .i64 (l1.length : Int)] W _ from by
        have h_ := impl_reduceAny.calls k A' c' (l0 ++ [l1]) (l1.length : Int) r1 W hC (by rw [hm2]; exact hc) h4
        rw [hm2] at h_
        exact h_))
      have HCL := Aside0.mk (fun (W : World) (hb : Below w.heap.size w W) => cloneRows_calls A0 c0 l0 W (Kd.C_below hr0 hb) hc0 hn)
      have HN := Aside0.mk hn
      obtain ⟨n0, hn0⟩ : ∃ n0, r0.length = n0 := ⟨_, rfl⟩
      obtain ⟨n1, hn1⟩ : ∃ n1, r1.length = n1 := ⟨_, rfl⟩
      have HN0 := Aside0.mk hn0
      have HN1 := Aside0.mk hn1
      have HDEC := Aside0.mk (show decide (r0.length = r1.length) = decide (n0 = n1) by rw [hn0, hn1])
      rw [HDEC.out]
      have q1 : ((n0 : Int) == (n1 : Int)) = decide (n0 = n1) := by
        by_cases he : n0 = n1
        · subst he; simp
        · rw [decide_eq_false he]; exact beq_false_of_ne (by omega)
      have q2 : decide ((n0 : Int) = (n1 : Int)) = decide (n0 = n1) := by
        by_cases he : n0 = n1
        · subst he; simp
        · rw [decide_eq_false he]; exact decide_eq_false (by omega)
      clear h h1 h2 h3 h4 hr0 hc0 hr1 hc1 hn hm2 hn0 hn1
      go_enter Try.func56, Try.ntmps56
      have HB := Aside0.mk (Below.refl w.heap.size w)
      go_wp2_with (first | (go_at_call 33; (with_reducible refine (HM1.out _ ?m1).mono ?_); (case m1 => exact (by repeat (first | exact Below.refl _ _ | (with_reducible first | apply below_alloc | apply pw_below_drewN | apply below_drew1)))); rintro e w5 ⟨rfl, ⟨nd, rfl⟩⟩) | (go_at_call 33; (with_reducible refine (HM2.out _ _ _ ?m2 ?m3).mono ?_); (case m3 => exact Nat.le_refl 1); (case m2 => exact C_oneRow (c := c1) (by first | exact blk_new _ _ | exact blk_drew (blk_new _ _) | exact blk_drewN (blk_new _ _) _ | exact blk_alloc (blk_new _ _) _) HC1.out (Kd.C_below HR1.out (by repeat (first | exact Below.refl _ _ | (with_reducible first | apply below_alloc | apply pw_below_drewN | apply below_drew1))))); rintro e w6 ⟨rfl, ⟨nd2, rfl⟩⟩) | (go_at_call 86; (with_reducible refine (HX1.out _ ?m1).mono ?_); (case m1 => exact (by with_reducible repeat (first | exact Below.refl _ _ | apply below_alloc | apply pw_below_drewN | apply below_drew1))); rintro e w3 ⟨v21, rfl, ho3, hb3⟩; have HB3 := Aside0.mk (below_step (by with_reducible repeat (first | exact Below.refl _ _ | apply below_alloc | apply pw_below_drewN | apply below_drew1)) hb3 : Below w.heap.size w w3); obtain ⟨A3, c3, e3⟩ := Kd.S_slice ho3; rw [HN0.out] at e3; subst e3; clear ho3 hb3) | (go_at_call 87; (with_reducible refine (HCL.out _ ?m1).mono ?_); (case m1 => exact (by repeat (first | exact HB3.out | (with_reducible first | apply below_alloc | apply pw_below_drewN | apply below_drew1)))); rintro e w4 ⟨v24, rfl, ho4, hb4⟩; have HO4 := Aside0.mk ho4; have HB34 := Aside0.mk hb4; have HB4 := Aside0.mk (below_step (by repeat (first | exact HB3.out | (with_reducible first | apply below_alloc | apply pw_below_drewN | apply below_drew1))) hb4 : Below w.heap.size w w4); have HR3 := Aside0.mk (Kd.C_below HR1.out (by repeat (first | exact HB3.out | (with_reducible first | apply below_alloc | apply pw_below_drewN | apply below_drew1))) : Kd.C (Kd.int .i64) _ A1 l1.length l1); clear ho4 hb4) | ((with_reducible refine gate_builtin (b := .append) (xs := #[.tmp 24, .tmp 26]) rfl ?_); at_builtin; refine Kd.R_append (KW w3) (w0 := w3) w3.heap.size rfl (.tmp 24) (.tmp 26) 38 40 (.slice none 0 0) 24 rfl Try.underlying38 info40 rfl Nat.zero_lt_one (by omega) _ l0 l1 [.slice A1 l1.length c1] (fun _ => True) (fun _ => False) (by rfl) (by first | rfl | (simp [Act.eval]; done) | (go_simp; done)) ?aP (fun _ h => h.elim) (fun _ _ => trivial) ?aO ?aB ?aS ?aL ?_; (case aP => exact ⟨A1, c1, rfl, HC1.out, HR3.out⟩); (case aO => exact (by (with_reducible repeat (first | apply Kd.R_alloc | apply Kd.R_drewN | apply Kd.R_drew)); exact HO4.out)); (case aB => exact (by repeat (first | exact HB34.out | (with_reducible first | apply below_alloc | apply pw_below_drewN | apply below_drew1)))); (case aS => exact below_size (by repeat (first | exact HB34.out | (with_reducible first | apply below_alloc | apply pw_below_drewN | apply below_drew1)))); (case aL => have := HN.out; omega); intro v27 w7 ho7 hb7 hg7 hat7; have HB7 := Aside0.mk (below_step HB3.out hb7 : Below w.heap.size w w7); obtain ⟨A7, c7, e7⟩ := Kd.R_slice ho7; subst e7; have HK7 := Aside0.mk (KW_reads ho7 hb7); rw [HMM.out]; clear ho7 hb7 hg7 hat7) | (go_at_call 86; (with_reducible refine (HX2.out _ A7 c7 ?y1 ?y2).mono ?_); (case y1 => (with_reducible repeat (first | apply Kd.C_alloc | apply Kd.C_drewN | apply Kd.C_drew)); exact HK7.out.2.2); (case y2 => rw [← HMM.out]; exact HK7.out.2.1); rintro e w8 ⟨v29, rfl, ho8, hb8⟩; have HB8 := Aside0.mk (below_step (by repeat (first | exact HB7.out | (with_reducible first | apply below_alloc | apply pw_below_drewN | apply below_drew1))) hb8 : Below w.heap.size w w8); obtain ⟨A8, c8, e8⟩ := Kd.S_slice ho8; rw [HN1.out] at e8; subst e8; clear ho8 hb8))
      go_ret
      exact ⟨by first | rfl | (rw [q1]) | (rw [q2]) | (simp [q1, q2]; done), HB8.out⟩

end Go.Proofs.Ytabjcjieniokaaa.Z
