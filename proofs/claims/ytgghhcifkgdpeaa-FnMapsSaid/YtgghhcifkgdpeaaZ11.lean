-- Written by this session's wip/mp/mp.py out of the translation. Lean checks it.
import Derived.Test.YtgghhcifkgdpeaaZ0
import Derived.Test.YtgghhcifkgdpeaaZ5
import Derived.Test.YtgghhcifkgdpeaaZSortLk
namespace Go.Proofs.Ytgghhcifkgdpeaa.Z
open Go.RowKit Go.Proofs.YtgghhcifkgdpeaaW.PrintWords Go.Proofs.YtgghhcifkgdpeaaW.PrintLast Go.Proofs.YtgghhcifkgdpeaaW.PrintMore
attribute [local go_sem] max2_int min2_int max_two min_two max_three min_three max_four min_four   -- for this text's walks alone
set_option linter.unusedVariables false
set_option linter.unusedSimpArgs false

-- GIVEN
-- FUNCTION loop.example/g00958/impl.MapOf rounds
-- ALONE
-- EXTRA loop.example/g00958/impl.AreTraces
-- EXTRA loop.example/g00958/impl.steps
-- KIND 63
-- INFO 63
-- IMPORT Derived.Test.YtgghhcifkgdpeaaZSortLk
/-! ### impl_MapOf: function 27 -/
attribute [local go_sem] max2_int min2_int max_two min_two
def impl_MapOf.f (k : Nat) (l0 : List S61) : Option (List S63) := (impl_AreTraces.f k l0).bind fun b => if b = true then ((impl_steps.f k l0).bind fun s => if s.length ≤ 1048576 then some (Lib.compact (sortLk (s.map ordL))) else none) else some []
theorem impl_MapOf.mono : ∀ a0 k, LeO (impl_MapOf.f k a0) (impl_MapOf.f (k + 1) a0) := fun a0 k => LeO.bind (impl_AreTraces.mono a0 k) (fun _ => LeO.ite (LeO.bind (impl_steps.mono a0 k) (fun _ => LeO.refl _)) (LeO.refl _))

structure Hold (p : Prop) : Prop where
 out : p
theorem ord_set (s : List Lk0) (i : Nat) (h : i < s.length) : ((s.take i).map ordL ++ s.drop i).set i (ordL s[i]) = (s.take (i + 1)).map ordL ++ s.drop (i + 1) := by
 have hl : ((s.take i).map ordL).length = i := by simp; omega
 rw [List.set_append_right _ _ (by omega), hl, Nat.sub_self, List.drop_eq_getElem_cons h, List.set_cons_zero, List.take_succ_eq_append_getElem h, List.map_append, List.append_assoc]
 rfl
theorem ord_at (s : List Lk0) (i : Nat) (h : i < s.length) : ((s.take i).map ordL ++ s.drop i).getD i z63 = s[i] := by
 have hl : ((s.take i).map ordL).length = i := by simp; omega
 rw [List.getD_eq_getElem?_getD, List.getElem?_append_right (by omega), hl, Nat.sub_self, List.getElem?_drop, Nat.add_zero, List.getElem?_eq_getElem h]
 rfl

set_option maxRecDepth 100000 in
set_option maxHeartbeats 8000000 in
theorem impl_MapOf.calls (k : Nat) (A0 : Option Addr) (c0 : Nat) (l0 : List S61) (r : List S63) (w : World) (hr0 : Kd.C k61 w A0 l0.length l0) (hc0 : l0.length ≤ c0) (h : impl_MapOf.f k l0 = some r) :
  Calls Try.prog 27 #[.slice A0 l0.length c0] w fun e w' => ∃ v0_ : Value, e = .returned (v0_) ∧ Kd.R k63 63 w' w.heap.size (fun _ => True) v0_ r ∧ Below w.heap.size w w' := by
 have hu := Try.underlying63
 have hu2 := Try.underlying61
 obtain ⟨b, hb, h⟩ := Option.bind_eq_some_iff.1 h
 have HT := Aside0.mk (fun (W : World) (hb0 : Below w.heap.size w W) => impl_AreTraces.calls k A0 c0 l0 b W (Kd.C_below hr0 hb0) hc0 hb)
 cases b with
 | false =>
  rw [if_neg (by decide)] at h
  obtain rfl := Option.some.inj h
  clear h hb hr0 hc0
  go_enter Try.func27, Try.ntmps27
  go_wp2_with (go_at_call 34; refine (HT.out _ (Below.refl _ _)).mono ?_; rintro e w1 ⟨rfl, hb1⟩)
  go_ret
  exact ⟨_, rfl, Kd.R_nil _ _ _ _ _, hb1⟩
 | true =>
  rw [if_pos rfl] at h
  obtain ⟨s, hs, h⟩ := Option.bind_eq_some_iff.1 h
  by_cases hn : s.length ≤ 1048576
  rotate_left
  ·rw [if_neg hn] at h; cases h
  rw [if_pos hn] at h
  have HRR := Aside0.mk (Option.some.inj h)
  have HSC := Aside0.mk (fun (W : World) (hb0 : Below w.heap.size w W) => impl_steps.calls k A0 c0 l0 s W (Kd.C_below hr0 hb0) hc0 hs)
  have HN := Aside0.mk hn
  clear h hb hr0 hc0 hs hn
  by_cases hne : s = []
  ·subst hne
   have HZ := Aside0.mk (show r = [] by rw [← HRR.out]; unfold sortLk; rw [List.map_nil, List.mergeSort_nil]; rfl)
   clear HRR
   go_enter Try.func27, Try.ntmps27
   go_wp2_with (first | (go_at_call 34; refine (HT.out _ (Below.refl _ _)).mono ?_; rintro e w1 ⟨rfl, hb1⟩; have B1 := Aside0.mk hb1; clear hb1) | (go_at_call 67; refine (HSC.out _ B1.out).mono ?_; rintro e w2 ⟨v2, rfl, ho2, hb2⟩; have B2 := Aside0.mk (below_step B1.out hb2 : Below w.heap.size w w2); obtain ⟨A2, c2, e2⟩ := Kd.R_slice ho2; subst e2; have HO2 := Aside0.mk (Kd.R_lower ho2 B1.out.size); clear ho2 hb2))
   go_loopg [13] 1 (fun kq v13 wr => v13 = .int .i64 (0 : Int) ∧ wr = w2)
   case atStart => exact ⟨rfl, rfl⟩
   case round =>
    obtain ⟨rfl, rfl⟩ := hrel
    go_wp2_with (first | (go_at_call 68; refine (AnyF.slices_SortFunc_none Try.sortLk A2 c2 _ _).mono ?_; rintro e w' ⟨rfl, hw⟩; rw [hw]; clear hw) | (go_at_call 71; refine (compactLk_none A2 c2 _).mono ?_; rintro e w' ⟨rfl, hw⟩; rw [hw]; clear hw))
    go_ret
    exact ⟨_, rfl, by rw [HZ.out]; exact HO2.out, B2.out⟩
  ·obtain ⟨n, hsn⟩ : ∃ n, s.length = n := ⟨_, rfl⟩
   have HSN := Aside0.mk hsn
   have HNP := Aside0.mk (show 0 < n by have := List.length_pos_iff.2 hne; omega)
   clear hsn
   go_enter Try.func27, Try.ntmps27
   go_wp2_with (first | (go_at_call 34; refine (HT.out _ (Below.refl _ _)).mono ?_; rintro e w1 ⟨rfl, hb1⟩; have B1 := Aside0.mk hb1; clear hb1) | (go_at_call 67; refine (HSC.out _ B1.out).mono ?_; rintro e w2 ⟨v2, rfl, ho2, hb2⟩; have B2 := Aside0.mk (below_step B1.out hb2 : Below w.heap.size w w2); obtain ⟨g, cap, cur, hv2, hbg, hh, hnc, hcm, hcs, hrow⟩ := row2_open hne ho2; subst hv2; have HO2 := Aside0.mk (Kd.R_lower ho2 B1.out.size); rw [HSN.out] at HO2 ⊢; clear ho2 hb2 hh hnc hcm hcs hrow))
   go_loopg [13] (n + 1) (fun kq v13 wr => ∃ i : Nat, v13 = .int .i64 (i : Int) ∧ Aside0 (i ≤ n ∧ n + 1 ≤ i + kq) ∧ Aside0 (Kd.R k63 63 wr w.heap.size (fun _ => True) (.slice (some ⟨g, 0, none⟩) n cap) ((s.take i).map ordL ++ s.drop i)) ∧ Aside0 (Below w.heap.size w wr))
   case atStart => exact ⟨0, rfl, ⟨by omega⟩, ⟨by simpa using HO2.out⟩, B2⟩
   case round =>
    obtain ⟨i, rfl, HI, HR, HB⟩ := hrel
    cases gk with
    | zero => exact absurd HI.out (by omega)
    | succ k1 =>
     have HLL := Aside0.mk (show ((s.take i).map ordL ++ s.drop i).length = n by rw [List.length_append, List.length_map, List.length_take, List.length_drop, HSN.out]; have := HI.out; omega)
     by_cases hi : i < n
     ·have cb : decide ((i : Int) < (n : Int)) = true := decide_eq_true (by omega)
      have cb2 : decide (i < n) = true := decide_eq_true hi
      have his : i < s.length := by rw [HSN.out]; exact hi
      obtain ⟨ad, e1, q0, q1⟩ := at_T63 (Kd.R_reads' HR.out).2.2 (i : Int) (by omega) (by have := HLL.out; omega)
      cases e1
      have hx : rd_T63 ((s.take i).map ordL ++ s.drop i) (i : Int) = s[i] := by unfold rd_T63; rw [Int.toNat_natCast]; exact ord_at s i his
      have hset := ord_set s i his
      rw [hx] at q0 q1
      simp only [Int.toNat_natCast, add_off0] at q0 q1
      generalize s[i] = x at q0 q1 hset
      have HST := Aside0.mk hset
      have HW := Aside0.mk (show wrap64 ((i : Int) + 1) = ((i + 1 : Nat) : Int) by
       have := HN.out
       have := HSN.out
       rw [IntWalk.wrap64_in _ ⟨by omega, by omega⟩]
       omega)
      have hiz := eq_true (show (i : Int) < (n : Int) by omega)
      have hi0 := eq_true (show (0 : Int) ≤ (i : Int) by omega)
      have HL := Aside0.mk hi
      clear hx hset his hi
      obtain ⟨a, b⟩ := x
      simp only at q0 q1
      have HIN := Aside0.mk (show (i : Int) < (n : Int) by have := HL.out; omega)
      have HXC := Aside0.mk (fun (W : World) (hb : Below wr.heap.size wr W) (j : Nat) (z : Value) (hz : [Value.int .i64 a, Value.int .i64 b][j]? = some z) => (show W.cell? ⟨g, (i : Int).toNat * 2 + j, none⟩ = some z by
       rw [Int.toNat_natCast]
       match j, hz with
       | 0, hz => obtain rfl := Option.some.inj hz; exact pw_cell_below hb q0
       | 1, hz => obtain rfl := Option.some.inj hz; exact pw_cell_below hb q1
       | j + 2, hz => simp at hz))
      rcases Int.lt_trichotomy a b with hcmp | hcmp | hcmp
      ·skip
       have HOX := Aside0.mk (show ordL (⟨a, b⟩ : S63) = (⟨a, b⟩ : S63) by show (⟨min _ _, max _ _⟩ : S63) = _; congr 1 <;> (simp only; omega))
       have f1_ := eq_true (show a ≤ b by omega)
       have f2_ := eq_true (show a < b by omega)
       go_wp2_with (first | ((with_reducible refine gate_store (t := 63) (p := 31) rfl ?_); refine Kd.R_store k63 (w0 := w) w.heap.size (by rfl) (by rfl) 63 (.tmp 31) (.tmp 30) (by rfl) 63 (g := g) (n := n) (cap := cap) (i : Int) 0 ((s.take i).map ordL ++ s.drop i) (⟨a, b⟩ : S63) (.agg #[.int .i64 a, .int .i64 b]) [.int .i64 a, .int .i64 b] [.int .i64 a, .int .i64 b] (fun _ => True) (fun _ => False) (by rfl) (by rw [Int.toNat_natCast]; rfl) (by rfl) rfl lk_sz (fun q hq => by simp at hq; rcases hq with rfl | rfl <;> rfl) ?aO (by omega) HIN.out rfl ?aC (show 2 ≤ 2 from Nat.le_refl 2) (k63_mkM _ _ _ _) (fun _ h_ => h_.elim) ?aB ?_; (case aO => exact (by (with_reducible repeat (first | apply Kd.R_alloc | apply Kd.R_drewN | apply Kd.R_drew)); exact HR.out)); (case aB => exact (by repeat (first | exact HB.out | (with_reducible first | apply below_alloc | apply pw_below_drewN | apply below_drew1)))); (case aC => exact HXC.out _ (by repeat (first | exact Below.refl _ _ | (with_reducible first | apply below_alloc | apply pw_below_drewN | apply below_drew1)))); intro w5 ho5 hb5 hg5; rw [Int.toNat_natCast, ← HOX.out, HST.out] at ho5; have HR5 := Aside0.mk ho5; have HB5 := Aside0.mk hb5; clear ho5 hb5 hg5))
       go_roundg k1
       case measure => omega
       case rel => exact ⟨i + 1, by first | rw [HW.out] | rfl | simp, ⟨by have := HI.out; have := HL.out; omega⟩, HR5, HB5⟩
      ·subst hcmp
       have HOX := Aside0.mk (show ordL (⟨a, a⟩ : S63) = (⟨a, a⟩ : S63) by show (⟨min _ _, max _ _⟩ : S63) = _; congr 1 <;> (simp only; omega))
       go_wp2_with (first | ((with_reducible refine gate_store (t := 63) (p := 31) rfl ?_); refine Kd.R_store k63 (w0 := w) w.heap.size (by rfl) (by rfl) 63 (.tmp 31) (.tmp 30) (by rfl) 63 (g := g) (n := n) (cap := cap) (i : Int) 0 ((s.take i).map ordL ++ s.drop i) (⟨a, a⟩ : S63) (.agg #[.int .i64 a, .int .i64 a]) [.int .i64 a, .int .i64 a] [.int .i64 a, .int .i64 a] (fun _ => True) (fun _ => False) (by rfl) (by rw [Int.toNat_natCast]; rfl) (by rfl) rfl lk_sz (fun q hq => by simp at hq; rcases hq with rfl | rfl <;> rfl) ?aO (by omega) HIN.out rfl ?aC (show 2 ≤ 2 from Nat.le_refl 2) (k63_mkM _ _ _ _) (fun _ h_ => h_.elim) ?aB ?_; (case aO => exact (by (with_reducible repeat (first | apply Kd.R_alloc | apply Kd.R_drewN | apply Kd.R_drew)); exact HR.out)); (case aB => exact (by repeat (first | exact HB.out | (with_reducible first | apply below_alloc | apply pw_below_drewN | apply below_drew1)))); (case aC => exact HXC.out _ (by repeat (first | exact Below.refl _ _ | (with_reducible first | apply below_alloc | apply pw_below_drewN | apply below_drew1)))); intro w5 ho5 hb5 hg5; rw [Int.toNat_natCast, ← HOX.out, HST.out] at ho5; have HR5 := Aside0.mk ho5; have HB5 := Aside0.mk hb5; clear ho5 hb5 hg5))
       go_roundg k1
       case measure => omega
       case rel => exact ⟨i + 1, by first | rw [HW.out] | rfl | simp, ⟨by have := HI.out; have := HL.out; omega⟩, HR5, HB5⟩
      ·skip
       have HOX := Aside0.mk (show ordL (⟨a, b⟩ : S63) = (⟨b, a⟩ : S63) by show (⟨min _ _, max _ _⟩ : S63) = _; congr 1 <;> (simp only; omega))
       have f1_ := eq_false (show ¬ a ≤ b by omega)
       have f2_ := eq_false (show ¬ a < b by omega)
       go_wp2_with (first | ((with_reducible refine gate_store (t := 63) (p := 31) rfl ?_); refine Kd.R_store k63 (w0 := w) w.heap.size (by rfl) (by rfl) 63 (.tmp 31) (.tmp 30) (by rfl) 63 (g := g) (n := n) (cap := cap) (i : Int) 0 ((s.take i).map ordL ++ s.drop i) (⟨b, a⟩ : S63) (.agg #[.int .i64 b, .int .i64 a]) [.int .i64 b, .int .i64 a] [.int .i64 a, .int .i64 b] (fun _ => True) (fun _ => False) (by rfl) (by rw [Int.toNat_natCast]; rfl) (by rfl) rfl lk_sz (fun q hq => by simp at hq; rcases hq with rfl | rfl <;> rfl) ?aO (by omega) HIN.out rfl ?aC (show 2 ≤ 2 from Nat.le_refl 2) (k63_mkM _ _ _ _) (fun _ h_ => h_.elim) ?aB ?_; (case aO => exact (by (with_reducible repeat (first | apply Kd.R_alloc | apply Kd.R_drewN | apply Kd.R_drew)); exact HR.out)); (case aB => exact (by repeat (first | exact HB.out | (with_reducible first | apply below_alloc | apply pw_below_drewN | apply below_drew1)))); (case aC => exact HXC.out _ (by repeat (first | exact Below.refl _ _ | (with_reducible first | apply below_alloc | apply pw_below_drewN | apply below_drew1)))); intro w5 ho5 hb5 hg5; rw [Int.toNat_natCast, ← HOX.out, HST.out] at ho5; have HR5 := Aside0.mk ho5; have HB5 := Aside0.mk hb5; clear ho5 hb5 hg5))
       go_roundg k1
       case measure => omega
       case rel => exact ⟨i + 1, by first | rw [HW.out] | rfl | simp, ⟨by have := HI.out; have := HL.out; omega⟩, HR5, HB5⟩
     ·have e : i = n := by have := HI.out; omega
      subst e
      have cb : decide ((i : Int) < (i : Int)) = false := decide_eq_false (by omega)
      have hl := HR.out
      rw [List.take_of_length_le (by rw [HSN.out]; omega), List.drop_of_length_le (by rw [HSN.out]; omega), List.append_nil] at hl
      have hml : (s.map ordL).length = i := by rw [List.length_map]; exact HSN.out
      obtain ⟨g', cap', cur, hgv, hbg, hh, hnc, hcm, hcs, hrow⟩ := row2_open (l := s.map ordL) (by intro e; have := HNP.out; rw [e] at hml; simp at hml; omega) hl
      rw [hml] at hgv hnc
      cases hgv
      have hsl := sortLk_len (s.map ordL)
      have HSR := Aside0.mk (show Calls Try.prog 68 #[.slice (some ⟨g, 0, none⟩) i cap, .func (.func 69) #[] #[]] wr fun e w' => e = .returned (.tuple #[]) ∧ Kd.R k63 63 w' w.heap.size (fun _ => True) (.slice (some ⟨g, 0, none⟩) i cap) (sortLk (s.map ordL)) ∧ Below w.heap.size w w' by
       have h_ := sortLk_calls g cap cur (s.map ordL) wr hh (by omega) hcs hrow (by have := HN.out; have := HSN.out; omega)
       rw [hml] at h_
       refine h_.mono ?_
       rintro e w' ⟨rfl, ⟨cur', hh', hs', hr'⟩, hg'⟩
       have h2_ := row2_mk (l := sortLk (s.map ordL)) hbg hh' (by omega) hcm hs' hr'
       rw [hsl, hml] at h2_
       exact ⟨rfl, h2_, Below.grown HB.out hg' HB.out.size (fun k hk => by cases hk; omega)⟩)
      have HCO := Aside0.mk (fun (W : World) (ho : Kd.R k63 63 W w.heap.size (fun _ => True) (.slice (some ⟨g, 0, none⟩) i cap) (sortLk (s.map ordL))) (hb : Below w.heap.size w W) => (show Calls Try.prog 71 #[.slice (some ⟨g, 0, none⟩) i cap] W fun e w' => e = .returned (.slice (some ⟨g, 0, none⟩) r.length cap) ∧ Kd.R k63 63 w' w.heap.size (fun _ => True) (.slice (some ⟨g, 0, none⟩) r.length cap) r ∧ Below w.heap.size w w' by
       have h_ := compactLk_calls w g cap w.heap.size (sortLk (s.map ordL)) W (by rw [hsl, hml]; exact ho) (by have := HN.out; have := HSN.out; omega) hb
       rw [HRR.out, hsl, hml] at h_
       exact h_))
      clear hl hml hbg hh hnc hcm hcs hrow hsl
      go_wp2_with (first | (go_at_call 68; refine HSR.out.mono ?_; rintro e w6 ⟨rfl, ho6, hb6⟩; have HO6 := Aside0.mk ho6; have HB6 := Aside0.mk hb6; clear ho6 hb6) | (go_at_call 71; refine (HCO.out _ HO6.out HB6.out).mono ?_; rintro e w7 ⟨rfl, ho7, hb7⟩; have HO7 := Aside0.mk ho7; have HB7 := Aside0.mk hb7; clear ho7 hb7))
      go_ret
      exact ⟨_, rfl, HO7.out, HB7.out⟩

end Go.Proofs.Ytgghhcifkgdpeaa.Z
