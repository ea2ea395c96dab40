-- Written by this session's wip/mp/mp.py out of the translation. Lean checks it.
import Derived.Test.YtabjcjieniokaaaZ0
import Derived.Test.YtabjcjieniokaaaZ4
import Derived.Test.YtabjcjieniokaaaZ5
import Derived.Test.YtabjcjieniokaaaZ7
import Derived.Test.YtabjcjieniokaaaZReduce
import Derived.Test.YtabjcjieniokaaaZDelRow
import Derived.Test.YtabjcjieniokaaaZIdxRow
import Derived.Deep.RegionLaw
import Derived.StillTailTactics
namespace Go.Proofs.Ytabjcjieniokaaa.Z
open Go.RowKit Go.Proofs.YtabjcjieniokaaaW.PrintWords Go.Proofs.YtabjcjieniokaaaW.PrintLast Go.Proofs.YtabjcjieniokaaaW.PrintMore
attribute [local go_sem] max2_int min2_int max_two min_two max_three min_three max_four min_four   -- for this text's walks alone
set_option linter.unusedVariables false
set_option linter.unusedSimpArgs false

-- GIVEN
-- FUNCTION loop.example/g00958/impl.reduceAny rounds
-- ALONE
-- EXTRA loop.example/g00958/impl.lead
-- EXTRA loop.example/g00958/impl.tidy
-- EXTRA loop.example/g00958/impl.copyRows
-- INFO 3
-- INFO 40
-- IMPORT Derived.Test.YtabjcjieniokaaaZReduce
-- IMPORT Derived.Test.YtabjcjieniokaaaZDelRow
-- IMPORT Derived.Test.YtabjcjieniokaaaZIdxRow
-- IMPORT Derived.Deep.RegionLaw
-- IMPORT Derived.StillTailTactics
/-! ### impl_reduceAny: function 86 -/
def sameLen (m : List (List Int)) : Bool := m.all fun r => decide (r.length = (m.headD []).length)
def impl_reduceAny.f (k : Nat) (l0 : List (List Int)) (a1 : Int) : Option (List (List Int)) := (impl_copyRows.f k l0).bind fun r0 => (mapO (fun r => impl_tidy.f k r) r0).bind fun r1 => if (sameLen r1 && (decide (r1.length ≤ 4096) && (decide ((r1.headD []).length ≤ 4096) && (decide (0 ≤ a1 ∧ a1 ≤ 4096) && (r1.isEmpty || decide (a1.toNat ≤ (r1.headD []).length)))))) = true then colsO (fun r => impl_tidy.f k r) a1.toNat 0 (r1, []) else none
theorem impl_reduceAny.mono : ∀ a0 a1 k, LeO (impl_reduceAny.f k a0 a1) (impl_reduceAny.f (k + 1) a0 a1) := fun a0 _ k => LeO.bind (impl_copyRows.mono a0 k) (fun _ => LeO.bind (mapO_mono (fun r => impl_tidy.mono r k) _) (fun _ => LeO.ite (colsO_mono (fun r => impl_tidy.mono r k) _ _ _) (LeO.refl _)))

set_option maxRecDepth 100000 in
set_option maxHeartbeats 1000000 in
theorem impl_reduceAny.pred (c gc : Nat) (xs : List (List Int)) (w : World) (hc : w.heap[gc]? = some (.cells #[.int .i64 (c : Int)] 3 (0, 0))) : PredRow #[.pointer (some ⟨gc, 0, none⟩)] 106 (leadIs c) xs w := by
  intro y W A_ c_ _ hb hc_ hr_
  show Calls Try.prog 106 #[.slice A_ y.length c_, .pointer (some ⟨gc, 0, none⟩)] W fun e W' => e = .returned (.bool (leadIs c y)) ∧ Below W.heap.size W W'
  have hl := fun (W' : World) (h : Below W.heap.size W W') => impl_lead.calls A_ c_ y _ W' (Kd.C_below hr_ h) hc_ rfl
  have HC := Aside0.mk (blk_below hc hb)
  have qa : W.cell? ⟨gc, 0, none⟩ = some (.int .i64 (c : Int)) := (blk_cell HC.out 0).trans rfl
  unfold leadIs
  change ∀ W', Below W.heap.size W W' → Calls Try.prog 93 #[.slice A_ y.length c_] W' fun e w' => e = .returned (.int .i64 (firstAt (fun n => !decide (n = 0)) y)) ∧ Below W'.heap.size W' w' at hl
  generalize firstAt (fun n => !decide (n = 0)) y = q at hl ⊢
  have HL := Aside0.mk hl
  clear hl hr_ hc_ hc hb
  have e1 : (q == (c : Int)) = decide (q = (c : Int)) := by by_cases h : q = (c : Int) <;> simp [h]
  go_enter Try.func106, Try.ntmps106
  go_wp2
  go_region_held3 (fun w' => w'.cell? ⟨gc, 0, none⟩ = some (.int .i64 (c : Int))) (go_keep) (first | (go_at_call 93; (with_reducible refine (HL.out _ ?h1).mono ?_); (case h1 => exact (by repeat (first | exact Below.refl _ _ | (with_reducible first | apply below_alloc | apply pw_below_drewN | apply below_drew1)))); rintro e w5 ⟨rfl, hb5⟩; have HB5 := Aside0.mk (below_step (by repeat (first | exact Below.refl _ _ | (with_reducible first | apply below_alloc | apply pw_below_drewN | apply below_drew1))) hb5 : Below W.heap.size W w5); clear hb5; have r1 := pw_cell_below HB5.out qa) | fail)
  all_goals go_wp2
  all_goals go_ret
  all_goals exact ⟨by first | rfl | (rw [e1]), (by repeat (first | exact HB5.out | (with_reducible first | apply below_alloc | apply pw_below_drewN | apply below_drew1)))⟩

set_option maxRecDepth 100000 in
set_option maxHeartbeats 16000000 in
theorem impl_reduceAny.calls (k : Nat) (A0 : Option Addr) (c0 : Nat) (l0 : List (List Int)) (a1 : Int) (r : List (List Int)) (w : World) (hr0 : Kd.C (Kd.slice 3 (Kd.int .i64)) w A0 l0.length l0) (hc0 : l0.length ≤ c0) (h : impl_reduceAny.f k l0 a1 = some r) :
    Calls Try.prog 86 #[.slice A0 l0.length c0, .int .i64 a1] w fun e w' => ∃ v0_ : Value, e = .returned (v0_) ∧ Kd.S (Kd.slice 3 (Kd.int .i64)) 40 w' w.heap.size (fun _ => True) v0_ r ∧ Below w.heap.size w w' := by
  have eg : ∀ args w, (callFunc 106 args).run Try.prog w = .ok (.enter 106 args) w := enters_of Try.func106 (by kernel_rfl) rfl
  unfold impl_reduceAny.f at h
  obtain ⟨r0, hcp, h⟩ := Option.bind_eq_some_iff.1 h
  obtain ⟨r1, hmp, h⟩ := Option.bind_eq_some_iff.1 h
  by_cases hs : (sameLen r1 && (decide (r1.length ≤ 4096) && (decide ((r1.headD []).length ≤ 4096) && (decide (0 ≤ a1 ∧ a1 ≤ 4096) && (r1.isEmpty || decide (a1.toNat ≤ (r1.headD []).length)))))) = true
  rotate_left
  · rw [if_neg hs] at h; cases h
  rw [if_pos hs] at h
  simp only [Bool.and_eq_true, decide_eq_true_eq, Bool.or_eq_true] at hs
  obtain ⟨hs1, hs2, hs3, ⟨ha0, ha1⟩, hs5⟩ := hs
  obtain ⟨n1, rfl⟩ : ∃ n1 : Nat, a1 = (n1 : Int) := ⟨a1.toNat, by omega⟩
  rw [Int.toNat_natCast] at h hs5
  obtain ⟨N0, hN0⟩ : ∃ N0, (r1.headD []).length = N0 := ⟨_, rfl⟩
  rw [hN0] at hs3 hs5
  have HLEN := Aside0.mk (show ∀ x ∈ r1, x.length = N0 from fun x hx => by
    have := List.all_eq_true.1 hs1 x hx
    rw [decide_eq_true_eq] at this
    rw [this, hN0])
  have HBD := Aside0.mk (show r1.length ≤ 4096 ∧ N0 ≤ 4096 ∧ n1 ≤ 4096 ∧ (r1 = [] ∨ n1 ≤ N0) from ⟨hs2, hs3, by omega, hs5.elim (fun h => .inl (List.isEmpty_iff.1 h)) .inr⟩)
  have HCP := Aside0.mk (fun (W : World) (hb : Below w.heap.size w W) => impl_copyRows.calls k A0 c0 l0 r0 W (Kd.C_below hr0 hb) hc0 hcp)
  have HMP := Aside0.mk hmp
  have HE0 := Aside0.mk h
  obtain ⟨m0, hm0⟩ : ∃ m0, r0.length = m0 := ⟨_, rfl⟩
  have HM0 := Aside0.mk hm0
  have HM1 := Aside0.mk (show r1.length = m0 by rw [← hm0]; exact mapO_len hmp)
  clear hr0 hc0 h hcp hmp hs1 hs2 hs3 hs5 hN0 ha0 ha1 hm0
  go_enter Try.func86, Try.ntmps86
  go_wp2_with (first | (go_at_call 104; refine (HCP.out _ (by repeat (first | exact Below.refl _ _ | (with_reducible first | apply below_alloc | apply pw_below_drewN | apply below_drew1)))).mono ?_; rintro e w1 ⟨v5, rfl, ho1, hb1⟩; have B1 := Aside0.mk (below_step (by repeat (first | exact Below.refl _ _ | (with_reducible first | apply below_alloc | apply pw_below_drewN | apply below_drew1))) hb1 : Below w.heap.size w w1); have HO1 := Aside0.mk (Kd.S_lower ho1 (below_size (by repeat (first | exact Below.refl _ _ | (with_reducible first | apply below_alloc | apply pw_below_drewN | apply below_drew1))) : w.heap.size ≤ _)); obtain ⟨A5, c5, e5⟩ := Kd.S_slice HO1.out; rw [HM0.out] at e5; subst e5; clear ho1 hb1))
  go_loopg [22] (m0 + 1) (fun kq v22 wr => ∃ q : Nat, v22 = .int .i64 (q : Int) ∧ Aside0 (q ≤ m0 ∧ m0 + 1 ≤ q + kq) ∧ Aside0 (Kd.S KR 40 wr w.heap.size (fun _ => True) (.slice A5 m0 c5) (mixL r1 r0 q)) ∧ Aside0 (Below w.heap.size w wr))
  case atStart => exact ⟨0, rfl, ⟨by omega⟩, ⟨by rw [mixL_zero]; exact HO1.out⟩, ⟨B1.out⟩⟩
  case round =>
    obtain ⟨q, rfl, HI, HS, HB⟩ := hrel
    cases gk with
    | zero => exact absurd HI.out (by omega)
    | succ k1 =>
      by_cases hq : q < m0
      · have hqz := eq_true (show (q : Int) < (m0 : Int) by omega)
        have hq0 := eq_true (show (0 : Int) ≤ (q : Int) by omega)
        have cb : decide ((q : Int) < (m0 : Int)) = true := decide_eq_true (by omega)
        have cb2 : decide (q < m0) = true := decide_eq_true hq
        have HQ := Aside0.mk hq
        have HW := Aside0.mk (show wrap64 ((q : Int) + 1) = ((q + 1 : Nat) : Int) by
          have := HBD.out.1
          have := HM1.out
          rw [IntWalk.wrap64_in _ ⟨by omega, by omega⟩]
          omega)
        obtain ⟨g, rfl⟩ : ∃ g, A5 = some ⟨g, 0, none⟩ := by
          obtain ⟨g, cap, eo, _⟩ := Kd.S_form HS.out (by rw [mixL_len _ _ (by rw [HM1.out, HM0.out]) (by rw [HM0.out]; exact HI.out.1), HM0.out]; omega)
          injection eo with e1
          exact ⟨g, e1⟩
        obtain ⟨oki, cc, hcl, hM, hcell, hoki, hH⟩ := Kd.S_lend HS.out [] (q : Int) (by omega) (by omega)
        obtain ⟨vi, ecc, hR⟩ := hM
        subst ecc
        have hx := hcell 0 vi rfl
        rw [show KR.sz = 1 from rfl, Nat.mul_one, Nat.add_zero, Int.toNat_natCast] at hx
        rw [Int.toNat_natCast, mixL_at _ _ _ (by rw [HM1.out, HM0.out]) (by rw [HM0.out]; exact hq)] at hR
        have HT := Aside0.mk (show impl_tidy.f k (r0[q]'(by rw [HM0.out]; exact hq)) = some (r1[q]'(by rw [HM1.out]; exact hq)) from mapO_at HMP.out q _ _)
        have HSET := Aside0.mk (mixL_set r1 r0 (by rw [HM1.out, HM0.out]) (by rw [HM0.out]; exact hq))
        generalize r0[q]'(by rw [HM0.out]; exact hq) = row at HT hR
        generalize r1[q]'(by rw [HM1.out]; exact hq) = t at HT HSET
        have HRI := Aside0.mk hR
        have HH := Aside0.mk hH
        obtain ⟨Ai, ci, ei⟩ := Kd.R_slice hR
        subst ei
        clear hR hH hcell hcl hq hoki
        go_wp2_with (first | (go_at_call 105; (with_reducible refine (impl_tidy.calls k oki _ row t w _ ?side1 ?side2 HT.out).mono ?_); (case side1 => exact (by repeat (first | exact HB.out | (with_reducible first | apply below_alloc | apply pw_below_drewN | apply below_drew1)))); (case side2 => exact (by (with_reducible repeat (first | apply Kd.R_alloc | apply Kd.R_drewN | apply Kd.R_drew)); exact HRI.out)); rintro e w9 ⟨rfl, hy9, hb9, hk9⟩; have HS9 := Aside0.mk (show Kd.S KR 40 w9 w.heap.size (fun _ => True) (.slice (some ⟨g, 0, none⟩) m0 c5) (mixL r1 r0 (q + 1)) by have h_ := Kd.H_back (Kd.H_kept (by (with_reducible repeat (first | apply Kd.H_alloc | apply Kd.H_drewN | apply Kd.H_drew)); exact HH.out) hk9 (fun k_ _ hn_ => hn_)) (x' := t) (okp := oki) (show KR.M w9 w.heap.size oki t [.slice Ai row.length ci] from ⟨_, rfl, Kd.R_reok rfl hy9 (fun k_ e_ => HRI.out.1 k_ e_)⟩) (fun _ hk => hk); rw [Int.toNat_natCast, HSET.out] at h_; exact h_); have HB9 := Aside0.mk hb9; clear hb9 hk9 hy9))
        go_roundg k1
        case measure => omega
        case rel => exact ⟨q + 1, by first | rw [HW.out] | rfl | simp, ⟨by have := HI.out; have := HQ.out; omega⟩, HS9, HB9⟩
      · have cb : decide ((q : Int) < (m0 : Int)) = false := decide_eq_false (by omega)
        have cb2 : decide (q < m0) = false := decide_eq_false hq
        have e : q = m0 := by have := HI.out; omega
        subst e
        have HS0 := Aside0.mk (show Kd.S KR 40 wr w.heap.size (fun _ => True) (.slice A5 q c5) r1 by have h_ := HS.out; rwa [mixL_all _ _ HM1.out HM0.out] at h_)
        have HB0 := HB
        clear HS HB HI hq
        go_wp2
        go_loopg [5, 8, 30] (n1 + 1) (fun kq v5 v8 v30 wr => ∃ (c : Nat) (R O : List (List Int)) (okR okO : Nat → Prop), v30 = .int .i64 (c : Int) ∧ Aside0 (c ≤ n1 ∧ n1 + 1 ≤ c + kq) ∧ Aside0 (colsO (fun r => impl_tidy.f k r) (n1 - c) c (R, O) = some r) ∧ Aside0 ((∀ x ∈ R, x.length = N0) ∧ (∀ x ∈ O, x.length = N0) ∧ R.length ≤ 4096 ∧ O.length ≤ c ∧ (R = [] ∨ n1 ≤ N0)) ∧ Aside0 (∀ x, okR x → ¬ okO x) ∧ Aside0 (Kd.S KR 40 wr w.heap.size okR v5 R) ∧ Aside0 (Kd.S KR 40 wr w.heap.size okO v8 O) ∧ Aside0 (Below w.heap.size w wr))
        case atStart => exact ⟨0, r1, [], fun _ => True, fun _ => False, rfl, ⟨by omega⟩, HE0, ⟨HLEN.out, by simp, HBD.out.1, by simp, HBD.out.2.2.2⟩, ⟨fun _ _ h => h⟩, ⟨by (with_reducible repeat (first | apply Kd.S_alloc | apply Kd.S_drewN | apply Kd.S_drew)); exact HS0.out⟩, ⟨Kd.S_nil _ _ _ _ _⟩, ⟨(by repeat (first | exact HB0.out | (with_reducible first | apply below_alloc | apply pw_below_drewN | apply below_drew1)))⟩⟩
        case round =>
          obtain ⟨c, R, O, okR, okO, rfl, HI, HE, HLN, HDJ, HSx, HOx, HB⟩ := hrel
          cases gk with
          | zero => exact absurd HI.out (by omega)
          | succ k1 =>
            by_cases hi : c < n1
            · have HL := Aside0.mk hi
              have cb : decide ((c : Int) < (n1 : Int)) = true := decide_eq_true (by omega)
              have cb2 : decide (c < n1) = true := decide_eq_true hi
              obtain ⟨s', hs1, hs2⟩ := colsO_some (d := n1 - (c + 1)) (by rw [show n1 - (c + 1) + 1 = n1 - c by omega]; exact HE.out)
              have HW := Aside0.mk (show wrap64 ((c : Int) + 1) = ((c + 1 : Nat) : Int) by
                have := HBD.out
                rw [IntWalk.wrap64_in _ ⟨by omega, by omega⟩]
                omega)
              obtain ⟨A5, c5, e5⟩ := Kd.S_slice HSx.out
              subst e5
              obtain ⟨m8, hm8⟩ : ∃ m8, O.length = m8 := ⟨_, rfl⟩
              obtain ⟨A8, c8, e8⟩ := Kd.S_slice HOx.out
              rw [hm8] at e8
              subst e8
              have HM8 := Aside0.mk hm8
              clear hm8
              obtain ⟨ok5, ok8, h5lt, h8lt, hdj, hS, hO⟩ : ∃ ok5 ok8 : Nat → Prop, (∀ x, ok5 x → x < wr.heap.size) ∧ (∀ x, ok8 x → x < wr.heap.size) ∧ (∀ x, ok5 x → ¬ ok8 x) ∧ Kd.S KR 40 wr w.heap.size ok5 (.slice A5 R.length c5) R ∧ Kd.S KR 40 wr w.heap.size ok8 (.slice A8 m8 c8) O :=
                ⟨fun x => okR x ∧ x < wr.heap.size, fun x => okO x ∧ x < wr.heap.size, fun _ h => h.2, fun _ h => h.2, fun x h1 h2 => HDJ.out x h1.1 h2.1, Kd.S_mono (Kd.S_bound HSx.out) (fun x hx => ⟨hx.1, hx.2.2.1⟩), Kd.S_mono (Kd.S_bound HOx.out) (fun x hx => ⟨hx.1, hx.2.2.1⟩)⟩
              have HS := Aside0.mk hS
              have HO := Aside0.mk hO
              have H5L := Aside0.mk h5lt
              have H8L := Aside0.mk h8lt
              have HD := Aside0.mk hdj
              clear hS hO h5lt h8lt hdj HSx HOx HDJ HE
              have HIX := Aside0.mk (show ∀ (A : Option Addr) (cp : Nat) (W : World), Below wr.heap.size wr W → wr.heap.size < W.heap.size → W.heap[wr.heap.size]? = some (.cells #[.int .i64 (c : Int)] 3 (0, 0)) → Kd.C KR W A R.length R → Calls Try.prog 98 #[.slice A R.length cp, .func (.func 106) #[] #[.pointer (some ⟨wr.heap.size, 0, none⟩)]] W fun e w' => e = .returned (.int .i64 (firstAt (leadIs c) R)) ∧ Below W.heap.size W w' from
                fun A cp W _ _ hx hcc => idxRow A cp R W hcc (leadIs c) 106 #[.pointer (some ⟨wr.heap.size, 0, none⟩)] eg (impl_reduceAny.pred c wr.heap.size R W hx))
              have HE2 := Aside0.mk hs2
              have hcz := eq_true (show (c : Int) < (n1 : Int) by omega)
              have hc0 := eq_true (show (0 : Int) ≤ (c : Int) by omega)
              clear hi
              rcases colO_some hs1 with ⟨hq, rfl⟩ | ⟨kk, hq, hkl, R', O', hm1, hm2, rfl⟩
              · have d1 : decide (firstAt (leadIs c) R < 0) = true := decide_eq_true hq
                generalize firstAt (leadIs c) R = q at d1 HIX hq
                clear hs1 hs2 hq
                go_wp2_with (first | (go_at_call 98; refine (HIX.out A5 c5 _ ?x1 ?x2 ?x3 ?x4).mono ?_; (case x1 => first | exact (by repeat (first | exact Below.refl _ _ | (with_reducible first | apply below_alloc | apply pw_below_drewN | apply below_drew1))) | exact (by repeat (first | exact Below.refl _ _ | refine below_set ?_ (Nat.le_refl _) | (with_reducible first | apply below_alloc | apply pw_below_drewN | apply below_drew1)))); (case x2 => simp); (case x3 => exact blk_new _ _); (case x4 => exact (Kd.R_reads' (Kd.S_R (Kd.S_below HS.out (by repeat (first | exact Below.refl _ _ | refine below_set ?_ (Nat.le_refl _) | (with_reducible first | apply below_alloc | apply pw_below_drewN | apply below_drew1)))))).2.2); rintro e w2 ⟨rfl, hb2⟩; have B2 := Aside0.mk (below_step (by repeat (first | exact Below.refl _ _ | refine below_set ?_ (Nat.le_refl _) | (with_reducible first | apply below_alloc | apply pw_below_drewN | apply below_drew1))) hb2 : Below wr.heap.size wr w2); have HB2 := Aside0.mk (HB.out.trans (B2.out.mono HB.out.size)); have HS2 := Aside0.mk (Kd.S_below HS.out B2.out); have HO2 := Aside0.mk (Kd.S_below HO.out B2.out); have BC := Aside0.mk (blk_below (blk_new wr (.cells #[.int .i64 (c : Int)] 3 (0, 0))) hb2); clear hb2))
                go_roundg k1
                case measure => omega
                case rel => exact ⟨c + 1, R, O, ok5, ok8, by first | rw [HW.out] | rfl | simp, ⟨by have := HI.out; have := HL.out; omega⟩, HE2, ⟨by have h_ := HLN.out; exact ⟨h_.1, h_.2.1, h_.2.2.1, by omega, h_.2.2.2.2⟩⟩, HD, HS2, HO2, HB2⟩
              · clear hs1 hs2
                have d1 : decide ((kk : Int) < 0) = false := decide_eq_false (by omega)
                have HKN := Aside0.mk hkl
                have hkz := eq_true (show (kk : Int) < (R.length : Int) by omega)
                have hk0 := eq_true (show (0 : Int) ≤ (kk : Int) by omega)
                have HN1 := Aside0.mk (show n1 ≤ N0 from HLN.out.2.2.2.2.elim (fun e => by rw [e] at hkl; exact absurd hkl (Nat.not_lt_zero _)) id)
                rw [hq] at HIX
                clear hq
                obtain ⟨g, rfl⟩ : ∃ g, A5 = some ⟨g, 0, none⟩ := by
                  obtain ⟨g, cap, eo, _⟩ := Kd.S_form HS.out (by omega)
                  injection eo with e1
                  exact ⟨g, e1⟩
                have HCAP := Aside0.mk (Kd.S_reads' HS.out).2.1
                have HG5 := Aside0.mk (show ok5 g from (Kd.S_R HS.out).1 g (by simp [Value.ownBlock]))
                have HGB := Aside0.mk (show w.heap.size ≤ g from Kd.S_base HS.out g (by simp [Value.ownBlock]))
                clear hkl
                go_upto_region 13 with (first | (go_at_call 98; refine (HIX.out (some ⟨g, 0, none⟩) c5 _ ?x1 ?x2 ?x3 ?x4).mono ?_; (case x1 => first | exact (by repeat (first | exact Below.refl _ _ | (with_reducible first | apply below_alloc | apply pw_below_drewN | apply below_drew1))) | exact (by repeat (first | exact Below.refl _ _ | refine below_set ?_ (Nat.le_refl _) | (with_reducible first | apply below_alloc | apply pw_below_drewN | apply below_drew1)))); (case x2 => simp); (case x3 => exact blk_new _ _); (case x4 => exact (Kd.R_reads' (Kd.S_R (Kd.S_below HS.out (by repeat (first | exact Below.refl _ _ | refine below_set ?_ (Nat.le_refl _) | (with_reducible first | apply below_alloc | apply pw_below_drewN | apply below_drew1)))))).2.2); rintro e w2 ⟨rfl, hb2⟩; have B2 := Aside0.mk (below_step (by repeat (first | exact Below.refl _ _ | refine below_set ?_ (Nat.le_refl _) | (with_reducible first | apply below_alloc | apply pw_below_drewN | apply below_drew1))) hb2 : Below wr.heap.size wr w2); have HB2 := Aside0.mk (HB.out.trans (B2.out.mono HB.out.size)); have HS2 := Aside0.mk (Kd.S_below HS.out B2.out); have HO2 := Aside0.mk (Kd.S_below HO.out B2.out); have BC := Aside0.mk (blk_below (blk_new wr (.cells #[.int .i64 (c : Int)] 3 (0, 0))) hb2); clear hb2))
                obtain ⟨oki, cc, hcl, hM, hcell, hoki, hH⟩ := Kd.S_lend HS2.out [] (kk : Int) (by omega) (by have := HKN.out; omega)
                obtain ⟨pv, ecc, hR⟩ := hM
                subst ecc
                have hx := hcell 0 pv rfl
                rw [show KR.sz = 1 from rfl, Nat.mul_one, Nat.add_zero, Int.toNat_natCast] at hx
                rw [Int.toNat_natCast] at hR
                have HPL := Aside0.mk (show (R.getD kk []).length = N0 from HLN.out.1 _ (by rw [List.getD_eq_getElem?_getD, List.getElem?_eq_getElem HKN.out]; exact List.getElem_mem HKN.out))
                have HMA := Aside0.mk hm1
                have HMB := Aside0.mk hm2
                clear hm1 hm2
                generalize R.getD kk [] = p at hR HPL HMA HMB HE2
                obtain ⟨Ap, cp, ep⟩ := Kd.R_slice hR
                subst ep
                rw [HPL.out] at hR hx
                obtain ⟨gp, rfl⟩ : ∃ gp, Ap = some ⟨gp, 0, none⟩ := by
                  obtain ⟨gp, cap, eo, _⟩ := Kd.R_form hR (by have := HL.out; have := HN1.out; rw [HPL.out]; omega)
                  injection eo with e1
                  exact ⟨gp, e1⟩
                obtain ⟨m1, hm1⟩ : ∃ m1, R.length - 1 = m1 := ⟨_, rfl⟩
                have HL1 := Aside0.mk (show (R.eraseIdx kk).length = m1 by rw [List.length_eraseIdx, if_pos HKN.out]; exact hm1)
                have HM1b := Aside0.mk (show m1 ≤ 4096 by have := HLN.out.2.2.1; omega)
                have HWK := Aside0.mk (show wrap64 ((kk : Int) + 1) = ((kk + 1 : Nat) : Int) by
                  have := HLN.out.2.2.1
                  have := HKN.out
                  rw [IntWalk.wrap64_in _ ⟨by omega, by omega⟩]
                  omega)
                have HDEL := Aside0.mk (show Calls Try.prog 107 #[.slice (some ⟨g, 0, none⟩) R.length c5, .int .i64 (kk : Int), .int .i64 (wrap64 ((kk : Int) + 1))] w2 fun e w' => e = .returned (.slice (some ⟨g, 0, none⟩) m1 c5) ∧ Kd.S KR 40 w' w.heap.size (fun b => ok5 b ∧ ¬ oki b) (.slice (some ⟨g, 0, none⟩) m1 c5) (R.eraseIdx kk) ∧ Below w.heap.size w w' ∧ Kept w2 w' (fun b => b = g) by
                  rw [HWK.out, ← hm1]
                  exact deleteRow_calls w w.heap.size g R.length c5 kk ok5 oki R _ w2 hH HKN.out HCAP.out (by have := HLN.out.2.2.1; omega) HB2.out HGB.out (Nat.lt_of_lt_of_le (H5L.out g HG5.out) B2.out.size))
                have HPI := Aside0.mk hR
                have HOK := Aside0.mk hoki
                clear hR hH hcell hcl hm1 hoki
                go_upto_region 15 with (first | (go_at_call 107; refine HDEL.out.mono ?_; rintro e w3 ⟨rfl, hs3, hb3, hk3⟩; have HS3 := Aside0.mk hs3; have HB3 := Aside0.mk hb3; have HK3 := Aside0.mk hk3; clear hs3 hb3 hk3))
                obtain ⟨okA, hAs, hA⟩ : ∃ okA : Nat → Prop, (∀ x, okA x → ok5 x ∧ ¬ oki x) ∧ Kd.S KR 40 w3 w.heap.size okA (.slice (some ⟨g, 0, none⟩) m1 c5) (R.eraseIdx kk) := ⟨_, fun _ h => h, HS3.out⟩
                have HAS := Aside0.mk hAs
                have HA := Aside0.mk hA
                have HO3 := Aside0.mk (Kd.S_kept HO2.out HK3.out (fun x hx e => HD.out g HG5.out (e ▸ hx)))
                have HPIV := Aside0.mk (show ∀ W, Kept w3 W (fun x => okA x ∨ ok8 x) → Kd.R (Kd.int .i64) 3 W w.heap.size oki (.slice (some ⟨gp, 0, none⟩) N0 cp) p from fun W hk =>
                  Kd.R_kept (Kd.R_kept HPI.out HK3.out (fun x hx e => (HOK.out x hx).2 e)) hk (fun x hx h => h.elim (fun h => (HAS.out x h).2 hx) (fun h => HD.out x (HOK.out x hx).1 h)))
                have HCEL := Aside0.mk (show ∀ W, Kept w3 W (fun x => okA x ∨ ok8 x) → W.cell? ⟨wr.heap.size, 0, none⟩ = some (.int .i64 (c : Int)) from fun W hk => by
                  have h1 : wr.heap.size < w2.heap.size := blk_lt BC.out
                  have h2 := HK3.out.2 wr.heap.size h1 (fun e => by have := H5L.out g HG5.out; omega)
                  have h3 := hk.2 wr.heap.size (Nat.lt_of_lt_of_le h1 HK3.out.1) (fun h => h.elim (fun h => by have := H5L.out _ (HAS.out _ h).1; omega) (fun h => by have := H8L.out _ h; omega))
                  exact (blk_cell (by rw [h3, h2]; exact BC.out : W.heap[wr.heap.size]? = some (.cells #[.int .i64 (c : Int)] 3 (0, 0))) 0).trans rfl)
                have HA8 := Aside0.mk (show ∀ x, okA x → ¬ ok8 x from fun x h => HD.out x (HAS.out x h).1)
                have HLR := Aside0.mk (show ∀ x ∈ R.eraseIdx kk, x.length = N0 from fun x hx => HLN.out.1 x (mem_erase hx))
                have HLR' := Aside0.mk (show ∀ x ∈ R', x.length = N0 from clr_all HMA.out HLR.out)
                have HLO' := Aside0.mk (show ∀ x ∈ O', x.length = N0 from clr_all HMB.out HLN.out.2.1)
                have HNR := Aside0.mk (show R'.length = m1 from (mapO_len HMA.out).trans HL1.out)
                generalize R.eraseIdx kk = L1 at HMA HLR HL1 HA
                have HNO := Aside0.mk (show O'.length = m8 from (mapO_len HMB.out).trans HM8.out)
                have HM8b := Aside0.mk (show m8 ≤ 4096 by have := HM8.out; have := HLN.out.2.2.2.1; have := HBD.out; have := HL.out; omega)
                have HCN := Aside0.mk (show c < N0 by have := HL.out; have := HN1.out; omega)
                have hcn := eq_true (show (c : Int) < (N0 : Int) by have := HCN.out; omega)
                have ix0 : ∀ W : World, (Instr.index 112 (.agg #[.slice (some ⟨g, 0, none⟩) m1 c5, .slice A8 m8 c8]) (.int .i64 0)).run Try.prog W = .ok (.slice (some ⟨g, 0, none⟩) m1 c5) W := fun _ => by kernel_rfl
                have ix1 : ∀ W : World, (Instr.index 112 (.agg #[.slice (some ⟨g, 0, none⟩) m1 c5, .slice A8 m8 c8]) (.int .i64 1)).run Try.prog W = .ok (.slice A8 m8 c8) W := fun _ => by kernel_rfl
                clear hA hAs HS HS2 HO HO2 HS3 HDEL hx hkz hk0 d1 HIX hcz
                go_wp2
                go_loopg [50] 3 (fun kq v50 wx => ∃ (X Y : List (List Int)), ((v50 = .int .i64 0 ∧ 3 ≤ kq ∧ X = L1 ∧ Y = O) ∨ (v50 = .int .i64 1 ∧ 2 ≤ kq ∧ X = R' ∧ Y = O) ∨ (v50 = .int .i64 2 ∧ 1 ≤ kq ∧ X = R' ∧ Y = O')) ∧ Aside0 (Kd.S KR 40 wx w.heap.size okA (.slice (some ⟨g, 0, none⟩) m1 c5) X) ∧ Aside0 (Kd.S KR 40 wx w.heap.size ok8 (.slice A8 m8 c8) Y) ∧ Aside0 (Kept w3 wx (fun x => okA x ∨ ok8 x)) ∧ Aside0 (Below w.heap.size w wx))
                case atStart => exact ⟨L1, O, .inl ⟨rfl, Nat.le_refl _, rfl, rfl⟩, HA, HO3, ⟨Kept.refl _ _⟩, HB3⟩
                case round =>
                  obtain ⟨X, Y, hcs, HX, HY, HK, HBx⟩ := hrel
                  clear HA HO3 HB3
                  rcases hcs with ⟨rfl, hg2, rfl, rfl⟩ | ⟨rfl, hg2, rfl, rfl⟩ | ⟨rfl, hg2, rfl, rfl⟩
                  · obtain ⟨k2, rfl⟩ : ∃ k2, gk = k2 + 1 := ⟨gk - 1, by omega⟩
                    go_wp2
                    go_loopg [55] (m1 + 1) (fun kq v55 wy => ∃ q : Nat, v55 = .int .i64 (q : Int) ∧ Aside0 (q ≤ m1 ∧ m1 + 1 ≤ q + kq) ∧ Aside0 (Kd.S KR 40 wy w.heap.size okA (.slice (some ⟨g, 0, none⟩) m1 c5) (mixL R' X q)) ∧ Aside0 (Kept wr wy okA) ∧ Aside0 (Below w.heap.size w wy))
                    case atStart => exact ⟨0, rfl, ⟨by omega⟩, ⟨by rw [mixL_zero]; exact HX.out⟩, ⟨Kept.refl _ _⟩, HBx⟩
                    case round =>
                      obtain ⟨q, rfl, HIq, HM, HKX, HBy⟩ := hrel
                      cases gk with
                      | zero => exact absurd HIq.out (by omega)
                      | succ k3 =>
                        by_cases hq : q < m1
                        · have hqz := eq_true (show (q : Int) < (m1 : Int) by omega)
                          have hq0 := eq_true (show (0 : Int) ≤ (q : Int) by omega)
                          have cq : decide ((q : Int) < (m1 : Int)) = true := decide_eq_true (by omega)
                          have cq2 : decide (q < m1) = true := decide_eq_true hq
                          have HQ := Aside0.mk hq
                          have HWQ := Aside0.mk (show wrap64 ((q : Int) + 1) = ((q + 1 : Nat) : Int) by
                            have := HM1b.out
                            rw [IntWalk.wrap64_in _ ⟨by omega, by omega⟩]
                            omega)
                          have hll : R'.length = X.length := by rw [HNR.out, HL1.out]
                          have hqL : q < X.length := by rw [HL1.out]; exact hq
                          skip
                          obtain ⟨oki3, cc, hcl, hM, hcell, hoki3, hH⟩ := Kd.S_lend HM.out [] (q : Int) (by omega) (by omega)
                          obtain ⟨vi, ecc, hR⟩ := hM
                          subst ecc
                          have hx := hcell 0 vi rfl
                          rw [show KR.sz = 1 from rfl, Nat.mul_one, Nat.add_zero, Int.toNat_natCast] at hx
                          rw [Int.toNat_natCast, mixL_at _ _ _ hll hqL] at hR
                          have hcl2 := mapO_at HMA.out q hqL (by rw [hll]; exact hqL)
                          have HRL := Aside0.mk (show (X[q]'hqL).length = N0 from HLR.out _ (List.getElem_mem hqL))
                          have HSET := Aside0.mk (mixL_set R' X hll hqL)
                          have HSAME := Aside0.mk (mixL_same R' X hll hqL)
                          generalize X[q]'hqL = row at hR hcl2 HRL HSAME
                          generalize R'[q]'(by rw [hll]; exact hqL) = t at hcl2 HSET HSAME
                          have HRI := Aside0.mk hR
                          have HH := Aside0.mk hH
                          have HOK3 := Aside0.mk hoki3
                          obtain ⟨Ai, ci, ei⟩ := Kd.R_slice hR
                          subst ei
                          rw [HRL.out] at HRI hx hR HH
                          obtain ⟨gi, rfl⟩ : ∃ gi, Ai = some ⟨gi, 0, none⟩ := by
                            obtain ⟨gi, cap, eo, _⟩ := Kd.R_form hR (by rw [HRL.out]; have := HCN.out; omega)
                            injection eo with e1
                            exact ⟨gi, e1⟩
                          have HKy := Aside0.mk (HK.out.then_ HKX.out (fun x hx => .inl (.inl hx)))
                          have hcell9 := HCEL.out _ HKy.out
                          obtain ⟨ad, ead, hrc⟩ := at_int (Kd.R_reads' HRI.out).2.2 (c : Int) (by omega) (by rw [HRL.out]; have := HCN.out; omega)
                          cases ead
                          rw [add_offR, show rd row (c : Int) = row.getD c 0 by unfold rd; rw [Int.toNat_natCast], Int.toNat_natCast] at hrc
                          have HCS := Aside0.mk (clrO_some hcl2)
                          rw [show rd row (c : Int) = row.getD c 0 by unfold rd; rw [Int.toNat_natCast]] at HCS
                          obtain ⟨f, hf⟩ : ∃ f, row.getD c 0 = f := ⟨_, rfl⟩
                          rw [hf] at hrc HCS
                          have HF := Aside0.mk hf
                          clear hR hH hcell hcl hq hoki3 hll hqL hcl2 hf
                          rcases HCS.out with ⟨hf0, ht0⟩ | ⟨hf0, ht0, ht1⟩
                          · have f1 : decide (f = 0) = true := decide_eq_true hf0
                            have f2 : (f == 0) = true := beq_iff_eq.2 hf0
                            have HEQ := Aside0.mk (HSAME.out ht0)
                            clear HCS hf0 ht0
                            go_wp2
                            go_roundg k3
                            case measure => omega
                            case rel => exact ⟨q + 1, by first | rw [HWQ.out] | rfl | simp, ⟨by have := HIq.out; have := HQ.out; omega⟩, ⟨by rw [HEQ.out]; exact HM.out⟩, HKX, HBy⟩
                          · have f1 : decide (f = 0) = false := decide_eq_false hf0
                            have f2 : (f == 0) = false := beq_false_of_ne hf0
                            have HT := Aside0.mk (show impl_tidy.f k (elimRow p c row) = some t from ht0)
                            have HT1 := Aside0.mk ht1
                            clear HCS hf0 ht0 ht1 HSAME
                            go_wp2
                            go_loopg [67] (N0 + 1) (fun kq v67 wz => ∃ i : Nat, v67 = .int .i64 (i : Int) ∧ Aside0 (i ≤ N0 ∧ N0 + 1 ≤ i + kq) ∧ Aside0 (Kd.R (Kd.int .i64) 3 wz w.heap.size oki3 (.slice (some ⟨gi, 0, none⟩) N0 ci) (elimTo p c row i)) ∧ Aside0 (Kept wr wz oki3) ∧ Aside0 (Below w.heap.size w wz))
                            case atStart => exact ⟨0, rfl, ⟨by omega⟩, ⟨by rw [elimTo_zero]; exact HRI.out⟩, ⟨Kept.refl _ _⟩, HBy⟩
                            case round =>
                              obtain ⟨i, rfl, HIi, HRz, HKz, HBz⟩ := hrel
                              cases gk with
                              | zero => exact absurd HIi.out (by omega)
                              | succ k4 =>
                                by_cases hi : i < N0
                                · have hiz := eq_true (show (i : Int) < (N0 : Int) by omega)
                                  have hi0 := eq_true (show (0 : Int) ≤ (i : Int) by omega)
                                  have ci1 : decide ((i : Int) < (N0 : Int)) = true := decide_eq_true (by omega)
                                  have ci2 : decide (i < N0) = true := decide_eq_true hi
                                  have HIL := Aside0.mk hi
                                  have HWI := Aside0.mk (show wrap64 ((i : Int) + 1) = ((i + 1 : Nat) : Int) by
                                    have := HBD.out
                                    rw [IntWalk.wrap64_in _ ⟨by omega, by omega⟩]
                                    omega)
                                  have HKw := Aside0.mk (HKy.out.then_ HKz.out (fun x hx => .inl (.inl (HOK3.out x hx).1)))
                                  have hcellz := HCEL.out _ HKw.out
                                  have hle : (elimTo p c row i).length = N0 := by rw [elimTo_len _ _ _ _ (by rw [HRL.out]; omega), HRL.out]
                                  have rdN : ∀ (xs : List Int) (j : Nat), rd xs (j : Int) = xs.getD j 0 := fun xs j => by unfold rd; rw [Int.toNat_natCast]
                                  obtain ⟨ad1, e1, hr1⟩ := at_int (Kd.R_reads' HRz.out).2.2 (i : Int) (by omega) (by rw [hle]; omega)
                                  cases e1
                                  rw [add_offR, rdN, Int.toNat_natCast, elimTo_at] at hr1
                                  have hfr := (Kd.R_celln 0 HRz.out (i : Int) (by omega) (by omega)).2
                                  rw [Int.toNat_natCast] at hfr
                                  obtain ⟨ad2, e2, hr2⟩ := at_int (Kd.R_reads' (HPIV.out _ HKw.out)).2.2 (c : Int) (by omega) (by rw [HPL.out]; have := HCN.out; omega)
                                  cases e2
                                  rw [add_offR, rdN, Int.toNat_natCast] at hr2
                                  obtain ⟨ad3, e3, hr3⟩ := at_int (Kd.R_reads' (HPIV.out _ HKw.out)).2.2 (i : Int) (by omega) (by rw [HPL.out]; omega)
                                  cases e3
                                  rw [add_offR, rdN, Int.toNat_natCast] at hr3
                                  have HPUT := Aside0.mk (show ∀ W : World, W.heap = wr.heap → Kd.R (Kd.int .i64) 3 (W.setCell ⟨gi, i, none⟩ (.int .i64 (wrap64 (wrap64 (row.getD i 0 * p.getD c 0) - wrap64 (p.getD i 0 * f))))) w.heap.size oki3 (.slice (some ⟨gi, 0, none⟩) N0 ci) (elimTo p c row (i + 1)) from fun W hW => by
                                    have h1 := Kd.R_putn (Kd.R_move HRz.out (fun x _ => by rw [hW]) : Kd.R (Kd.int .i64) 3 W w.heap.size oki3 (.slice (some ⟨gi, 0, none⟩) N0 ci) (elimTo p c row i)) (i : Int) (wrap64 (wrap64 (row.getD i 0 * p.getD c 0) - wrap64 (p.getD i 0 * f)))
                                    rw [Int.toNat_natCast, ← HF.out] at h1
                                    rw [← HF.out, ← elimTo_set p c row i (by rw [HRL.out]; exact hi)]
                                    exact h1)
                                  have HGI := Aside0.mk (show oki3 gi from HRz.out.1 gi (by simp [Value.ownBlock]))
                                  have HGIB := Aside0.mk (show w.heap.size ≤ gi from Kd.R_base HRz.out gi (by simp [Value.ownBlock]))
                                  clear hle hi rdN
                                  go_upto_region 26 with (fail)
                                  go_still_tail 19, (by kernel_rfl)
                                  change wpList _ _ _ _ _ wr.drew
                                  have HKd := Aside0.mk (Kept.drew HKz.out)
                                  have HBd := Aside0.mk (show Below w.heap.size w wr.drew from (by repeat (first | exact HBz.out | (with_reducible first | apply below_alloc | apply pw_below_drewN | apply below_drew1))))
                                  obtain ⟨w7, hw7⟩ : ∃ w7, wr.drew = w7 := ⟨_, rfl⟩
                                  have HH7 := Aside0.mk (show w7.heap = wr.heap by rw [← hw7]; rfl)
                                  have gr0 : w7.cell? ⟨gi, i, none⟩ = some (.int .i64 (row.getD i 0)) := by rw [← hw7]; exact hr1
                                  have gr1 : w7.frozen? ⟨gi, i, none⟩ = false := by rw [← hw7]; exact hfr
                                  have gr2 : w7.cell? ⟨gp, c, none⟩ = some (.int .i64 (p.getD c 0)) := by rw [← hw7]; exact hr2
                                  have gr3 : w7.cell? ⟨gp, i, none⟩ = some (.int .i64 (p.getD i 0)) := by rw [← hw7]; exact hr3
                                  have gr4 := (show wr.drew.cell? _ = _ from hcellz)
                                  rw [hw7] at HKd HBd gr4
                                  rw [hw7]
                                  clear hr1 hfr hr2 hr3 hcellz hw7
                                  go_wp2
                                  go_roundg k4
                                  case measure => omega
                                  case rel => exact ⟨i + 1, by first | rw [HWI.out] | rfl | simp, ⟨by have := HIi.out; have := HIL.out; omega⟩, ⟨HPUT.out w7 HH7.out⟩, ⟨Kept.setCell HKd.out (.inl HGI.out) _⟩, ⟨Below.setCell HBd.out HGIB.out _⟩⟩
                                · have ci1 : decide ((i : Int) < (N0 : Int)) = false := decide_eq_false (by omega)
                                  have ci2 : decide (i < N0) = false := decide_eq_false hi
                                  have hiN : i = row.length := by rw [HRL.out]; have := HIi.out; omega
                                  have HRE := Aside0.mk (show Kd.R (Kd.int .i64) 3 wr w.heap.size oki3 (.slice (some ⟨gi, 0, none⟩) N0 ci) (elimRow p c row) by have h_ := HRz.out; rw [hiN, elimTo_all] at h_; exact h_)
                                  have HKz2 := HKz
                                  clear hiN hi HRz HKz
                                  go_wp2_with (first | (go_at_call 105; (with_reducible refine (impl_tidy.calls k oki3 _ (elimRow p c row) t w _ ?side1 ?side2 HT.out).mono ?_); (case side1 => exact (by repeat (first | exact HBz.out | (with_reducible first | apply below_alloc | apply pw_below_drewN | apply below_drew1)))); (case side2 => exact (by (with_reducible repeat (first | apply Kd.R_alloc | apply Kd.R_drewN | apply Kd.R_drew)); exact HRE.out)); rintro e w9 ⟨rfl, hy9, hb9, hk9⟩; have HS9 := Aside0.mk (show Kd.S KR 40 w9 w.heap.size okA (.slice (some ⟨g, 0, none⟩) m1 c5) (mixL R' X (q + 1)) by have h_ := Kd.H_back (Kd.H_kept (Kd.H_kept HH.out HKz2.out (fun k_ _ hn_ => hn_)) hk9 (fun k_ _ hn_ => hn_)) (x' := t) (okp := oki3) (show KR.M w9 w.heap.size oki3 t [.slice (some ⟨gi, 0, none⟩) N0 ci] from ⟨_, rfl, Kd.R_reok rfl hy9 (fun k_ e_ => HRE.out.1 k_ e_)⟩) (fun _ hk => hk); rw [Int.toNat_natCast, HSET.out] at h_; exact h_); have HB9 := Aside0.mk hb9; have HK9 := Aside0.mk ((HKX.out.then_ HKz2.out (fun x hx => .inl (HOK3.out x hx).1)).then_ hk9 (fun x hx => .inl (HOK3.out x hx).1)); clear hb9 hk9 hy9))
                                  go_roundg k3
                                  case measure => omega
                                  case rel => exact ⟨q + 1, by first | rw [HWQ.out] | rfl | simp, ⟨by have := HIq.out; have := HQ.out; omega⟩, HS9, HK9, HB9⟩
                        · have cq : decide ((q : Int) < (m1 : Int)) = false := decide_eq_false (by omega)
                          have cq2 : decide (q < m1) = false := decide_eq_false hq
                          have hqm : q = m1 := by have := HIq.out; omega
                          have HXE := Aside0.mk (show Kd.S KR 40 wr w.heap.size okA (.slice (some ⟨g, 0, none⟩) m1 c5) R' by have h_ := HM.out; rw [hqm, mixL_all _ _ HNR.out HL1.out] at h_; exact h_)
                          have HKE := Aside0.mk (HK.out.then_ HKX.out (fun x hx => .inl (.inl hx)))
                          have HOE := Aside0.mk (Kd.S_kept HY.out HKX.out (fun x hx h => HA8.out x h hx))
                          clear hqm hq HM
                          go_wp2
                          go_roundg k2
                          case measure => omega
                          case rel => exact ⟨R', Y, .inr (.inl ⟨by first | rfl | simp, by omega, rfl, rfl⟩), HXE, HOE, HKE, HBy⟩
                  · obtain ⟨k2, rfl⟩ : ∃ k2, gk = k2 + 1 := ⟨gk - 1, by omega⟩
                    go_wp2
                    go_loopg [55] (m8 + 1) (fun kq v55 wy => ∃ q : Nat, v55 = .int .i64 (q : Int) ∧ Aside0 (q ≤ m8 ∧ m8 + 1 ≤ q + kq) ∧ Aside0 (Kd.S KR 40 wy w.heap.size ok8 (.slice A8 m8 c8) (mixL O' Y q)) ∧ Aside0 (Kept wr wy ok8) ∧ Aside0 (Below w.heap.size w wy))
                    case atStart => exact ⟨0, rfl, ⟨by omega⟩, ⟨by rw [mixL_zero]; exact HY.out⟩, ⟨Kept.refl _ _⟩, HBx⟩
                    case round =>
                      obtain ⟨q, rfl, HIq, HM, HKX, HBy⟩ := hrel
                      cases gk with
                      | zero => exact absurd HIq.out (by omega)
                      | succ k3 =>
                        by_cases hq : q < m8
                        · have hqz := eq_true (show (q : Int) < (m8 : Int) by omega)
                          have hq0 := eq_true (show (0 : Int) ≤ (q : Int) by omega)
                          have cq : decide ((q : Int) < (m8 : Int)) = true := decide_eq_true (by omega)
                          have cq2 : decide (q < m8) = true := decide_eq_true hq
                          have HQ := Aside0.mk hq
                          have HWQ := Aside0.mk (show wrap64 ((q : Int) + 1) = ((q + 1 : Nat) : Int) by
                            have := HM8b.out
                            rw [IntWalk.wrap64_in _ ⟨by omega, by omega⟩]
                            omega)
                          have hll : O'.length = Y.length := by rw [HNO.out, HM8.out]
                          have hqL : q < Y.length := by rw [HM8.out]; exact hq
                          obtain ⟨g8, rfl⟩ : ∃ g8, A8 = some ⟨g8, 0, none⟩ := by
                            obtain ⟨g8, cap, eo, _⟩ := Kd.S_form HM.out (by rw [mixL_len _ _ hll (Nat.le_of_lt hqL), HM8.out]; omega)
                            injection eo with e1
                            exact ⟨g8, e1⟩
                          obtain ⟨oki3, cc, hcl, hM, hcell, hoki3, hH⟩ := Kd.S_lend HM.out [] (q : Int) (by omega) (by omega)
                          obtain ⟨vi, ecc, hR⟩ := hM
                          subst ecc
                          have hx := hcell 0 vi rfl
                          rw [show KR.sz = 1 from rfl, Nat.mul_one, Nat.add_zero, Int.toNat_natCast] at hx
                          rw [Int.toNat_natCast, mixL_at _ _ _ hll hqL] at hR
                          have hcl2 := mapO_at HMB.out q hqL (by rw [hll]; exact hqL)
                          have HRL := Aside0.mk (show (Y[q]'hqL).length = N0 from HLN.out.2.1 _ (List.getElem_mem hqL))
                          have HSET := Aside0.mk (mixL_set O' Y hll hqL)
                          have HSAME := Aside0.mk (mixL_same O' Y hll hqL)
                          generalize Y[q]'hqL = row at hR hcl2 HRL HSAME
                          generalize O'[q]'(by rw [hll]; exact hqL) = t at hcl2 HSET HSAME
                          have HRI := Aside0.mk hR
                          have HH := Aside0.mk hH
                          have HOK3 := Aside0.mk hoki3
                          obtain ⟨Ai, ci, ei⟩ := Kd.R_slice hR
                          subst ei
                          rw [HRL.out] at HRI hx hR HH
                          obtain ⟨gi, rfl⟩ : ∃ gi, Ai = some ⟨gi, 0, none⟩ := by
                            obtain ⟨gi, cap, eo, _⟩ := Kd.R_form hR (by rw [HRL.out]; have := HCN.out; omega)
                            injection eo with e1
                            exact ⟨gi, e1⟩
                          have HKy := Aside0.mk (HK.out.then_ HKX.out (fun x hx => .inl (.inr hx)))
                          have hcell9 := HCEL.out _ HKy.out
                          obtain ⟨ad, ead, hrc⟩ := at_int (Kd.R_reads' HRI.out).2.2 (c : Int) (by omega) (by rw [HRL.out]; have := HCN.out; omega)
                          cases ead
                          rw [add_offR, show rd row (c : Int) = row.getD c 0 by unfold rd; rw [Int.toNat_natCast], Int.toNat_natCast] at hrc
                          have HCS := Aside0.mk (clrO_some hcl2)
                          rw [show rd row (c : Int) = row.getD c 0 by unfold rd; rw [Int.toNat_natCast]] at HCS
                          obtain ⟨f, hf⟩ : ∃ f, row.getD c 0 = f := ⟨_, rfl⟩
                          rw [hf] at hrc HCS
                          have HF := Aside0.mk hf
                          clear hR hH hcell hcl hq hoki3 hll hqL hcl2 hf
                          rcases HCS.out with ⟨hf0, ht0⟩ | ⟨hf0, ht0, ht1⟩
                          · have f1 : decide (f = 0) = true := decide_eq_true hf0
                            have f2 : (f == 0) = true := beq_iff_eq.2 hf0
                            have HEQ := Aside0.mk (HSAME.out ht0)
                            clear HCS hf0 ht0
                            go_wp2
                            go_roundg k3
                            case measure => omega
                            case rel => exact ⟨q + 1, by first | rw [HWQ.out] | rfl | simp, ⟨by have := HIq.out; have := HQ.out; omega⟩, ⟨by rw [HEQ.out]; exact HM.out⟩, HKX, HBy⟩
                          · have f1 : decide (f = 0) = false := decide_eq_false hf0
                            have f2 : (f == 0) = false := beq_false_of_ne hf0
                            have HT := Aside0.mk (show impl_tidy.f k (elimRow p c row) = some t from ht0)
                            have HT1 := Aside0.mk ht1
                            clear HCS hf0 ht0 ht1 HSAME
                            go_wp2
                            go_loopg [67] (N0 + 1) (fun kq v67 wz => ∃ i : Nat, v67 = .int .i64 (i : Int) ∧ Aside0 (i ≤ N0 ∧ N0 + 1 ≤ i + kq) ∧ Aside0 (Kd.R (Kd.int .i64) 3 wz w.heap.size oki3 (.slice (some ⟨gi, 0, none⟩) N0 ci) (elimTo p c row i)) ∧ Aside0 (Kept wr wz oki3) ∧ Aside0 (Below w.heap.size w wz))
                            case atStart => exact ⟨0, rfl, ⟨by omega⟩, ⟨by rw [elimTo_zero]; exact HRI.out⟩, ⟨Kept.refl _ _⟩, HBy⟩
                            case round =>
                              obtain ⟨i, rfl, HIi, HRz, HKz, HBz⟩ := hrel
                              cases gk with
                              | zero => exact absurd HIi.out (by omega)
                              | succ k4 =>
                                by_cases hi : i < N0
                                · have hiz := eq_true (show (i : Int) < (N0 : Int) by omega)
                                  have hi0 := eq_true (show (0 : Int) ≤ (i : Int) by omega)
                                  have ci1 : decide ((i : Int) < (N0 : Int)) = true := decide_eq_true (by omega)
                                  have ci2 : decide (i < N0) = true := decide_eq_true hi
                                  have HIL := Aside0.mk hi
                                  have HWI := Aside0.mk (show wrap64 ((i : Int) + 1) = ((i + 1 : Nat) : Int) by
                                    have := HBD.out
                                    rw [IntWalk.wrap64_in _ ⟨by omega, by omega⟩]
                                    omega)
                                  have HKw := Aside0.mk (HKy.out.then_ HKz.out (fun x hx => .inl (.inr (HOK3.out x hx).1)))
                                  have hcellz := HCEL.out _ HKw.out
                                  have hle : (elimTo p c row i).length = N0 := by rw [elimTo_len _ _ _ _ (by rw [HRL.out]; omega), HRL.out]
                                  have rdN : ∀ (xs : List Int) (j : Nat), rd xs (j : Int) = xs.getD j 0 := fun xs j => by unfold rd; rw [Int.toNat_natCast]
                                  obtain ⟨ad1, e1, hr1⟩ := at_int (Kd.R_reads' HRz.out).2.2 (i : Int) (by omega) (by rw [hle]; omega)
                                  cases e1
                                  rw [add_offR, rdN, Int.toNat_natCast, elimTo_at] at hr1
                                  have hfr := (Kd.R_celln 0 HRz.out (i : Int) (by omega) (by omega)).2
                                  rw [Int.toNat_natCast] at hfr
                                  obtain ⟨ad2, e2, hr2⟩ := at_int (Kd.R_reads' (HPIV.out _ HKw.out)).2.2 (c : Int) (by omega) (by rw [HPL.out]; have := HCN.out; omega)
                                  cases e2
                                  rw [add_offR, rdN, Int.toNat_natCast] at hr2
                                  obtain ⟨ad3, e3, hr3⟩ := at_int (Kd.R_reads' (HPIV.out _ HKw.out)).2.2 (i : Int) (by omega) (by rw [HPL.out]; omega)
                                  cases e3
                                  rw [add_offR, rdN, Int.toNat_natCast] at hr3
                                  have HPUT := Aside0.mk (show ∀ W : World, W.heap = wr.heap → Kd.R (Kd.int .i64) 3 (W.setCell ⟨gi, i, none⟩ (.int .i64 (wrap64 (wrap64 (row.getD i 0 * p.getD c 0) - wrap64 (p.getD i 0 * f))))) w.heap.size oki3 (.slice (some ⟨gi, 0, none⟩) N0 ci) (elimTo p c row (i + 1)) from fun W hW => by
                                    have h1 := Kd.R_putn (Kd.R_move HRz.out (fun x _ => by rw [hW]) : Kd.R (Kd.int .i64) 3 W w.heap.size oki3 (.slice (some ⟨gi, 0, none⟩) N0 ci) (elimTo p c row i)) (i : Int) (wrap64 (wrap64 (row.getD i 0 * p.getD c 0) - wrap64 (p.getD i 0 * f)))
                                    rw [Int.toNat_natCast, ← HF.out] at h1
                                    rw [← HF.out, ← elimTo_set p c row i (by rw [HRL.out]; exact hi)]
                                    exact h1)
                                  have HGI := Aside0.mk (show oki3 gi from HRz.out.1 gi (by simp [Value.ownBlock]))
                                  have HGIB := Aside0.mk (show w.heap.size ≤ gi from Kd.R_base HRz.out gi (by simp [Value.ownBlock]))
                                  clear hle hi rdN
                                  go_upto_region 26 with (fail)
                                  go_still_tail 19, (by kernel_rfl)
                                  change wpList _ _ _ _ _ wr.drew
                                  have HKd := Aside0.mk (Kept.drew HKz.out)
                                  have HBd := Aside0.mk (show Below w.heap.size w wr.drew from (by repeat (first | exact HBz.out | (with_reducible first | apply below_alloc | apply pw_below_drewN | apply below_drew1))))
                                  obtain ⟨w7, hw7⟩ : ∃ w7, wr.drew = w7 := ⟨_, rfl⟩
                                  have HH7 := Aside0.mk (show w7.heap = wr.heap by rw [← hw7]; rfl)
                                  have gr0 : w7.cell? ⟨gi, i, none⟩ = some (.int .i64 (row.getD i 0)) := by rw [← hw7]; exact hr1
                                  have gr1 : w7.frozen? ⟨gi, i, none⟩ = false := by rw [← hw7]; exact hfr
                                  have gr2 : w7.cell? ⟨gp, c, none⟩ = some (.int .i64 (p.getD c 0)) := by rw [← hw7]; exact hr2
                                  have gr3 : w7.cell? ⟨gp, i, none⟩ = some (.int .i64 (p.getD i 0)) := by rw [← hw7]; exact hr3
                                  have gr4 := (show wr.drew.cell? _ = _ from hcellz)
                                  rw [hw7] at HKd HBd gr4
                                  rw [hw7]
                                  clear hr1 hfr hr2 hr3 hcellz hw7
                                  go_wp2
                                  go_roundg k4
                                  case measure => omega
                                  case rel => exact ⟨i + 1, by first | rw [HWI.out] | rfl | simp, ⟨by have := HIi.out; have := HIL.out; omega⟩, ⟨HPUT.out w7 HH7.out⟩, ⟨Kept.setCell HKd.out (.inl HGI.out) _⟩, ⟨Below.setCell HBd.out HGIB.out _⟩⟩
                                · have ci1 : decide ((i : Int) < (N0 : Int)) = false := decide_eq_false (by omega)
                                  have ci2 : decide (i < N0) = false := decide_eq_false hi
                                  have hiN : i = row.length := by rw [HRL.out]; have := HIi.out; omega
                                  have HRE := Aside0.mk (show Kd.R (Kd.int .i64) 3 wr w.heap.size oki3 (.slice (some ⟨gi, 0, none⟩) N0 ci) (elimRow p c row) by have h_ := HRz.out; rw [hiN, elimTo_all] at h_; exact h_)
                                  have HKz2 := HKz
                                  clear hiN hi HRz HKz
                                  go_wp2_with (first | (go_at_call 105; (with_reducible refine (impl_tidy.calls k oki3 _ (elimRow p c row) t w _ ?side1 ?side2 HT.out).mono ?_); (case side1 => exact (by repeat (first | exact HBz.out | (with_reducible first | apply below_alloc | apply pw_below_drewN | apply below_drew1)))); (case side2 => exact (by (with_reducible repeat (first | apply Kd.R_alloc | apply Kd.R_drewN | apply Kd.R_drew)); exact HRE.out)); rintro e w9 ⟨rfl, hy9, hb9, hk9⟩; have HS9 := Aside0.mk (show Kd.S KR 40 w9 w.heap.size ok8 (.slice (some ⟨g8, 0, none⟩) m8 c8) (mixL O' Y (q + 1)) by have h_ := Kd.H_back (Kd.H_kept (Kd.H_kept HH.out HKz2.out (fun k_ _ hn_ => hn_)) hk9 (fun k_ _ hn_ => hn_)) (x' := t) (okp := oki3) (show KR.M w9 w.heap.size oki3 t [.slice (some ⟨gi, 0, none⟩) N0 ci] from ⟨_, rfl, Kd.R_reok rfl hy9 (fun k_ e_ => HRE.out.1 k_ e_)⟩) (fun _ hk => hk); rw [Int.toNat_natCast, HSET.out] at h_; exact h_); have HB9 := Aside0.mk hb9; have HK9 := Aside0.mk ((HKX.out.then_ HKz2.out (fun x hx => .inl (HOK3.out x hx).1)).then_ hk9 (fun x hx => .inl (HOK3.out x hx).1)); clear hb9 hk9 hy9))
                                  go_roundg k3
                                  case measure => omega
                                  case rel => exact ⟨q + 1, by first | rw [HWQ.out] | rfl | simp, ⟨by have := HIq.out; have := HQ.out; omega⟩, HS9, HK9, HB9⟩
                        · have cq : decide ((q : Int) < (m8 : Int)) = false := decide_eq_false (by omega)
                          have cq2 : decide (q < m8) = false := decide_eq_false hq
                          have hqm : q = m8 := by have := HIq.out; omega
                          have HXE := Aside0.mk (show Kd.S KR 40 wr w.heap.size ok8 (.slice A8 m8 c8) O' by have h_ := HM.out; rw [hqm, mixL_all _ _ HNO.out HM8.out] at h_; exact h_)
                          have HKE := Aside0.mk (HK.out.then_ HKX.out (fun x hx => .inl (.inr hx)))
                          have HOE := Aside0.mk (Kd.S_kept HX.out HKX.out (fun x hx h => HA8.out x hx h))
                          clear hqm hq HM
                          go_wp2
                          go_roundg k2
                          case measure => omega
                          case rel => exact ⟨X, O', .inr (.inr ⟨by first | rfl | simp, by omega, rfl, rfl⟩), HOE, HXE, HKE, HBy⟩
                  · obtain ⟨k2, rfl⟩ : ∃ k2, gk = k2 + 1 := ⟨gk - 1, by omega⟩
                    have HPR := Aside0.mk (HPIV.out _ HK.out)
                    go_wp2_with (first | ((with_reducible refine gate_builtin (b := .append) (xs := #[.tmp 94, .tmp 96]) rfl ?_); at_builtin; refine Kd.S_append KR (w0 := w) w.heap.size rfl (.tmp 94) (.tmp 96) 38 40 (.slice none 0 0) 24 rfl Try.underlying38 info40 rfl (by decide) (by omega) _ Y p [.slice (some ⟨gp, 0, none⟩) N0 cp] (fun x => (ok8 x ∨ oki x) ∨ wr.heap.size ≤ x) oki (by rfl) (by first | rfl | (simp [Act.eval]; done) | (go_simp; done)) ?aP ?aK ?aF ?aO ?aB ?aS ?aL ?_; (case aP => exact Kd.M_row HPR.out); (case aK => exact (fun x hx => ⟨.inl (.inr hx), fun e_ => HD.out x (HOK.out x hx).1 ((Kd.S_R HY.out).1 x e_.symm)⟩)); (case aF => exact (fun x hx => .inr (by first | exact hx | (simp at hx; omega)))); (case aO => exact (by (with_reducible repeat (first | apply Kd.S_alloc | apply Kd.S_drewN | apply Kd.S_drew)); exact Kd.S_mono HY.out (fun x hx => ⟨.inl (.inl hx), fun h => HD.out x (HOK.out x h).1 hx⟩))); (case aB => exact (by repeat (first | exact HBx.out | (with_reducible first | apply below_alloc | apply pw_below_drewN | apply below_drew1)))); (case aS => exact below_size (by repeat (first | exact HBx.out | (with_reducible first | apply below_alloc | apply pw_below_drewN | apply below_drew1)))); (case aL => have := HNO.out; have := HM8b.out; omega); intro v6 w6 ho6 hb6 hg6 hat6; have HO6 := Aside0.mk ho6; have HB6 := Aside0.mk hb6; have HA6 := Aside0.mk (Kd.S_grown (by (with_reducible repeat (first | apply Kd.S_alloc | apply Kd.S_drewN | apply Kd.S_drew)); exact HX.out) hg6 (fun x hx e_ => HA8.out x hx ((Kd.S_R HY.out).1 x e_.symm))); have HDN := Aside0.mk (show ∀ x, okA x → ¬ ((ok8 x ∨ oki x) ∨ wr.heap.size ≤ x) from fun x hx h => h.elim (fun h => h.elim (HA8.out x hx) (HAS.out x hx).2) (fun h => by have h1 := H5L.out x (HAS.out x hx).1; have h2 := blk_lt BC.out; have h3 := HK3.out.1; have h4 := HK.out.1; omega)); clear ho6 hb6 hg6 hat6))
                    go_roundg k1
                    case measure => omega
                    case rel => exact ⟨c + 1, X, Y ++ [p], okA, (fun x => (ok8 x ∨ oki x) ∨ wr.heap.size ≤ x), by first | rw [HW.out] | rfl | simp, ⟨by have := HI.out; have := HL.out; omega⟩, HE2, ⟨⟨HLR'.out, fun x hx => (List.mem_append.1 hx).elim (HLO'.out x) (fun h => by rw [List.mem_singleton.1 h]; exact HPL.out), by rw [HNR.out]; exact HM1b.out, by rw [List.length_append, List.length_singleton, HNO.out]; have := HM8b.out; have := HM8.out; have := HLN.out.2.2.2.1; omega, .inr HN1.out⟩⟩, ⟨HDN.out⟩, HA6, HO6, HB6⟩
            · have cb : decide ((c : Int) < (n1 : Int)) = false := decide_eq_false (by omega)
              have cb2 : decide (c < n1) = false := decide_eq_false hi
              have hge := HE.out
              rw [show n1 - c = 0 by omega] at hge
              obtain rfl : O = r := Option.some.inj hge
              clear hge
              go_wp2
              go_ret
              exact ⟨_, rfl, Kd.S_mono HOx.out (fun _ _ => trivial), HB.out⟩

end Go.Proofs.Ytabjcjieniokaaa.Z
