-- Written by this session's wip/mp/mp.py out of the translation. Lean checks it.
import Derived.Test.YtcdlhjfiboomkaaZ0
import Derived.Test.YtcdlhjfiboomkaaZ2
import Derived.Test.YtcdlhjfiboomkaaZZone
namespace Go.Proofs.Ytcdlhjfiboomkaa.Z
open Go.RowKit Go.Proofs.YtcdlhjfiboomkaaW.PrintWords Go.Proofs.YtcdlhjfiboomkaaW.PrintLast Go.Proofs.YtcdlhjfiboomkaaW.PrintMore
attribute [local go_sem] max2_int min2_int max_two min_two max_three min_three max_four min_four   -- for this text's walks alone
set_option linter.unusedVariables false
set_option linter.unusedSimpArgs false

-- GIVEN
-- FUNCTION loop.example/g00958/laws.markProbeS rounds
-- EXTRA loop.example/g00958/laws.markIntS
-- IMPORT Derived.Test.YtcdlhjfiboomkaaZZone
/-! ### laws_markProbeS: function 17 -/
def laws_markProbeS.l0 : Nat → List S58 → Int → Int → Option (Int × List S58)
 | 0, _, _, _ => none
 | k + 1, x0, x1, x5 => if x5 < (x0.length : Int) then (if 0 ≤ x5 then ((laws_markIntS.f k (rd_T58 x0 x5).f2 (wrap64 (wrap64 (x1 + 1) + 1))).bind fun b1 => (laws_markProbeS.l0 k (x0.set (x5 : Int).toNat ⟨x1, wrap64 (x1 + 1), b1.2⟩) b1.1 (wrap64 (x5 + 1)))) else (none)) else (some (x1, x0))
def laws_markProbeS.f (k : Nat) (l0 : List S58) (a1 : Int) : Option (Int × List S58) := laws_markProbeS.l0 k l0 a1 0

set_option maxHeartbeats 8000000 in
set_option maxRecDepth 100000 in
theorem laws_markProbeS.calls (k : Nat) (P0_ : Nat → Prop) (u9000_ : Value) (l0 : List S58) (a1 : Int) (r1 : Int) (r2 : List S58) (w0 w : World) (hB : Below w0.heap.size w0 w) (ho0 : Kd.S k58 58 w w0.heap.size P0_ u9000_ l0) (h : laws_markProbeS.f k l0 a1 = some (r1, r2)) :
  Calls Try.prog 17 #[u9000_, .int .i64 a1] w fun e w' => e = .returned (.int .i64 r1) ∧ Kd.S k58 58 w' w0.heap.size P0_ u9000_ r2 ∧ Below w0.heap.size w0 w' ∧ Kept w w' (fun k_ => P0_ k_) := by
 have HO0 := Aside0.mk ho0
 have HK := Aside0.mk (Kept.refl w (fun k_ => P0_ k_))
 have HB := Aside0.mk hB
 clear hB ho0
 have H : (laws_markProbeS.l0 k l0 a1 0) = some (r1, r2) := h
 clear h
 have H' := Aside0.mk H
 clear H
 go_enter Try.func17, Try.ntmps17
 go_wp2
 go_loopg [1, 5] k (fun kq v1 v5 w' => ∃ (x0_1 : List S58) (x1_1 : Int) (x5_1 : Int), v1 = .int .i64 x1_1 ∧ v5 = .int .i64 x5_1 ∧ Aside0 (laws_markProbeS.l0 kq x0_1 x1_1 x5_1 = some (r1, r2)) ∧ Aside0 (kq ≤ k) ∧ Aside0 (Kd.S k58 58 w' w0.heap.size P0_ u9000_ x0_1) ∧ Aside0 (Kept w w' (fun k_ => P0_ k_)) ∧ Aside0 (Below w0.heap.size w0 w'))
 case atStart => exact ⟨(l0), (a1), (0), (by first | rfl | (simp; done) | (simp [*]; done)), (by first | rfl | (simp; done) | (simp [*]; done)), H', ⟨Nat.le_refl _⟩, ⟨by (with_reducible repeat (first | apply Kd.S_alloc | apply Kd.S_drewN | apply Kd.S_drew)); exact HO0.out⟩, ⟨by repeat (first | (with_reducible first | exact HK.out | apply Kept.alloc | apply Kept.drewN | apply Kept.drew) | exact HK.out)⟩, ⟨by repeat (first | (with_reducible first | exact HB.out | apply below_alloc | apply pw_below_drewN | apply below_drew1) | exact HB.out)⟩⟩
 case round =>
  clear H'
  obtain ⟨x0_1, x1_1, x5_1, rfl, rfl, HA, HK1, HO_0, HK, HB⟩ := hrel
  cases gk with
  | zero => exact absurd HA.out (by simp [laws_markProbeS.l0])
  | succ k1 =>
   have H := HA.out
   clear HA
   simp only [laws_markProbeS.l0] at H
   by_cases c3 : x5_1 < (x0_1.length : Int)
   ·rw [if_pos c3] at H
    have c3b0 : decide (x5_1 < (x0_1.length : Int)) = true := decide_eq_true c3
    by_cases c4 : 0 ≤ x5_1
    ·rw [if_pos c4] at H
     have c4b0 : decide (0 ≤ x5_1) = true := decide_eq_true c4
     obtain ⟨⟨t1, t2⟩, A6, H⟩ := Option.bind_eq_some_iff.mp H
     dsimp only at H
     replace A6 := Aside0.mk A6
     have H' := Aside0.mk H
     clear H
     obtain ⟨go5, co5, eo5, gb5, gl5, cl5, HG5⟩ := Kd.S_form HO_0.out (by omega)
     subst eo5
     obtain ⟨oki, cc, hcl, hM, hcell, hfr, hoki, hH⟩ := Kd.S_elem HO_0.out z58 x5_1 c4 c3
     obtain ⟨vi, ecc, hR⟩ := k58_openM hM
     subst ecc
     obtain ⟨Ai, ci, ei⟩ := Kd.R_slice hR
     subst ei
     have hx0 := hcell 0 _ rfl
     have hx1 := hcell 1 _ rfl
     have hx2 := hcell 2 _ rfl
     have hf0 := hfr 0
     have hf1 := hfr 1
     have hf2 := hfr 2
     rw [show k58.sz = 3 from rfl] at hx0 hx1 hx2 hf0 hf1 hf2
     rw [Nat.add_zero] at hx0 hf0
     have GB5 := Aside0.mk gb5
     have GP5 := Aside0.mk (show P0_ go5 from (Kd.S_R HO_0.out).1 _ rfl)
     have HRI := Aside0.mk hR
     have HH := Aside0.mk hH
     have HI := Aside0.mk hoki
     clear hR hH hM hoki hcell hfr hcl gb5 gl5 cl5 HG5 HO_0
     have p5 := eq_true c4
     have q5 := eq_true c3
     have C4 := Aside0.mk c4
     have C3 := Aside0.mk c3
     clear c3 c4
     rw [show rd_T58 x0_1 x5_1 = x0_1.getD (x5_1 : Int).toNat z58 from rfl] at A6
     generalize x0_1.getD (x5_1 : Int).toNat z58 = px at A6 HRI HH hx0 hx1 hx2
     obtain ⟨f0, f1, row⟩ := px
     dsimp only at A6 HRI HH hx0 hx1 hx2
     have hs_ := Kd.H_seg HH.out C4.out C3.out (seg := [.int .i64 x1_1, .int .i64 (wrap64 (x1_1 + 1))]) (j := 0) (show 0 + 2 ≤ 3 by decide) (by intro q hq; simp at hq; rcases hq with rfl | rfl <;> rfl)
     have hg : wr.grownBy ((wr.setCell ⟨go5, (x5_1 : Int).toNat * 3, none⟩ (.int .i64 x1_1)).setCell ⟨go5, (x5_1 : Int).toNat * 3 + 1, none⟩ (.int .i64 (wrap64 (x1_1 + 1)))) (some go5) := hs_.2
     have HH2 := Aside0.mk (show Kd.H k58 58 ((wr.setCell ⟨go5, (x5_1 : Int).toNat * 3, none⟩ (.int .i64 x1_1)).setCell ⟨go5, (x5_1 : Int).toNat * 3 + 1, none⟩ (.int .i64 (wrap64 (x1_1 + 1)))) w0.heap.size P0_ (.slice (some ⟨go5, 0, none⟩) x0_1.length co5) x0_1 x5_1 oki [.int .i64 x1_1, .int .i64 (wrap64 (x1_1 + 1)), .slice Ai row.length ci] from hs_.1)
     have HB2 := Aside0.mk (show Below w0.heap.size w0 ((wr.setCell ⟨go5, (x5_1 : Int).toNat * 3, none⟩ (.int .i64 x1_1)).setCell ⟨go5, (x5_1 : Int).toNat * 3 + 1, none⟩ (.int .i64 (wrap64 (x1_1 + 1)))) from below_set (below_set HB.out GB5.out) GB5.out)
     have HK2 := Aside0.mk (Kept.of_grown (S := (fun k_ => P0_ k_)) hg HK.out (fun k_ e_ => by injection e_ with e_; subst e_; exact .inl GP5.out))
     have HRI2 := Aside0.mk (Kd.R_grown HRI.out hg (fun k_ hk_ e_ => (HI.out k_ hk_).2 (by injection e_)))
     clear hs_ hg
     go_wp2_with (first | ((go_at_call 16; (with_reducible refine (laws_markIntS.calls k1 oki _ row (wrap64 (wrap64 (x1_1 + 1) + 1)) t1 t2 w0 _ ?side1 ?side2 A6.out).mono ?_); (case side1 => exact (by repeat (first | (with_reducible first | exact HB2.out | apply below_alloc | apply pw_below_drewN | apply below_drew1) | exact HB2.out))); (case side2 => (with_reducible repeat (first | apply Kd.R_alloc | apply Kd.R_drewN | apply Kd.R_drew)); exact HRI2.out); rintro e w21 ⟨rfl, hy0, hb, hkp⟩; have n0_ := Aside0.mk (Kd.H_back (Kd.H_kept (by (with_reducible repeat (first | apply Kd.H_alloc | apply Kd.H_drewN | apply Kd.H_drew)); exact HH2.out) hkp (fun k_ _ hn_ => hn_)) (x' := (⟨x1_1, wrap64 (x1_1 + 1), t2⟩ : S58)) (okp := oki) (k58_mkM _ _ _ (⟨x1_1, wrap64 (x1_1 + 1), t2⟩ : S58) (Kd.R_reok rfl hy0 (fun k_ e_ => HRI2.out.1 k_ e_))) (fun _ hk => hk)); have n1_ := Aside0.mk hb; have n2_ := Aside0.mk (Kept.then_ (by repeat (first | (with_reducible first | exact HK2.out | apply Kept.alloc | apply Kept.drewN | apply Kept.drew) | exact HK2.out)) hkp (fun k_ hk_ => .inl (HI.out k_ hk_).1)); clear HB HK HH HRI HB2 HK2 HH2 HRI2; have HO_0 := n0_; have HB := n1_; have HK := n2_; clear n0_ n1_ n2_; clear hb hkp hy0)))
     go_roundg k1
     case measure => have := HK1.out; omega
     case rel => exact ⟨_, t1, (wrap64 (x5_1 + 1)), (by first | rfl | (simp; done) | (simp [*]; done)), (by first | rfl | (simp; done) | (simp [*]; done)), H', ⟨by have := HK1.out; omega⟩, ⟨by (with_reducible repeat (first | apply Kd.S_alloc | apply Kd.S_drewN | apply Kd.S_drew)); exact HO_0.out⟩, ⟨by repeat (first | (with_reducible first | exact HK.out | apply Kept.alloc | apply Kept.drewN | apply Kept.drew) | exact HK.out)⟩, ⟨by repeat (first | (with_reducible first | exact HB.out | apply below_alloc | apply pw_below_drewN | apply below_drew1) | exact HB.out)⟩⟩
    ·rw [if_neg c4] at H
     exact absurd H (by simp)
   ·rw [if_neg c3] at H
    have c3b0 : decide (x5_1 < (x0_1.length : Int)) = false := decide_eq_false c3
    clear c3
    obtain ⟨rfl, rfl⟩ := Prod.mk.inj (Option.some.inj H)
    clear H
    obtain ⟨Ao6, co6, eo6⟩ := Kd.S_slice HO_0.out
    subst eo6
    go_wp2
    go_ret
    exact ⟨by first | rfl | (simp; done) | (simp [*]; done), by (with_reducible repeat (first | apply Kd.S_alloc | apply Kd.S_drewN | apply Kd.S_drew)); exact HO_0.out, by repeat (first | (with_reducible first | exact HB.out | apply below_alloc | apply pw_below_drewN | apply below_drew1) | exact HB.out), by repeat (first | (with_reducible first | exact HK.out | apply Kept.alloc | apply Kept.drewN | apply Kept.drew) | exact HK.out)⟩

end Go.Proofs.Ytcdlhjfiboomkaa.Z
