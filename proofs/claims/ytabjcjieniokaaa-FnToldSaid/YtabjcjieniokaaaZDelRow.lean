/- The library's Delete of one row of rows that the call owns; the row itself stays apart. Condition: the row is lent. -/
import Derived.Test.YtabjcjieniokaaaZFirst
import Derived.Test.YtabjcjieniokaaaZ0
import Derived.Deep.RegionLaw
import Derived.Lib.SliceRun
namespace Go.Proofs.Ytabjcjieniokaaa.Z
open Go.RowKit Go.Proofs.YtabjcjieniokaaaW.PrintWords Go.Proofs.YtabjcjieniokaaaW.PrintLast Go.Proofs.YtabjcjieniokaaaW.PrintMore

abbrev KR : Kd (List Int) := Kd.slice 3 (Kd.int .i64)

theorem H_erase {e base : Nat} {w : World} {ok : Nat → Prop} {v : Value} {xs : List (List Int)} {f : Nat → Nat} {k : Nat} {c : List Value} (h : (Kd.gap f KR k c).R e w base ok v (xs.zipIdx.eraseIdx k)) : Kd.S KR e w base ok v (xs.eraseIdx k) := by
  obtain ⟨h0, inner, ho, hr⟩ := h
  have hl : (xs.zipIdx.eraseIdx k).length = (xs.eraseIdx k).length := by simp only [List.length_eraseIdx, List.length_zipIdx]
  rw [hl] at ho
  refine ⟨fun b => if k < f b then f b - 1 else f b, h0, inner, by rw [List.length_zipIdx]; exact ho, by rw [List.length_zipIdx, ← hl]; exact hr.1, fun j p hj => ?_⟩
  rw [List.getElem?_zipIdx, Nat.zero_add] at hj
  obtain ⟨x, hx, rfl⟩ := Option.map_eq_some_iff.1 hj
  rw [List.getElem?_eraseIdx] at hx
  by_cases hjk : j < k
  · rw [if_pos hjk] at hx
    refine KR.M_mono (fun b hb => ⟨hb.1, ?_⟩) ((hr.2 j (x, j) (by rw [List.getElem?_eraseIdx, if_pos hjk]; exact Kd.zip_at hx)).2 (by show j ≠ k; omega))
    have h2 : f b = j := hb.2
    show (if k < f b then f b - 1 else f b) = j
    rw [if_neg (by omega)]; exact h2
  · rw [if_neg hjk] at hx
    refine KR.M_mono (fun b hb => ⟨hb.1, ?_⟩) ((hr.2 j (x, j + 1) (by rw [List.getElem?_eraseIdx, if_neg hjk]; exact Kd.zip_at hx)).2 (by show j + 1 ≠ k; omega))
    have h2 : f b = j + 1 := hb.2
    show (if k < f b then f b - 1 else f b) = j
    rw [if_pos (by omega)]; omega

theorem add_offR (g z : Nat) : (⟨g, 0, none⟩ : Addr).add z = ⟨g, z, none⟩ := by unfold Addr.add; split <;> simp_all
theorem row_sz : (Try.prog.info? 40).map (·.size) = some 1 := by
  obtain ⟨i, hi, hz⟩ := Option.map_eq_some_iff.1 info40
  simp only [Prod.mk.injEq] at hz
  rw [hi]
  simp [hz.2.1]
theorem S_beyond {e base g m cap j : Nat} {W : World} {ok : Nat → Prop} {xs : List (List Int)} (h : Kd.S KR e W base ok (.slice (some ⟨g, 0, none⟩) m cap) xs) (hj : m ≤ j) (u : Value) : Kd.S KR e (W.setCell ⟨g, j, none⟩ u) base ok (.slice (some ⟨g, 0, none⟩) m cap) xs := by
  have hgo : some g = (Value.slice (some ⟨g, 0, none⟩) m cap).ownBlock := by simp [Value.ownBlock]
  have hm := (Kd.R_reads' (Kd.S_R h)).1
  obtain ⟨f, h0, inner, ho, hr⟩ := h
  refine ⟨f, h0, inner, ?_, hr.1, fun q p hp => ?_⟩
  · obtain ⟨h1, h2⟩ := ho
    rcases h2 with ⟨hv, _⟩ | ⟨g', cap', cur, hv, hb, hh, hnc, hcm, hcs, ht⟩
    · cases hv
    · have hv2 := hv
      injection hv2 with ha hn hc
      injection ha with ha
      injection ha with ha
      subst ha; subst hc
      refine ⟨h1, .inr ⟨g, cap, cur.setIfInBounds j u, hv, hb, blk_set hh j u, hnc, hcm, by rw [Array.size_setIfInBounds]; exact hcs, ?_⟩⟩
      rw [← ht, Array.toList_setIfInBounds, List.take_set_of_le]
      show xs.zipIdx.length * 1 ≤ j
      rw [List.length_zipIdx]
      omega
  · exact (Kd.tag f KR).M_move (w1 := W.setCell ⟨g, j, none⟩ u) (fun b hb => Below.heap_setCell W ⟨g, j, none⟩ u b (fun e => hb.2 (by rw [e]; exact hgo))) (hr.2 q p hp)

theorem zero_row (w : World) : (zeroValue 40).run Try.prog w = .ok (.slice none 0 0) w := by
  obtain ⟨i, hi, hq⟩ := Option.map_eq_some_iff.1 info40
  simp only [Prod.mk.injEq] at hq
  simp [zeroValue, typeInfo, hi, hq.1]
set_option maxRecDepth 10000 in
theorem clear_one {f : Nat → Nat} {g n m k cap base : Nat} {ok : Nat → Prop} {cc : List Value} {W : World} {zs : List (List Int × Nat)} (h : (Kd.gap f KR k cc).R 40 W base ok (.slice (some ⟨g, 0, none⟩) m cap) zs) (hm : n - 1 = m) (hk : k < n) (hn : n ≤ cap) (ty : TypeId) :
    (Builtin.clear_ #[38] ty #[.slice (some ⟨g, m, none⟩) (n - m) (cap - m)]).run Try.prog W = .ok (.tuple #[]) (W.setCell ⟨g, m, none⟩ (.slice none 0 0)) := by
  obtain ⟨_, inner, ho, _⟩ := h
  rcases ho.2 with ⟨hv, _⟩ | ⟨g', cap', cur, hv, hb, hh, hnc, hcm, hcs, ht⟩
  · cases hv
  · injection hv with ha hn' hc
    injection ha with ha
    injection ha with ha
    subst ha; subst hc
    have hcs : cur.size = cap * 1 := hcs
    have h1 : n - m = 1 := by omega
    have hmc : m < cur.size := by omega
    have := Lib.run_clear_slice (P := Try.prog) W 38 40 ty (.slice none 0 0) Try.underlying38 zero_row rfl rfl g m (n - m) (cap - m) (by omega) (fun j hj => by
      have : j = 0 := by omega
      subst this
      rw [Nat.add_zero]
      have := (blk_cell hh m)
      rw [this, Array.getElem?_eq_getElem hmc]
      rfl) (fun j hj => blk_frozen hh _)
    rw [this, h1]
    rfl
set_option maxRecDepth 100000 in
set_option maxHeartbeats 4000000 in
theorem deleteRow_calls (w0 : World) (base g n cap k : Nat) (okR oki : Nat → Prop) (xs : List (List Int)) (cc : List Value) (w : World) (hH : Kd.H KR 40 w base okR (.slice (some ⟨g, 0, none⟩) n cap) xs (k : Int) oki cc) (hk : k < n) (hnc : n ≤ cap) (hn : n ≤ 17592186044416) (hB : Below base w0 w) (hbg : base ≤ g) (hlt : g < w.heap.size) :
    Calls Try.prog 107 #[.slice (some ⟨g, 0, none⟩) n cap, .int .i64 (k : Int), .int .i64 ((k + 1 : Nat) : Int)] w fun e w' => e = .returned (.slice (some ⟨g, 0, none⟩) (n - 1) cap) ∧ Kd.S KR 40 w' base (fun b => okR b ∧ ¬ oki b) (.slice (some ⟨g, 0, none⟩) (n - 1) cap) (xs.eraseIdx k) ∧ Below base w0 w' ∧ Kept w w' (fun b => b = g) := by
  obtain ⟨hoo, f, hRR⟩ := hH
  rw [Int.toNat_natCast] at hRR
  have HRR := Aside0.mk hRR
  have HB := Aside0.mk hB
  have HK := Aside0.mk hk
  have HNC := Aside0.mk hnc
  have HN := Aside0.mk hn
  have HLT := Aside0.mk hlt
  have HBG := Aside0.mk hbg
  obtain ⟨j, hj⟩ : ∃ j, k + 1 = j := ⟨_, rfl⟩
  rw [hj]
  have HJ := Aside0.mk hj
  obtain ⟨m, hm⟩ : ∃ m, n - 1 = m := ⟨_, rfl⟩
  have HM := Aside0.mk hm
  rw [hm]
  have y1 := eq_true (show (m : Int) ≤ (n : Int) by omega)
  have y2 := eq_true (show m ≤ n by omega)
  have y3 := eq_true (show (0 : Int) ≤ (m : Int) by omega)
  have y4 := eq_false (show ¬ cap = m by omega)
  have y5 := eq_true (show (m : Int) ≤ (cap : Int) by omega)
  have y6 := eq_true (show m ≤ cap by omega)
  clear hm
  have d1 : decide ((k : Int) = (j : Int)) = false := decide_eq_false (by omega)
  have d2 : ((k : Int) == (j : Int)) = false := beq_false_of_ne (by omega)
  have d3 : decide (k = j) = false := decide_eq_false (by omega)
  have z1 := eq_true (show (0 : Int) ≤ (k : Int) by omega)
  have z2 := eq_true (show (k : Int) ≤ (j : Int) by omega)
  have z3 := eq_true (show (j : Int) ≤ (n : Int) by omega)
  have z4 := eq_true (show (n : Int) ≤ (cap : Int) by omega)
  have z5 := eq_true (show k ≤ cap by omega)
  have z6 := eq_true (show (k : Int) ≤ (cap : Int) by omega)
  have z7 := eq_true (show j ≤ n by omega)
  have z8 := eq_true (show n ≤ cap by omega)
  have z9 := eq_true (show (k : Int) ≤ (n : Int) by omega)
  have z10 := eq_true (show k ≤ n by omega)
  have z11 := eq_true (show (0 : Int) ≤ (j : Int) by omega)
  have z12 := eq_true (show k ≤ j by omega)
  have z13 := eq_true (show j ≤ cap by omega)
  have z14 := eq_true (show (j : Int) ≤ (cap : Int) by omega)
  have z15 := eq_false (show ¬ cap = k by omega)
  have z16 := eq_false (show ¬ n = k by omega)
  clear hj
  clear hoo hRR hB hk hn hlt hbg hnc
  go_enter Try.func107, Try.ntmps107
  by_cases hcj : cap = j
  · subst hcj
    have HAA := Aside0.mk (show (some ⟨g, 0, none⟩ : Option Addr) = if cap = k + 1 then some ⟨g, 0, none⟩ else (some (⟨g, 0, none⟩ : Addr)).map (·.add ((k + 1) * (Kd.gap f KR k cc).sz)) by rw [HJ.out, if_pos rfl])
    go_wp2
    go_region_law (first | (refine Kd.R_delete_step (Kd.gap f KR k cc) (w0 := w0) base (by rfl) (.tmp 22) (.tmp 25) 38 40 (by rfl) Try.underlying38 row_sz (g := g) (n := n) (c := cap) (k := k) (by rfl) (by rfl) HAA.out (by have := HJ.out; have := HNC.out; omega) (by (with_reducible repeat (first | apply Kd.R_alloc | apply Kd.R_drewN | apply Kd.R_drew)); exact HRR.out) HK.out (by repeat (first | exact HB.out | (with_reducible first | apply below_alloc | apply pw_below_drewN | apply below_drew1))) (Nat.le_trans HBG.out (Nat.le_of_lt (by first | exact HLT.out | (simp; exact HLT.out)))) ?_; intro w1 ho1 hb1 hg1; rw [HM.out] at ho1 ⊢; have HS1 := Aside0.mk (H_erase ho1); have HB1 := Aside0.mk hb1; have HG1 := Aside0.mk (Kept.of_grown hg1 (Kept.of_below (by repeat (first | exact Below.refl _ _ | (with_reducible first | apply below_alloc | apply pw_below_drewN | apply below_drew1)) : Below w.heap.size w _) (fun b => b = g)) (fun b e_ => .inl (by injection e_ with e_; exact e_.symm))); have hcl := clear_one (n := n) ho1 HM.out HK.out HNC.out; clear ho1 hb1 hg1))
    all_goals go_wp2
    all_goals go_ret
    all_goals exact ⟨rfl, S_beyond HS1.out (Nat.le_refl _) _, HB1.out.setCell HBG.out _, Kept.setCell HG1.out (.inl rfl) _⟩
  · have HAA := Aside0.mk (show (some ⟨g, j, none⟩ : Option Addr) = if cap = k + 1 then some ⟨g, 0, none⟩ else (some (⟨g, 0, none⟩ : Addr)).map (·.add ((k + 1) * (Kd.gap f KR k cc).sz)) by rw [HJ.out, if_neg hcj]; show _ = some (Addr.add _ (j * 1)); rw [Nat.mul_one, add_offR])
    replace hcj := eq_false hcj
    go_wp2
    go_region_law (first | (refine Kd.R_delete_step (Kd.gap f KR k cc) (w0 := w0) base (by rfl) (.tmp 22) (.tmp 25) 38 40 (by rfl) Try.underlying38 row_sz (g := g) (n := n) (c := cap) (k := k) (by rfl) (by rfl) HAA.out (by have := HJ.out; have := HNC.out; omega) (by (with_reducible repeat (first | apply Kd.R_alloc | apply Kd.R_drewN | apply Kd.R_drew)); exact HRR.out) HK.out (by repeat (first | exact HB.out | (with_reducible first | apply below_alloc | apply pw_below_drewN | apply below_drew1))) (Nat.le_trans HBG.out (Nat.le_of_lt (by first | exact HLT.out | (simp; exact HLT.out)))) ?_; intro w1 ho1 hb1 hg1; rw [HM.out] at ho1 ⊢; have HS1 := Aside0.mk (H_erase ho1); have HB1 := Aside0.mk hb1; have HG1 := Aside0.mk (Kept.of_grown hg1 (Kept.of_below (by repeat (first | exact Below.refl _ _ | (with_reducible first | apply below_alloc | apply pw_below_drewN | apply below_drew1)) : Below w.heap.size w _) (fun b => b = g)) (fun b e_ => .inl (by injection e_ with e_; exact e_.symm))); have hcl := clear_one (n := n) ho1 HM.out HK.out HNC.out; clear ho1 hb1 hg1))
    all_goals go_wp2
    all_goals go_ret
    all_goals exact ⟨rfl, S_beyond HS1.out (Nat.le_refl _) _, HB1.out.setCell HBG.out _, Kept.setCell HG1.out (.inl rfl) _⟩

end Go.Proofs.Ytabjcjieniokaaa.Z
