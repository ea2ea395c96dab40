-- Written by this session's wip/mp/mp.py out of the translation. Lean checks it.
import Derived.Test.YtabjcjieniokaaaZ0
import Derived.Test.YtabjcjieniokaaaZ3
import Derived.Test.YtabjcjieniokaaaZIdxRow
namespace Go.Proofs.Ytabjcjieniokaaa.Z
open Go.RowKit Go.Proofs.YtabjcjieniokaaaW.PrintWords Go.Proofs.YtabjcjieniokaaaW.PrintLast Go.Proofs.YtabjcjieniokaaaW.PrintMore
attribute [local go_sem] max2_int min2_int max_two min_two max_three min_three max_four min_four   -- for this text's walks alone
set_option linter.unusedVariables false
set_option linter.unusedSimpArgs false

-- GIVEN
-- FUNCTION loop.example/g00958/impl.TwinsOf
-- ALONE
-- EXTRA loop.example/g00958/impl.at
-- INFO 3
-- IMPORT Derived.Test.YtabjcjieniokaaaZIdxRow
/-! ### impl_TwinsOf: function 31 -/
def otherLen (n : Nat) (row : List Int) : Bool := ((row.length : Int) != (n : Int))
def unlike (c link : Int) (row : List Int) : Bool := rd row c != rd row link
def twinAt (m : List (List Int)) (link : Int) (c : Nat) : Bool := decide ((c : Int) ≠ link) && !(m.any (unlike (c : Int) link))
/-- The columns below n that go with the one asked for. -/
def twinsUpto (m : List (List Int)) (link : Int) (n : Nat) : List Int := ((List.range n).filter (twinAt m link)).map (fun c : Nat => (c : Int))
def impl_TwinsOf.f (l0 : List (List Int)) (a1 : Int) : Option (List Int) := if l0 = [] then some [] else if 0 ≤ a1 ∧ a1 < ((rd_L1 l0 0).length : Int) then (if l0.any (otherLen (rd_L1 l0 0).length) = true then some [] else if (rd_L1 l0 0).length ≤ 1048576 then some (twinsUpto l0 a1 (rd_L1 l0 0).length) else none) else some []

theorem twinsUpto_succ (m : List (List Int)) (link : Int) (n : Nat) : twinsUpto m link (n + 1) = twinsUpto m link n ++ (if twinAt m link n = true then [(n : Int)] else []) := by
  unfold twinsUpto
  rw [List.range_succ, List.filter_append, List.map_append]
  congr 1
  by_cases h : twinAt m link n = true
  · rw [List.filter_cons_of_pos (by simpa using h), if_pos h]; rfl
  · rw [List.filter_cons_of_neg (by simpa using h), if_neg h]; rfl
theorem twinsUpto_len (m : List (List Int)) (link : Int) (n : Nat) : (twinsUpto m link n).length ≤ n := by
  unfold twinsUpto
  rw [List.length_map]
  exact Nat.le_trans (List.length_filter_le _ _) (by simp)

set_option maxRecDepth 100000 in
set_option maxHeartbeats 2000000 in
theorem impl_TwinsOf.pred1 (A : Option Addr) (c : Nat) (m : List (List Int)) (hm : 0 < m.length) (b1 : Nat) (xs : List (List Int)) (w : World) (h1 : b1 < w.heap.size) (c1 : w.cell? ⟨b1, 0, none⟩ = some (.slice A m.length c)) (hr : Kd.C (Kd.slice 3 (Kd.int .i64)) w A m.length m) :
    PredRow #[.pointer (some ⟨b1, 0, none⟩)] 67 (otherLen (rd_L1 m 0).length) xs w := fun x W A_ c_ _ hb _ _ => by
  have e1 : W.cell? ⟨b1, 0, none⟩ = some (.slice A m.length c) := (hb.cell (p := ⟨b1, 0, none⟩) h1).trans c1
  obtain ⟨ad, A0, c0, rfl, e2, _, _⟩ := at_L1 (Kd.C_below hr hb) 0 (Int.le_refl _) (by omega)
  have e2 : W.cell? ad = some (.slice A0 (rd_L1 m 0).length c0) := by rw [← Addr.add_zero' ad]; exact e2
  have hz : (0 : Int) < (m.length : Int) := by omega
  have hn0 : 0 < m.length := hm
  clear hr c1 hb h1 hm
  show Calls Try.prog 67 #[.slice A_ x.length c_, .pointer (some ⟨b1, 0, none⟩)] W fun e W' => e = .returned (.bool ((x.length : Int) != ((rd_L1 m 0).length : Int))) ∧ Below W.heap.size W W'
  generalize (rd_L1 m 0).length = n0 at e2 ⊢
  generalize x.length = nx
  generalize m.length = n at e1 hz hn0
  go_enter Try.func67, Try.ntmps67
  go_wp2
  go_ret
  exact ⟨rfl, Below.refl _ _⟩

set_option maxRecDepth 100000 in
set_option maxHeartbeats 2000000 in
theorem impl_TwinsOf.pred2 (cc lk : Int) (n : Nat) (hc0 : 0 ≤ cc) (hcn : cc < (n : Int)) (hk0 : 0 ≤ lk) (hkn : lk < (n : Int)) (b1 b2 : Nat) (xs : List (List Int)) (w : World) (hall : ∀ x ∈ xs, x.length = n) (h1 : b1 < w.heap.size) (h2 : b2 < w.heap.size) (c1 : w.cell? ⟨b1, 0, none⟩ = some (.int .i64 cc)) (c2 : w.cell? ⟨b2, 0, none⟩ = some (.int .i64 lk)) :
    PredRow #[.pointer (some ⟨b1, 0, none⟩), .pointer (some ⟨b2, 0, none⟩)] 68 (unlike cc lk) xs w := fun x W A_ c_ hx hb _ hr => by
  have e1 : W.cell? ⟨b1, 0, none⟩ = some (.int .i64 cc) := (hb.cell (p := ⟨b1, 0, none⟩) h1).trans c1
  have e2 : W.cell? ⟨b2, 0, none⟩ = some (.int .i64 lk) := (hb.cell (p := ⟨b2, 0, none⟩) h2).trans c2
  have hn := hall x hx
  rw [hn] at hr
  obtain ⟨ad, rfl, q1⟩ := at_int hr cc hc0 hcn
  obtain ⟨ad', ea, q2⟩ := at_int hr lk hk0 hkn
  cases ea
  clear c1 c2 hb h1 h2 hr hall hx
  show Calls Try.prog 68 #[.slice (some ad) x.length c_, .pointer (some ⟨b1, 0, none⟩), .pointer (some ⟨b2, 0, none⟩)] W fun e W' => e = .returned (.bool (rd x cc != rd x lk)) ∧ Below W.heap.size W W'
  rw [hn]
  clear hn
  generalize rd x cc = y1 at q1 ⊢
  generalize rd x lk = y2 at q2 ⊢
  replace hc0 := eq_true hc0
  replace hcn := eq_true hcn
  replace hk0 := eq_true hk0
  replace hkn := eq_true hkn
  go_enter Try.func68, Try.ntmps68
  go_wp2
  go_quiet (fail)
  go_wp2
  go_ret
  exact ⟨rfl, by repeat (first | (with_reducible first | exact Below.refl _ _ | apply below_alloc | apply pw_below_drewN | apply below_drew1) | exact Below.refl _ _)⟩

theorem impl_TwinsOf.at_ (x n : Int) (b : Bool) (h : decide (0 ≤ x ∧ x < n) = b) : impl_at.f x n = some b := by
  unfold impl_at.f
  by_cases h0 : x ≥ 0
  · rw [if_pos h0, ← h]; simp [h0]
  · rw [if_neg h0, ← h, decide_eq_false (fun q => h0 q.1)]

set_option maxRecDepth 100000 in
set_option maxHeartbeats 4000000 in
theorem impl_TwinsOf.calls (A0 : Option Addr) (c0 : Nat) (l0 : List (List Int)) (a1 : Int) (r : List Int) (w : World) (hr0 : Kd.C (Kd.slice 3 (Kd.int .i64)) w A0 l0.length l0) (hc0 : l0.length ≤ c0) (h : impl_TwinsOf.f l0 a1 = some r) :
    Calls Try.prog 31 #[.slice A0 l0.length c0, .int .i64 a1] w fun e w' => ∃ v0_ : Value, e = .returned (v0_) ∧ Kd.R (Kd.int .i64) 3 w' w.heap.size (fun _ => True) v0_ r ∧ Below w.heap.size w w' := by
  have eg1 : ∀ args w, (callFunc 67 args).run Try.prog w = .ok (.enter 67 args) w := enters_of Try.func67 (by kernel_rfl) rfl
  have eg2 : ∀ args w, (callFunc 68 args).run Try.prog w = .ok (.enter 68 args) w := enters_of Try.func68 (by kernel_rfl) rfl
  unfold impl_TwinsOf.f at h
  have HC0 := Aside0.mk hc0
  by_cases hn : l0 = []
  · rw [if_pos hn] at h
    obtain rfl := Option.some.inj h
    subst hn
    clear h hr0 HC0 hc0
    rw [List.length_nil]
    go_enter Try.func31, Try.ntmps31
    go_wp2
    repeat (go_quiet (fail); try go_wp2)
    go_ret
    exact ⟨_, rfl, Kd.R_nil _ _ _ _ _, by repeat (first | (with_reducible first | exact Below.refl _ _ | apply below_alloc | apply pw_below_drewN | apply below_drew1) | exact Below.refl _ _)⟩
  · rw [if_neg hn] at h
    have hpos : 0 < l0.length := List.length_pos_iff.2 hn
    have HC1 := Aside0.mk (fun (g : Nat) (W : World) (hb : Below w.heap.size w W) (hlt : g < W.heap.size) (k1 : W.cell? ⟨g, 0, none⟩ = some (.slice A0 l0.length c0)) =>
      conRow A0 c0 l0 W (Kd.C_below hr0 hb) (otherLen (rd_L1 l0 0).length) 67 #[.pointer (some ⟨g, 0, none⟩)] eg1 (impl_TwinsOf.pred1 A0 c0 l0 hpos g l0 W hlt k1 (Kd.C_below hr0 hb)))
    have hz : (0 : Int) < (l0.length : Int) := by omega
    have HR0 := Aside0.mk hr0
    have HB := Aside0.mk (Below.refl w.heap.size w)
    clear hr0 hc0 hn
    obtain ⟨n, hxn⟩ : ∃ n, l0.length = n := ⟨_, rfl⟩
    rw [hxn] at hpos hz HR0 HC0 HC1 ⊢
    have HN := Aside0.mk hxn
    clear hxn
    have hd0 : decide ((n : Int) = 0) = false := decide_eq_false (by omega)
    have hd1 : decide (n = 0) = false := decide_eq_false (by omega)
    have hd2 : ((n : Int) == 0) = false := beq_false_of_ne (by omega)
    obtain ⟨m0, hm0⟩ : ∃ m0, (rd_L1 l0 0).length = m0 := ⟨_, rfl⟩
    rw [hm0] at h HC1
    have HM := Aside0.mk hm0
    clear hm0
    by_cases hat : 0 ≤ a1 ∧ a1 < (m0 : Int)
    rotate_left
    · rw [if_neg hat] at h
      obtain rfl := Option.some.inj h
      have HAT := Aside0.mk (impl_TwinsOf.at_ a1 m0 false (decide_eq_false hat))
      clear h hat
      go_enter Try.func31, Try.ntmps31
      go_wp2_with (first | ((with_reducible refine gate_dst (N := 2) rfl ?_); refine box_event ?hg (N := 2) ?hd (cs := #[.slice A0 n c0]) (t := 38) ?hr ?_; (case hd => rfl); (case hg => rfl); (case hr => first | (go_simp; done) | (go_simp; rfl)); intro g2 hg wb2 hbox hb; have n0_ := Aside0.mk (below_step (by repeat (first | (with_reducible first | exact HB.out | apply below_alloc | apply pw_below_drewN | apply below_drew1) | exact HB.out)) hb); have n1_ := Aside0.mk (hbox); have n2_ := Aside0.mk ((by rw [hg]; exact (below_size (by repeat (first | (with_reducible first | exact HB.out | apply below_alloc | apply pw_below_drewN | apply below_drew1) | exact HB.out))) : w.heap.size ≤ g2)); clear HB; have HB := n0_; have BK2 := n1_; have GE2 := n2_; clear n0_ n1_ n2_; clear hb hbox hg; (try clear hcz2 hfz2); have hcz2 : wb2.cell? ⟨g2, 0, none⟩ = some (.slice A0 n c0) := (blk_cell BK2.out 0).trans rfl; have hfz2 := blk_frozen BK2.out 0) | ((with_reducible refine gate_dst (N := 3) rfl ?_); refine box_event ?hg (N := 3) ?hd (cs := #[.int .i64 a1]) (t := 3) ?hr ?_; (case hd => rfl); (case hg => rfl); (case hr => first | (go_simp; done) | (go_simp; rfl)); intro g3 hg wb3 hbox hb; have n0_ := Aside0.mk (below_step (by repeat (first | (with_reducible first | exact HB.out | apply below_alloc | apply pw_below_drewN | apply below_drew1) | exact HB.out)) hb); have n1_ := Aside0.mk (hbox); have n2_ := Aside0.mk ((by rw [hg]; exact (below_size (by repeat (first | (with_reducible first | exact HB.out | apply below_alloc | apply pw_below_drewN | apply below_drew1) | exact HB.out))) : w.heap.size ≤ g3)); have n3_ := Aside0.mk (blk_below (g := g2) (o := .cells #[.slice A0 n c0] 38 (0, 0)) (by (with_reducible repeat (first | refine blk_drewN ?_ _ | refine blk_drew ?_ | refine blk_alloc ?_ _)); exact BK2.out) hb); clear HB BK2; have HB := n0_; have BK3 := n1_; have GE3 := n2_; have BK2 := n3_; clear n0_ n1_ n2_ n3_; clear hb hbox hg; (try clear hcz2 hfz2); have hcz2 : wb3.cell? ⟨g2, 0, none⟩ = some (.slice A0 n c0) := (blk_cell BK2.out 0).trans rfl; have hfz2 := blk_frozen BK2.out 0; (try clear hcz3 hfz3); have hcz3 : wb3.cell? ⟨g3, 0, none⟩ = some (.int .i64 a1) := (blk_cell BK3.out 0).trans rfl; have hfz3 := blk_frozen BK3.out 0; obtain ⟨ad, A1, c1, ea, e2, _, _⟩ := at_L1 (Kd.C_below HR0.out HB.out) 0 (Int.le_refl _) hz; rw [HM.out] at e2; have e2 : wb3.cell? ad = some (.slice A1 m0 c1) := (by rw [← Addr.add_zero' ad]; exact e2); cases ea))
      repeat (go_quiet (first | (go_at_call 65; (with_reducible refine (impl_at.calls a1 (m0 : Int) false _ HAT.out).mono ?_); rintro e w' ⟨rfl, ⟨nd, rfl⟩⟩; (try first | exact ⟨rfl, _, World.drewN_drewN _ _ _⟩ | exact ⟨rfl, _, Eq.trans (World.drewN_drewN _ _ _) (congrArg (World.drewN _) (Nat.add_assoc _ _ _))⟩))); try go_wp2)
      go_ret
      exact ⟨_, rfl, Kd.R_nil _ _ _ _ _, by repeat (first | (with_reducible first | exact HB.out | apply below_alloc | apply pw_below_drewN | apply below_drew1) | exact HB.out)⟩
    · rw [if_pos hat] at h
      have HAT := Aside0.mk (impl_TwinsOf.at_ a1 m0 true (decide_eq_true hat))
      obtain ⟨hk0, hkm⟩ := hat
      by_cases hall : l0.any (otherLen m0) = true
      · rw [if_pos hall] at h
        obtain rfl := Option.some.inj h
        rw [hall] at HC1
        clear h hall
        go_enter Try.func31, Try.ntmps31
        go_wp2_with (first | ((with_reducible refine gate_dst (N := 2) rfl ?_); refine box_event ?hg (N := 2) ?hd (cs := #[.slice A0 n c0]) (t := 38) ?hr ?_; (case hd => rfl); (case hg => rfl); (case hr => first | (go_simp; done) | (go_simp; rfl)); intro g2 hg wb2 hbox hb; have n0_ := Aside0.mk (below_step (by repeat (first | (with_reducible first | exact HB.out | apply below_alloc | apply pw_below_drewN | apply below_drew1) | exact HB.out)) hb); have n1_ := Aside0.mk (hbox); have n2_ := Aside0.mk ((by rw [hg]; exact (below_size (by repeat (first | (with_reducible first | exact HB.out | apply below_alloc | apply pw_below_drewN | apply below_drew1) | exact HB.out))) : w.heap.size ≤ g2)); clear HB; have HB := n0_; have BK2 := n1_; have GE2 := n2_; clear n0_ n1_ n2_; clear hb hbox hg; (try clear hcz2 hfz2); have hcz2 : wb2.cell? ⟨g2, 0, none⟩ = some (.slice A0 n c0) := (blk_cell BK2.out 0).trans rfl; have hfz2 := blk_frozen BK2.out 0) | ((with_reducible refine gate_dst (N := 3) rfl ?_); refine box_event ?hg (N := 3) ?hd (cs := #[.int .i64 a1]) (t := 3) ?hr ?_; (case hd => rfl); (case hg => rfl); (case hr => first | (go_simp; done) | (go_simp; rfl)); intro g3 hg wb3 hbox hb; have n0_ := Aside0.mk (below_step (by repeat (first | (with_reducible first | exact HB.out | apply below_alloc | apply pw_below_drewN | apply below_drew1) | exact HB.out)) hb); have n1_ := Aside0.mk (hbox); have n2_ := Aside0.mk ((by rw [hg]; exact (below_size (by repeat (first | (with_reducible first | exact HB.out | apply below_alloc | apply pw_below_drewN | apply below_drew1) | exact HB.out))) : w.heap.size ≤ g3)); have n3_ := Aside0.mk (blk_below (g := g2) (o := .cells #[.slice A0 n c0] 38 (0, 0)) (by (with_reducible repeat (first | refine blk_drewN ?_ _ | refine blk_drew ?_ | refine blk_alloc ?_ _)); exact BK2.out) hb); clear HB BK2; have HB := n0_; have BK3 := n1_; have GE3 := n2_; have BK2 := n3_; clear n0_ n1_ n2_ n3_; clear hb hbox hg; (try clear hcz2 hfz2); have hcz2 : wb3.cell? ⟨g2, 0, none⟩ = some (.slice A0 n c0) := (blk_cell BK2.out 0).trans rfl; have hfz2 := blk_frozen BK2.out 0; (try clear hcz3 hfz3); have hcz3 : wb3.cell? ⟨g3, 0, none⟩ = some (.int .i64 a1) := (blk_cell BK3.out 0).trans rfl; have hfz3 := blk_frozen BK3.out 0; obtain ⟨ad, A1, c1, ea, e2, _, _⟩ := at_L1 (Kd.C_below HR0.out HB.out) 0 (Int.le_refl _) hz; rw [HM.out] at e2; have e2 : wb3.cell? ad = some (.slice A1 m0 c1) := (by rw [← Addr.add_zero' ad]; exact e2); cases ea))
        go_region_held3 (fun w' => w'.cell? ⟨g2, 0, none⟩ = some (.slice (some ad) n c0) ∧ w'.cell? ⟨g3, 0, none⟩ = some (.int .i64 a1) ∧ w'.cell? ad = some (.slice A1 m0 c1)) (go_keep) (first | (go_at_call 65; (with_reducible refine (impl_at.calls a1 (m0 : Int) true _ HAT.out).mono ?_); rintro e w' ⟨rfl, ⟨nd, rfl⟩⟩; (try first | exact ⟨rfl, _, World.drewN_drewN _ _ _⟩ | exact ⟨rfl, _, Eq.trans (World.drewN_drewN _ _ _) (congrArg (World.drewN _) (Nat.add_assoc _ _ _))⟩)) | (go_at_call 66; refine (HC1.out g2 _ (by repeat (first | (with_reducible first | exact HB.out | apply below_alloc | apply pw_below_drewN | apply below_drew1) | exact HB.out)) (by have := GE2.out; have := blk_lt BK2.out; simp; omega) ?k1).mono ?_; (case k1 => go_simp; done); rintro e w4 ⟨rfl, hb4⟩; have n0_ := Aside0.mk (below_step (by repeat (first | (with_reducible first | exact HB.out | apply below_alloc | apply pw_below_drewN | apply below_drew1) | exact HB.out)) hb4); have n1_ := Aside0.mk (blk_below (g := g2) (o := .cells #[.slice (some ad) n c0] 38 (0, 0)) (by (with_reducible repeat (first | refine blk_drewN ?_ _ | refine blk_drew ?_ | refine blk_alloc ?_ _)); exact BK2.out) hb4); have n2_ := Aside0.mk (blk_below (g := g3) (o := .cells #[.int .i64 a1] 3 (0, 0)) (by (with_reducible repeat (first | refine blk_drewN ?_ _ | refine blk_drew ?_ | refine blk_alloc ?_ _)); exact BK3.out) hb4); have ka : w4.cell? ad = some (.slice A1 m0 c1) := pw_cell_below hb4 (by first | assumption | (simp [*]; done)); clear HB BK2 BK3 hb4; have HB := n0_; have BK2 := n1_; have BK3 := n2_; clear n0_ n1_ n2_; have k2 : w4.cell? ⟨g2, 0, none⟩ = some (.slice (some ad) n c0) := (blk_cell BK2.out 0).trans rfl; have k3 : w4.cell? ⟨g3, 0, none⟩ = some (.int .i64 a1) := (blk_cell BK3.out 0).trans rfl))
        go_wp2
        go_ret
        exact ⟨_, rfl, Kd.R_nil _ _ _ _ _, by repeat (first | (with_reducible first | exact HB.out | apply below_alloc | apply pw_below_drewN | apply below_drew1) | exact HB.out)⟩
      · rw [if_neg hall] at h
        have hall := Bool.eq_false_iff.2 hall
        have hlen : ∀ x ∈ l0, x.length = m0 := fun x hx => by
          have := (List.any_eq_false.1 hall) x hx
          unfold otherLen at this
          simp only [bne_iff_ne, ne_eq, Classical.not_not] at this
          omega
        by_cases hm : m0 ≤ 1048576
        rotate_left
        · rw [if_neg hm] at h
          cases h
        rw [if_pos hm] at h
        obtain rfl := Option.some.inj h
        rw [hall] at HC1
        have HC2 := Aside0.mk (fun (c : Int) (h0 : 0 ≤ c) (hcm : c < (m0 : Int)) (ga gb : Nat) (W : World) (hb : Below w.heap.size w W) (h1 : ga < W.heap.size) (h2 : gb < W.heap.size) (k1 : W.cell? ⟨ga, 0, none⟩ = some (.int .i64 c)) (k2 : W.cell? ⟨gb, 0, none⟩ = some (.int .i64 a1)) =>
          conRow A0 c0 l0 W (Kd.C_below (by rw [HN.out]; exact HR0.out) hb) (unlike c a1) 68 #[.pointer (some ⟨ga, 0, none⟩), .pointer (some ⟨gb, 0, none⟩)] eg2 (impl_TwinsOf.pred2 c a1 m0 h0 hcm hk0 hkm ga gb l0 W hlen h1 h2 k1 k2))
        rw [HN.out] at HC2
        have HM2 := Aside0.mk hm
        clear h hall hlen hm
        go_enter Try.func31, Try.ntmps31
        go_wp2_with (first | ((with_reducible refine gate_dst (N := 2) rfl ?_); refine box_event ?hg (N := 2) ?hd (cs := #[.slice A0 n c0]) (t := 38) ?hr ?_; (case hd => rfl); (case hg => rfl); (case hr => first | (go_simp; done) | (go_simp; rfl)); intro g2 hg wb2 hbox hb; have n0_ := Aside0.mk (below_step (by repeat (first | (with_reducible first | exact HB.out | apply below_alloc | apply pw_below_drewN | apply below_drew1) | exact HB.out)) hb); have n1_ := Aside0.mk (hbox); have n2_ := Aside0.mk ((by rw [hg]; exact (below_size (by repeat (first | (with_reducible first | exact HB.out | apply below_alloc | apply pw_below_drewN | apply below_drew1) | exact HB.out))) : w.heap.size ≤ g2)); clear HB; have HB := n0_; have BK2 := n1_; have GE2 := n2_; clear n0_ n1_ n2_; clear hb hbox hg; (try clear hcz2 hfz2); have hcz2 : wb2.cell? ⟨g2, 0, none⟩ = some (.slice A0 n c0) := (blk_cell BK2.out 0).trans rfl; have hfz2 := blk_frozen BK2.out 0) | ((with_reducible refine gate_dst (N := 3) rfl ?_); refine box_event ?hg (N := 3) ?hd (cs := #[.int .i64 a1]) (t := 3) ?hr ?_; (case hd => rfl); (case hg => rfl); (case hr => first | (go_simp; done) | (go_simp; rfl)); intro g3 hg wb3 hbox hb; have n0_ := Aside0.mk (below_step (by repeat (first | (with_reducible first | exact HB.out | apply below_alloc | apply pw_below_drewN | apply below_drew1) | exact HB.out)) hb); have n1_ := Aside0.mk (hbox); have n2_ := Aside0.mk ((by rw [hg]; exact (below_size (by repeat (first | (with_reducible first | exact HB.out | apply below_alloc | apply pw_below_drewN | apply below_drew1) | exact HB.out))) : w.heap.size ≤ g3)); have n3_ := Aside0.mk (blk_below (g := g2) (o := .cells #[.slice A0 n c0] 38 (0, 0)) (by (with_reducible repeat (first | refine blk_drewN ?_ _ | refine blk_drew ?_ | refine blk_alloc ?_ _)); exact BK2.out) hb); clear HB BK2; have HB := n0_; have BK3 := n1_; have GE3 := n2_; have BK2 := n3_; clear n0_ n1_ n2_ n3_; clear hb hbox hg; (try clear hcz2 hfz2); have hcz2 : wb3.cell? ⟨g2, 0, none⟩ = some (.slice A0 n c0) := (blk_cell BK2.out 0).trans rfl; have hfz2 := blk_frozen BK2.out 0; (try clear hcz3 hfz3); have hcz3 : wb3.cell? ⟨g3, 0, none⟩ = some (.int .i64 a1) := (blk_cell BK3.out 0).trans rfl; have hfz3 := blk_frozen BK3.out 0; obtain ⟨ad, A1, c1, ea, e2, _, _⟩ := at_L1 (Kd.C_below HR0.out HB.out) 0 (Int.le_refl _) hz; rw [HM.out] at e2; have e2 : wb3.cell? ad = some (.slice A1 m0 c1) := (by rw [← Addr.add_zero' ad]; exact e2); cases ea))
        go_region_held3 (fun w' => w'.cell? ⟨g2, 0, none⟩ = some (.slice (some ad) n c0) ∧ w'.cell? ⟨g3, 0, none⟩ = some (.int .i64 a1) ∧ w'.cell? ad = some (.slice A1 m0 c1)) (go_keep) (first | (go_at_call 65; (with_reducible refine (impl_at.calls a1 (m0 : Int) true _ HAT.out).mono ?_); rintro e w' ⟨rfl, ⟨nd, rfl⟩⟩; (try first | exact ⟨rfl, _, World.drewN_drewN _ _ _⟩ | exact ⟨rfl, _, Eq.trans (World.drewN_drewN _ _ _) (congrArg (World.drewN _) (Nat.add_assoc _ _ _))⟩)) | (go_at_call 66; refine (HC1.out g2 _ (by repeat (first | (with_reducible first | exact HB.out | apply below_alloc | apply pw_below_drewN | apply below_drew1) | exact HB.out)) (by have := GE2.out; have := blk_lt BK2.out; simp; omega) ?k1).mono ?_; (case k1 => go_simp; done); rintro e w4 ⟨rfl, hb4⟩; have n0_ := Aside0.mk (below_step (by repeat (first | (with_reducible first | exact HB.out | apply below_alloc | apply pw_below_drewN | apply below_drew1) | exact HB.out)) hb4); have n1_ := Aside0.mk (blk_below (g := g2) (o := .cells #[.slice (some ad) n c0] 38 (0, 0)) (by (with_reducible repeat (first | refine blk_drewN ?_ _ | refine blk_drew ?_ | refine blk_alloc ?_ _)); exact BK2.out) hb4); have n2_ := Aside0.mk (blk_below (g := g3) (o := .cells #[.int .i64 a1] 3 (0, 0)) (by (with_reducible repeat (first | refine blk_drewN ?_ _ | refine blk_drew ?_ | refine blk_alloc ?_ _)); exact BK3.out) hb4); have ka : w4.cell? ad = some (.slice A1 m0 c1) := pw_cell_below hb4 (by first | assumption | (simp [*]; done)); clear HB BK2 BK3 hb4; have HB := n0_; have BK2 := n1_; have BK3 := n2_; clear n0_ n1_ n2_; have k2 : w4.cell? ⟨g2, 0, none⟩ = some (.slice (some ad) n c0) := (blk_cell BK2.out 0).trans rfl; have k3 : w4.cell? ⟨g3, 0, none⟩ = some (.int .i64 a1) := (blk_cell BK3.out 0).trans rfl))
        go_wp2
        go_loopg [5, 6, 28] (m0 + 1) (fun kq v5 v6 v28 w' => ∃ i : Nat, v28 = .int .i64 (i : Int) ∧ Aside0 (i ≤ m0 ∧ m0 + 1 ≤ i + kq) ∧ Aside0 (Kd.R (Kd.int .i64) 3 w' w.heap.size (fun k => k ≠ g2 ∧ k ≠ g3) v5 (twinsUpto l0 a1 i)) ∧ Aside0 (w'.heap[g2]? = some (.cells #[.slice (some ad) n c0] 38 (0, 0))) ∧ Aside0 (w'.heap[g3]? = some (.cells #[.int .i64 a1] 3 (0, 0))) ∧ Aside0 (Below w.heap.size w w'))
        case atStart => exact ⟨0, rfl, ⟨by omega⟩, ⟨Kd.R_nil _ _ _ _ _⟩, ⟨by (with_reducible repeat (first | refine blk_drewN ?_ _ | refine blk_drew ?_ | refine blk_alloc ?_ _)); exact BK2.out⟩, ⟨by (with_reducible repeat (first | refine blk_drewN ?_ _ | refine blk_drew ?_ | refine blk_alloc ?_ _)); exact BK3.out⟩, ⟨by repeat (first | (with_reducible first | exact HB.out | apply below_alloc | apply pw_below_drewN | apply below_drew1) | exact HB.out)⟩⟩
        case round =>
          clear k2 k3 ka HB BK2 BK3
          obtain ⟨i, rfl, HI, HO, BK2, BK3, HB⟩ := hrel
          cases gk with
          | zero => exact absurd HI.out (by omega)
          | succ k1 =>
            have k2 : wr.cell? ⟨g2, 0, none⟩ = some (.slice (some ad) n c0) := (blk_cell BK2.out 0).trans rfl
            have k3 : wr.cell? ⟨g3, 0, none⟩ = some (.int .i64 a1) := (blk_cell BK3.out 0).trans rfl
            have f2 := blk_frozen BK2.out 0
            have f3 := blk_frozen BK3.out 0
            by_cases hi : i < m0
            · have HL := Aside0.mk hi
              have cb : decide ((i : Int) < (m0 : Int)) = true := decide_eq_true (by omega)
              have cb2 : decide (i < m0) = true := decide_eq_true hi
              have HW := Aside0.mk (show wrap64 ((i : Int) + 1) = ((i + 1 : Nat) : Int) by
                have := HM2.out
                rw [IntWalk.wrap64_in _ ⟨by omega, by omega⟩]
                omega)
              by_cases hia : (i : Int) = a1
              · have ca : ((i : Int) != a1) = false := bne_eq_false_iff_eq.2 hia
                have ca2 : decide ((i : Int) = a1) = true := decide_eq_true hia
                have HT := Aside0.mk (show twinsUpto l0 a1 (i + 1) = twinsUpto l0 a1 i by
                  rw [twinsUpto_succ, if_neg (by unfold twinAt; simp [hia]), List.append_nil])
                clear hia
                go_wp2_with (first | ((with_reducible refine gate_dst (N := 6) rfl ?_); refine box_event ?hg (N := 6) ?hd (cs := #[.int .i64 0]) (t := 3) ?hr ?_; (case hd => rfl); (case hg => rfl); (case hr => first | (go_simp; done) | (go_simp; rfl)); intro g6 hg wb6 hbox hb; have HX6 := Aside0.mk (below_step (by repeat (first | exact Below.refl _ _ | (with_reducible first | apply below_alloc | apply pw_below_drewN | apply below_drew1))) hb); have GX6 := Aside0.mk (hg ▸ below_size (by repeat (first | exact Below.refl _ _ | (with_reducible first | apply below_alloc | apply pw_below_drewN | apply below_drew1))) : wr.heap.size ≤ g6); have BK6 := Aside0.mk hbox; have q2 : wb6.cell? ⟨g2, 0, none⟩ = some (.slice (some ad) n c0) := pw_cell_below HX6.out k2; have q3 : wb6.cell? ⟨g3, 0, none⟩ = some (.int .i64 a1) := pw_cell_below HX6.out k3; have q6 : wb6.cell? ⟨g6, 0, none⟩ = some (.int .i64 0) := (blk_cell BK6.out 0).trans rfl; have q6f := blk_frozen BK6.out 0; have nb2 : g2 ≠ g6 := (by have := blk_lt BK2.out; have := GX6.out; omega); have nb3 : g3 ≠ g6 := (by have := blk_lt BK3.out; have := GX6.out; omega); clear hbox hb hg))
                go_roundg k1
                case measure => omega
                case rel => exact ⟨i + 1, by first | rw [HW.out] | rfl | simp, ⟨by have := HI.out; have := HL.out; omega⟩, ⟨by rw [HT.out]; exact Kd.R_below HO.out (by repeat (first | exact HX6.out | (with_reducible first | apply below_alloc | apply pw_below_drewN | apply below_drew1) | refine below_set ?_ GX6.out))⟩, ⟨blk_below (g := g2) (o := .cells #[.slice (some ad) n c0] 38 (0, 0)) BK2.out (by repeat (first | exact HX6.out | (with_reducible first | apply below_alloc | apply pw_below_drewN | apply below_drew1) | refine below_set ?_ GX6.out))⟩, ⟨blk_below (g := g3) (o := .cells #[.int .i64 a1] 3 (0, 0)) BK3.out (by repeat (first | exact HX6.out | (with_reducible first | apply below_alloc | apply pw_below_drewN | apply below_drew1) | refine below_set ?_ GX6.out))⟩, ⟨below_step HB.out (by repeat (first | exact HX6.out | (with_reducible first | apply below_alloc | apply pw_below_drewN | apply below_drew1) | refine below_set ?_ GX6.out))⟩⟩
              · have ca : ((i : Int) != a1) = true := bne_iff_ne.2 hia
                have ca2 : decide ((i : Int) = a1) = false := decide_eq_false hia
                obtain ⟨b, hb⟩ : ∃ b, l0.any (unlike (i : Int) a1) = b := ⟨_, rfl⟩
                have HT := Aside0.mk (show twinsUpto l0 a1 (i + 1) = twinsUpto l0 a1 i ++ (bif b then [] else [(i : Int)]) by
                  rw [twinsUpto_succ]
                  congr 1
                  unfold twinAt
                  rw [hb]
                  cases b <;> simp [hia])
                have HC := Aside0.mk (HC2.out (i : Int) (by omega) (by omega))
                clear hia
                rw [hb] at HC
                clear hb
                cases b with
                | true =>
                  go_wp2_with (first | ((with_reducible refine gate_dst (N := 6) rfl ?_); refine box_event ?hg (N := 6) ?hd (cs := #[.int .i64 0]) (t := 3) ?hr ?_; (case hd => rfl); (case hg => rfl); (case hr => first | (go_simp; done) | (go_simp; rfl)); intro g6 hg wb6 hbox hb; have HX6 := Aside0.mk (below_step (by repeat (first | exact Below.refl _ _ | (with_reducible first | apply below_alloc | apply pw_below_drewN | apply below_drew1))) hb); have GX6 := Aside0.mk (hg ▸ below_size (by repeat (first | exact Below.refl _ _ | (with_reducible first | apply below_alloc | apply pw_below_drewN | apply below_drew1))) : wr.heap.size ≤ g6); have BK6 := Aside0.mk hbox; have q2 : wb6.cell? ⟨g2, 0, none⟩ = some (.slice (some ad) n c0) := pw_cell_below HX6.out k2; have q3 : wb6.cell? ⟨g3, 0, none⟩ = some (.int .i64 a1) := pw_cell_below HX6.out k3; have q6 : wb6.cell? ⟨g6, 0, none⟩ = some (.int .i64 0) := (blk_cell BK6.out 0).trans rfl; have q6f := blk_frozen BK6.out 0; have nb2 : g2 ≠ g6 := (by have := blk_lt BK2.out; have := GX6.out; omega); have nb3 : g3 ≠ g6 := (by have := blk_lt BK3.out; have := GX6.out; omega); clear hbox hb hg) | (go_at_call 66; refine (HC.out g6 g3 _ (below_step HB.out (by repeat (first | exact HX6.out | (with_reducible first | apply below_alloc | apply pw_below_drewN | apply below_drew1) | refine below_set ?_ GX6.out))) (by have := blk_lt BK6.out; simp [World.setCell]; omega) (by have := blk_lt BK3.out; have := GX6.out; have := blk_lt BK6.out; simp [World.setCell]; omega) ?k1 ?k2).mono ?_; (case k1 => go_simp; done); (case k2 => go_simp; done); rintro e w7 ⟨rfl, hb7⟩; have n0_ := Aside0.mk (below_step (below_step HB.out (by repeat (first | exact HX6.out | (with_reducible first | apply below_alloc | apply pw_below_drewN | apply below_drew1) | refine below_set ?_ GX6.out))) hb7); have n1_ := Aside0.mk (blk_below (g := g2) (o := .cells #[.slice (some ad) n c0] 38 (0, 0)) BK2.out (below_step (by repeat (first | exact HX6.out | (with_reducible first | apply below_alloc | apply pw_below_drewN | apply below_drew1) | refine below_set ?_ GX6.out)) hb7)); have n2_ := Aside0.mk (blk_below (g := g3) (o := .cells #[.int .i64 a1] 3 (0, 0)) BK3.out (below_step (by repeat (first | exact HX6.out | (with_reducible first | apply below_alloc | apply pw_below_drewN | apply below_drew1) | refine below_set ?_ GX6.out)) hb7)); have n3_ := Aside0.mk (Kd.R_below HO.out (below_step (by repeat (first | exact HX6.out | (with_reducible first | apply below_alloc | apply pw_below_drewN | apply below_drew1) | refine below_set ?_ GX6.out)) hb7)); have p6 : w7.cell? ⟨g6, 0, none⟩ = some (.int .i64 (i : Int)) := pw_cell_below hb7 (by go_simp; done); clear HB BK2 BK3 HO hb7; have HB := n0_; have BK2 := n1_; have BK3 := n2_; have HO := n3_; clear n0_ n1_ n2_ n3_))
                  go_roundg k1
                  case measure => omega
                  case rel => exact ⟨i + 1, by first | rw [HW.out] | rfl | simp, ⟨by have := HI.out; have := HL.out; omega⟩, ⟨by rw [HT.out, cond_true, List.append_nil]; (with_reducible repeat (first | apply Kd.R_alloc | apply Kd.R_drewN | apply Kd.R_drew)); exact HO.out⟩, BK2, BK3, HB⟩
                | false =>
                  have HLO := Aside0.mk (show (twinsUpto l0 a1 i).length ≤ 1048576 by
                    have := twinsUpto_len l0 a1 i
                    have := HM2.out
                    omega)
                  go_wp2_with (first | ((with_reducible refine gate_dst (N := 6) rfl ?_); refine box_event ?hg (N := 6) ?hd (cs := #[.int .i64 0]) (t := 3) ?hr ?_; (case hd => rfl); (case hg => rfl); (case hr => first | (go_simp; done) | (go_simp; rfl)); intro g6 hg wb6 hbox hb; have HX6 := Aside0.mk (below_step (by repeat (first | exact Below.refl _ _ | (with_reducible first | apply below_alloc | apply pw_below_drewN | apply below_drew1))) hb); have GX6 := Aside0.mk (hg ▸ below_size (by repeat (first | exact Below.refl _ _ | (with_reducible first | apply below_alloc | apply pw_below_drewN | apply below_drew1))) : wr.heap.size ≤ g6); have BK6 := Aside0.mk hbox; have q2 : wb6.cell? ⟨g2, 0, none⟩ = some (.slice (some ad) n c0) := pw_cell_below HX6.out k2; have q3 : wb6.cell? ⟨g3, 0, none⟩ = some (.int .i64 a1) := pw_cell_below HX6.out k3; have q6 : wb6.cell? ⟨g6, 0, none⟩ = some (.int .i64 0) := (blk_cell BK6.out 0).trans rfl; have q6f := blk_frozen BK6.out 0; have nb2 : g2 ≠ g6 := (by have := blk_lt BK2.out; have := GX6.out; omega); have nb3 : g3 ≠ g6 := (by have := blk_lt BK3.out; have := GX6.out; omega); clear hbox hb hg) | (go_at_call 66; refine (HC.out g6 g3 _ (below_step HB.out (by repeat (first | exact HX6.out | (with_reducible first | apply below_alloc | apply pw_below_drewN | apply below_drew1) | refine below_set ?_ GX6.out))) (by have := blk_lt BK6.out; simp [World.setCell]; omega) (by have := blk_lt BK3.out; have := GX6.out; have := blk_lt BK6.out; simp [World.setCell]; omega) ?k1 ?k2).mono ?_; (case k1 => go_simp; done); (case k2 => go_simp; done); rintro e w7 ⟨rfl, hb7⟩; have n0_ := Aside0.mk (below_step (below_step HB.out (by repeat (first | exact HX6.out | (with_reducible first | apply below_alloc | apply pw_below_drewN | apply below_drew1) | refine below_set ?_ GX6.out))) hb7); have n1_ := Aside0.mk (blk_below (g := g2) (o := .cells #[.slice (some ad) n c0] 38 (0, 0)) BK2.out (below_step (by repeat (first | exact HX6.out | (with_reducible first | apply below_alloc | apply pw_below_drewN | apply below_drew1) | refine below_set ?_ GX6.out)) hb7)); have n2_ := Aside0.mk (blk_below (g := g3) (o := .cells #[.int .i64 a1] 3 (0, 0)) BK3.out (below_step (by repeat (first | exact HX6.out | (with_reducible first | apply below_alloc | apply pw_below_drewN | apply below_drew1) | refine below_set ?_ GX6.out)) hb7)); have n3_ := Aside0.mk (Kd.R_below HO.out (below_step (by repeat (first | exact HX6.out | (with_reducible first | apply below_alloc | apply pw_below_drewN | apply below_drew1) | refine below_set ?_ GX6.out)) hb7)); have p6 : w7.cell? ⟨g6, 0, none⟩ = some (.int .i64 (i : Int)) := pw_cell_below hb7 (by go_simp; done); clear HB BK2 BK3 HO hb7; have HB := n0_; have BK2 := n1_; have BK3 := n2_; have HO := n3_; clear n0_ n1_ n2_ n3_) | ((with_reducible refine gate_builtin (b := .append) (xs := #[.tmp 40, .tmp 42]) rfl ?_); at_builtin; refine Kd.R_append (Kd.int .i64) (w0 := w) w.heap.size rfl (.tmp 40) (.tmp 42) 40 3 (.int .i64 0) 8 rfl Try.underlying40 info3 rfl (by decide) (by omega) _ (twinsUpto l0 a1 i) (i : Int) [.int .i64 (i : Int)] (fun k => k ≠ g2 ∧ k ≠ g3) (fun _ => False) rfl (by first | rfl | (simp [Act.eval]; done) | (go_simp; done)) ?aP (fun _ hk => hk.elim) ?aF ?aO ?aB ?aS ?aL ?_; (case aP => exact rfl); (case aB => exact (by repeat (first | (with_reducible first | exact HB.out | apply below_alloc | apply pw_below_drewN | apply below_drew1) | exact HB.out))); (case aF => exact (fun k hk => ⟨by have := blk_lt BK2.out; (try simp at hk); omega, by have := blk_lt BK3.out; (try simp at hk); omega⟩)); (case aO => exact (by (with_reducible repeat (first | apply Kd.R_alloc | apply Kd.R_drewN | apply Kd.R_drew)); exact HO.out)); (case aS => exact (below_size (by repeat (first | (with_reducible first | exact HB.out | apply below_alloc | apply pw_below_drewN | apply below_drew1) | exact HB.out)))); (case aL => have := HLO.out; omega); intro v9 w9 ho hb hg hat; have n0_ := Aside0.mk hb; have n1_ := Aside0.mk ho; have n2_ := Aside0.mk (blk_grown (g := g2) (o := .cells #[.slice (some ad) n c0] 38 (0, 0)) (by (with_reducible repeat (first | refine blk_drewN ?_ _ | refine blk_drew ?_ | refine blk_alloc ?_ _)); exact BK2.out) hg (fun e_ => (HO.out.1 g2 e_.symm).1 rfl)); have n3_ := Aside0.mk (blk_grown (g := g3) (o := .cells #[.int .i64 a1] 3 (0, 0)) (by (with_reducible repeat (first | refine blk_drewN ?_ _ | refine blk_drew ?_ | refine blk_alloc ?_ _)); exact BK3.out) hg (fun e_ => (HO.out.1 g3 e_.symm).2 rfl)); clear HB HO BK2 BK3 ho hb hg hat; have HB := n0_; have HO := n1_; have BK2 := n2_; have BK3 := n3_; clear n0_ n1_ n2_ n3_))
                  go_roundg k1
                  case measure => omega
                  case rel => exact ⟨i + 1, by first | rw [HW.out] | rfl | simp, ⟨by have := HI.out; have := HL.out; omega⟩, ⟨by rw [HT.out, cond_false]; exact HO.out⟩, BK2, BK3, HB⟩
            · have cb : decide ((i : Int) < (m0 : Int)) = false := decide_eq_false (by omega)
              have cb2 : decide (i < m0) = false := decide_eq_false hi
              have e : i = m0 := by have := HI.out; omega
              subst e
              go_wp2
              go_ret
              exact ⟨_, rfl, Kd.R_mono HO.out (fun _ _ => trivial), HB.out⟩

end Go.Proofs.Ytabjcjieniokaaa.Z
