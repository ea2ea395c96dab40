-- Written by this session's wip/mp/mp.py out of the translation. Lean checks it.
import Derived.Test.YtgghhcifkgdpeaaZ0
import Derived.Test.YtgghhcifkgdpeaaZFirst
import Derived.Maps.OwnSet
namespace Go.Proofs.Ytgghhcifkgdpeaa.Z
open Go.RowKit Go.Proofs.YtgghhcifkgdpeaaW.PrintWords Go.Proofs.YtgghhcifkgdpeaaW.PrintLast Go.Proofs.YtgghhcifkgdpeaaW.PrintMore
attribute [local go_sem] max2_int min2_int max_two min_two max_three min_three max_four min_four   -- for this text's walks alone
set_option linter.unusedVariables false
set_option linter.unusedSimpArgs false

-- GIVEN
-- FUNCTION loop.example/g00958/impl.HasCircle rounds
-- ALONE
-- KIND 63
-- IMPORT Derived.Test.YtgghhcifkgdpeaaZFirst
-- IMPORT Derived.Maps.OwnSet
/-! ### impl_HasCircle: function 40 -/
def setAt (M : Int → Option Int) (a b : Int) : Int → Option Int := fun n => if n = a then some b else M n
/-- From a node upwards, as long as the map leads on: k steps at most. -/
def walkUp (M : Int → Option Int) : Nat → Int → Option Int
 | 0, _ => none
 | k + 1, n => match M n with
  | none => some n
  | some u => if u = n then some n else walkUp M k u
def circO (k : Nat) : (Int → Option Int) → List S63 → Option Bool
 | _, [] => some false
 | M, x :: l => (walkUp M k x.f0).bind fun a => (walkUp M k x.f1).bind fun b => if a = b then some true else circO k (setAt M a b) l
def fits64 (n : Int) : Bool := (Lit.int .i64 n).wf
def impl_HasCircle.f (k : Nat) (l0 : List S63) : Option Bool := if l0.all (fun x => fits64 x.f0 && fits64 x.f1) = true then circO k (fun _ => none) l0 else none

theorem walkUp.mono (M : Int → Option Int) : ∀ k n, LeO (walkUp M k n) (walkUp M (k + 1) n)
 | 0, _ => LeO.none _
 | k + 1, n => by
  intro r h
  rw [walkUp] at h ⊢
  cases hm : M n with
  | none => rw [hm] at h; exact h
  | some u =>
   rw [hm] at h
   dsimp only at h ⊢
   by_cases hu : u = n
   ·rw [if_pos hu] at h ⊢; exact h
   ·rw [if_neg hu] at h ⊢; exact walkUp.mono M k u r h
theorem circO.mono (k : Nat) : ∀ (l : List S63) (M : Int → Option Int), LeO (circO k M l) (circO (k + 1) M l)
 | [], _ => LeO.refl _
 | _ :: l, _ => LeO.bind (walkUp.mono _ _ _) (fun _ => LeO.bind (walkUp.mono _ _ _) (fun _ => LeO.ite (LeO.refl _) (circO.mono k l _)))
theorem impl_HasCircle.mono : ∀ a0 k, LeO (impl_HasCircle.f k a0) (impl_HasCircle.f (k + 1) a0) := fun a0 k => LeO.ite (circO.mono k a0 _) (LeO.refl _)

theorem walkUp_fits (M : Int → Option Int) (hM : ∀ x u, M x = some u → fits64 u = true) : ∀ k n r, fits64 n = true → walkUp M k n = some r → fits64 r = true
 | 0, _, _, _, h => by cases h
 | k + 1, n, r, hn, h => by
  rw [walkUp] at h
  cases hm : M n with
  | none => rw [hm] at h; obtain rfl := Option.some.inj h; exact hn
  | some u =>
   rw [hm] at h
   dsimp only at h
   by_cases hu : u = n
   ·rw [if_pos hu] at h; obtain rfl := Option.some.inj h; exact hn
   ·rw [if_neg hu] at h; exact walkUp_fits M hM k u r (hM n u hm) h

/-- What the map holds. -/
def MapRel (D : DataW Unit) (M : Int → Option Int) : Prop := ∀ n, Maps.has D (.int .i64 n) = (M n).isSome ∧ ∀ u, M n = some u → D.atKey (.int .i64 n) (.lit (.int .i64 0)) = .lit (.int .i64 u)
theorem MapRel_put {D : DataW Unit} {M : Int → Option Int} (hD : Maps.IsMap D) (h : MapRel D M) (a b : Int) : MapRel (D.put (.int .i64 a) (.lit (.int .i64 b))) (setAt M a b) := by
 intro n
 unfold setAt
 by_cases e : n = a
 ·subst e
  rw [if_pos rfl]
  exact ⟨Maps.has_put_same hD (show WideAt.IsKeyLit (.int .i64 n) from trivial) _, fun u hu => by obtain rfl := Option.some.inj hu; exact Maps.atKey_put_same hD (show WideAt.IsKeyLit (.int .i64 n) from trivial) _ _⟩
 ·rw [if_neg e]
  have hne : (Lit.int .i64 n) ≠ (Lit.int .i64 a) := fun q => by injection q with _ q; exact e q
  exact ⟨(Maps.has_put_other hne _).trans (h n).1, fun u hu => (Maps.atKey_put_other hne _ _).trans ((h n).2 u hu)⟩
theorem MapRel_nil : MapRel (.map []) (fun _ => none) := fun n => ⟨rfl, fun u hu => by cases hu⟩

theorem circLaw : Go.Maps.Keyed Try.prog 3 := Go.Maps.int_keyed Try.underlying3
theorem circZero (w : World) : (zeroValue 3).run Try.prog w = .ok (.int .i64 0) w := by kernel_rfl

set_option maxRecDepth 100000 in
set_option maxHeartbeats 4000000 in
theorem circ_find (k : Nat) (b cnt g : Nat) (D : DataW Unit) (M : Int → Option Int) (hR : MapRel D M) (hM : ∀ x u, M x = some u → fits64 u = true) (n r : Int) (hn : fits64 n = true) (h : walkUp M k n = some r) (W : World) (hc : W.cell? ⟨g, 0, none⟩ = some (.map (some b))) (hown : World.ownsMap (H := Unit) W Try.prog 3 (plainElem Try.prog 3) b cnt D) :
  Calls Try.prog 83 #[.int .i64 n, .pointer (some ⟨g, 0, none⟩)] W fun e w' => e = .returned (.int .i64 r) ∧ ∃ m, w' = W.drewN m := by
 have HW := Aside0.mk hown
 have HR := Aside0.mk hR
 have HM := Aside0.mk hM
 have H0 := Aside0.mk (And.intro h hn)
 clear hown hR hM h hn
 go_enter Try.func83, Try.ntmps83
 go_wp2
 go_loopg [0, 4, 5, 6] k (fun kq v0 v4 v5 v6 w' => ∃ x : Int, v0 = .int .i64 x ∧ Aside0 (walkUp M kq x = some r ∧ fits64 x = true) ∧ ∃ m, w' = W.drewN m)
 case atStart => exact ⟨n, rfl, H0, ⟨0, rfl⟩⟩
 case round =>
  obtain ⟨x, rfl, HX, m, rfl⟩ := hrel
  cases gk with
  | zero => exact absurd HX.out.1 (by rw [walkUp]; simp)
  | succ k1 =>
   have hkey := Aside0.mk (Go.Maps.keyOf_int_mk (P := Try.prog) Try.underlying3 HX.out.2)
   obtain ⟨hhas, hat⟩ := HR.out x
   have hx := HX.out.1
   rw [walkUp] at hx
   cases hm : M x with
   | none =>
    rw [hm] at hx hhas
    obtain rfl := Option.some.inj hx
    have hh : Maps.has D (.int .i64 x) = false := hhas
    clear hat hx hm hhas
    go_wp2_with (first | (at_lookup; refine wpList_lookup_own_ok_int _ (by rfl) _ _ 102 (by rfl) 3 3 .i64 circLaw Try.underlying102 Try.underlying3 (circZero _) b cnt D (by rfl) HW.out _ _ (by rfl) hkey.out ?_; intro c hat_ hwc_; rw [hh]; clear hat_ hwc_))
    go_ret
    exact ⟨rfl, m, rfl⟩
   | some u =>
    rw [hm] at hx hhas
    have hh : Maps.has D (.int .i64 x) = true := hhas
    have hau := Aside0.mk (hat u hm)
    have HU := Aside0.mk (HM.out x u hm)
    clear hat hm hhas
    dsimp only at hx
    by_cases hux : u = x
    ·rw [if_pos hux] at hx
     obtain rfl := Option.some.inj hx
     have hb : (u == x) = true := beq_iff_eq.2 hux
     have hb2 : decide (u = x) = true := decide_eq_true hux
     clear hx hux
     go_wp2_with (first | (at_lookup; refine wpList_lookup_own_ok_int _ (by rfl) _ _ 102 (by rfl) 3 3 .i64 circLaw Try.underlying102 Try.underlying3 (circZero _) b cnt D (by rfl) HW.out _ _ (by rfl) hkey.out ?_; intro c hat_ hwc_; rw [hh]; have hc_ := hat_.symm.trans hau.out; injection hc_ with hc_; injection hc_ with _ hc_; subst hc_; clear hat_ hwc_))
     go_ret
     exact ⟨rfl, m, rfl⟩
    ·rw [if_neg hux] at hx
     have hb : (u == x) = false := beq_false_of_ne hux
     have hb2 : decide (u = x) = false := decide_eq_false hux
     have HX2 := Aside0.mk (And.intro hx HU.out)
     clear hx hux
     go_wp2_with (first | (at_lookup; refine wpList_lookup_own_ok_int _ (by rfl) _ _ 102 (by rfl) 3 3 .i64 circLaw Try.underlying102 Try.underlying3 (circZero _) b cnt D (by rfl) HW.out _ _ (by rfl) hkey.out ?_; intro c hat_ hwc_; rw [hh]; have hc_ := hat_.symm.trans hau.out; injection hc_ with hc_; injection hc_ with _ hc_; subst hc_; clear hat_ hwc_))
     go_roundg k1
     case measure => omega
     case rel => exact ⟨_, rfl, HX2, m, rfl⟩

set_option maxRecDepth 100000 in
set_option maxHeartbeats 8000000 in
theorem impl_HasCircle.calls (k : Nat) (A0 : Option Addr) (c0 : Nat) (l0 : List S63) (r : Bool) (w : World) (hr0 : Kd.C k63 w A0 l0.length l0) (hc0 : l0.length ≤ c0) (h : impl_HasCircle.f k l0 = some r) :
  Calls Try.prog 40 #[.slice A0 l0.length c0] w fun e w' => e = .returned (.bool r) ∧ Below w.heap.size w w' := by
 have hu := Try.underlying63
 have hmm := @run_makeMap Try.prog
 have eg : ∀ args w, (callFunc 83 args).run Try.prog w = .ok (.enter 83 args) w := enters_of Try.func83 (by kernel_rfl) rfl
 unfold impl_HasCircle.f at h
 by_cases hw : l0.all (fun x => fits64 x.f0 && fits64 x.f1) = true
 rotate_left
 ·rw [if_neg hw] at h
  cases h
 rw [if_pos hw] at h
 have hwf : ∀ x ∈ l0, fits64 x.f0 = true ∧ fits64 x.f1 = true := fun x hx => by
  have := List.all_eq_true.1 hw x hx
  rwa [Bool.and_eq_true] at this
 obtain ⟨n, hn⟩ : ∃ n, l0.length = n := ⟨_, rfl⟩
 have hmax : n ≤ 9223372036854775807 := by rw [← hn]; exact hr0.2.1
 rw [hn] at hr0 ⊢
 have HR0 := Aside0.mk hr0
 have HWF := Aside0.mk hwf
 have HN := Aside0.mk hn
 have HN0 := Aside0.mk hmax
 have HH := Aside0.mk h
 clear hr0 hc0 h hw hwf hn hmax
 go_enter Try.func40, Try.ntmps40
 go_wp2_with (first | ((with_reducible refine gate_dst (N := 3) rfl ?_); refine box_event ?hg (N := 3) ?hd (cs := #[.map none]) (t := 102) ?hr ?_; (case hd => rfl); (case hg => rfl); (case hr => first | (go_simp; done) | (go_simp; rfl)); intro g3 hg wb3 hbox hb; have HB3 := Aside0.mk (below_step (below_alloc (Below.refl _ _) _) hb : Below w.heap.size w wb3); have HM3 := Aside0.mk (World.ownsMap.kept (World.ownsMap_made (H := Unit) w Try.prog 3 (plainElem Try.prog 3)) (grown_of_below hb none) (by simp)); have BK3 := Aside0.mk hbox; have GE3 := Aside0.mk (by rw [hg]; simp : w.heap.size ≤ g3); have NE3 := Aside0.mk (by rw [hg]; simp : w.heap.size ≠ g3); have hcz3 : wb3.cell? ⟨g3, 0, none⟩ = some (.map none) := (blk_cell BK3.out 0).trans rfl; have hfz3 := blk_frozen BK3.out 0; clear hbox hb hg))
 go_loopg [6, 7, 8, 13] (n + 1) (fun kq v6 v7 v8 v13 w' => ∃ (i cnt : Nat) (D : DataW Unit) (M : Int → Option Int), v13 = .int .i64 (i : Int) ∧ Aside0 (i ≤ n ∧ n + 1 ≤ i + kq ∧ cnt ≤ i) ∧ Aside0 (circO k M (l0.drop i) = some r) ∧ Aside0 (MapRel D M ∧ ∀ x u, M x = some u → fits64 u = true) ∧ Aside0 (World.ownsMap (H := Unit) w' Try.prog 3 (plainElem Try.prog 3) w.heap.size cnt D) ∧ Aside0 (w'.heap[g3]? = some (.cells #[.map (some w.heap.size)] 102 (0, 0))) ∧ Aside0 (Below w.heap.size w w'))
 case atStart => exact ⟨0, 0, _, _, rfl, ⟨by omega⟩, HH, ⟨MapRel_nil, fun _ _ h => by cases h⟩, ⟨World.ownsMap.setCell HM3.out (a := ⟨g3, 0, none⟩) NE3.out _⟩, ⟨blk_put BK3.out 0 _ rfl⟩, ⟨below_set HB3.out GE3.out⟩⟩
 case round =>
  obtain ⟨i, cnt, D, M, rfl, HI, HK, HMR, HMP, BKr, HB⟩ := hrel
  clear BK3 HB3 HM3 hcz3 hfz3
  have BK3 := BKr
  clear BKr
  cases gk with
  | zero => exact absurd HI.out (by omega)
  | succ k1 =>
   by_cases hi : i < n
   ·have HL := Aside0.mk hi
    have cb : decide ((i : Int) < (n : Int)) = true := decide_eq_true (by omega)
    have cb2 : decide (i < n) = true := decide_eq_true hi
    have hil : i < l0.length := by rw [HN.out]; exact hi
    obtain ⟨ad, e0, q0, q1⟩ := at_T63 (Kd.C_below HR0.out HB.out) (i : Int) (by omega) (by omega)
    cases e0
    have hx : rd_T63 l0 (i : Int) = l0[i] := getD_at l0 i _ hil
    rw [hx] at q0 q1
    simp only [Int.toNat_natCast] at q0 q1
    have hk := HK.out
    rw [List.drop_eq_getElem_cons hil, circO] at hk
    have hwx := HWF.out l0[i] (List.getElem_mem hil)
    clear hx
    generalize l0[i] = x at hk q0 q1 hwx
    obtain ⟨a, ha, hk⟩ := Option.bind_eq_some_iff.1 hk
    obtain ⟨b, hb, hk⟩ := Option.bind_eq_some_iff.1 hk
    have HWA := Aside0.mk (walkUp_fits M HMR.out.2 k _ _ hwx.1 ha)
    have HWB := Aside0.mk (walkUp_fits M HMR.out.2 k _ _ hwx.2 hb)
    have HFA := Aside0.mk (fun (W : World) (hc : W.cell? ⟨g3, 0, none⟩ = some (.map (some w.heap.size))) (ho : World.ownsMap (H := Unit) W Try.prog 3 (plainElem Try.prog 3) w.heap.size cnt D) => circ_find k w.heap.size cnt g3 D M HMR.out.1 HMR.out.2 x.f0 a hwx.1 ha W hc ho)
    have HFB := Aside0.mk (fun (W : World) (hc : W.cell? ⟨g3, 0, none⟩ = some (.map (some w.heap.size))) (ho : World.ownsMap (H := Unit) W Try.prog 3 (plainElem Try.prog 3) w.heap.size cnt D) => circ_find k w.heap.size cnt g3 D M HMR.out.1 HMR.out.2 x.f1 b hwx.2 hb W hc ho)
    have HW := Aside0.mk (show wrap64 ((i : Int) + 1) = ((i + 1 : Nat) : Int) by
     have := HN0.out
     rw [IntWalk.wrap64_in _ ⟨by omega, by omega⟩]
     omega)
    have hiz : (i : Int) < (n : Int) := by omega
    have hi0 : (0 : Int) ≤ (i : Int) := by omega
    clear ha hb hwx hil
    by_cases hab : a = b
    ·rw [if_pos hab] at hk
     obtain rfl := Option.some.inj hk
     have hd1 : (a == b) = true := beq_iff_eq.2 hab
     have hd2 : decide (a = b) = true := decide_eq_true hab
     clear hk hab
     go_wp2_with (first | ((with_reducible refine gate_dst (N := 6) rfl ?_); refine box_event ?hg (N := 6) ?hd (cs := #[.int .i64 0, .int .i64 0]) (t := 63) ?hr ?_; (case hd => rfl); (case hg => rfl); (case hr => first | (go_simp; done) | (go_simp; rfl)); intro g6 hg wb6 hbox hb; have HX6 := Aside0.mk (below_step (by repeat (first | exact Below.refl _ _ | (with_reducible first | apply below_alloc | apply pw_below_drewN | apply below_drew1))) hb : Below wr.heap.size wr wb6); have GX6 := Aside0.mk (by rw [hg]; exact below_size (by repeat (first | exact Below.refl _ _ | (with_reducible first | apply below_alloc | apply pw_below_drewN | apply below_drew1))) : wr.heap.size ≤ g6); have BK6 := Aside0.mk hbox; clear hbox hb hg; have NE36 := Aside0.mk (show g3 ≠ g6 by have := blk_lt BK3.out; have := GX6.out; omega); have NEb6 := Aside0.mk (show w.heap.size ≠ g6 by have := HMP.out.lt; have := GX6.out; omega); have HMX := Aside0.mk (World.ownsMap.setCell (World.ownsMap.setCell (World.ownsMap.kept HMP.out (grown_of_below HX6.out none) (by simp)) (a := ⟨g6, 0, none⟩) NEb6.out (.int .i64 x.f0)) (a := ⟨g6, 1, none⟩) NEb6.out (.int .i64 x.f1)); have BX3 := Aside0.mk (show ((wb6.setCell ⟨g6, 0, none⟩ (.int .i64 x.f0)).setCell ⟨g6, 1, none⟩ (.int .i64 x.f1)).heap[g3]? = some (.cells #[.map (some w.heap.size)] 102 (0, 0)) from blk_far (blk_far (blk_below BK3.out HX6.out) NE36.out _) NE36.out _); have hc3 : ((wb6.setCell ⟨g6, 0, none⟩ (.int .i64 x.f0)).setCell ⟨g6, 1, none⟩ (.int .i64 x.f1)).cell? ⟨g3, 0, none⟩ = some (.map (some w.heap.size)) := (blk_cell BX3.out 0).trans rfl; have HFA0 := Aside0.mk (HFA.out ((wb6.setCell ⟨g6, 0, none⟩ (.int .i64 x.f0)).setCell ⟨g6, 1, none⟩ (.int .i64 x.f1)) hc3 HMX.out); have HFA1 := Aside0.mk (fun m => HFA.out (((wb6.setCell ⟨g6, 0, none⟩ (.int .i64 x.f0)).setCell ⟨g6, 1, none⟩ (.int .i64 x.f1)).drewN m) hc3 HMX.out); have HFB0 := Aside0.mk (HFB.out ((wb6.setCell ⟨g6, 0, none⟩ (.int .i64 x.f0)).setCell ⟨g6, 1, none⟩ (.int .i64 x.f1)) hc3 HMX.out); have HFB1 := Aside0.mk (fun m => HFB.out (((wb6.setCell ⟨g6, 0, none⟩ (.int .i64 x.f0)).setCell ⟨g6, 1, none⟩ (.int .i64 x.f1)).drewN m) hc3 HMX.out); have hcz6 : wb6.cell? ⟨g6, 0, none⟩ = some (.int .i64 0) := (blk_cell BK6.out 0).trans rfl; have hcz61 : wb6.cell? ⟨g6, 1, none⟩ = some (.int .i64 0) := (blk_cell BK6.out 1).trans rfl; have hfz6 := blk_frozen BK6.out 0; have hfz61 := blk_frozen BK6.out 1))
     repeat (go_quiet (first | ((first | go_at_call 83 | go_at_fn 83); (first | (with_reducible refine (HFA1.out _).mono ?_) | (with_reducible refine HFA0.out.mono ?_)); rintro e w' ⟨rfl, nd, rfl⟩; (try first | exact ⟨rfl, _, World.drewN_drewN _ _ _⟩ | exact ⟨rfl, _, Eq.trans (World.drewN_drewN _ _ _) (congrArg (World.drewN _) (Nat.add_assoc _ _ _))⟩ | exact ⟨rfl, _, rfl⟩)) | ((first | go_at_call 83 | go_at_fn 83); (first | (with_reducible refine (HFB1.out _).mono ?_) | (with_reducible refine HFB0.out.mono ?_)); rintro e w' ⟨rfl, nd, rfl⟩; (try first | exact ⟨rfl, _, World.drewN_drewN _ _ _⟩ | exact ⟨rfl, _, Eq.trans (World.drewN_drewN _ _ _) (congrArg (World.drewN _) (Nat.add_assoc _ _ _))⟩ | exact ⟨rfl, _, rfl⟩))); try go_wp2)
     go_ret
     exact ⟨rfl, pw_below_drewN (below_set (below_set (below_step HB.out HX6.out) (Nat.le_trans HB.out.size GX6.out)) (Nat.le_trans HB.out.size GX6.out)) _⟩
    ·rw [if_neg hab] at hk
     have HK2 := Aside0.mk hk
     have hd1 : (a == b) = false := beq_false_of_ne hab
     have hd2 : decide (a = b) = false := decide_eq_false hab
     clear hk hab
     go_wp2_with (first | ((with_reducible refine gate_dst (N := 6) rfl ?_); refine box_event ?hg (N := 6) ?hd (cs := #[.int .i64 0, .int .i64 0]) (t := 63) ?hr ?_; (case hd => rfl); (case hg => rfl); (case hr => first | (go_simp; done) | (go_simp; rfl)); intro g6 hg wb6 hbox hb; have HX6 := Aside0.mk (below_step (by repeat (first | exact Below.refl _ _ | (with_reducible first | apply below_alloc | apply pw_below_drewN | apply below_drew1))) hb : Below wr.heap.size wr wb6); have GX6 := Aside0.mk (by rw [hg]; exact below_size (by repeat (first | exact Below.refl _ _ | (with_reducible first | apply below_alloc | apply pw_below_drewN | apply below_drew1))) : wr.heap.size ≤ g6); have BK6 := Aside0.mk hbox; clear hbox hb hg; have NE36 := Aside0.mk (show g3 ≠ g6 by have := blk_lt BK3.out; have := GX6.out; omega); have NEb6 := Aside0.mk (show w.heap.size ≠ g6 by have := HMP.out.lt; have := GX6.out; omega); have HMX := Aside0.mk (World.ownsMap.setCell (World.ownsMap.setCell (World.ownsMap.kept HMP.out (grown_of_below HX6.out none) (by simp)) (a := ⟨g6, 0, none⟩) NEb6.out (.int .i64 x.f0)) (a := ⟨g6, 1, none⟩) NEb6.out (.int .i64 x.f1)); have BX3 := Aside0.mk (show ((wb6.setCell ⟨g6, 0, none⟩ (.int .i64 x.f0)).setCell ⟨g6, 1, none⟩ (.int .i64 x.f1)).heap[g3]? = some (.cells #[.map (some w.heap.size)] 102 (0, 0)) from blk_far (blk_far (blk_below BK3.out HX6.out) NE36.out _) NE36.out _); have hc3 : ((wb6.setCell ⟨g6, 0, none⟩ (.int .i64 x.f0)).setCell ⟨g6, 1, none⟩ (.int .i64 x.f1)).cell? ⟨g3, 0, none⟩ = some (.map (some w.heap.size)) := (blk_cell BX3.out 0).trans rfl; have HFA0 := Aside0.mk (HFA.out ((wb6.setCell ⟨g6, 0, none⟩ (.int .i64 x.f0)).setCell ⟨g6, 1, none⟩ (.int .i64 x.f1)) hc3 HMX.out); have HFA1 := Aside0.mk (fun m => HFA.out (((wb6.setCell ⟨g6, 0, none⟩ (.int .i64 x.f0)).setCell ⟨g6, 1, none⟩ (.int .i64 x.f1)).drewN m) hc3 HMX.out); have HFB0 := Aside0.mk (HFB.out ((wb6.setCell ⟨g6, 0, none⟩ (.int .i64 x.f0)).setCell ⟨g6, 1, none⟩ (.int .i64 x.f1)) hc3 HMX.out); have HFB1 := Aside0.mk (fun m => HFB.out (((wb6.setCell ⟨g6, 0, none⟩ (.int .i64 x.f0)).setCell ⟨g6, 1, none⟩ (.int .i64 x.f1)).drewN m) hc3 HMX.out); have hcz6 : wb6.cell? ⟨g6, 0, none⟩ = some (.int .i64 0) := (blk_cell BK6.out 0).trans rfl; have hcz61 : wb6.cell? ⟨g6, 1, none⟩ = some (.int .i64 0) := (blk_cell BK6.out 1).trans rfl; have hfz6 := blk_frozen BK6.out 0; have hfz61 := blk_frozen BK6.out 1))
     go_quiet (first | ((first | go_at_call 83 | go_at_fn 83); (first | (with_reducible refine (HFA1.out _).mono ?_) | (with_reducible refine HFA0.out.mono ?_)); rintro e w' ⟨rfl, nd, rfl⟩; (try first | exact ⟨rfl, _, World.drewN_drewN _ _ _⟩ | exact ⟨rfl, _, Eq.trans (World.drewN_drewN _ _ _) (congrArg (World.drewN _) (Nat.add_assoc _ _ _))⟩ | exact ⟨rfl, _, rfl⟩)) | ((first | go_at_call 83 | go_at_fn 83); (first | (with_reducible refine (HFB1.out _).mono ?_) | (with_reducible refine HFB0.out.mono ?_)); rintro e w' ⟨rfl, nd, rfl⟩; (try first | exact ⟨rfl, _, World.drewN_drewN _ _ _⟩ | exact ⟨rfl, _, Eq.trans (World.drewN_drewN _ _ _) (congrArg (World.drewN _) (Nat.add_assoc _ _ _))⟩ | exact ⟨rfl, _, rfl⟩)))
     go_wp2_with (first | (at_mapUpdate; refine wpList_mapUpdate_own _ (by rfl) _ _ _ 102 (by rfl) 3 3 circLaw Try.underlying102 _ w.heap.size cnt D (by rfl) HMX.out (by unfold maxLen; have := HN0.out; have := HI.out; omega) _ _ _ (by rfl) (by rfl) (Go.Maps.keyOf_int_mk (P := Try.prog) Try.underlying3 HWA.out) _ [] (plainElem_int Try.underlying3 HWB.out) ?_; intro w9 hown9 hgrow9; have HM9 := Aside0.mk hown9; have BK9 := Aside0.mk (blk_grown (g := g3) (o := .cells #[.map (some w.heap.size)] 102 (0, 0)) (blk_drewN BX3.out _) hgrow9 (fun e_ => by injection e_ with e_; exact NE3.out e_.symm)); have HB9 := Aside0.mk (pw_below_grown (pw_below_drewN (below_set (below_set (below_step HB.out HX6.out) (Nat.le_trans HB.out.size GX6.out)) (Nat.le_trans HB.out.size GX6.out)) _) (some w.heap.size) (below_size (pw_below_drewN (below_set (below_set (below_step HB.out HX6.out) (Nat.le_trans HB.out.size GX6.out)) (Nat.le_trans HB.out.size GX6.out)) _)) hgrow9 (fun k_ e_ => by injection e_ with e_; omega)); clear hown9 hgrow9))
     go_roundg k1
     case measure => omega
     case rel => exact ⟨i + 1, cnt + 1, _, _, by first | rw [HW.out] | rfl | simp, ⟨by have := HI.out; have := HL.out; omega⟩, HK2, ⟨MapRel_put HMX.out.isMap HMR.out.1 a b, fun y u hy => by
      unfold setAt at hy
      by_cases e : y = a
      ·rw [if_pos e] at hy
       obtain rfl := Option.some.inj hy
       exact HWB.out
      ·rw [if_neg e] at hy
       exact HMR.out.2 y u hy⟩, HM9, BK9, HB9⟩
   ·have cb : decide ((i : Int) < (n : Int)) = false := decide_eq_false (by omega)
    have cb2 : decide (i < n) = false := decide_eq_false hi
    have hk := HK.out
    rw [List.drop_of_length_le (by rw [HN.out]; omega), circO] at hk
    obtain rfl := Option.some.inj hk
    clear hk hi
    go_wp2
    go_ret
    exact ⟨rfl, HB.out⟩

end Go.Proofs.Ytgghhcifkgdpeaa.Z
