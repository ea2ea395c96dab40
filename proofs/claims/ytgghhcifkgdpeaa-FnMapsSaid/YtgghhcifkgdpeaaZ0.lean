-- Written by this session's wip/mp/mp.py out of the translation. Lean checks it.
import Derived.Test.YtgghhcifkgdpeaaProg
import Derived.Below
import Derived.Deep.Draws
import Derived.Deep.AppendLies
import Derived.Maps.AppendAt
import Derived.OwnWalk
import Derived.Laws.BytesArg
import Derived.Laws.MakeOwn
import Derived.Laws.OwnMore
import Derived.Deep.OwnRows
import Derived.Tactics
import Derived.Lib.ConvBytes
import Derived.Laws.Slices
import Derived.WalkKit
import Derived.KernelRfl
import Derived.RowKit3
import Derived.Deep.LoopGhost
import Derived.Deep.QuietTactic
import Derived.BigQuiet
import Derived.WideLaws
import Derived.Deep.DeepCutAuto
import Derived.Deep.CutBlock
import Derived.Deep.RegionHeld3
import Derived.Laws.Rows
import Derived.Lib.AppendStr
import Derived.ArgAppend
import Derived.Laws.IdiomCopy
import Derived.OrdersHeld
import Derived.Laws.BitsLemmas
import Derived.RowKit
import Derived.Test.YtgghhcifkgdpeaaWWords
import Derived.Test.YtgghhcifkgdpeaaWLast
import Derived.Test.YtgghhcifkgdpeaaWTab
import Derived.Test.YtgghhcifkgdpeaaWFour
import Derived.Test.YtgghhcifkgdpeaaWQPut
import Derived.Test.YtgghhcifkgdpeaaWApart
import Derived.Test.YtgghhcifkgdpeaaWArr
import Derived.Test.YtgghhcifkgdpeaaWZeros
import Derived.Test.YtgghhcifkgdpeaaWFoot
import Derived.Test.YtgghhcifkgdpeaaWKept
import Derived.Test.YtgghhcifkgdpeaaWShare
import Derived.Test.YtgghhcifkgdpeaaWN
import Derived.Test.YtgghhcifkgdpeaaWFootNe
import Derived.Test.YtgghhcifkgdpeaaWAt
import Derived.Test.YtgghhcifkgdpeaaWEqStruct
import Derived.Test.YtgghhcifkgdpeaaWRepsOne
import Derived.Test.YtgghhcifkgdpeaaWInv
import Derived.Test.YtgghhcifkgdpeaaWInvWords
import Derived.Test.YtgghhcifkgdpeaaWGuard
import Derived.Test.YtgghhcifkgdpeaaWNEv
import Derived.Test.YtgghhcifkgdpeaaWMore
namespace Go.Proofs.Ytgghhcifkgdpeaa.Z
open Go.RowKit Go.Proofs.YtgghhcifkgdpeaaW.PrintWords Go.Proofs.YtgghhcifkgdpeaaW.PrintLast Go.Proofs.YtgghhcifkgdpeaaW.PrintMore
attribute [local go_sem] max2_int min2_int max_two min_two max_three min_three max_four min_four   -- for this text's walks alone
set_option linter.unusedVariables false
set_option linter.unusedSimpArgs false



def errW : Option Int → Value
  | none => .nilIface
  | some c => .iface 0 (.int .i64 c)
theorem errW_none : errW none = .nilIface := rfl
theorem errW_some (c : Int) : errW (some c) = .iface 0 (.int .i64 c) := rfl

theorem info3 : (Try.prog.info? 3).map (fun i => (i.zero, i.size, i.bytes)) = some (some (.int .i64 0), 1, 8) := by kernel_rfl
theorem info61 : (Try.prog.info? 61).map (fun i => (i.zero, i.size, i.bytes)) = some (some (.agg #[(.slice none 0 0)]), 1, 24) := by kernel_rfl
theorem info63 : (Try.prog.info? 63).map (fun i => (i.zero, i.size, i.bytes)) = some (some (.agg #[(.int .i64 0), (.int .i64 0)]), 2, 16) := by kernel_rfl
-- the values' own types
/-! #### struct type 63 -/
structure S63 where
  f0 : Int
  f1 : Int
def z63 : S63 := ⟨(0 : Int), (0 : Int)⟩
def k63 : Kd S63 := Kd.iso (Kd.pair (Kd.int .i64) (Kd.int .i64)) (fun x : S63 => (x.f0, x.f1))
theorem k63_open {w : World} {x : S63} {cs : List Value} (h : k63.K w x cs) : cs = [.int .i64 x.f0, .int .i64 x.f1] := by
  obtain ⟨_, _, rfl, rfl, rfl⟩ := h
  exact rfl
theorem k63_openM {w : World} {base : Nat} {ok : Nat → Prop} {x : S63} {cs : List Value} (h : k63.M w base ok x cs) : cs = [.int .i64 x.f0, .int .i64 x.f1] := by
  obtain ⟨_, _, rfl, rfl, rfl⟩ := h
  exact rfl
theorem k63_mkM (w : World) (base : Nat) (ok : Nat → Prop) (x : S63)  : k63.M w base ok x [.int .i64 x.f0, .int .i64 x.f1] := ⟨[.int .i64 x.f0], [.int .i64 x.f1], rfl, rfl, rfl⟩
def rd_T63 (xs : List S63) (i : Int) : S63 := xs.getD i.toNat z63
theorem at_T63 {w : World} {A : Option Addr} {n : Nat} {xs : List S63} (h : Kd.C k63 w A n xs) (i : Int) (h0 : 0 ≤ i) (h1 : i < n) : ∃ ad , A = some ad ∧ w.cell? (ad.add (i.toNat * 2)) = some (.int .i64 (rd_T63 xs i).f0) ∧ w.cell? ⟨(ad.add (i.toNat * 2)).block, (ad.add (i.toNat * 2)).off + 1, none⟩ = some (.int .i64 (rd_T63 xs i).f1) := by
  obtain ⟨ad, c, e, _, hK, hc0⟩ := Kd.C_get h z63 i h0 h1
  have hc : ∀ j u, c[j]? = some u → w.cell? (ad.add (i.toNat * 2 + j)) = some u := hc0
  obtain rfl := k63_open hK
  exact ⟨ad, e, hc 0 _ rfl, by rw [← add_field _ _ 1 (by omega)]; exact hc 1 _ rfl⟩

/-! #### struct type 54 -/
structure S54 where
  f0 : Int
  f1 : (List S63)
/-! #### struct type 61 -/
structure S61 where
  f0 : (List Int)
def z61 : S61 := ⟨([] : List Int)⟩
def k61 : Kd S61 := Kd.iso (Kd.slice 3 (Kd.int .i64)) (fun x : S61 => x.f0)
theorem k61_open {w : World} {x : S61} {cs : List Value} (h : k61.K w x cs) : ∃ A0 c0, cs = [.slice A0 x.f0.length c0] ∧ x.f0.length ≤ c0 ∧ (Kd.int .i64).C w A0 x.f0.length x.f0 := by
  obtain ⟨A0, c0, rfl, l0, g0⟩ := h
  exact ⟨A0, c0, rfl, l0, g0⟩
theorem k61_openM {w : World} {base : Nat} {ok : Nat → Prop} {x : S61} {cs : List Value} (h : k61.M w base ok x cs) : ∃ v0, cs = [v0] ∧ (Kd.int .i64).R 3 w base ok v0 x.f0 := by
  obtain ⟨v0, rfl, g0⟩ := h
  exact ⟨v0, rfl, g0⟩
theorem k61_mk (w : World) (x : S61) {A0 : Option Addr} {c0 : Nat} (l0 : x.f0.length ≤ c0) (g0 : (Kd.int .i64).C w A0 x.f0.length x.f0) : k61.K w x [.slice A0 x.f0.length c0] := ⟨A0, c0, rfl, l0, g0⟩
theorem k61_mkM (w : World) (base : Nat) (ok : Nat → Prop) (x : S61) {v0 : Value} (g0 : (Kd.int .i64).R 3 w base ok v0 x.f0) : k61.M w base ok x [v0] := ⟨v0, rfl, g0⟩
theorem k61_openF {W : World} {ok : Nat → Prop} {x : S61} {cs : List Value} (h : Kd.FK k61 W ok x cs) : ∃ A0 c0, cs = [.slice A0 x.f0.length c0] ∧ x.f0.length ≤ c0 ∧ Kd.F (Kd.int .i64) W ok A0 x.f0.length x.f0 := by
  obtain ⟨A0, c0, rfl, l0, _⟩ := k61_open (Kd.FK_now h)
  exact ⟨A0, c0, rfl, l0, (fun W' hW => by obtain ⟨A0_, c0_, he, l0_, g0_⟩ := k61_open (h W' hW); injection (Option.some.inj (show some (Value.slice A0 x.f0.length c0) = some (Value.slice A0_ x.f0.length c0_) from congrArg (fun l => l[0]?) he)) with ha_ _ _; rw [ha_]; exact g0_)⟩
theorem k61_mkF (W : World) (ok : Nat → Prop) (x : S61) {A0 : Option Addr} {c0 : Nat} (l0 : x.f0.length ≤ c0) (g0 : Kd.F (Kd.int .i64) W ok A0 x.f0.length x.f0) : Kd.FK k61 W ok x [.slice A0 x.f0.length c0] := fun W2 hW => k61_mk W2 x l0 (g0 W2 hW)
def rd_T61 (xs : List S61) (i : Int) : S61 := xs.getD i.toNat z61
theorem at_T61 {w : World} {A : Option Addr} {n : Nat} {xs : List S61} (h : Kd.C k61 w A n xs) (i : Int) (h0 : 0 ≤ i) (h1 : i < n) : ∃ ad A0 c0, A = some ad ∧ w.cell? (ad.add i.toNat) = some (.slice A0 (rd_T61 xs i).f0.length c0) ∧ (rd_T61 xs i).f0.length ≤ c0 ∧ (Kd.int .i64).C w A0 (rd_T61 xs i).f0.length (rd_T61 xs i).f0 := by
  obtain ⟨ad, c, e, _, hK, hc0⟩ := Kd.C_get h z61 i h0 h1
  have hc : ∀ j u, c[j]? = some u → w.cell? (ad.add (i.toNat * 1 + j)) = some u := hc0
  obtain ⟨A0, c0, rfl, l0, g0⟩ := k61_open hK
  exact ⟨ad, A0, c0, e, by have hq := hc 0 _ rfl; rwa [Nat.mul_one, Nat.add_zero] at hq, l0, g0⟩

theorem bw0_ {n : Nat} {w0 w w1 : World} (h : Aside0 (Below n w0 w)) (f : Below n w0 w → Below n w0 w1 := by intro h; repeat (first | (with_reducible first | exact h | apply below_alloc | apply pw_below_drewN | apply below_drew1) | exact h)) : Below n w0 w1 := f h.out
theorem bw1_ {n : Nat} {w0 w w1 : World} {p0 : Prop} (h : Aside0 (Below n w0 w)) (g0 : p0) (f : Below n w0 w → p0 → Below n w0 w1 := by intro h g0; repeat (first | (with_reducible first | exact h | apply below_alloc | apply pw_below_drewN | apply below_drew1 | refine below_set ?_ g0) | exact h)) : Below n w0 w1 := f h.out g0
theorem bw2_ {n : Nat} {w0 w w1 : World} {p0 : Prop} {p1 : Prop} (h : Aside0 (Below n w0 w)) (g0 : p0) (g1 : p1) (f : Below n w0 w → p0 → p1 → Below n w0 w1 := by intro h g0 g1; repeat (first | (with_reducible first | exact h | apply below_alloc | apply pw_below_drewN | apply below_drew1 | refine below_set ?_ g0 | refine below_set ?_ g1) | exact h)) : Below n w0 w1 := f h.out g0 g1
theorem bw3_ {n : Nat} {w0 w w1 : World} {p0 : Prop} {p1 : Prop} {p2 : Prop} (h : Aside0 (Below n w0 w)) (g0 : p0) (g1 : p1) (g2 : p2) (f : Below n w0 w → p0 → p1 → p2 → Below n w0 w1 := by intro h g0 g1 g2; repeat (first | (with_reducible first | exact h | apply below_alloc | apply pw_below_drewN | apply below_drew1 | refine below_set ?_ g0 | refine below_set ?_ g1 | refine below_set ?_ g2) | exact h)) : Below n w0 w1 := f h.out g0 g1 g2
theorem bw4_ {n : Nat} {w0 w w1 : World} {p0 : Prop} {p1 : Prop} {p2 : Prop} {p3 : Prop} (h : Aside0 (Below n w0 w)) (g0 : p0) (g1 : p1) (g2 : p2) (g3 : p3) (f : Below n w0 w → p0 → p1 → p2 → p3 → Below n w0 w1 := by intro h g0 g1 g2 g3; repeat (first | (with_reducible first | exact h | apply below_alloc | apply pw_below_drewN | apply below_drew1 | refine below_set ?_ g0 | refine below_set ?_ g1 | refine below_set ?_ g2 | refine below_set ?_ g3) | exact h)) : Below n w0 w1 := f h.out g0 g1 g2 g3
theorem kb0_ {w0 w w1 : World} {g : Nat} {row : Option Nat} (h : Aside0 (KeepBut w0 w g row)) (f : KeepBut w0 w g row → KeepBut w0 w1 g row := by intro h; repeat (first | (with_reducible first | exact h | apply KeepBut.set_ | apply keep_drewN | apply keep_drew | apply keep_alloc) | exact h)) : KeepBut w0 w1 g row := f h.out
theorem kb1_ {w0 w w1 : World} {g : Nat} {row : Option Nat} {p0 : Prop} (h : Aside0 (KeepBut w0 w g row)) (g0 : p0) (f : KeepBut w0 w g row → p0 → KeepBut w0 w1 g row := by intro h g0; repeat (first | (with_reducible first | exact h | apply KeepBut.set_ | apply keep_drewN | apply keep_drew | apply keep_alloc | refine keep_far ?_ g0 _) | exact h)) : KeepBut w0 w1 g row := f h.out g0
theorem kb2_ {w0 w w1 : World} {g : Nat} {row : Option Nat} {p0 : Prop} {p1 : Prop} (h : Aside0 (KeepBut w0 w g row)) (g0 : p0) (g1 : p1) (f : KeepBut w0 w g row → p0 → p1 → KeepBut w0 w1 g row := by intro h g0 g1; repeat (first | (with_reducible first | exact h | apply KeepBut.set_ | apply keep_drewN | apply keep_drew | apply keep_alloc | refine keep_far ?_ g0 _ | refine keep_far ?_ g1 _) | exact h)) : KeepBut w0 w1 g row := f h.out g0 g1
theorem kb3_ {w0 w w1 : World} {g : Nat} {row : Option Nat} {p0 : Prop} {p1 : Prop} {p2 : Prop} (h : Aside0 (KeepBut w0 w g row)) (g0 : p0) (g1 : p1) (g2 : p2) (f : KeepBut w0 w g row → p0 → p1 → p2 → KeepBut w0 w1 g row := by intro h g0 g1 g2; repeat (first | (with_reducible first | exact h | apply KeepBut.set_ | apply keep_drewN | apply keep_drew | apply keep_alloc | refine keep_far ?_ g0 _ | refine keep_far ?_ g1 _ | refine keep_far ?_ g2 _) | exact h)) : KeepBut w0 w1 g row := f h.out g0 g1 g2
theorem bk_ {w w1 : World} {g : Nat} {o : Obj} (h : Aside0 (w.heap[g]? = some o)) (f : w.heap[g]? = some o → w1.heap[g]? = some o := by intro h; (with_reducible repeat (first | refine blk_drewN ?_ _ | refine blk_drew ?_ | refine blk_alloc ?_ _)); exact h) : w1.heap[g]? = some o := f h.out
theorem kr_ {α : Type} {K : Kd α} {n : Nat} {w w1 : World} {b : Nat} {ok : Nat → Prop} {v : Value} {l : List α} (h : Aside0 (K.R n w b ok v l)) (f : K.R n w b ok v l → K.R n w1 b ok v l := by intro h; (with_reducible repeat (first | apply Kd.R_alloc | apply Kd.R_drewN | apply Kd.R_drew)); exact h) : K.R n w1 b ok v l := f h.out
theorem kv_ {α : Type} {K : Kd α} {n : Nat} {w w1 : World} {b : Nat} {ok : Nat → Prop} {v : Value} {l : List α} (h : Aside0 (K.V n w b ok v l)) (f : K.V n w b ok v l → K.V n w1 b ok v l := by intro h; (with_reducible repeat (first | apply Kd.V_alloc | apply Kd.V_drewN | apply Kd.V_drew)); exact h) : K.V n w1 b ok v l := f h.out
theorem ks_ {α : Type} {K : Kd α} {n : Nat} {w w1 : World} {b : Nat} {ok : Nat → Prop} {v : Value} {l : List α} (h : Aside0 (K.S n w b ok v l)) (f : K.S n w b ok v l → K.S n w1 b ok v l := by intro h; (with_reducible repeat (first | apply Kd.S_alloc | apply Kd.S_drewN | apply Kd.S_drew)); exact h) : K.S n w1 b ok v l := f h.out
theorem pu_ {P : Program} {ops : Array Oper} {Q : Exit → Act → World → Prop} {md : Region.Mode} {S : World → Prop} {ds : List Nat} {T : Bool × List (List Nat × List Nat)} {fuel : Nat} {l : Array Bool} {a : Act} {w : World} {oi : Oper} {a' : Act} (i N : Nat) (l' : Array Bool) (HT : Aside0 (rtab md ops = T)) (h : wpAnyLast P md ops Q S ds fuel l' a' w) (hi : ops[i]? = some oi := by exact rfl) (hN : oi.dst = some N := by exact rfl) (hc : anyT T l.toList l'.toList i = true := by kernel_rfl) (hQ : ∀ c a w, Q (.panic c) (a.put oi.dst undef) w → Q (.panic c) a w := by exact fun _ _ _ h => h) (hy : Yields P ops oi undef a := by exact Or.inr ⟨by rfl, rfl⟩) (ha : a.put (some N) undef = a' := by simp only [Act.put, List.setIfInBounds_toArray, List.set_cons_zero, List.set_cons_succ, i64_w, i32_w]; rfl) : wpAnyLast P md ops Q S ds (fuel + 1) l a w := pure_ l' hi hN (any_of HT.out hc) hQ hy ha h
theorem pv_ {P : Program} {ops : Array Oper} {Q : Exit → Act → World → Prop} {md : Region.Mode} {S : World → Prop} {ds : List Nat} {T : Bool × List (List Nat × List Nat)} {fuel : Nat} {l : Array Bool} {a : Act} {w : World} {oi : Oper} {v : Value} {a' : Act} (i N : Nat) (l' : Array Bool) (HT : Aside0 (rtab md ops = T)) (h : wpAnyLast P md ops Q S ds fuel l' a' w) (hi : ops[i]? = some oi := by exact rfl) (hN : oi.dst = some N := by exact rfl) (hc : anyT T l.toList l'.toList i = true := by kernel_rfl) (hQ : ∀ c a w, Q (.panic c) (a.put oi.dst v) w → Q (.panic c) a w := by exact fun _ _ _ h => h) (hy : Yields P ops oi v a := by exact Or.inl ⟨by rfl, by intro w'; go_simp; with_reducible rfl⟩) (ha : a.put (some N) v = a' := by simp only [Act.put, List.setIfInBounds_toArray, List.set_cons_zero, List.set_cons_succ, i64_w, i32_w]; rfl) : wpAnyLast P md ops Q S ds (fuel + 1) l a w := pure_ l' hi hN (any_of HT.out hc) hQ hy ha h
end Go.Proofs.Ytgghhcifkgdpeaa.Z
