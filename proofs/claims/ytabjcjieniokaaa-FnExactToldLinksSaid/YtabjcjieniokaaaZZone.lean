/- What is told of blocks by their age: a made value's blocks lie from lo on, below hi; what lies in other zones stays when one is written. No condition. -/
import Derived.Test.YtabjcjieniokaaaWKept
import Derived.Test.YtabjcjieniokaaaWApart
import Derived.Test.YtabjcjieniokaaaWMore
namespace Go.Proofs.Ytabjcjieniokaaa.Z
open Go.RowKit Go.Proofs.YtabjcjieniokaaaW.PrintWords Go.Proofs.YtabjcjieniokaaaW.PrintLast Go.Proofs.YtabjcjieniokaaaW.PrintMore

/-- The blocks from lo on, below hi. -/
def Zone (lo hi k : Nat) : Prop := lo ≤ k ∧ k < hi

theorem zone_apart {lo hi lo2 hi2 k : Nat} (h : hi ≤ lo2 ∨ hi2 ≤ lo) (h1 : Zone lo hi k) (h2 : Zone lo2 hi2 k) : False := by
  unfold Zone at h1 h2
  omega

theorem R_zone {α : Type} {d : Kd α} {e n : Nat} {ok : Nat → Prop} {w W Wc w1 : World} {v : Value} {xs : List α} (ht : n ≤ W.heap.size) (hb0 : Below W.heap.size W Wc) (hB : Below w.heap.size w Wc) (hb : Below Wc.heap.size Wc w1) (ho : d.R e w1 Wc.heap.size ok v xs) :
    ∃ lo hi, n ≤ lo ∧ lo ≤ hi ∧ hi ≤ w1.heap.size ∧ d.R e w1 w.heap.size (fun k_ => Zone lo hi k_) v xs :=
  ⟨Wc.heap.size, w1.heap.size, Nat.le_trans ht hb0.size, hb.size, Nat.le_refl _, Kd.R_lower (Kd.R_mono (Kd.R_bound ho) (fun _ hk => ⟨hk.2.1, hk.2.2.1⟩)) hB.size⟩

theorem S_zone {α : Type} {d : Kd α} {e n : Nat} {ok : Nat → Prop} {w W Wc w1 : World} {v : Value} {xs : List α} (ht : n ≤ W.heap.size) (hb0 : Below W.heap.size W Wc) (hB : Below w.heap.size w Wc) (hb : Below Wc.heap.size Wc w1) (ho : Kd.S d e w1 Wc.heap.size ok v xs) :
    ∃ lo hi, n ≤ lo ∧ lo ≤ hi ∧ hi ≤ w1.heap.size ∧ Kd.S d e w1 w.heap.size (fun k_ => Zone lo hi k_) v xs :=
  ⟨Wc.heap.size, w1.heap.size, Nat.le_trans ht hb0.size, hb.size, Nat.le_refl _, Kd.S_lower (Kd.S_mono (Kd.S_bound ho) (fun _ hk => ⟨hk.2.1, hk.2.2.1⟩)) hB.size⟩

theorem R_zoneB {α : Type} {d : Kd α} {e g : Nat} {o : Obj} {ok : Nat → Prop} {w Wc w1 : World} {v : Value} {xs : List α} (hbk : Wc.heap[g]? = some o) (hB : Below w.heap.size w Wc) (hb : Below Wc.heap.size Wc w1) (ho : d.R e w1 Wc.heap.size ok v xs) :
    ∃ lo hi, g + 1 ≤ lo ∧ lo ≤ hi ∧ hi ≤ w1.heap.size ∧ d.R e w1 w.heap.size (fun k_ => Zone lo hi k_) v xs :=
  ⟨Wc.heap.size, w1.heap.size, Nat.succ_le_of_lt (blk_lt hbk), hb.size, Nat.le_refl _, Kd.R_lower (Kd.R_mono (Kd.R_bound ho) (fun _ hk => ⟨hk.2.1, hk.2.2.1⟩)) hB.size⟩

theorem zone_kept {n : Nat} {W Wc w1 : World} {S : Nat → Prop} (ht : n ≤ W.heap.size) (hb0 : Below W.heap.size W Wc) (hk : Kept Wc w1 S) : n ≤ w1.heap.size := Nat.le_trans ht (Nat.le_trans hb0.size hk.1)

end Go.Proofs.Ytabjcjieniokaaa.Z
