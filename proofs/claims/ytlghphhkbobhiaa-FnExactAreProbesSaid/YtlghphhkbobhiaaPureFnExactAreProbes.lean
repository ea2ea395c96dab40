/- The statement: for every network and probes, the program's AreProbes answers as the reference's does, and leaves the network and the probes as they were. No condition. -/
import Derived.Test.YtlghphhkbobhiaaZDefFnExactAreProbes
import Derived.Test.YtlghphhkbobhiaaPHFnExactAreProbes
import Derived.Test.YtlghphhkbobhiaaPAreProbes
namespace Go.Proofs.Ytlghphhkbobhiaa.Pure
open Go.RowKit Go.Proofs.Ytlghphhkbobhiaa.Z Go.Proofs.YtlghphhkbobhiaaW.PrintWords

theorem FnExactAreProbes : laws_FnExactAreProbes.Pure := by
  intro n l ps hx hp
  refine Ev.rounds ?_
  unfold laws_FnExactAreProbes.f
  obtain ⟨s, hs, hs2⟩ := sz_Net ⟨n, l⟩ hx.2.1 1048576 (by omega) (by omega)
  by_cases hn : s < 0
  · exact Ev.bind0 hs (Ev.ifpos hn (Ev.now _))
  · have hq := hs2 (by omega)
    have hsm := hq.2
    obtain ⟨y, hy, hy2⟩ := sz_ProbeS ps hp.1 (fun x hx => (hp.2 x hx).2.2.1) s (by omega) (by omega)
    by_cases hn2 : y < 0
    · exact Ev.bind0 hs (Ev.ifneg hn (Ev.bind hy (Ev.ifpos hn2 (Ev.now _))))
    · have hsp := (hy2 (by omega)).2
      have ht := to_Net ⟨n, l⟩ hsm
      have tp := to_ProbeS ps hsp
      have hlen : (l.map c116_107).length ≤ 1048576 := by simpa using hsm.2.1
      have hlp : (ps.map c101_102).length ≤ 1048576 := by simpa using hsp.1
      have hxp : ∀ p ∈ ps.map c101_102, p.f2.length ≤ 1048576 := by
        intro p hp
        obtain ⟨q, hq, rfl⟩ := List.mem_map.1 hp
        exact (hsp.2 q hq).2.2.1
      have h1 := spec_areProbes n (l.map c116_107) (ps.map c101_102) (by omega) (by omega) (fun p hp => by have := hxp p hp; omega)
      have h2 := impl_areProbes n (l.map c116_107) (ps.map c101_102) (by omega) (fun p hp => by have := hxp p hp; omega)
      have he := eq_Net ⟨n, l.map c116_107⟩ ⟨trivial, hlen, fun _ _ => ⟨trivial, trivial⟩⟩
      have ep := eq_ProbeS (ps.map c101_102) ⟨hlp, fun p hp => ⟨trivial, trivial, hxp p hp, fun _ _ => trivial⟩⟩
      refine Ev.bind0 hs (Ev.ifneg hn (Ev.bind hy (Ev.ifneg hn2 (Ev.bind ht (Ev.bind tp (Ev.bind h1 (Ev.bind ht (Ev.bind tp (Ev.bind h2 ?_)))))))))
      exact Ev.ifneg (by simp) (Ev.bind ht (Ev.bind he (Ev.ifpos rfl (Ev.bind tp (Ev.bind ep (Ev.ifpos rfl (Ev.now _)))))))

end Go.Proofs.Ytlghphhkbobhiaa.Pure
