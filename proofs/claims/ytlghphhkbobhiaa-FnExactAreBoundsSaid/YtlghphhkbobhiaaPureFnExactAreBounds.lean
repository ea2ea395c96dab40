/- The statement: for every matrix, bounds and number, the program's AreBounds answers as the reference's does, and leaves the lists as they were. No condition. -/
import Derived.Test.YtlghphhkbobhiaaZDefFnExactAreBounds
import Derived.Test.YtlghphhkbobhiaaPHFnExactAreBounds
import Derived.Test.YtlghphhkbobhiaaPAreBounds
namespace Go.Proofs.Ytlghphhkbobhiaa.Pure
open Go.RowKit Go.Proofs.Ytlghphhkbobhiaa.Z Go.Proofs.YtlghphhkbobhiaaW.PrintWords

theorem FnExactAreBounds : laws_FnExactAreBounds.Pure := by
  intro m b n hm hb _
  refine Ev.rounds ?_
  unfold laws_FnExactAreBounds.f
  obtain ⟨z, hz, hz2⟩ := sz_IntSS m hm.1 (fun x hx => (hm.2 x hx).1) 1048576 (by omega) (by omega)
  by_cases hn : z < 0
  · exact Ev.bind hz (Ev.ifpos hn (Ev.now _))
  · have hsm := hz2 (by omega)
    obtain ⟨y, hy, hy2⟩ := sz_IntervalS b hb.1 z (by omega) (by omega)
    by_cases hn2 : y < 0
    · exact Ev.bind hz (Ev.ifneg hn (Ev.bind0 hy (Ev.ifpos hn2 (Ev.now _))))
    · have hsb := (hy2 (by omega)).2
      have tm := to_IntSS m hsm.2
      have tb := to_IntervalS b hsb
      have hlen : (b.map c96_93).length ≤ 1048576 := by simpa using hsb.1
      have em := eq_IntSS m hsm.2
      have eb := eq_IntervalS (b.map c96_93) (by unfold maxLen; omega)
      have hml := hsm.2.1
      have hs := spec_areBounds m (b.map c96_93) n (by omega) (fun x hx => by have := (hsm.2.2 x hx).1; omega) (by omega)
      have hi := impl_areBounds m (b.map c96_93) n (by omega)
      refine Ev.bind hz (Ev.ifneg hn (Ev.bind0 hy (Ev.ifneg hn2 (Ev.bind tm (Ev.bind tb (Ev.bind hs (Ev.bind tm (Ev.bind tb (Ev.bind hi ?_)))))))))
      exact Ev.ifneg (by simp) (Ev.bind tm (Ev.bind em (Ev.ifpos rfl (Ev.bind tb (Ev.bind eb (Ev.ifpos rfl (Ev.now _)))))))

end Go.Proofs.Ytlghphhkbobhiaa.Pure
