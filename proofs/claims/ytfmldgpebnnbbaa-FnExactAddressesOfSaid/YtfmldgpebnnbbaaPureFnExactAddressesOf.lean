/- The statement: for every list of replies, the program's AddressesOf answers as the reference's does, leaves the replies as they were, and its answer shares no memory with the replies or with another answer. No condition. -/
import Derived.Test.YtfmldgpebnnbbaaZDefFnExactAddressesOf
import Derived.Test.YtfmldgpebnnbbaaPHFnExactAddressesOf
import Derived.Test.YtfmldgpebnnbbaaPAddr
namespace Go.Proofs.Ytfmldgpebnnbbaa.Pure
open Go.RowKit Go.Proofs.Ytfmldgpebnnbbaa.Z Go.Proofs.YtfmldgpebnnbbaaW.PrintWords

theorem FnExactAddressesOf : laws_FnExactAddressesOf.Pure := by
  intro l hl
  refine Ev.rounds ?_
  unfold laws_FnExactAddressesOf.f
  obtain ⟨s, hs, hs2⟩ := sz_ReplyS l hl.1 1048576 (by omega) (by omega)
  by_cases hn : s < 0
  · exact Ev.bind0 hs (Ev.ifpos hn (Ev.now _))
  · have hsm := (hs2 (by omega)).2
    have ht := to_ReplyS l hsm
    have hlen : (l.map c98_96).length ≤ 1048576 := by simpa using hsm.1
    have h1 := spec_addr (l.map c98_96) hlen
    have h2 := impl_addr (l.map c98_96) hlen
    have he := eq_ReplyS (l.map c98_96) (by unfold maxLen; omega)
    have hrl : (sortedF (addrs (l.map c98_96))).length ≤ 1048576 := by
      have := sorted_len_le (addrs (l.map c98_96))
      have e : (addrs (l.map c98_96)).length = (l.map c98_96).length := by unfold addrs; rw [List.length_map]
      omega
    generalize sortedF (addrs (l.map c98_96)) = q at h1 h2 hrl
    have hi := eq_IntS q (by unfold maxLen; omega)
    have hm := mark_ReplyS (l.map c98_96) 1 (by omega) (by omega)
    have hmi := mark_IntS q 1 (by omega) (by omega)
    have hh := held_IntS q.length 1 (by omega) (by omega)
    refine Ev.bind0 hs (Ev.ifneg hn (Ev.bind ht (Ev.bind h1 (Ev.bind ht (Ev.bind h2 (Ev.bind hi (Ev.ifpos rfl (Ev.bind ht (Ev.bind he (Ev.ifpos rfl (Ev.bind hm (Ev.ifneg (by omega) (Ev.bind hi ?_)))))))))))))
    refine Ev.step (fun k => by rw [laws_FnExactAddressesOf.j0]) ?_
    refine Ev.ifneg (by decide) (Ev.bind hmi (Ev.bind hh (Ev.ifneg (by omega) (Ev.ifpos rfl (Ev.bind ht (Ev.bind h2 (Ev.bind hi (Ev.ifpos rfl (Ev.bind hh (Ev.ifneg (by omega) (Ev.ifpos rfl (Ev.now _))))))))))))

end Go.Proofs.Ytfmldgpebnnbbaa.Pure
