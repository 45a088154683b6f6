/- Of a text of ours what this claim needs. -/
import Derived.Test.YtpeefjfklklhdaaDoorZzFnHopsPHops
import Derived.Test.YtpeefjfklklhdaaDoorZzFnHopsPBody
import Derived.Test.YtpeefjfklklhdaaDoorZzFnHopsQ12
import Derived.Test.YtpeefjfklklhdaaDoorZzFnHopsQ18
import Derived.Test.YtpeefjfklklhdaaDoorZzFnHopsQ0
import Derived.Test.YtpeefjfklklhdaaDoorZzFnHopsHHop
namespace Go.Proofs.YtpeefjfklklhdaaDoor.Q
open Go.RowKit Go.Proofs.YtpeefjfklklhdaaDoorW.PrintWords Go.Proofs.YtpeefjfklklhdaaDoorW.PrintLast Go.Proofs.YtpeefjfklklhdaaDoorW.PrintMore
set_option linter.unusedVariables false
def hopLine (s : ByteArray) : ByteArray := (⟨#[72, 111, 112, 58, 32]⟩ : ByteArray) ++ s
def hopPut (s : ByteArray) (l : List ByteArray) : List ByteArray × Bool := if domL (LL s) = true ∧ bodyOk l = true ∧ l.length ≠ 12 then (hopLine s :: l, true) else ([], false)
theorem hopPut_len (s : ByteArray) (l : List ByteArray) : (hopPut s l).1.length ≤ l.length + 1 := by
  unfold hopPut
  split
  · simp
  · simp
theorem specHopPut_ev (s : ByteArray) (l : List ByteArray) (hs : s.size ≤ 1048576) (hm : l.length ≤ 1048576) (hz : ∀ z ∈ l, z.size ≤ 9223372036854775807) : Ev (fun k => spec_HopPut.f k s l) (hopPut s l) := by
  unfold spec_HopPut.f hopPut
  refine Ev.bnd (l1Domain_ev s (by omega)) ?_
  by_cases h1 : domL (LL s) = true
  · refine Ev.pos h1 (Ev.bnd (l2BodyOk_ev l (by omega) hz) ?_)
    by_cases h2 : bodyOk l = true
    · have hb := (bodyOk_parts h2).1
      refine Ev.pos h2 ?_
      by_cases h3 : l.length = 12
      · exact Ev.eq (Ev.pos (by omega) (Ev.ret _)) (if_neg (fun q => q.2.2 h3)).symm
      · refine Ev.eq (Ev.neg (by omega) (Ev.bnd (Ev.k (show spec_l2Hop.f s = some (hopLine s) from if_pos (by omega))) (Ev.bnd (Ev.ret _) (Ev.pos (by show 1 + l.length < _; omega) (Ev.ret _))))) ?_
        rw [if_pos ⟨h1, h2, h3⟩]
        rfl
    · exact Ev.eq (Ev.neg h2 (Ev.ret _)) (if_neg (fun q => h2 q.2.1)).symm
  · exact Ev.eq (Ev.neg h1 (Ev.ret _)) (if_neg (fun q => h1 q.1)).symm
theorem implHopPut_ev (s : ByteArray) (l : List ByteArray) (hs : s.size ≤ 1048576) (hm : l.length ≤ 1048576) (hz : ∀ z ∈ l, z.size ≤ 9223372036854775807) : Ev (fun k => impl_HopPut.f k s l) (hopPut s l) := by
  unfold impl_HopPut.f hopPut
  refine Ev.bnd (implDomainOk_ev s (by omega)) ?_
  by_cases h1 : domL (LL s) = true
  · refine Ev.pos h1 (Ev.bnd (isBody_ev l (by omega) hz) ?_)
    by_cases h2 : bodyOk l = true
    · refine Ev.pos h2 ?_
      by_cases h3 : l.length = 12
      · exact Ev.eq (Ev.pos (by omega) (Ev.ret _)) (if_neg (fun q => q.2.2 h3)).symm
      · refine Ev.eq (Ev.neg (by omega) (Ev.pos (by omega) (Ev.ret _))) ?_
        rw [if_pos ⟨h1, h2, h3⟩]
        rfl
    · exact Ev.eq (Ev.neg h2 (Ev.ret _)) (if_neg (fun q => h2 q.2.1)).symm
  · exact Ev.eq (Ev.neg h1 (Ev.ret _)) (if_neg (fun q => h1 q.1)).symm
end Go.Proofs.YtpeefjfklklhdaaDoor.Q
