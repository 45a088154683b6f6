/- The plain law of FnExactReplyCode. -/
import Derived.Test.YtnkdnfnpknfgoaaPReply
import Derived.Test.YtnkdnfnpknfgoaaQ4
namespace Go.Proofs.Ytnkdnfnpknfgoaa.Q
open Go.RowKit Go.Proofs.YtnkdnfnpknfgoaaW.PrintWords Go.Proofs.YtnkdnfnpknfgoaaW.PrintLast Go.Proofs.YtnkdnfnpknfgoaaW.PrintMore
theorem fnExactReplyCode_pure : ∀ (a0 : ByteArray), a0.size ≤ maxLen → ∃ k, laws_FnExactReplyCode.f k a0 = some true := by
  intro s _
  refine Ev.ex ?_
  unfold laws_FnExactReplyCode.f
  by_cases h : (s.size : Int) > 1048576
  · exact Ev.pos h (Ev.ret _)
  · exact Ev.neg h (Ev.bnd (specReply_ev s) (Ev.bnd (Ev.k (implReply_f s)) (Ev.pos rfl (Ev.ret _))))
end Go.Proofs.Ytnkdnfnpknfgoaa.Q
