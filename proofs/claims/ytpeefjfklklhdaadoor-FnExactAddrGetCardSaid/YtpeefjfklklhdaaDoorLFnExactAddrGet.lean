/- The plain law of FnExactAddrGet. -/
import Derived.Test.YtpeefjfklklhdaaDoorPAddrGet
import Derived.Test.YtpeefjfklklhdaaDoorPSz
import Derived.Test.YtpeefjfklklhdaaDoorQ11
namespace Go.Proofs.YtpeefjfklklhdaaDoor.Q
open Go.RowKit Go.Proofs.YtpeefjfklklhdaaDoorW.PrintWords Go.Proofs.YtpeefjfklklhdaaDoorW.PrintLast Go.Proofs.YtpeefjfklklhdaaDoorW.PrintMore
theorem fnExactAddrGet_pure : ∀ (a0 : ByteArray), a0.size ≤ maxLen → ∃ k, laws_FnExactAddrGet.f k a0 = some true := by
  intro s _
  refine Ev.ex ?_
  unfold laws_FnExactAddrGet.f
  by_cases h : (s.size : Int) > 1048576
  · exact Ev.pos h (Ev.ret _)
  · obtain ⟨v, h1, h2, _⟩ := addrGet_ev s (by omega)
    exact Ev.neg h (Ev.bnd h1 (Ev.bnd h2 (Ev.bnd (Ev.k (eqAddr_refl _ _)) (Ev.pos rfl (Ev.neg (by simp) (Ev.ret _))))))
end Go.Proofs.YtpeefjfklklhdaaDoor.Q
