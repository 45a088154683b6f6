/- The plain law of FnExactAddrPut. -/
import Derived.Test.YtpeefjfklklhdaaDoorPAddrText
import Derived.Test.YtpeefjfklklhdaaDoorPSz
import Derived.Test.YtpeefjfklklhdaaDoorQ9
namespace Go.Proofs.YtpeefjfklklhdaaDoor.Q
open Go.RowKit Go.Proofs.YtpeefjfklklhdaaDoorW.PrintWords Go.Proofs.YtpeefjfklklhdaaDoorW.PrintLast Go.Proofs.YtpeefjfklklhdaaDoorW.PrintMore
theorem fnExactAddrPut_pure : ∀ (a0_0 : ByteArray) (a0_1 : ByteArray), a0_0.size ≤ maxLen → a0_1.size ≤ maxLen → ∃ k, laws_FnExactAddrPut.f k a0_0 a0_1 = some true := by
  intro u d hu hd
  unfold maxLen at hu hd
  refine Ev.ex ?_
  unfold laws_FnExactAddrPut.f
  obtain ⟨r, hr, _, hall⟩ := szAddr_f u d (by omega) (by omega) 1048576 (by omega) (by omega)
  refine Ev.bnd (Ev.k hr) ?_
  by_cases h : r < 0
  · exact Ev.pos h (Ev.ret _)
  · have := hall (by omega)
    exact Ev.neg h (Ev.bnd (Ev.ret (u, d)) (Ev.bnd (specAddrPut_ev u d (by omega) (by omega)) (Ev.bnd (Ev.ret (u, d)) (Ev.bnd (implAddrPut_ev u d (by omega) (by omega)) (Ev.pos rfl (Ev.ret _))))))
end Go.Proofs.YtpeefjfklklhdaaDoor.Q
