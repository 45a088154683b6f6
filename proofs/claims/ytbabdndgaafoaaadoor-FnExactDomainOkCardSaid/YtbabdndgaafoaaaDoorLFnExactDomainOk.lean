/- The plain law of FnExactDomainOk. -/
import Derived.Test.YtbabdndgaafoaaaDoorPDom
import Derived.Test.YtbabdndgaafoaaaDoorQ3
namespace Go.Proofs.YtbabdndgaafoaaaDoor.Q
open Go.RowKit Go.Proofs.YtbabdndgaafoaaaDoorW.PrintWords Go.Proofs.YtbabdndgaafoaaaDoorW.PrintLast Go.Proofs.YtbabdndgaafoaaaDoorW.PrintMore
theorem fnExactDomainOk_pure : ∀ (a0 : ByteArray), a0.size ≤ maxLen → ∃ k, laws_FnExactDomainOk.f k a0 = some true := by
  intro s hs
  refine Ev.ex ?_
  unfold laws_FnExactDomainOk.f
  by_cases h : (s.size : Int) > 1048576
  · exact Ev.pos h (Ev.ret _)
  · refine Ev.neg h ?_
    have h1 : Ev (fun k => spec_DomainOk.f k s) (domL (LL s)) := Ev.bnd (l1Domain_ev s (by omega)) (Ev.ret _)
    exact Ev.bnd h1 (Ev.bnd (implDomainOk_ev s (by omega)) (Ev.neg (by simp) (Ev.ret _)))
end Go.Proofs.YtbabdndgaafoaaaDoor.Q
