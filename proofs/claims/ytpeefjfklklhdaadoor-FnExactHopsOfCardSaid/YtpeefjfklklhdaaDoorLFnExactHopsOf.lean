/- The plain law of FnExactHopsOf. -/
import Derived.Test.YtpeefjfklklhdaaDoorPHops
import Derived.Test.YtpeefjfklklhdaaDoorPTexts
import Derived.Test.YtpeefjfklklhdaaDoorQ16
namespace Go.Proofs.YtpeefjfklklhdaaDoor.Q
open Go.RowKit Go.Proofs.YtpeefjfklklhdaaDoorW.PrintWords Go.Proofs.YtpeefjfklklhdaaDoorW.PrintLast Go.Proofs.YtpeefjfklklhdaaDoorW.PrintMore

theorem fnExactHopsOf_pure : ∀ (l0 : List ByteArray), (l0.length ≤ maxLen ∧ ∀ z ∈ l0, z.size ≤ maxLen) → ∃ k, laws_FnExactHopsOf.f k l0 = some true := by
  intro l hl
  unfold maxLen at hl
  refine Ev.ex ?_
  unfold laws_FnExactHopsOf.f
  obtain ⟨r, hr, _, hall⟩ := szStringS_ev l hl.1 hl.2 1048576 (by omega) (by omega)
  refine Ev.bnd hr ?_
  by_cases h : r < 0
  · exact Ev.pos h (Ev.ret _)
  · obtain ⟨h1, _⟩ := hall (by omega)
    refine Ev.neg h ?_
    refine Ev.bnd (toStringS_ev l (by omega)) ?_
    refine Ev.bnd (specHopsOf_ev l hl.1 hl.2) ?_
    refine Ev.bnd (toStringS_ev l (by omega)) ?_
    refine Ev.bnd (implHopsOf_ev l hl.1 hl.2) ?_
    refine Ev.pos rfl ?_
    refine Ev.bnd (toStringS_ev l (by omega)) ?_
    refine Ev.bnd (eqStringS_ev l l (by omega)) ?_
    exact Ev.pos (by simp) (Ev.ret _)

end Go.Proofs.YtpeefjfklklhdaaDoor.Q
