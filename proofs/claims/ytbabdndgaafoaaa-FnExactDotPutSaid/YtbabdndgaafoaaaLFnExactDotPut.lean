/- The plain law of FnExactDotPut. -/
import Derived.Test.YtbabdndgaafoaaaPDotGet
import Derived.Test.YtbabdndgaafoaaaQ8
namespace Go.Proofs.Ytbabdndgaafoaaa.Q
open Go.RowKit Go.Proofs.YtbabdndgaafoaaaW.PrintWords Go.Proofs.YtbabdndgaafoaaaW.PrintLast Go.Proofs.YtbabdndgaafoaaaW.PrintMore

theorem fnExactDotPut_pure : ∀ (l0 : List ByteArray), (l0.length ≤ maxLen ∧ ∀ z ∈ l0, z.size ≤ maxLen) → ∃ k, laws_FnExactDotPut.f k l0 = some true := by
  intro l hl
  unfold maxLen at hl
  refine Ev.ex ?_
  unfold laws_FnExactDotPut.f
  obtain ⟨r, hr, _, hall⟩ := szStringS_ev l hl.1 hl.2 1048576 (by omega) (by omega)
  refine Ev.bnd hr ?_
  by_cases h : r < 0
  · exact Ev.pos h (Ev.ret _)
  · obtain ⟨h1, _⟩ := hall (by omega)
    refine Ev.neg h ?_
    refine Ev.bnd (toStringS_ev l (by omega)) ?_
    refine Ev.bnd (specDotPut_ev l hl.1 hl.2) ?_
    refine Ev.bnd (toStringS_ev l (by omega)) ?_
    refine Ev.bnd (implDotPut_ev l hl.1 hl.2) ?_
    refine Ev.pos rfl ?_
    refine Ev.bnd (toStringS_ev l (by omega)) ?_
    refine Ev.bnd (eqStringS_ev l l (by omega)) ?_
    exact Ev.pos (by simp) (Ev.ret _)

end Go.Proofs.Ytbabdndgaafoaaa.Q
