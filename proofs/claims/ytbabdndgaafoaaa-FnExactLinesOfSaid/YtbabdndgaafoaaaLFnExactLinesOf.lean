/- The plain law of FnExactLinesOf. -/
import Derived.Test.YtbabdndgaafoaaaPDotGet
import Derived.Test.YtbabdndgaafoaaaQ11
namespace Go.Proofs.Ytbabdndgaafoaaa.Q
open Go.RowKit Go.Proofs.YtbabdndgaafoaaaW.PrintWords Go.Proofs.YtbabdndgaafoaaaW.PrintLast Go.Proofs.YtbabdndgaafoaaaW.PrintMore

theorem fnExactLinesOf_pure : ∀ (a0 : ByteArray), a0.size ≤ maxLen → ∃ k, laws_FnExactLinesOf.f k a0 = some true := by
  intro s hs
  refine Ev.ex ?_
  unfold laws_FnExactLinesOf.f
  by_cases h : (s.size : Int) > 1048576
  · exact Ev.pos h (Ev.ret _)
  · refine Ev.neg h ?_
    refine Ev.bnd (specLinesOf_ev s) ?_
    refine Ev.bnd (implLinesOf_ev s) ?_
    have hl := (linesB_len s).1
    refine Ev.bnd (eqStringS_ev _ _ (by omega)) ?_
    refine Ev.pos (by simp) ?_
    refine Ev.step (fun k => by rw [laws_FnExactLinesOf.j0]) ?_
    refine Ev.neg (by rw [toList_bne]; simp) ?_
    obtain ⟨y, hy, hh⟩ := mark_ev (linesB s).1 1 (by omega) (by omega)
    refine Ev.bnd hy ?_
    refine Ev.bnd hh ?_
    refine Ev.neg (by omega) ?_
    refine Ev.pos rfl ?_
    refine Ev.bnd (implLinesOf_ev s) ?_
    refine Ev.bnd (eqStringS_ev _ _ (by omega)) ?_
    refine Ev.pos (by simp) ?_
    refine Ev.step (fun k => by rw [laws_FnExactLinesOf.j1]) ?_
    refine Ev.neg (by rw [toList_bne]; simp) ?_
    refine Ev.bnd hh ?_
    refine Ev.neg (by omega) ?_
    exact Ev.pos rfl (Ev.ret _)

end Go.Proofs.Ytbabdndgaafoaaa.Q
