/- The plain law of FnExactDotGet. -/
import Derived.Test.YtbabdndgaafoaaaPDotGet
import Derived.Test.YtbabdndgaafoaaaQ23
namespace Go.Proofs.Ytbabdndgaafoaaa.Q
open Go.RowKit Go.Proofs.YtbabdndgaafoaaaW.PrintWords Go.Proofs.YtbabdndgaafoaaaW.PrintLast Go.Proofs.YtbabdndgaafoaaaW.PrintMore

theorem dotGet_len (s : ByteArray) : (dotGet s).1.length ≤ 800 := by
  unfold dotGet
  simp only
  split
  · have := (linesB_len s).1
    simp only [List.length_map, List.length_dropLast]
    omega
  · exact Nat.zero_le _
theorem fnExactDotGet_pure : ∀ (a0 : ByteArray), a0.size ≤ maxLen → ∃ k, laws_FnExactDotGet.f k a0 = some true := by
  intro s hs
  refine Ev.ex ?_
  unfold laws_FnExactDotGet.f
  by_cases h : (s.size : Int) > 1048576
  · exact Ev.pos h (Ev.ret _)
  · refine Ev.neg h ?_
    refine Ev.bnd (specDotGet_ev s) ?_
    refine Ev.bnd (implDotGet_ev s) ?_
    have hl := dotGet_len s
    refine Ev.bnd (eqStringS_ev _ _ (by omega)) ?_
    refine Ev.pos (by simp) ?_
    refine Ev.step (fun k => by rw [laws_FnExactDotGet.j0]) ?_
    refine Ev.neg (by simp) ?_
    obtain ⟨y, hy, hh⟩ := mark_ev (dotGet s).1 1 (by omega) (by omega)
    refine Ev.bnd hy ?_
    refine Ev.bnd hh ?_
    refine Ev.neg (by omega) ?_
    refine Ev.pos rfl ?_
    refine Ev.bnd (implDotGet_ev s) ?_
    refine Ev.bnd (eqStringS_ev _ _ (by omega)) ?_
    refine Ev.pos (by simp) ?_
    refine Ev.step (fun k => by rw [laws_FnExactDotGet.j1]) ?_
    refine Ev.neg (by simp) ?_
    refine Ev.bnd hh ?_
    refine Ev.neg (by omega) ?_
    exact Ev.pos rfl (Ev.ret _)

end Go.Proofs.Ytbabdndgaafoaaa.Q
