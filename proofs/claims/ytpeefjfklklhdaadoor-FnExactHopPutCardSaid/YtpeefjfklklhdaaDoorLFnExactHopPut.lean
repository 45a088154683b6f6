/- The plain law of FnExactHopPut. -/
import Derived.Test.YtpeefjfklklhdaaDoorPHopPut
import Derived.Test.YtpeefjfklklhdaaDoorQ20
namespace Go.Proofs.YtpeefjfklklhdaaDoor.Q
open Go.RowKit Go.Proofs.YtpeefjfklklhdaaDoorW.PrintWords Go.Proofs.YtpeefjfklklhdaaDoorW.PrintLast Go.Proofs.YtpeefjfklklhdaaDoorW.PrintMore
theorem fnExactHopPut_pure : ∀ (a0 : ByteArray) (l1 : List ByteArray), a0.size ≤ maxLen → (l1.length ≤ maxLen ∧ ∀ z ∈ l1, z.size ≤ maxLen) → ∃ k, laws_FnExactHopPut.f k a0 l1 = some true := by
  intro s l hs hl
  unfold maxLen at hs hl
  refine Ev.ex ?_
  unfold laws_FnExactHopPut.f
  by_cases h : (s.size : Int) > 1048576
  · exact Ev.pos h (Ev.ret _)
  · obtain ⟨r, hr, _, hall⟩ := szStringS_ev l hl.1 hl.2 1048576 (by omega) (by omega)
    refine Ev.neg h (Ev.bnd hr ?_)
    by_cases h' : r < 0
    · exact Ev.pos h' (Ev.ret _)
    · obtain ⟨hm, hz⟩ := hall (by omega)
      have hz' : ∀ z ∈ l, z.size ≤ 9223372036854775807 := hl.2
      have hto := toStringS_ev l (by omega)
      have e1 := specHopPut_ev s l (by omega) (by omega) hz'
      have e2 := implHopPut_ev s l (by omega) (by omega) hz'
      have hlen := hopPut_len s l
      refine Ev.neg h' (Ev.bnd hto (Ev.bnd e1 (Ev.bnd hto (Ev.bnd e2 (Ev.bnd (eqStringS_ev _ _ (by omega)) (Ev.pos (by simp) ?_))))))
      refine Ev.step (fun k => by rw [laws_FnExactHopPut.j0]) ?_
      obtain ⟨y0, hy0, _⟩ := mark_ev l 1 (by omega) (by omega)
      refine Ev.neg (by simp) (Ev.bnd hto (Ev.bnd (eqStringS_ev _ _ (by omega)) (Ev.pos (by simp) (Ev.bnd hy0 (Ev.neg (by show ¬ (((1 + l.length : Nat) : Int) < 0); omega) (Ev.bnd (eqStringS_ev _ _ (by omega)) (Ev.pos (by simp) ?_)))))))
      refine Ev.step (fun k => by rw [laws_FnExactHopPut.j1]) ?_
      obtain ⟨y, hy, hh⟩ := mark_ev (hopPut s l).1 1 (by omega) (by omega)
      refine Ev.neg (by simp) (Ev.bnd hy (Ev.bnd hh (Ev.neg (by omega) (Ev.pos rfl (Ev.bnd hto (Ev.bnd e2 (Ev.bnd (eqStringS_ev _ _ (by omega)) (Ev.pos (by simp) ?_))))))))
      refine Ev.step (fun k => by rw [laws_FnExactHopPut.j2]) ?_
      exact Ev.neg (by simp) (Ev.bnd hh (Ev.neg (by omega) (Ev.pos rfl (Ev.ret _))))
end Go.Proofs.YtpeefjfklklhdaaDoor.Q
