/- Of a text of ours what this claim needs. -/
import Derived.Test.YthkibaldmjfmmaaDoorZzFnExactWayOfPTakes
import Derived.Test.YthkibaldmjfmmaaDoorZzFnExactWayOfQ22
namespace Go.Proofs.YthkibaldmjfmmaaDoor.Q
open Go.RowKit Go.Proofs.YthkibaldmjfmmaaDoorW.PrintWords Go.Proofs.YthkibaldmjfmmaaDoorW.PrintLast Go.Proofs.YthkibaldmjfmmaaDoorW.PrintMore
theorem fnExactWayOf_pure : ∀ (a0_0 : ByteArray) (l0_1 : List ByteArray) (l0_2 : List LW) (a1 : ByteArray), a0_0.size ≤ maxLen → (l0_1.length ≤ maxLen ∧ ∀ z ∈ l0_1, z.size ≤ maxLen) → (l0_2.length ≤ maxLen ∧ ∀ z ∈ l0_2, (z.f0.size ≤ maxLen ∧ z.f1.size ≤ maxLen)) → a1.size ≤ maxLen → ∃ k, laws_FnExactWayOf.f k a0_0 l0_1 l0_2 a1 = some true := by
  intro n own ways d h0 h1 h2 _
  unfold maxLen at h0 h1 h2
  refine Ev.ex ?_
  unfold laws_FnExactWayOf.f
  by_cases hd : (d.size : Int) > 1048576
  · exact Ev.pos hd (Ev.ret _)
  obtain ⟨r, hr, _, hall⟩ := szConf_ev n own ways h0 h1 h2 1048576 (by omega) (by omega)
  refine Ev.neg hd (Ev.bnd hr ?_)
  by_cases h : r < 0
  · exact Ev.pos h (Ev.ret _)
  · have hsm := hall (by omega)
    have hto := toConf_ev n own ways hsm
    have hB := ConfB.of hsm
    obtain ⟨s0, s1, s2, s3⟩ := hsm
    have hl : (ways.map toIW).length ≤ 1048576 := by rw [List.length_map]; exact s2
    generalize ways.map toIW = iw at *
    exact Ev.neg h (Ev.bnd hto (Ev.bnd (specWayOf_ev hB d (by omega)) (Ev.bnd hto (Ev.bnd (implWayOf_ev hB d (by omega)) (Ev.pos rfl (Ev.bnd hto (Ev.bnd (eqConf_refl n own iw (by omega) (by omega)) (Ev.pos rfl (Ev.ret _)))))))))
end Go.Proofs.YthkibaldmjfmmaaDoor.Q
