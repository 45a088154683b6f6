/- Of a text of ours what this claim needs. -/
import Derived.Test.YtpeefjfklklhdaaDoorZzFnExactConfOkPConf
import Derived.Test.YtpeefjfklklhdaaDoorZzFnExactConfOkQ24
import Derived.Test.YtpeefjfklklhdaaDoorZzFnExactConfOkQ20
namespace Go.Proofs.YtpeefjfklklhdaaDoor.Q
open Go.RowKit Go.Proofs.YtpeefjfklklhdaaDoorW.PrintWords Go.Proofs.YtpeefjfklklhdaaDoorW.PrintLast Go.Proofs.YtpeefjfklklhdaaDoorW.PrintMore
theorem fnExactConfOk_pure : ∀ (a0_0 : ByteArray) (l0_1 : List ByteArray) (l0_2 : List LW), a0_0.size ≤ maxLen → (l0_1.length ≤ maxLen ∧ ∀ z ∈ l0_1, z.size ≤ maxLen) → (l0_2.length ≤ maxLen ∧ ∀ z ∈ l0_2, (z.f0.size ≤ maxLen ∧ z.f1.size ≤ maxLen)) → ∃ k, laws_FnExactConfOk.f k a0_0 l0_1 l0_2 = some true := by
  intro n own ways h0 h1 h2
  unfold maxLen at h0 h1 h2
  refine Ev.ex ?_
  unfold laws_FnExactConfOk.f
  obtain ⟨r, hr, _, hall⟩ := szConf_ev n own ways h0 h1 h2 1048576 (by omega) (by omega)
  refine Ev.bnd hr ?_
  by_cases h : r < 0
  · exact Ev.pos h (Ev.ret _)
  · have hsm := hall (by omega)
    have hto := toConf_ev n own ways hsm
    obtain ⟨hs, hi⟩ := conf_ev hsm
    have hs' : Ev (fun k => spec_ConfOk.f k n own (ways.map toIW)) (confL n own (ways.map toIW)) := Ev.bnd hs (Ev.ret _)
    obtain ⟨_, s1, s2, _⟩ := hsm
    exact Ev.neg h (Ev.bnd hto (Ev.bnd hs' (Ev.bnd hto (Ev.bnd hi (Ev.neg (by simp) (Ev.bnd hto (Ev.bnd (eqConf_refl n own _ (by omega) (by rw [List.length_map]; omega)) (Ev.pos rfl (Ev.ret _)))))))))
end Go.Proofs.YtpeefjfklklhdaaDoor.Q
