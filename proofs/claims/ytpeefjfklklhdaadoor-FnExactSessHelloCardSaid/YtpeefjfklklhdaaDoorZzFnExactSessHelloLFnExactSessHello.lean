/- Of a text of ours what this claim needs. -/
import Derived.Test.YtpeefjfklklhdaaDoorZzFnExactSessHelloPConf
import Derived.Test.YtpeefjfklklhdaaDoorZzFnExactSessHelloQ27
import Derived.Test.YtpeefjfklklhdaaDoorZzFnExactSessHelloQ26
namespace Go.Proofs.YtpeefjfklklhdaaDoor.Q
open Go.RowKit Go.Proofs.YtpeefjfklklhdaaDoorW.PrintWords Go.Proofs.YtpeefjfklklhdaaDoorW.PrintLast Go.Proofs.YtpeefjfklklhdaaDoorW.PrintMore
def helloL (n : ByteArray) (own : List ByteArray) (ways : List IW) : ByteArray := if confL n own ways = true then ⟨#[50, 50, 48, 32]⟩ ++ n else ⟨#[]⟩
theorem fnExactSessHello_pure : ∀ (a0_0 : ByteArray) (l0_1 : List ByteArray) (l0_2 : List LW), a0_0.size ≤ maxLen → (l0_1.length ≤ maxLen ∧ ∀ z ∈ l0_1, z.size ≤ maxLen) → (l0_2.length ≤ maxLen ∧ ∀ z ∈ l0_2, (z.f0.size ≤ maxLen ∧ z.f1.size ≤ maxLen)) → ∃ k, laws_FnExactSessHello.f k a0_0 l0_1 l0_2 = some true := by
  intro n own ways h0 h1 h2
  unfold maxLen at h0 h1 h2
  refine Ev.ex ?_
  unfold laws_FnExactSessHello.f
  obtain ⟨r, hr, _, hall⟩ := szConf_ev n own ways h0 h1 h2 1048576 (by omega) (by omega)
  refine Ev.bnd hr ?_
  by_cases h : r < 0
  · exact Ev.pos h (Ev.ret _)
  · have hsm := hall (by omega)
    have hto := toConf_ev n own ways hsm
    obtain ⟨hs, hi⟩ := conf_ev hsm
    obtain ⟨s0, s1, s2, _⟩ := hsm
    have hs' : Ev (fun k => spec_SessHello.f k n own (ways.map toIW)) (helloL n own (ways.map toIW)) := by
      unfold spec_SessHello.f helloL
      refine Ev.bnd hs ?_
      by_cases hc : confL n own (ways.map toIW) = true
      · exact Ev.eq (Ev.pos hc (Ev.pos (by omega) (Ev.ret _))) (if_pos hc).symm
      · exact Ev.eq (Ev.neg hc (Ev.ret _)) (if_neg hc).symm
    have hi' : Ev (fun k => impl_SessHello.f k n own (ways.map toIW)) (helloL n own (ways.map toIW)) := by
      unfold impl_SessHello.f helloL
      refine Ev.bnd hi ?_
      by_cases hc : confL n own (ways.map toIW) = true
      · exact Ev.eq (Ev.pos hc (Ev.pos (by omega) (Ev.ret _))) (if_pos hc).symm
      · exact Ev.eq (Ev.neg hc (Ev.ret _)) (if_neg hc).symm
    exact Ev.neg h (Ev.bnd hto (Ev.bnd hs' (Ev.bnd hto (Ev.bnd hi' (Ev.pos rfl (Ev.bnd hto (Ev.bnd (eqConf_refl n own _ (by omega) (by rw [List.length_map]; omega)) (Ev.pos rfl (Ev.ret _)))))))))
end Go.Proofs.YtpeefjfklklhdaaDoor.Q
