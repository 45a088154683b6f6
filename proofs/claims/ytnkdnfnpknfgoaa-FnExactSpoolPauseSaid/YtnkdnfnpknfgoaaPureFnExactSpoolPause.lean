/- What is proved: FnExactSpoolPause holds of the given program: for every int the call returns true. No condition. -/
import Derived.Test.YtnkdnfnpknfgoaaPFnExactSpoolPausex1
namespace Go.Proofs.Ytnkdnfnpknfgoaa.Pure
open Go.RowKit Go.Proofs.Ytnkdnfnpknfgoaa.PFnExactSpoolPause Go.Proofs.YtnkdnfnpknfgoaaW.PrintWords Go.Proofs.YtnkdnfnpknfgoaaW.PrintLast

theorem FnExactSpoolPause : laws_FnExactSpoolPause.Pure := by
  intro a0 h
  by_cases h1 : 1 ≤ a0 ∧ a0 ≤ 4
  · have : a0 = 1 ∨ a0 = 2 ∨ a0 = 3 ∨ a0 = 4 := by omega
    refine ⟨10, ?_⟩
    rcases this with rfl | rfl | rfl | rfl <;> decide +kernel
  · refine ⟨0, ?_⟩
    have e1 : spec_l1In.f a0 1 4 = some false := by
      unfold spec_l1In.f
      by_cases h2 : a0 ≥ 1
      · rw [if_pos h2, decide_eq_false (by omega)]
      · rw [if_neg h2]
    have e2 : impl_within.f a0 1 4 = some false := by
      unfold impl_within.f
      by_cases h2 : a0 ≥ 1
      · rw [if_pos h2, decide_eq_false (by omega)]
      · rw [if_neg h2]
    simp [laws_FnExactSpoolPause.f, spec_SpoolPause.f, impl_SpoolPause.f, e1, e2]

end Go.Proofs.Ytnkdnfnpknfgoaa.Pure
