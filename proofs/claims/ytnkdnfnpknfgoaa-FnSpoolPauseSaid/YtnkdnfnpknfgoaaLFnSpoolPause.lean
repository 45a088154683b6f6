/- The plain law of FnSpoolPause. -/
import Derived.Test.YtnkdnfnpknfgoaaPDrawA
import Derived.Test.YtnkdnfnpknfgoaaQ2
import Derived.Test.YtnkdnfnpknfgoaaQ1
namespace Go.Proofs.Ytnkdnfnpknfgoaa.Q
open Go.RowKit Go.Proofs.YtnkdnfnpknfgoaaW.PrintWords Go.Proofs.YtnkdnfnpknfgoaaW.PrintLast Go.Proofs.YtnkdnfnpknfgoaaW.PrintMore
theorem pause_draw (l : List Int) (hl : ∀ z ∈ l, (Lit.int .u8 z).wf = true) : ∃ n, Ev (fun k => spec_DrawSpoolPause.f k l) n ∧ n ∈ ([1, 2, 3, 4, 0, 5] : List Int) := by
  obtain ⟨b, hb, hb1, hb2⟩ := open_ok l hl
  unfold spec_DrawSpoolPause.f
  obtain ⟨s, p, e, _, _, m⟩ := one_dr (b := b) ⟨hb1, hb2⟩ (p := 0) [1, 2, 3, 4, 0, 5] (by simp) (by simp) (by omega) (by omega)
  exact ⟨s, Ev.bnd (Ev.k hb) (Ev.bnd e (Ev.ret _)), m⟩
/-- At a number of tries that is drawn, the pause; both by running them. -/
theorem pause_at {n : Int} (h : n ∈ ([1, 2, 3, 4, 0, 5] : List Int)) : ∃ k, (impl_SpoolPause.f n).bind (fun t104 => (spec_SpoolPause.f k n).bind fun t105 => (if t104 = t105 then (laws_FnSpoolPause.j0 k n t104 (decide (t104 < 0))) else (laws_FnSpoolPause.j0 k n t104 true))) = some true := by
  simp only [List.mem_cons, List.not_mem_nil, or_false] at h
  refine ⟨9, ?_⟩
  rcases h with rfl | rfl | rfl | rfl | rfl | rfl <;> decide +kernel
theorem fnSpoolPause_pure : ∀ (l0 : List Int), (l0.length ≤ maxLen ∧ ∀ z ∈ l0, (Lit.int .u8 z).wf = true) → ∃ k, laws_FnSpoolPause.f k l0 = some true := by
  intro l hl
  by_cases h : (l.length : Int) > 1048576
  · exact ⟨0, by unfold laws_FnSpoolPause.f; rw [if_pos h]⟩
  obtain ⟨n, ⟨K, hn⟩, hm⟩ := pause_draw l hl.2
  obtain ⟨k, hk⟩ := pause_at hm
  have h9 : ∀ q, (impl_SpoolPause.f n).bind (fun t104 => (spec_SpoolPause.f (k + q) n).bind fun t105 => (if t104 = t105 then (laws_FnSpoolPause.j0 (k + q) n t104 (decide (t104 < 0))) else (laws_FnSpoolPause.j0 (k + q) n t104 true))) = some true := by
    intro q
    induction q with
    | zero => exact hk
    | succ q ih =>
      have m1 : LeO ((impl_SpoolPause.f n).bind (fun t104 => (spec_SpoolPause.f (k + q) n).bind fun t105 => (if t104 = t105 then (laws_FnSpoolPause.j0 (k + q) n t104 (decide (t104 < 0))) else (laws_FnSpoolPause.j0 (k + q) n t104 true)))) ((impl_SpoolPause.f n).bind (fun t104 => (spec_SpoolPause.f (k + (q + 1)) n).bind fun t105 => (if t104 = t105 then (laws_FnSpoolPause.j0 (k + (q + 1)) n t104 (decide (t104 < 0))) else (laws_FnSpoolPause.j0 (k + (q + 1)) n t104 true)))) := by
        refine LeO.bind (LeO.refl _) (fun t => LeO.bind (spec_SpoolPause.mono _ _) (fun u => ?_))
        split
        · exact laws_FnSpoolPause.mono_l _ _ _ _
        · exact laws_FnSpoolPause.mono_l _ _ _ _
      exact m1 _ ih
  refine ⟨k + K, ?_⟩
  unfold laws_FnSpoolPause.f
  have hn2 : spec_DrawSpoolPause.f (k + K) l = some n := hn (k + K) (by omega)
  rw [if_neg h, hn2]
  exact h9 K
end Go.Proofs.Ytnkdnfnpknfgoaa.Q
