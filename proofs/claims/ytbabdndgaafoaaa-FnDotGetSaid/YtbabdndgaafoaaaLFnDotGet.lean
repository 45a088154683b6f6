/- The plain law of FnDotGet. -/
import Derived.Test.YtbabdndgaafoaaaPDotLaw
import Derived.Test.YtbabdndgaafoaaaQ23
import Derived.Test.YtbabdndgaafoaaaQ24
namespace Go.Proofs.Ytbabdndgaafoaaa.Q
open Go.RowKit Go.Proofs.YtbabdndgaafoaaaW.PrintWords Go.Proofs.YtbabdndgaafoaaaW.PrintLast Go.Proofs.YtbabdndgaafoaaaW.PrintMore
set_option linter.unusedVariables false

theorem drawDotGet_ev (l : List Int) (hl : ∀ z ∈ l, (Lit.int .u8 z).wf = true) : ∃ x, Ev (fun k => spec_DrawDotGet.f k l) x ∧ x.size ≤ 523 := by
  obtain ⟨b, hb, hb1, hb2⟩ := open_ok l hl
  have hB : Buf b := ⟨hb1, hb2⟩
  obtain ⟨x, p, e, a, c, h1, h2⟩ := body_dr hB (p := 0) 8 (by omega) (by omega) (by omega) (by omega)
  have hs := specDotPut_ev x (by omega) (fun s hs => by have := h2 s hs; omega)
  have hz := dotPut_size x
  obtain ⟨t, p2, e2, a2, c2, h3, _⟩ := pick_dr hB (p := p) 2 (by omega) (by omega) (by omega)
  unfold spec_DrawDotGet.f
  by_cases h : t = 0
  · exact ⟨dotPut x, Ev.bnd (Ev.k hb) (Ev.bnd e (Ev.bnd hs (Ev.bnd e2 (Ev.pos h (Ev.ret _))))), by omega⟩
  · obtain ⟨y, p3, e3, a3, c3, h4⟩ := bent_dr hB (p := p2) (dotPut x) (by omega) (by omega) (by omega)
    exact ⟨y, Ev.bnd (Ev.k hb) (Ev.bnd e (Ev.bnd hs (Ev.bnd e2 (Ev.neg h (Ev.bnd e3 (Ev.ret _)))))), by omega⟩
theorem fnDotGet_pure : ∀ (l0 : List Int), (l0.length ≤ maxLen ∧ ∀ z ∈ l0, (Lit.int .u8 z).wf = true) → ∃ k, laws_FnDotGet.f k l0 = some true := by
  intro l hl
  refine Ev.ex ?_
  unfold laws_FnDotGet.f
  by_cases h : (l.length : Int) > 1048576
  · exact Ev.pos h (Ev.ret _)
  · refine Ev.neg h ?_
    obtain ⟨x, hx, hz⟩ := drawDotGet_ev l hl.2
    refine Ev.bnd hx (Ev.bnd (implDotGet_ev x) (Ev.bnd (specDotGet_ev x) (Ev.neg (by simp) ?_)))
    have hl0 : (dotGet x).1.length ≤ 800 := by
      unfold dotGet
      simp only
      split
      · have := (linesB_len x).1
        simp only [List.length_map, List.length_dropLast]
        omega
      · exact Nat.zero_le _
    refine Ev.bnd (saTexts_ev _ _ (by omega)) (Ev.pos (by simp) ?_)
    refine Ev.step (fun k => by rw [laws_FnDotGet.j0]) ?_
    cases e : dotGet x with
    | mk c ok =>
      rw [e] at hl0
      cases ok with
      | false => exact Ev.pos rfl (Ev.pos rfl (Ev.bnd (saTexts_ev c c (by show c.length ≤ _; simp only at hl0; omega)) (Ev.eq (Ev.ret _) (by simp))))
      | true =>
        obtain ⟨q1, q2⟩ := dotGet_true e
        have hp := bodyOk_parts q1
        have hi := implDotPut_ev c (by omega) (fun s hs => by have := hp.2 s hs; omega)
        have hme : dotPut c = x := by unfold dotPut; rw [if_pos q1, q2]
        rw [hme] at hi
        refine Ev.neg (by simp) (Ev.pos (by omega) (Ev.bnd (implDotGet_ev _) (Ev.bnd hi (Ev.pos rfl (Ev.eq (Ev.ret _) ?_)))))
        have := dotGet_more c q1
        rw [q2] at this
        rw [this]
        rfl

end Go.Proofs.Ytbabdndgaafoaaa.Q
