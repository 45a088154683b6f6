/- Of a text of ours what this claim needs. -/
import Derived.Test.YtbabdndgaafoaaaZDPPDotLaw
import Derived.Test.YtbabdndgaafoaaaZDPQ19
import Derived.Test.YtbabdndgaafoaaaZDPQ21
namespace Go.Proofs.Ytbabdndgaafoaaa.Q
open Go.RowKit Go.Proofs.YtbabdndgaafoaaaW.PrintWords Go.Proofs.YtbabdndgaafoaaaW.PrintLast Go.Proofs.YtbabdndgaafoaaaW.PrintMore
set_option linter.unusedVariables false
theorem drawDotPut_ev (l : List Int) (hl : ∀ z ∈ l, (Lit.int .u8 z).wf = true) : ∃ x, Ev (fun k => spec_DrawDotPut.f k l) x ∧ x.length ≤ 13 ∧ ∀ s ∈ x, s.size ≤ 41 := by
  obtain ⟨b, hb, hb1, hb2⟩ := open_ok l hl
  obtain ⟨x, p, e, _, _, h1, h2⟩ := anyBody_dr (b := b) ⟨hb1, hb2⟩ (p := 0) (by omega) (by omega)
  refine ⟨x, ?_, h1, h2⟩
  unfold spec_DrawDotPut.f
  exact Ev.bnd (Ev.k hb) (Ev.bnd e (Ev.ret _))
theorem fnDotPut_loop (x : List ByteArray) (h1 : x.length ≤ 13) (L : List ByteArray) (hL : L = x.map (fun s => BB (dotL (LL s))) ++ [⟨#[46]⟩]) : ∀ d i : Nat, i + d = L.length →
    Ev (fun k => laws_FnDotPut.l0 k x x true L ⟨#[]⟩ (i : Int)) true := by
  have hlen : L.length = x.length + 1 := by rw [hL]; simp
  intro d
  induction d with
  | zero =>
    intro i hi
    refine Ev.step (fun k => by rw [laws_FnDotPut.l0]) ?_
    refine Ev.neg (by omega) (Ev.pos rfl (Ev.bnd (saTexts_ev x x (by omega)) (Ev.pos (by simp) (Ev.pos (by rw [toList_LL]) (Ev.eq (Ev.ret _) ?_)))))
    rw [wsucc (by omega)]
    simp only [beq_iff_eq]
    omega
  | succ d ih =>
    intro i hi
    have hil : i < L.length := by omega
    refine Ev.step (fun k => by rw [laws_FnDotPut.l0]) ?_
    refine Ev.pos (by omega) (Ev.pos (by omega) ?_)
    rw [wsucc (by omega), rd_get L i hil, w64 (x := (L.length : Int) - 1) (by omega) (by omega)]
    refine Ev.neg ?_ (ih (i + 1) (by omega))
    have hd : (L[i].toList == ([46] : List UInt8)) = decide (i = x.length) := by
      rw [Bool.eq_iff_iff, beq_iff_eq, decide_eq_true_eq, toList_LL]
      subst hL
      by_cases h : i < x.length
      · rw [List.getElem_append_left (by simpa using h), List.getElem_map, LL_BB]
        exact ⟨fun e => absurd e (dotL_ne _), fun e => by omega⟩
      · have : i = x.length := by omega
        subst this
        rw [List.getElem_append_right (by simp)]
        simp
    rw [hd]
    have : ((i : Int) == (L.length : Int) - 1) = decide (i = x.length) := by
      rw [Bool.eq_iff_iff, beq_iff_eq, decide_eq_true_eq]
      omega
    rw [this]
    simp
theorem fnDotPut_pure : ∀ (l0 : List Int), (l0.length ≤ maxLen ∧ ∀ z ∈ l0, (Lit.int .u8 z).wf = true) → ∃ k, laws_FnDotPut.f k l0 = some true := by
  intro l hl
  refine Ev.ex ?_
  unfold laws_FnDotPut.f
  by_cases h : (l.length : Int) > 1048576
  · exact Ev.pos h (Ev.ret _)
  · refine Ev.neg h ?_
    obtain ⟨x, hx, h1, h2⟩ := drawDotPut_ev l hl.2
    have hi := implDotPut_ev x (by omega) (fun s hs => by have := h2 s hs; omega)
    have hs := specDotPut_ev x (by omega) (fun s hs => by have := h2 s hs; omega)
    refine Ev.bnd hx (Ev.bnd hi (Ev.bnd hs (Ev.pos rfl ?_)))
    refine Ev.step (fun k => by rw [laws_FnDotPut.j0]) ?_
    by_cases h3 : dotPut x = ⟨#[]⟩
    · refine Ev.pos (by rw [h3, toList_LL]; rfl) (Ev.bnd hs (Ev.eq (Ev.ret _) ?_))
      simp
    · refine Ev.neg ?_ ?_
      · intro e
        apply h3
        have : (dotPut x).toList = (⟨#[]⟩ : ByteArray).toList := by simpa using e
        exact toList_eq.1 this
      · have hb : bodyOk x = true := by
          cases e : bodyOk x with
          | true => rfl
          | false => unfold dotPut at h3; rw [e] at h3; exact absurd rfl h3
        have hme : dotPut x = BB (dots x) := by unfold dotPut; rw [if_pos hb]
        rw [hme]
        have q1 := implDotGet_ev (BB (dots x))
        have q2 := implLinesOf_ev (BB (dots x))
        rw [dotGet_dots x hb] at q1
        rw [linesB_dots x hb] at q2
        refine Ev.bnd q1 (Ev.bnd q2 ?_)
        exact fnDotPut_loop x h1 _ rfl _ 0 (by simp; rfl)
end Go.Proofs.Ytbabdndgaafoaaa.Q
