/- The plain law of FnMark. -/
import Derived.Test.YtbabdndgaafoaaaPDraw
import Derived.Test.YtbabdndgaafoaaaPMark
import Derived.Test.YtbabdndgaafoaaaQ6
import Derived.Test.YtbabdndgaafoaaaQ7
namespace Go.Proofs.Ytbabdndgaafoaaa.Q
open Go.RowKit Go.Proofs.YtbabdndgaafoaaaW.PrintWords Go.Proofs.YtbabdndgaafoaaaW.PrintLast Go.Proofs.YtbabdndgaafoaaaW.PrintMore
set_option linter.unusedVariables false

theorem drawMarkOf_ev (l : List Int) (hl : ∀ z ∈ l, (Lit.int .u8 z).wf = true) : ∃ x, Ev (fun k => spec_DrawMarkOf.f k l) x ∧ x.length ≤ 13 ∧ ∀ s ∈ x, s.size ≤ 41 := by
  obtain ⟨b, hb, hb1, hb2⟩ := open_ok l hl
  obtain ⟨x, p, e, _, _, h1, h2⟩ := anyBody_dr (b := b) ⟨hb1, hb2⟩ (p := 0) (by omega) (by omega)
  refine ⟨x, ?_, h1, h2⟩
  unfold spec_DrawMarkOf.f
  exact Ev.bnd (Ev.k hb) (Ev.bnd e (Ev.ret _))
theorem markL_mem (l : List ByteArray) (h : markL l ≠ ⟨#[]⟩) : markL l ∈ l ∧ isMk (markL l) = true := by
  unfold markL at *
  cases e : l.find? isMk with
  | none => rw [e] at h; exact absurd rfl h
  | some x => exact ⟨List.mem_of_find?_eq_some e, List.find?_some e⟩
theorem fnMark_loop (l : List ByteArray) (hm : l.length ≤ 13) (m : ByteArray) (hmk : isMk m = true) (hx : l.length < 12 → markOf ((⟨#[120]⟩ : ByteArray) :: l) = m) (hz : ∀ s ∈ l, s.size ≤ 41) : ∀ d i : Nat, i + d = l.length → ∀ b : Bool, (b = true ∨ m ∈ l.drop i) →
    Ev (fun k => laws_FnMark.l0 k l m b (i : Int)) true := by
  intro d
  induction d with
  | zero =>
    intro i hi b hb
    rw [List.drop_of_length_le (by omega)] at hb
    have hb : b = true := by
      rcases hb with h | h
      · exact h
      · cases h
    subst hb
    unfold isMk at hmk
    simp only [Bool.and_eq_true, decide_eq_true_eq, beq_iff_eq] at hmk
    refine Ev.step (fun k => by rw [laws_FnMark.l0]) ?_
    refine Ev.neg (by omega) (Ev.pos rfl (Ev.pos (by omega) (Ev.pos (by omega) (Ev.pos ?_ ?_))))
    · rw [toList_LL, LL_extract, List.drop_zero]
      exact hmk.2
    · by_cases h : (l.length : Int) ≥ 12
      · exact Ev.pos h (Ev.ret _)
      · refine Ev.neg h (Ev.bnd (Ev.ret _) (Ev.pos (by simp; omega) ?_))
        refine Ev.bnd (implMarkOf_ev _ (by simp; omega) (fun s hs => ?_)) ?_
        · rcases List.mem_append.1 hs with h | h
          · rw [List.mem_singleton.1 h]; decide
          · have := hz s h; omega
        · refine Ev.eq (Ev.ret _) ?_
          rw [toList_beq, decide_eq_true_eq]
          exact hx (by omega)
  | succ d ih =>
    intro i hi b hb
    refine Ev.step (fun k => by rw [laws_FnMark.l0]) ?_
    refine Ev.pos (by omega) ?_
    rw [wsucc (by omega)]
    by_cases h : b = true
    · exact Ev.pos h (ih (i + 1) (by omega) true (.inl rfl))
    · refine Ev.neg h (Ev.pos (by omega) (ih (i + 1) (by omega) _ ?_))
      rw [toList_beq, decide_eq_true_eq]
      rcases hb with hb | hb
      · exact absurd hb h
      · rw [drop_rd l i (by omega)] at hb
        rcases List.mem_cons.1 hb with hb | hb
        · exact .inl hb.symm
        · exact .inr hb
theorem fnMark_pure : ∀ (l0 : List Int), (l0.length ≤ maxLen ∧ ∀ z ∈ l0, (Lit.int .u8 z).wf = true) → ∃ k, laws_FnMark.f k l0 = some true := by
  intro l hl
  refine Ev.ex ?_
  unfold laws_FnMark.f
  by_cases h : (l.length : Int) > 1048576
  · exact Ev.pos h (Ev.ret _)
  · refine Ev.neg h ?_
    obtain ⟨x, hx, h1, h2⟩ := drawMarkOf_ev l hl.2
    have hi := implMarkOf_ev x (by omega) (fun s hs => by have := h2 s hs; omega)
    have hs := specMarkOf_ev x (by omega) (fun s hs => by have := h2 s hs; omega)
    refine Ev.bnd hx (Ev.bnd hi (Ev.bnd hs (Ev.pos rfl ?_)))
    refine Ev.step (fun k => by rw [laws_FnMark.j0]) ?_
    by_cases h3 : markOf x = ⟨#[]⟩
    · refine Ev.pos (by rw [h3, toList_LL]; rfl) (Ev.bnd hs (Ev.eq (Ev.ret _) ?_))
      simp
    · refine Ev.neg ?_ ?_
      · intro e
        apply h3
        have : (markOf x).toList = (⟨#[]⟩ : ByteArray).toList := by simpa using e
        exact toList_eq.1 this
      · have hb : bodyOk x = true := by
          cases e : bodyOk x with
          | true => rfl
          | false => unfold markOf at h3; rw [e] at h3; exact absurd rfl h3
        have hme : markOf x = markL x := by unfold markOf; rw [if_pos hb]
        rw [hme] at h3 ⊢
        obtain ⟨q1, q2⟩ := markL_mem x h3
        refine fnMark_loop x h1 _ q2 (fun hlt => ?_) h2 x.length 0 (by omega) false (.inr (by simpa using q1))
        unfold markOf
        have : bodyOk ((⟨#[120]⟩ : ByteArray) :: x) = true := by
          unfold bodyOk at hb ⊢
          simp only [Bool.and_eq_true, decide_eq_true_eq, List.all_cons, List.length_cons] at hb ⊢
          exact ⟨⟨by decide, hb.1⟩, by omega⟩
        rw [if_pos this]
        unfold markL
        rw [List.find?_cons_of_neg (by decide)]

end Go.Proofs.Ytbabdndgaafoaaa.Q
