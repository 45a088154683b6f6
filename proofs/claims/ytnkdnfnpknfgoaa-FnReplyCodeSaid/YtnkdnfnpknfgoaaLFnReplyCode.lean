/- The plain law of FnReplyCode. -/
import Derived.Test.YtnkdnfnpknfgoaaPReply
import Derived.Test.YtnkdnfnpknfgoaaPDrawA
import Derived.Test.YtnkdnfnpknfgoaaQ4
namespace Go.Proofs.Ytnkdnfnpknfgoaa.Q
open Go.RowKit Go.Proofs.YtnkdnfnpknfgoaaW.PrintWords Go.Proofs.YtnkdnfnpknfgoaaW.PrintLast Go.Proofs.YtnkdnfnpknfgoaaW.PrintMore
theorem reply_draw (l : List Int) (hl : ∀ z ∈ l, (Lit.int .u8 z).wf = true) : ∃ s, Ev (fun k => spec_DrawReplyCode.f k l) s := by
  obtain ⟨b, hb, hb1, hb2⟩ := open_ok l hl
  unfold spec_DrawReplyCode.f
  obtain ⟨s, p, e, _, _, _⟩ := of_dr (b := b) ⟨hb1, hb2⟩ (p := 0) [(⟨#[50, 53, 48, 32, 111, 107]⟩ : ByteArray), (⟨#[50, 53, 48]⟩ : ByteArray), (⟨#[50, 53, 48, 45, 111, 107]⟩ : ByteArray), (⟨#[53, 53, 52, 32, 110, 111]⟩ : ByteArray), (⟨#[49, 57, 57, 32, 120]⟩ : ByteArray), (⟨#[54, 48, 48, 32, 120]⟩ : ByteArray), (⟨#[50, 120, 48, 32, 97]⟩ : ByteArray), (⟨#[]⟩ : ByteArray), (⟨#[51, 53, 52, 32, 103, 111, 32, 111, 110]⟩ : ByteArray), (⟨#[50, 50, 48, 32, 111, 110, 101, 46, 111, 114, 103]⟩ : ByteArray), (⟨#[53, 48, 48, 32]⟩ : ByteArray)] (by simp) (by simp) (by omega) (by omega)
  exact ⟨s, Ev.bnd (Ev.k hb) (Ev.bnd e (Ev.ret _))⟩
theorem fnReplyCode_pure : ∀ (l0 : List Int), (l0.length ≤ maxLen ∧ ∀ z ∈ l0, (Lit.int .u8 z).wf = true) → ∃ k, laws_FnReplyCode.f k l0 = some true := by
  intro l hl
  refine Ev.ex ?_
  unfold laws_FnReplyCode.f
  by_cases h : (l.length : Int) > 1048576
  · exact Ev.pos h (Ev.ret _)
  obtain ⟨s, hs⟩ := reply_draw l hl.2
  refine Ev.neg h (Ev.bnd hs (Ev.bnd (Ev.k (implReply_f s)) (Ev.bnd (specReply_ev s) (Ev.pos rfl (Ev.step (fun k => by rw [laws_FnReplyCode.j0]) ?_)))))
  by_cases h0 : replyV s = 0
  · exact Ev.pos (by rw [h0]; rfl) (Ev.bnd (specReply_ev s) (Ev.eq (Ev.ret _) (by simp)))
  · refine Ev.neg (by simpa using h0) ?_
    have hv : replyV s = replyV s := rfl
    conv at hv => rhs; unfold replyV
    by_cases hc : (4 : Int) ≤ (s.size : Int) ∧ 50 ≤ bt s 0 ∧ bt s 0 ≤ 53 ∧ bt s 3 = 32 ∧ (48 ≤ bt s 1 ∧ bt s 1 ≤ 57 ∧ 48 ≤ bt s 2 ∧ bt s 2 ≤ 57)
    · rw [if_pos hc] at hv
      obtain ⟨h1, h2, h3, h4, h5, h6, h7, h8⟩ := hc
      have z4 := size_extract s 0 4 (by omega) (by omega)
      have z3 := size_extract s 0 3 (by omega) (by omega)
      have b0 : bt (s.extract 0 4) 0 = bt s 0 := bt_ext s 4 (by omega) 0 (by omega)
      have b1 : bt (s.extract 0 4) 1 = bt s 1 := bt_ext s 4 (by omega) 1 (by omega)
      have b2 : bt (s.extract 0 4) 2 = bt s 2 := bt_ext s 4 (by omega) 2 (by omega)
      have b3 : bt (s.extract 0 4) 3 = bt s 3 := bt_ext s 4 (by omega) 3 (by omega)
      have e4 : replyV (s.extract 0 4) = replyV s := by
        rw [hv]
        unfold replyV
        rw [b0, b1, b2, b3, if_pos ⟨by omega, h2, h3, h4, h5, h6, h7, h8⟩]
      have e3 : replyV (s.extract 0 3) = 0 := by
        unfold replyV
        rw [if_neg (by omega)]
      refine Ev.pos (by omega) (Ev.pos (by omega) (Ev.pos (by omega) (Ev.pos h4 (Ev.pos (by omega) (Ev.pos (by omega) (Ev.bnd (Ev.k (implReply_f _)) (Ev.pos e4 (Ev.pos (by omega) (Ev.pos (by omega) (Ev.bnd (Ev.k (implReply_f _)) (Ev.eq (Ev.ret _) (by rw [e3]; rfl))))))))))))
    · rw [if_neg hc] at hv
      exact absurd hv h0
end Go.Proofs.Ytnkdnfnpknfgoaa.Q
