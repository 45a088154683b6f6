/- Of a text of ours what this claim needs. -/
import Derived.Test.YtpeefjfklklhdaaDoorZzFnAddrPutPAddrGet
import Derived.Test.YtpeefjfklklhdaaDoorZzFnAddrPutPDrawAddr
import Derived.Test.YtpeefjfklklhdaaDoorZzFnAddrPutQ17
import Derived.Test.YtpeefjfklklhdaaDoorZzFnAddrPutQ16
namespace Go.Proofs.YtpeefjfklklhdaaDoor.Q
open Go.RowKit Go.Proofs.YtpeefjfklklhdaaDoorW.PrintWords Go.Proofs.YtpeefjfklklhdaaDoorW.PrintLast Go.Proofs.YtpeefjfklklhdaaDoorW.PrintMore
set_option linter.unusedVariables false
theorem drawAddrPut_ev (l : List Int) (hl : ∀ z ∈ l, (Lit.int .u8 z).wf = true) : ∃ u d, Ev (fun k => spec_DrawAddrPut.f k l) (u, d) ∧ u.size ≤ 11 ∧ d.size ≤ 9 := by
  obtain ⟨b, hb, hb1, hb2⟩ := open_ok l hl
  obtain ⟨u, d, p, e, _, _, h1, h2⟩ := anyAddr_dr (b := b) ⟨hb1, hb2⟩ (p := 0) (by omega) (by omega)
  refine ⟨u, d, ?_, h1, h2⟩
  unfold spec_DrawAddrPut.f
  exact Ev.bnd (Ev.k hb) (Ev.bnd e (Ev.ret _))
theorem textA_ne (u d : ByteArray) : textA u d ≠ ⟨#[]⟩ := by
  unfold textA
  split
  · decide
  · intro e
    have := congrArg LL e
    rw [LL_BB] at this
    cases this
theorem putA_empty (u d : ByteArray) : (decide (putA u d = ⟨#[]⟩)) = !senderA u d := by
  unfold putA
  by_cases h : senderA u d = true
  · rw [if_pos h, h, decide_eq_false_iff_not.2 (textA_ne u d)]; rfl
  · rw [if_neg h, Bool.not_eq_true] at *
    rw [h]; rfl
theorem fnAddrPut_pure : ∀ (l0 : List Int), (l0.length ≤ maxLen ∧ ∀ z ∈ l0, (Lit.int .u8 z).wf = true) → ∃ k, laws_FnAddrPut.f k l0 = some true := by
  intro l hl
  refine Ev.ex ?_
  unfold laws_FnAddrPut.f
  by_cases h : (l.length : Int) > 1048576
  · exact Ev.pos h (Ev.ret _)
  · obtain ⟨u, d, hx, hu, hd⟩ := drawAddrPut_ev l hl.2
    have hi := implAddrPut_ev u d (by omega) (by omega)
    have hs := specAddrPut_ev u d (by omega) (by omega)
    have io := implAddrOk_ev u d (by omega) (by omega)
    have so : Ev (fun k => spec_AddrOk.f k u d) (addrL u d) := Ev.bnd (l1AddrOk_ev u d (by omega) (by omega)) (Ev.ret _)
    have hne : ((putA u d).toList != ([] : List UInt8)) = senderA u d := by
      rw [bne, toList_nil, putA_empty, Bool.not_not]
    have hnull : (u.toList == ([] : List UInt8) && (d.toList == ([] : List UInt8))) = nullA u d := by rw [toList_nil, toList_nil]; rfl
    have fin : Ev (fun k => laws_FnAddrPut.j0 k (putA u d) ((putA u d).toList == ([] : List UInt8)) u d) true := by
      refine Ev.step (fun k => by rw [laws_FnAddrPut.j0]) ?_
      rw [toList_nil, putA_empty]
      by_cases hse : senderA u d = true
      · refine Ev.neg (by rw [hse]; simp) ?_
        have hp : putA u d = textA u d := by unfold putA; rw [if_pos hse]
        rw [hp]
        obtain ⟨v, _, h2, h3⟩ := addrGet_ev (textA u d) (by
          have := l1Put_f u d (by omega) (by omega)
          unfold textA
          split
          · decide
          · rw [size_BB]
            unfold textL
            have hsu := size_LL u
            have hsd := size_LL d
            simp
            omega)
        have hv : v = (u, d, true) := Got.one h3 (.inl ⟨u, d, rfl, hse, rfl⟩)
        subst hv
        exact Ev.bnd h2 (Ev.pos rfl (Ev.eq (Ev.ret _) (by simp)))
      · rw [Bool.not_eq_true] at hse
        refine Ev.pos (by rw [hse]; rfl) (Ev.bnd hs (Ev.pos rfl (Ev.bnd io (Ev.bnd so (Ev.pos (by simp) (Ev.bnd io ?_))))))
        rw [hne, hnull, hse]
        have : addrL u d = false ∧ nullA u d = false := by
          unfold senderA at hse
          rw [Bool.or_eq_false_iff] at hse
          exact ⟨hse.2, hse.1⟩
        exact Ev.neg (by rw [this.1]; simp) (Ev.eq (Ev.ret _) (by rw [this.2]; rfl))
    refine Ev.neg h (Ev.bnd hx (Ev.bnd hi (Ev.bnd hs (Ev.pos rfl (Ev.bnd io (Ev.bnd so (Ev.neg (by simp) (Ev.bnd io ?_))))))))
    by_cases ha : addrL u d = true
    · refine Ev.pos ha (Ev.neg ?_ fin)
      rw [hne, sender_of ha]
      simp
    · refine Ev.neg ha (Ev.neg ?_ fin)
      rw [hne, hnull]
      rw [Bool.not_eq_true] at ha
      unfold senderA
      rw [ha]
      simp
end Go.Proofs.YtpeefjfklklhdaaDoor.Q
