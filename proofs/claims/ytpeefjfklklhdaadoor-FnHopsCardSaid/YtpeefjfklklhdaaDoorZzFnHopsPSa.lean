/- Of a text of ours what this claim needs. -/
import Derived.Test.YtpeefjfklklhdaaDoorZzFnHopsPBase
import Derived.Test.YtpeefjfklklhdaaDoorZzFnHopsQ39
namespace Go.Proofs.YtpeefjfklklhdaaDoor.Q
open Go.RowKit Go.Proofs.YtpeefjfklklhdaaDoorW.PrintWords Go.Proofs.YtpeefjfklklhdaaDoorW.PrintLast Go.Proofs.YtpeefjfklklhdaaDoorW.PrintMore
set_option linter.unusedVariables false
theorem saTexts_loop (a b : List ByteArray) (hl : a.length = b.length) (hm : a.length ≤ 1099511627776) : ∀ d i : Nat, i + d = a.length → Ev (fun k => laws_saTexts.l0 k a b (i : Int)) (decide (a.drop i = b.drop i)) := by
  intro d
  induction d with
  | zero =>
    intro i hi
    refine Ev.step (fun k => by rw [laws_saTexts.l0]) ?_
    refine Ev.neg (by omega) (Ev.eq (Ev.ret _) ?_)
    rw [List.drop_of_length_le (by omega), List.drop_of_length_le (by omega)]
    simp
  | succ d ih =>
    intro i hi
    refine Ev.step (fun k => by rw [laws_saTexts.l0]) ?_
    refine Ev.pos (by omega) (Ev.pos (by omega) (Ev.pos (by omega) ?_))
    rw [wsucc (by omega)]
    have e1 := drop_rd a i (by omega)
    have e2 := drop_rd b i (by omega)
    by_cases h : rdOf ByteArray.empty a (i : Int) = rdOf ByteArray.empty b (i : Int)
    · refine Ev.pos (toList_eq.2 h) (Ev.eq (ih (i + 1) (by omega)) ?_)
      rw [e1, e2, h]
      simp
    · refine Ev.neg (fun e => h (toList_eq.1 e)) (Ev.eq (Ev.ret _) ?_)
      rw [e1, e2]
      simp [h]
theorem saTexts_ev (a b : List ByteArray) (hm : a.length ≤ 1099511627776) : Ev (fun k => laws_saTexts.f k a b) (decide (a = b)) := by
  unfold laws_saTexts.f
  by_cases h : a.length = b.length
  · exact Ev.pos (by omega) (saTexts_loop a b h hm a.length 0 (by omega))
  · refine Ev.neg (by omega) (Ev.eq (Ev.ret _) ?_)
    symm
    rw [decide_eq_false_iff_not]
    exact fun e => h (by rw [e])
end Go.Proofs.YtpeefjfklklhdaaDoor.Q
