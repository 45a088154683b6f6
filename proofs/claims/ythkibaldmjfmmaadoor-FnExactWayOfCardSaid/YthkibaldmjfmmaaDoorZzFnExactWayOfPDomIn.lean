/- Of a text of ours what this claim needs. -/
import Derived.Test.YthkibaldmjfmmaaDoorZzFnExactWayOfPDom
import Derived.Test.YthkibaldmjfmmaaDoorZzFnExactWayOfQ19
namespace Go.Proofs.YthkibaldmjfmmaaDoor.Q
open Go.RowKit Go.Proofs.YthkibaldmjfmmaaDoorW.PrintWords Go.Proofs.YthkibaldmjfmmaaDoorW.PrintLast Go.Proofs.YthkibaldmjfmmaaDoorW.PrintMore
set_option linter.unusedVariables false
def domIn (a b : ByteArray) : Bool := domL (LL a) && domL (LL b) && endsL (LL a) (LL b)
theorem implDomainIn_ev (a b : ByteArray) (ha : a.size ≤ 4294967280) (hb : b.size ≤ 4294967280) : Ev (fun k => impl_DomainIn.f k a b) (domIn a b) := by
  unfold impl_DomainIn.f domIn
  refine Ev.bnd (implDomainOk_ev a ha) ?_
  by_cases h : domL (LL a) = true
  · refine Ev.pos h (Ev.bnd (implDomainOk_ev b hb) ?_)
    by_cases h' : domL (LL b) = true
    · refine Ev.pos h' ?_
      rw [h, h', Bool.true_and, Bool.true_and, endsL_suffix]
      by_cases e : a = b
      · refine Ev.pos (toList_eq.2 e) (Ev.eq (Ev.ret _) ?_)
        simp [e]
      · have hz : ((⟨#[46]⟩ : ByteArray) ++ b).size = 1 + b.size := by rw [size_append]; rfl
        have hl : LL ((⟨#[46]⟩ : ByteArray) ++ b) = 46 :: LL b := by rw [LL_append]; rfl
        refine Ev.neg (fun q => e (toList_eq.1 q)) (Ev.pos (by omega) (Ev.bnd (Ev.k (hasSuffix_f a _ (by omega) (by omega))) (Ev.eq (Ev.ret _) ?_)))
        rw [hz, hl, show decide (a = b) = false by rw [decide_eq_false_iff_not]; exact e, Bool.false_or]
    · refine Ev.neg h' (Ev.eq (Ev.ret _) ?_)
      rw [Bool.not_eq_true] at h'
      rw [h', Bool.and_false, Bool.false_and]
  · refine Ev.neg h (Ev.eq (Ev.ret _) ?_)
    rw [Bool.not_eq_true] at h
    rw [h, Bool.false_and, Bool.false_and]
end Go.Proofs.YthkibaldmjfmmaaDoor.Q
