/- The plain law of FnExactDomainIn. -/
import Derived.Test.YtbabdndgaafoaaaDoorPDom
import Derived.Test.YtbabdndgaafoaaaDoorQ4
namespace Go.Proofs.YtbabdndgaafoaaaDoor.Q
open Go.RowKit Go.Proofs.YtbabdndgaafoaaaDoorW.PrintWords Go.Proofs.YtbabdndgaafoaaaDoorW.PrintLast Go.Proofs.YtbabdndgaafoaaaDoorW.PrintMore
def domIn (a b : ByteArray) : Bool := domL (LL a) && domL (LL b) && endsL (LL a) (LL b)
theorem specDomainIn_ev (a b : ByteArray) (ha : a.size ≤ 1099511627776) (hb : b.size ≤ 1099511627776) : Ev (fun k => spec_DomainIn.f k a b) (domIn a b) := by
  unfold spec_DomainIn.f domIn
  refine Ev.bnd (l1Domain_ev a ha) ?_
  by_cases h : domL (LL a) = true
  · refine Ev.pos h (Ev.bnd (l1Domain_ev b hb) ?_)
    by_cases h' : domL (LL b) = true
    · refine Ev.pos h' (Ev.bnd (Ev.k (l1Ends_f a b ha hb)) (Ev.eq (Ev.ret _) ?_))
      rw [h, h', Bool.true_and, Bool.true_and]
    · refine Ev.neg h' (Ev.eq (Ev.ret _) ?_)
      rw [Bool.not_eq_true] at h'
      rw [h', Bool.and_false, Bool.false_and]
  · refine Ev.neg h (Ev.eq (Ev.ret _) ?_)
    rw [Bool.not_eq_true] at h
    rw [h, Bool.false_and, Bool.false_and]
theorem implDomainIn_ev (a b : ByteArray) (ha : a.size ≤ 4294967280) (hb : b.size ≤ 4294967280) : Ev (fun k => impl_DomainIn.f k a b) (domIn a b) := by
  unfold impl_DomainIn.f domIn
  refine Ev.bnd (implDomainOk_ev a ha) ?_
  by_cases h : domL (LL a) = true
  · refine Ev.pos h (Ev.bnd (implDomainOk_ev b hb) ?_)
    by_cases h' : domL (LL b) = true
    · refine Ev.pos h' ?_
      rw [h, h', Bool.true_and, Bool.true_and, endsL_suffix]
      by_cases e : a = b
      · refine Ev.pos (toList_eq.2 e) (Ev.eq (Ev.ret _) ?_)
        simp [e]
      · have hz : ((⟨#[46]⟩ : ByteArray) ++ b).size = 1 + b.size := by rw [size_append]; rfl
        have hl : LL ((⟨#[46]⟩ : ByteArray) ++ b) = 46 :: LL b := by rw [LL_append]; rfl
        refine Ev.neg (fun q => e (toList_eq.1 q)) (Ev.pos (by omega) (Ev.bnd (Ev.k (hasSuffix_f a _ (by omega) (by omega))) (Ev.eq (Ev.ret _) ?_)))
        rw [hz, hl, show decide (a = b) = false by rw [decide_eq_false_iff_not]; exact e, Bool.false_or]
    · refine Ev.neg h' (Ev.eq (Ev.ret _) ?_)
      rw [Bool.not_eq_true] at h'
      rw [h', Bool.and_false, Bool.false_and]
  · refine Ev.neg h (Ev.eq (Ev.ret _) ?_)
    rw [Bool.not_eq_true] at h
    rw [h, Bool.false_and, Bool.false_and]
theorem fnExactDomainIn_pure : ∀ (a0 : ByteArray) (a1 : ByteArray), a0.size ≤ maxLen → a1.size ≤ maxLen → ∃ k, laws_FnExactDomainIn.f k a0 a1 = some true := by
  intro a b _ _
  refine Ev.ex ?_
  unfold laws_FnExactDomainIn.f
  by_cases h : (a.size : Int) > 1048576
  · exact Ev.pos h (Ev.ret _)
  · refine Ev.neg h ?_
    by_cases h' : (b.size : Int) > 1048576
    · exact Ev.pos h' (Ev.ret _)
    · exact Ev.neg h' (Ev.bnd (specDomainIn_ev a b (by omega) (by omega)) (Ev.bnd (implDomainIn_ev a b (by omega) (by omega)) (Ev.neg (by simp) (Ev.ret _))))
end Go.Proofs.YtbabdndgaafoaaaDoor.Q
