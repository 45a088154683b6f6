/- The plain law of FnExactAddrOk. -/
import Derived.Test.YtbabdndgaafoaaaDoorPDom
import Derived.Test.YtbabdndgaafoaaaDoorPSz
import Derived.Test.YtbabdndgaafoaaaDoorQ4
namespace Go.Proofs.YtbabdndgaafoaaaDoor.Q
open Go.RowKit Go.Proofs.YtbabdndgaafoaaaDoorW.PrintWords Go.Proofs.YtbabdndgaafoaaaDoorW.PrintLast Go.Proofs.YtbabdndgaafoaaaDoorW.PrintMore
def addrL (u d : ByteArray) : Bool := wordL (LL u) && domL (LL d)
theorem l1AddrOk_ev (u d : ByteArray) (hu : u.size ≤ 1099511627776) (hd : d.size ≤ 1099511627776) : Ev (fun k => spec_l1AddrOk.f k u d) (addrL u d) := by
  unfold spec_l1AddrOk.f addrL
  refine Ev.bnd (l1Word_ev u (by omega)) ?_
  by_cases h : wordL (LL u) = true
  · refine Ev.pos h (Ev.bnd (l1Domain_ev d hd) (Ev.eq (Ev.ret _) ?_))
    rw [h, Bool.true_and]
  · refine Ev.neg h (Ev.eq (Ev.ret _) ?_)
    rw [Bool.not_eq_true] at h
    rw [h, Bool.false_and]
theorem implAddrOk_ev (u d : ByteArray) (hu : u.size ≤ 4294967280) (hd : d.size ≤ 4294967280) : Ev (fun k => impl_AddrOk.f k u d) (addrL u d) := by
  unfold impl_AddrOk.f addrL
  refine Ev.bnd (Ev.k (isLabel_f u (by omega))) ?_
  by_cases h : wordL (LL u) = true
  · refine Ev.pos h (Ev.bnd (implDomainOk_ev d hd) (Ev.eq (Ev.ret _) ?_))
    rw [h, Bool.true_and]
  · refine Ev.neg h (Ev.eq (Ev.ret _) ?_)
    rw [Bool.not_eq_true] at h
    rw [h, Bool.false_and]
theorem fnExactAddrOk_pure : ∀ (a0_0 : ByteArray) (a0_1 : ByteArray), a0_0.size ≤ maxLen → a0_1.size ≤ maxLen → ∃ k, laws_FnExactAddrOk.f k a0_0 a0_1 = some true := by
  intro u d hu hd
  unfold maxLen at hu hd
  refine Ev.ex ?_
  unfold laws_FnExactAddrOk.f
  obtain ⟨r, hr, _, hall⟩ := szAddr_f u d (by omega) (by omega) 1048576 (by omega) (by omega)
  refine Ev.bnd (Ev.k hr) ?_
  by_cases h : r < 0
  · exact Ev.pos h (Ev.ret _)
  · have := hall (by omega)
    have h1 : Ev (fun k => spec_AddrOk.f k u d) (addrL u d) := Ev.bnd (l1AddrOk_ev u d (by omega) (by omega)) (Ev.ret _)
    refine Ev.neg h (Ev.bnd (Ev.ret (u, d)) (Ev.bnd h1 (Ev.bnd (Ev.ret (u, d)) (Ev.bnd (implAddrOk_ev u d (by omega) (by omega)) (Ev.neg (by simp) (Ev.ret _))))))
end Go.Proofs.YtbabdndgaafoaaaDoor.Q
