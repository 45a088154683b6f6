/- Of a text of ours what this claim needs. -/
import Derived.Test.YthkibaldmjfmmaaDoorZzFnExactWayOfPWay
import Derived.Test.YthkibaldmjfmmaaDoorZzFnExactWayOfPDom
import Derived.Test.YthkibaldmjfmmaaDoorZzFnExactWayOfQ5
import Derived.Test.YthkibaldmjfmmaaDoorZzFnExactWayOfQ8
import Derived.Test.YthkibaldmjfmmaaDoorZzFnExactWayOfQ0
import Derived.Test.YthkibaldmjfmmaaDoorZzFnExactWayOfQ1
import Derived.Test.YthkibaldmjfmmaaDoorZzFnExactWayOfQ3
import Derived.Test.YthkibaldmjfmmaaDoorZzFnExactWayOfQ15
import Derived.Test.YthkibaldmjfmmaaDoorZzFnExactWayOfQ16
import Derived.Test.YthkibaldmjfmmaaDoorZzFnExactWayOfQ18
import Derived.Test.YthkibaldmjfmmaaDoorZzFnExactWayOfQ19
import Derived.Test.YthkibaldmjfmmaaDoorZzFnExactWayOfHSplit
import Derived.Test.YthkibaldmjfmmaaDoorZzFnExactWayOfQ17
namespace Go.Proofs.YthkibaldmjfmmaaDoor.Q
open Go.RowKit Go.Proofs.YthkibaldmjfmmaaDoorW.PrintWords Go.Proofs.YthkibaldmjfmmaaDoorW.PrintLast Go.Proofs.YthkibaldmjfmmaaDoorW.PrintMore
set_option linter.unusedVariables false
def ConfB (n : ByteArray) (own : List ByteArray) (ways : List IW) : Prop := n.size ≤ 1048576 ∧ own.length ≤ 1048576 ∧ (∀ s ∈ own, s.size ≤ 1048576) ∧ ways.length ≤ 1048576 ∧ ∀ w ∈ ways, w.f0.size ≤ 1048576 ∧ w.f1.size ≤ 1048576
theorem ConfB.of {a0 : ByteArray} {l1 : List ByteArray} {l2 : List LW} (h : ConfSmall a0 l1 l2) : ConfB a0 l1 (l2.map toIW) := by
  obtain ⟨h0, ⟨h1, h2⟩, h3, h4⟩ := h
  refine ⟨h0, h1, h2, by rw [List.length_map]; exact h3, fun s hs => ?_⟩
  obtain ⟨u, hu, rfl⟩ := List.mem_map.1 hs
  exact h4 u hu
theorem ConfB.spec {n : ByteArray} {own : List ByteArray} {ways : List IW} (h : ConfB n own ways) : Ev (fun k => spec_l3ConfOk.f k n own ways) (confL n own ways) := by
  obtain ⟨h0, h1, h2, h3, h4⟩ := h
  exact l3ConfOk_ev _ _ _ (by omega) (by omega) (fun s hs => by have := h2 s hs; omega) (by omega) (fun s hs => by have := h4 s hs; omega)
theorem ConfB.impl {n : ByteArray} {own : List ByteArray} {ways : List IW} (h : ConfB n own ways) : Ev (fun k => impl_ConfOk.f k n own ways) (confL n own ways) := by
  obtain ⟨h0, h1, h2, h3, h4⟩ := h
  exact implConfOk_ev _ _ _ (by omega) (by omega) (fun s hs => by have := h2 s hs; omega) (by omega) (fun s hs => by have := h4 s hs; omega)
def wayOf (n : ByteArray) (own : List ByteArray) (ways : List IW) (d : ByteArray) : ByteArray := if confL n own ways = true then (if domL (LL d) = true then wayL2 own ways d else ⟨#[]⟩) else ⟨#[]⟩
theorem specWayOf_ev {n : ByteArray} {own : List ByteArray} {iw : List IW} (h : ConfB n own iw) (d : ByteArray) (hd : d.size ≤ 1048576) : Ev (fun k => spec_WayOf.f k n own iw d) (wayOf n own iw d) := by
  have hs := h.spec
  obtain ⟨h0, h1, h2, h3, h4⟩ := h
  unfold spec_WayOf.f wayOf
  refine Ev.bnd hs ?_
  by_cases hc : confL n own iw = true
  · refine Ev.eq (Ev.pos hc (Ev.bnd (l1Domain_ev d (by omega)) ?_)) (if_pos hc).symm
    by_cases hdo : domL (LL d) = true
    · refine Ev.eq (Ev.pos hdo (Ev.bnd (l3Own_ev n own iw ⟨#[]⟩ d (by omega)) ?_)) (if_pos hdo).symm
      unfold wayL2
      by_cases ho : ownHas own d = true
      · exact Ev.eq (Ev.pos ho (Ev.ret _)) (if_pos ho).symm
      · exact Ev.eq (Ev.neg ho (Ev.bnd (l3Way_ev n own iw d (by omega) (by omega) (fun s hs => by have := h4 s hs; omega)) (Ev.ret _))) (if_neg ho).symm
    · exact Ev.eq (Ev.neg hdo (Ev.ret _)) (if_neg hdo).symm
  · exact Ev.eq (Ev.neg hc (Ev.ret _)) (if_neg hc).symm
theorem implWayOf_ev {n : ByteArray} {own : List ByteArray} {iw : List IW} (h : ConfB n own iw) (d : ByteArray) (hd : d.size ≤ 1048576) : Ev (fun k => impl_WayOf.f k n own iw d) (wayOf n own iw d) := by
  have hi := h.impl
  obtain ⟨h0, h1, h2, h3, h4⟩ := h
  unfold impl_WayOf.f wayOf
  refine Ev.bnd hi ?_
  by_cases hc : confL n own iw = true
  · refine Ev.eq (Ev.pos hc (Ev.bnd (implDomainOk_ev d (by omega)) ?_)) (if_pos hc).symm
    by_cases hdo : domL (LL d) = true
    · exact Ev.eq (Ev.pos hdo (Ev.bnd (way_ev n own iw d (by omega) (by omega) (by omega) (fun s hs => by have := h4 s hs; omega) (confL_ways hc) hdo) (Ev.ret _))) (if_pos hdo).symm
    · exact Ev.eq (Ev.neg hdo (Ev.ret _)) (if_neg hdo).symm
  · exact Ev.eq (Ev.neg hc (Ev.ret _)) (if_neg hc).symm
end Go.Proofs.YthkibaldmjfmmaaDoor.Q
