/- Of a text of ours what this claim needs. -/
import Derived.Test.YtpeefjfklklhdaaDoorZzFnHopsPDrawA
import Derived.Test.YtpeefjfklklhdaaDoorZzFnHopsQ16
namespace Go.Proofs.YtpeefjfklklhdaaDoor.Q
open Go.RowKit Go.Proofs.YtpeefjfklklhdaaDoorW.PrintWords Go.Proofs.YtpeefjfklklhdaaDoorW.PrintLast Go.Proofs.YtpeefjfklklhdaaDoorW.PrintMore
set_option linter.unusedVariables false
theorem sizes_of {l : List ByteArray} {n : Nat} (h : l.all (fun s => decide (s.size ≤ n)) = true) : ∀ s ∈ l, s.size ≤ n := fun s hs => by
  rw [List.all_eq_true] at h
  exact of_decide_eq_true (h s hs)
theorem domain_dr {b : List Int} (hb : Buf b) {p : Int} (h0 : 0 ≤ p) (h1 : p ≤ 1000000) : Dr 1 p (fun k => spec_l20Domain.f k b p) (fun r => r.size ≤ 9) := by
  unfold spec_l20Domain.f
  obtain ⟨v, p', e, a, c, m⟩ := of_all (P := fun s => s.size ≤ 9) (sizes_of (by decide)) (of_dr hb [(⟨#[111, 110, 101, 46, 111, 114, 103]⟩ : ByteArray), (⟨#[116, 119, 111, 46, 111, 114, 103]⟩ : ByteArray), (⟨#[104, 117, 98, 46, 110, 101, 116]⟩ : ByteArray), (⟨#[120, 46, 99, 111, 109]⟩ : ByteArray), (⟨#[102, 97, 114, 46, 99, 111, 109]⟩ : ByteArray), (⟨#[111, 116, 104, 101, 114, 46, 99, 111, 109]⟩ : ByteArray), (⟨#[97, 46, 111, 110, 101, 46, 111, 114, 103]⟩ : ByteArray)] (by simp) (by simp) h0 (by omega))
  exact ⟨v, p', Ev.bnd e (Ev.ret _), a, c, m⟩
theorem addr_dr {b : List Int} (hb : Buf b) {p : Int} (h0 : 0 ≤ p) (h1 : p ≤ 100000) : ∃ u d p', Ev (fun k => spec_l20Addr.f k b p) (u, d, p') ∧ p ≤ p' ∧ p' ≤ p + 2 ∧ u.size ≤ 11 ∧ d.size ≤ 9 := by
  unfold spec_l20Addr.f
  obtain ⟨v, p1, e, a, c, m⟩ := of_all (P := fun s => s.size ≤ 11) (sizes_of (by decide)) (of_dr hb (p := p) [(⟨#[97]⟩ : ByteArray), (⟨#[98]⟩ : ByteArray), (⟨#[97, 110, 110]⟩ : ByteArray), (⟨#[98, 111, 98, 55]⟩ : ByteArray)] (by simp) (by simp) h0 (by omega))
  obtain ⟨w, p2, e2, a2, c2, m2⟩ := domain_dr hb (p := p1) (by omega) (by omega)
  exact ⟨v, w, p2, Ev.bnd e (Ev.bnd e2 (Ev.ret _)), by omega, by omega, m, m2⟩
theorem anyAddr_dr {b : List Int} (hb : Buf b) {p : Int} (h0 : 0 ≤ p) (h1 : p ≤ 100000) : ∃ u d p', Ev (fun k => spec_l20AnyAddr.f k b p) (u, d, p') ∧ p ≤ p' ∧ p' ≤ p + 4 ∧ u.size ≤ 11 ∧ d.size ≤ 9 := by
  unfold spec_l20AnyAddr.f
  obtain ⟨u, d, p1, e1, a1, c1, m1, n1⟩ := addr_dr hb h0 h1
  obtain ⟨t, p2, e2, a2, c2, _, _⟩ := pick_dr hb (p := p1) 10 (by omega) (by omega) (by omega)
  by_cases h : t = 0
  · obtain ⟨v, p3, e3, a3, c3, m3⟩ := of_all (P := fun s => s.size ≤ 11) (sizes_of (by decide)) (of_dr hb (p := p2) [(⟨#[]⟩ : ByteArray), (⟨#[65]⟩ : ByteArray), (⟨#[116, 111, 111, 108, 111, 110, 103, 110, 97, 109, 101]⟩ : ByteArray), (⟨#[97, 64, 98]⟩ : ByteArray)] (by simp) (by simp) (by omega) (by omega))
    exact ⟨v, d, p3, Ev.bnd e1 (Ev.bnd e2 (Ev.pos h (Ev.bnd e3 (Ev.ret _)))), by omega, by omega, m3, n1⟩
  · by_cases h' : t = 1
    · obtain ⟨v, p3, e3, a3, c3, m3⟩ := of_all (P := fun s => s.size ≤ 9) (sizes_of (by decide)) (of_dr hb (p := p2) [(⟨#[]⟩ : ByteArray), (⟨#[97, 46, 46, 98]⟩ : ByteArray), (⟨#[46, 97]⟩ : ByteArray), (⟨#[97, 46, 98, 46, 99, 46, 100]⟩ : ByteArray), (⟨#[85, 112, 46, 111, 114, 103]⟩ : ByteArray)] (by simp) (by simp) (by omega) (by omega))
      exact ⟨u, v, p3, Ev.bnd e1 (Ev.bnd e2 (Ev.neg h (Ev.pos h' (Ev.bnd e3 (Ev.ret _))))), by omega, by omega, m1, m3⟩
    · by_cases h2 : t = 2
      · exact ⟨_, _, p2, Ev.bnd e1 (Ev.bnd e2 (Ev.neg h (Ev.neg h' (Ev.pos h2 (Ev.ret _))))), by omega, by omega, by decide, by decide⟩
      · exact ⟨_, _, p2, Ev.bnd e1 (Ev.bnd e2 (Ev.neg h (Ev.neg h' (Ev.neg h2 (Ev.ret _))))), by omega, by omega, m1, n1⟩
end Go.Proofs.YtpeefjfklklhdaaDoor.Q
