/- The plain law of FnExactSessOk. -/
import Derived.Test.YtbabdndgaafoaaaPLinesA
import Derived.Test.YtbabdndgaafoaaaPAddr
import Derived.Test.YtbabdndgaafoaaaHCut
import Derived.Test.YtbabdndgaafoaaaQ19
import Derived.Test.YtbabdndgaafoaaaQ15
import Derived.Test.YtbabdndgaafoaaaQ16
import Derived.Test.YtbabdndgaafoaaaQ18
import Derived.Test.YtbabdndgaafoaaaQ17
namespace Go.Proofs.Ytbabdndgaafoaaa.Q
open Go.RowKit Go.Proofs.YtbabdndgaafoaaaW.PrintWords Go.Proofs.YtbabdndgaafoaaaW.PrintLast Go.Proofs.YtbabdndgaafoaaaW.PrintMore
set_option linter.unusedVariables false
set_option linter.unusedSimpArgs false

theorem szMail_ev (a0 a1 : ByteArray) (l2 : List LA) (l3 : List ByteArray) (h0 : a0.size ≤ 9223372036854775807) (h1 : a1.size ≤ 9223372036854775807)
    (h2 : l2.length ≤ 9223372036854775807 ∧ ∀ s ∈ l2, s.f0.size ≤ 9223372036854775807 ∧ s.f1.size ≤ 9223372036854775807) (h3 : l3.length ≤ 9223372036854775807 ∧ ∀ s ∈ l3, s.size ≤ 9223372036854775807) (a : Int) (ha : 0 ≤ a) (hb : a ≤ 1048576) :
    ∃ r, Ev (fun k => laws_szMail.f k a0 a1 l2 l3 a) r ∧ r ≤ a ∧ (0 ≤ r → a0.size ≤ 1048576 ∧ a1.size ≤ 1048576 ∧ l2.length ≤ 1048576 ∧ (∀ s ∈ l2, s.f0.size ≤ 1048576 ∧ s.f1.size ≤ 1048576) ∧ l3.length ≤ 1048576 ∧ ∀ s ∈ l3, s.size ≤ 1048576) := by
  unfold laws_szMail.f
  obtain ⟨r, hr, hle, hall⟩ := szAddr_f a0 a1 h0 h1 a ha hb
  by_cases h : r < 0
  · exact ⟨-1, Ev.bnd (Ev.k hr) (Ev.pos h (Ev.ret _)), by omega, by omega⟩
  · obtain ⟨q, hq, hle2, hall2⟩ := szAddrS_ev l2 h2.1 h2.2 r (by omega) (by omega)
    by_cases h' : q < 0
    · exact ⟨-1, Ev.bnd (Ev.k hr) (Ev.neg h (Ev.bnd hq (Ev.pos h' (Ev.ret _)))), by omega, by omega⟩
    · obtain ⟨t, ht, hle3, hall3⟩ := szStringS_ev l3 h3.1 h3.2 q (by omega) (by omega)
      by_cases h'' : t < 0
      · exact ⟨-1, Ev.bnd (Ev.k hr) (Ev.neg h (Ev.bnd hq (Ev.neg h' (Ev.bnd ht (Ev.pos h'' (Ev.ret _)))))), by omega, by omega⟩
      · have e1 := hall (by omega)
        have e2 := hall2 (by omega)
        have e3 := hall3 (by omega)
        refine ⟨t, Ev.bnd (Ev.k hr) (Ev.neg h (Ev.bnd hq (Ev.neg h' (Ev.bnd ht (Ev.neg h'' (Ev.ret _)))))), by omega, fun _ => ⟨by omega, by omega, by omega, fun s hs => ?_, by omega, fun s hs => ?_⟩⟩
        · have := e2.2 s hs; omega
        · have := e3.2 s hs; omega
theorem toMail_ev (a0 a1 : ByteArray) (l2 : List LA) (l3 : List ByteArray) (h2 : l2.length ≤ 1099511627776) (h3 : l3.length ≤ 1099511627776) :
    Ev (fun k => laws_toMail.f k a0 a1 l2 l3) (a0, a1, l2.map toIA, l3) := by
  unfold laws_toMail.f
  refine Ev.bnd (Ev.k (show laws_toAddr.f _ _ = some _ from rfl)) ?_
  refine Ev.bnd (toAddrS_ev l2 h2) ?_
  refine Ev.bnd (toStringS_ev l3 h3) ?_
  exact Ev.ret _
theorem eqMail_refl (a0 a1 : ByteArray) (l2 : List IA) (l3 : List ByteArray) (h2 : l2.length ≤ 1099511627776) (h3 : l3.length ≤ 1099511627776) :
    Ev (fun k => laws_eqMail.f k a0 a1 l2 l3 a0 a1 l2 l3) true := by
  unfold laws_eqMail.f
  refine Ev.bnd (Ev.k (eqAddr_refl _ _)) ?_
  refine Ev.pos rfl ?_
  refine Ev.bnd (eqAddrS_refl l2 h2) ?_
  refine Ev.pos rfl ?_
  refine Ev.bnd (eqStringS_ev l3 l3 (by omega)) ?_
  exact Ev.pos (by simp) (Ev.ret _)

theorem szSess_ev (a0_0 : Int) (a0_1 a0_2 : ByteArray) (l0_3 : List LA) (l0_4 : List ByteArray) (a0_5 : Bool) (a0_6 : ByteArray) (h1 : a0_1.size ≤ 9223372036854775807) (h2 : a0_2.size ≤ 9223372036854775807)
    (h3 : l0_3.length ≤ 9223372036854775807 ∧ ∀ s ∈ l0_3, s.f0.size ≤ 9223372036854775807 ∧ s.f1.size ≤ 9223372036854775807) (h4 : l0_4.length ≤ 9223372036854775807 ∧ ∀ s ∈ l0_4, s.size ≤ 9223372036854775807) (h6 : a0_6.size ≤ 9223372036854775807) :
    ∃ r, Ev (fun k => laws_szSess.f k a0_0 a0_1 a0_2 l0_3 l0_4 a0_5 a0_6 1048576) r ∧ (0 ≤ r → l0_3.length ≤ 1048576 ∧ l0_4.length ≤ 1048576 ∧ a0_6.size ≤ 1048576 ∧ ∀ s ∈ l0_4, s.size ≤ 1048576) := by
  unfold laws_szSess.f
  obtain ⟨r, hr, hle, hall⟩ := szMail_ev a0_1 a0_2 l0_3 l0_4 h1 h2 h3 h4 1048576 (by omega) (by omega)
  by_cases h : r < 0
  · exact ⟨-1, Ev.bnd hr (Ev.pos h (Ev.ret _)), by omega⟩
  · have hw : wrap64 (r - (a0_6.size : Int)) = r - (a0_6.size : Int) := w64 (by omega) (by omega)
    by_cases h' : wrap64 (r - (a0_6.size : Int)) < 0
    · exact ⟨-1, Ev.bnd hr (Ev.neg h (Ev.pos h' (Ev.ret _))), by omega⟩
    · have e := hall (by omega)
      exact ⟨_, Ev.bnd hr (Ev.neg h (Ev.neg h' (Ev.ret _))), fun _ => ⟨e.2.2.1, e.2.2.2.2.1, by rw [hw] at h'; omega, e.2.2.2.2.2⟩⟩

theorem linesOf_nil (l : List UInt8) : (linesOf l).1 = [] ↔ Lib.contains l CRLF = false := by
  unfold Lib.contains
  by_cases h : 0 ≤ Lib.index l CRLF
  · obtain ⟨i, hi⟩ := int_of_nat h
    rw [linesOf_some hi]
    simp [h]
  · rw [linesOf_none (by omega)]
    simp [h]
def sessOk (s : Int) (n m : Nat) (b : ByteArray) : Bool := decide (0 ≤ s ∧ s ≤ 5) && decide (b.size ≤ 80) && decide (n ≤ 4) && decide (m ≤ 13) && !Lib.contains (LL b) CRLF
theorem l1In_f (a : Int) : spec_l1In.f a 0 5 = some (decide (0 ≤ a ∧ a ≤ 5)) := by
  unfold spec_l1In.f
  by_cases h : a ≥ 0
  · rw [if_pos h]
    congr 1
    rw [decide_eq_decide]
    omega
  · rw [if_neg h]
    congr 1
    symm
    rw [decide_eq_false_iff_not]
    omega
theorem within_f (a : Int) : impl_within.f a 0 5 = some (decide (0 ≤ a ∧ a ≤ 5)) := l1In_f a
theorem specSessOk_ev (a0_0 : Int) (a0_1 a0_2 : ByteArray) (l0_3 : List IA) (l0_4 : List ByteArray) (a0_5 : Bool) (a0_6 : ByteArray) : Ev (fun k => spec_SessOk.f k a0_0 a0_1 a0_2 l0_3 l0_4 a0_5 a0_6) (sessOk a0_0 l0_3.length l0_4.length a0_6) := by
  unfold spec_SessOk.f
  refine Ev.bnd ?_ (Ev.ret _)
  unfold spec_l3SessOk.f sessOk
  refine Ev.bnd (Ev.k (l1In_f a0_0)) ?_
  by_cases h1 : (0 ≤ a0_0 ∧ a0_0 ≤ 5)
  · refine Ev.pos (by simp [h1]) ?_
    by_cases h2 : (a0_6.size : Int) > 80
    · refine Ev.pos h2 (Ev.eq (Ev.ret _) ?_)
      have : decide (a0_6.size ≤ 80) = false := by rw [decide_eq_false_iff_not]; omega
      simp [this]
    · refine Ev.neg h2 ?_
      by_cases h3 : (l0_3.length : Int) > 4
      · refine Ev.pos h3 (Ev.eq (Ev.ret _) ?_)
        have : decide (l0_3.length ≤ 4) = false := by rw [decide_eq_false_iff_not]; omega
        simp [this]
      · refine Ev.neg h3 ?_
        by_cases h4 : (l0_4.length : Int) > 13
        · refine Ev.pos h4 (Ev.eq (Ev.ret _) ?_)
          have : decide (l0_4.length ≤ 13) = false := by rw [decide_eq_false_iff_not]; omega
          simp [this]
        · refine Ev.neg h4 ?_
          refine Ev.bnd (l2Lines_ev a0_6 (by omega)) (Ev.eq (Ev.ret _) ?_)
          have e2 : decide (a0_6.size ≤ 80) = true := by rw [decide_eq_true_eq]; omega
          have e3 : decide (l0_3.length ≤ 4) = true := by rw [decide_eq_true_eq]; omega
          have e4 : decide (l0_4.length ≤ 13) = true := by rw [decide_eq_true_eq]; omega
          have e1 : decide (0 ≤ a0_0 ∧ a0_0 ≤ 5) = true := by rw [decide_eq_true_eq]; exact h1
          rw [e1, e2, e3, e4]
          simp only [Bool.true_and, List.length_map]
          cases hc : Lib.contains (LL a0_6) CRLF with
          | false => rw [(linesOf_nil _).2 hc]; rfl
          | true =>
            have : (linesOf (LL a0_6)).1 ≠ [] := fun e => by rw [(linesOf_nil _).1 e] at hc; cases hc
            have := List.length_pos_iff.2 this
            simp only [Bool.not_true, beq_eq_false_iff_ne, ne_eq]
            omega
  · refine Ev.neg (by simp [h1]) (Ev.eq (Ev.ret _) ?_)
    have : decide (0 ≤ a0_0 ∧ a0_0 ≤ 5) = false := by rw [decide_eq_false_iff_not]; exact h1
    simp only [this, Bool.false_and]
theorem implSessOk_f (a0_0 : Int) (a0_1 a0_2 : ByteArray) (l0_3 : List IA) (l0_4 : List ByteArray) (a0_5 : Bool) (a0_6 : ByteArray) : impl_SessOk.f a0_0 a0_1 a0_2 l0_3 l0_4 a0_5 a0_6 = some (sessOk a0_0 l0_3.length l0_4.length a0_6) := by
  unfold impl_SessOk.f sessOk
  rw [within_f]
  simp only [Option.bind_some]
  by_cases h1 : (0 ≤ a0_0 ∧ a0_0 ≤ 5)
  · rw [if_pos (by simp [h1])]
    by_cases h2 : (a0_6.size : Int) ≤ 80
    · rw [if_pos h2]
      have e2 : decide (a0_6.size ≤ 80) = true := by rw [decide_eq_true_eq]; omega
      have e1 : decide (0 ≤ a0_0 ∧ a0_0 ≤ 5) = true := by rw [decide_eq_true_eq]; exact h1
      have hc : strings_Contains.f a0_6 ⟨#[13, 10]⟩ = some (Lib.contains (LL a0_6) CRLF) := by unfold strings_Contains.f; rw [if_pos (by omega)]; rfl
      rw [hc]
      simp only [Option.bind_some, e1, e2, Bool.true_and]
      by_cases hcc : Lib.contains (LL a0_6) CRLF = true
      · rw [if_pos hcc, hcc]; simp
      · rw [if_neg hcc]
        rw [Bool.not_eq_true] at hcc
        rw [hcc]
        by_cases h3 : (l0_3.length : Int) ≤ 4
        · rw [if_pos h3]
          have e3 : decide (l0_3.length ≤ 4) = true := by rw [decide_eq_true_eq]; omega
          rw [e3]
          simp only [Bool.true_and, Bool.not_false, Bool.and_true]
          congr 1
          rw [decide_eq_decide]
          omega
        · rw [if_neg h3]
          have e3 : decide (l0_3.length ≤ 4) = false := by rw [decide_eq_false_iff_not]; omega
          rw [e3]; rfl
    · rw [if_neg h2]
      have e2 : decide (a0_6.size ≤ 80) = false := by rw [decide_eq_false_iff_not]; omega
      simp [e2]
  · rw [if_neg (by simp [h1])]
    have : decide (0 ≤ a0_0 ∧ a0_0 ≤ 5) = false := by rw [decide_eq_false_iff_not]; exact h1
    simp only [this, Bool.false_and]

theorem fnExactSessOk_pure : ∀ (a0_0 : Int) (a0_1 : ByteArray) (a0_2 : ByteArray) (l0_3 : List LA) (l0_4 : List ByteArray) (a0_5 : Bool) (a0_6 : ByteArray), (Lit.int .i64 a0_0).wf = true → a0_1.size ≤ maxLen → a0_2.size ≤ maxLen → (l0_3.length ≤ maxLen ∧ ∀ z ∈ l0_3, (z.f0.size ≤ maxLen ∧ z.f1.size ≤ maxLen)) → (l0_4.length ≤ maxLen ∧ ∀ z ∈ l0_4, z.size ≤ maxLen) → a0_6.size ≤ maxLen → ∃ k, laws_FnExactSessOk.f k a0_0 a0_1 a0_2 l0_3 l0_4 a0_5 a0_6 = some true := by
  intro a0 a1 a2 l3 l4 a5 a6 h0 h1 h2 h3 h4 h6
  unfold maxLen at h1 h2 h3 h4 h6
  refine Ev.ex ?_
  unfold laws_FnExactSessOk.f
  obtain ⟨r, hr, hall⟩ := szSess_ev a0 a1 a2 l3 l4 a5 a6 h1 h2 h3 h4 h6
  refine Ev.bnd hr ?_
  by_cases h : r < 0
  · exact Ev.pos h (Ev.ret _)
  · obtain ⟨b3, b4, b6, _⟩ := hall (by omega)
    refine Ev.neg h ?_
    have hto : Ev (fun k => laws_toSess.f k a0 a1 a2 l3 l4 a5 a6) (a0, a1, a2, l3.map toIA, l4, a5, a6) := by
      unfold laws_toSess.f
      exact Ev.bnd (toMail_ev a1 a2 l3 l4 (by omega) (by omega)) (Ev.ret _)
    refine Ev.bnd hto ?_
    refine Ev.bnd (specSessOk_ev a0 a1 a2 _ l4 a5 a6) ?_
    refine Ev.bnd hto ?_
    refine Ev.bnd (Ev.k (implSessOk_f a0 a1 a2 _ l4 a5 a6)) ?_
    refine Ev.neg (by simp) ?_
    refine Ev.bnd hto ?_
    refine Ev.bnd (a := true) ?_ (Ev.pos rfl (Ev.ret _))
    unfold laws_eqSess.f
    refine Ev.pos rfl ?_
    refine Ev.bnd (eqMail_refl a1 a2 _ l4 (by rw [List.length_map]; omega) (by omega)) ?_
    exact Ev.pos rfl (Ev.neg (by simp) (Ev.pos rfl (Ev.ret _)))

end Go.Proofs.Ytbabdndgaafoaaa.Q
