/- Of a text of ours what this claim needs. -/
import Derived.Test.YtpeefjfklklhdaaDoorZzFnHopsPDom
namespace Go.Proofs.YtpeefjfklklhdaaDoor.Q
open Go.RowKit Go.Proofs.YtpeefjfklklhdaaDoorW.PrintWords Go.Proofs.YtpeefjfklklhdaaDoorW.PrintLast Go.Proofs.YtpeefjfklklhdaaDoorW.PrintMore
set_option linter.unusedVariables false
theorem cuts_bound (c : UInt8) (m : Nat) : ∀ (n : Nat) (l : List UInt8), (∀ p ∈ cuts c n l, p.length ≤ m) → l.length + 1 ≤ (m + 1) * (cuts c n l).length := by
  intro n
  induction n with
  | zero =>
    intro l h
    have := h l (List.mem_singleton.2 rfl)
    rw [show (cuts c 0 l).length = 1 from rfl]
    omega
  | succ n ih =>
    intro l h
    rcases index1_cases l c with hi | ⟨i, hi, hil⟩
    · rw [cuts_none hi] at h ⊢
      have := h l (List.mem_singleton.2 rfl)
      rw [show [l].length = 1 from rfl]
      omega
    · rw [cuts_at hi] at h ⊢
      have h1 := h _ (List.mem_cons_self ..)
      have h2 := ih (l.drop (i + 1)) (fun p hp => h p (List.mem_cons_of_mem _ hp))
      rw [List.length_take] at h1
      rw [List.length_drop] at h2
      rw [List.length_cons, Nat.mul_add]
      omega
theorem wordL_len {l : List UInt8} (h : wordL l = true) : l.length ≤ 8 := by
  unfold wordL at h
  rw [Bool.and_eq_true, decide_eq_true_eq] at h
  exact h.2.2
theorem domL_len {l : List UInt8} (h : domL l = true) : l.length ≤ 26 := by
  unfold domL at h
  rw [Bool.and_eq_true, decide_eq_true_eq, List.all_eq_true] at h
  have := cuts_bound 46 8 3 l (fun p hp => wordL_len (h.1 p hp))
  have h2 := h.2
  omega
end Go.Proofs.YtpeefjfklklhdaaDoor.Q
