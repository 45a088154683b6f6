/- Of a text of ours what this claim needs. -/
import Derived.Test.YtpeefjfklklhdaaDoorZzFnHopsPDom
import Derived.Test.YtpeefjfklklhdaaDoorZzFnHopsQ0
import Derived.Test.YtpeefjfklklhdaaDoorZzFnHopsQ3
import Derived.Test.YtpeefjfklklhdaaDoorZzFnHopsQ5
import Derived.Test.YtpeefjfklklhdaaDoorZzFnHopsHSplit
import Derived.Test.YtpeefjfklklhdaaDoorZzFnHopsQ2
namespace Go.Proofs.YtpeefjfklklhdaaDoor.Q
open Go.RowKit Go.Proofs.YtpeefjfklklhdaaDoorW.PrintWords Go.Proofs.YtpeefjfklklhdaaDoorW.PrintLast Go.Proofs.YtpeefjfklklhdaaDoorW.PrintMore
set_option linter.unusedVariables false
set_option linter.unusedSimpArgs false
theorem cuts_mem (c : UInt8) : ∀ (n : Nat) (l : List UInt8) (b : UInt8), b ∈ l → b = c ∨ ∃ p ∈ cuts c n l, b ∈ p := by
  intro n
  induction n with
  | zero => intro l b hb; exact .inr ⟨l, List.mem_singleton.2 rfl, hb⟩
  | succ n ih =>
    intro l b hb
    rcases Lib.index_spec l [c] with ⟨h, _⟩ | ⟨i, h, _, hocc, _⟩
    · rw [cuts_none h]
      exact .inr ⟨l, List.mem_singleton.2 rfl, hb⟩
    · rw [cuts_at h]
      have hi := (occ1_iff l c i).1 hocc
      obtain ⟨h1, h2⟩ := List.getElem?_eq_some_iff.1 hi
      rw [← List.take_append_drop i l, List.drop_eq_getElem_cons h1, h2] at hb
      rcases List.mem_append.1 hb with hb | hb
      · exact .inr ⟨_, List.mem_cons_self .., hb⟩
      · rcases List.mem_cons.1 hb with hb | hb
        · exact .inl hb
        · rcases ih _ b hb with e | ⟨p, hp, hbp⟩
          · exact .inl e
          · exact .inr ⟨p, List.mem_cons_of_mem _ hp, hbp⟩
theorem wordL_mem {l : List UInt8} (h : wordL l = true) {b : UInt8} (hb : b ∈ l) : wordCh b = true := by
  unfold wordL at h
  rw [Bool.and_eq_true, List.all_eq_true] at h
  exact h.1 b hb
theorem domL_mem {l : List UInt8} (h : domL l = true) {b : UInt8} (hb : b ∈ l) : wordCh b = true ∨ b = 46 := by
  unfold domL at h
  rw [Bool.and_eq_true, List.all_eq_true] at h
  rcases cuts_mem 46 3 l b hb with e | ⟨p, hp, hbp⟩
  · exact .inr e
  · exact .inl (wordL_mem (h.1 p hp) hbp)
end Go.Proofs.YtpeefjfklklhdaaDoor.Q
