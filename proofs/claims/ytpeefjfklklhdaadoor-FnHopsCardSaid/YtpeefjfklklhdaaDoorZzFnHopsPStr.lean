/- Of a text of ours what this claim needs. -/
import Derived.Test.YtpeefjfklklhdaaDoorZzFnHopsPDom
import Derived.Test.YtpeefjfklklhdaaDoorZzFnHopsQ11
namespace Go.Proofs.YtpeefjfklklhdaaDoor.Q
open Go.RowKit Go.Proofs.YtpeefjfklklhdaaDoorW.PrintWords Go.Proofs.YtpeefjfklklhdaaDoorW.PrintLast Go.Proofs.YtpeefjfklklhdaaDoorW.PrintMore
set_option linter.unusedVariables false
set_option linter.unusedSimpArgs false
theorem litePrefix_f (a b : ByteArray) : stringslite_HasPrefix.f a b = some (Lib.hasPrefix (LL a) (LL b)) := by
  unfold stringslite_HasPrefix.f
  rw [← Lib.hasPrefix_of_take]
  by_cases h : (a.size : Int) ≥ (b.size : Int)
  · rw [if_pos h, if_pos (by omega), if_pos (by omega), Int.toNat_natCast, toList_LL, toList_LL, LL_extract]
    have : decide ((LL b).length ≤ (LL a).length) = true := by rw [← size_LL, ← size_LL]; simp; omega
    rw [this, Bool.true_and, List.drop_zero, Nat.sub_zero, size_LL]
  · rw [if_neg h]
    have : decide ((LL b).length ≤ (LL a).length) = false := by rw [← size_LL, ← size_LL]; simp; omega
    rw [this]
    rfl
theorem prefix_size {a b : ByteArray} (h : Lib.hasPrefix (LL a) (LL b) = true) : b.size ≤ a.size := by
  rw [← Lib.hasPrefix_of_take] at h
  simp only [Bool.and_eq_true, decide_eq_true_eq] at h
  rw [size_LL, size_LL]
  exact h.1
theorem cutPrefix_f (a b : ByteArray) : strings_CutPrefix.f a b = some (if Lib.hasPrefix (LL a) (LL b) = true then (BB ((LL a).drop b.size), true) else (a, false)) := by
  unfold strings_CutPrefix.f stringslite_CutPrefix.f
  rw [litePrefix_f]
  simp only [Option.bind_some]
  by_cases h : Lib.hasPrefix (LL a) (LL b) = true
  · have hle := prefix_size h
    rw [if_pos h, if_pos h, if_pos (by omega), if_pos (by omega), Int.toNat_natCast, extract_BB, size_LL a, List.take_of_length_le (by rw [List.length_drop]; exact Nat.le_refl _)]
    rfl
  · rw [if_neg h, if_neg h]
    rfl
end Go.Proofs.YtpeefjfklklhdaaDoor.Q
