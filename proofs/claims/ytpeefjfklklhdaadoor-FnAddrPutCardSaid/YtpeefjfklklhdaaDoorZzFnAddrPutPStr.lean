/- Of a text of ours what this claim needs. -/
import Derived.Test.YtpeefjfklklhdaaDoorZzFnAddrPutPDom
import Derived.Test.YtpeefjfklklhdaaDoorZzFnAddrPutQ11
namespace Go.Proofs.YtpeefjfklklhdaaDoor.Q
open Go.RowKit Go.Proofs.YtpeefjfklklhdaaDoorW.PrintWords Go.Proofs.YtpeefjfklklhdaaDoorW.PrintLast Go.Proofs.YtpeefjfklklhdaaDoorW.PrintMore
set_option linter.unusedVariables false
set_option linter.unusedSimpArgs false
theorem hasPrefix_one (l : List UInt8) (c : UInt8) : Lib.hasPrefix l [c] = true ↔ ∃ t, l = c :: t := by
  cases l with
  | nil => simp [Lib.hasPrefix]
  | cons a t => simp [Lib.hasPrefix, List.isPrefixOf]; exact eq_comm
theorem litePrefix_f (a b : ByteArray) : stringslite_HasPrefix.f a b = some (Lib.hasPrefix (LL a) (LL b)) := by
  unfold stringslite_HasPrefix.f
  rw [← Lib.hasPrefix_of_take]
  by_cases h : (a.size : Int) ≥ (b.size : Int)
  · rw [if_pos h, if_pos (by omega), if_pos (by omega), Int.toNat_natCast, toList_LL, toList_LL, LL_extract]
    have : decide ((LL b).length ≤ (LL a).length) = true := by rw [← size_LL, ← size_LL]; simp; omega
    rw [this, Bool.true_and, List.drop_zero, Nat.sub_zero, size_LL]
  · rw [if_neg h]
    have : decide ((LL b).length ≤ (LL a).length) = false := by rw [← size_LL, ← size_LL]; simp; omega
    rw [this]
    rfl
theorem prefix_size {a b : ByteArray} (h : Lib.hasPrefix (LL a) (LL b) = true) : b.size ≤ a.size := by
  rw [← Lib.hasPrefix_of_take] at h
  simp only [Bool.and_eq_true, decide_eq_true_eq] at h
  rw [size_LL, size_LL]
  exact h.1
theorem cutPrefix_f (a b : ByteArray) : strings_CutPrefix.f a b = some (if Lib.hasPrefix (LL a) (LL b) = true then (BB ((LL a).drop b.size), true) else (a, false)) := by
  unfold strings_CutPrefix.f stringslite_CutPrefix.f
  rw [litePrefix_f]
  simp only [Option.bind_some]
  by_cases h : Lib.hasPrefix (LL a) (LL b) = true
  · have hle := prefix_size h
    rw [if_pos h, if_pos h, if_pos (by omega), if_pos (by omega), Int.toNat_natCast, extract_BB, size_LL a, List.take_of_length_le (by rw [List.length_drop]; exact Nat.le_refl _)]
    rfl
  · rw [if_neg h, if_neg h]
    rfl
theorem liteSuffix_f (a b : ByteArray) (ha : a.size ≤ 9223372036854775807) (hb : b.size ≤ 9223372036854775807) : stringslite_HasSuffix.f a b = some (decide (b.size ≤ a.size ∧ (LL a).drop (a.size - b.size) = LL b)) := by
  have := hasSuffix_f a b ha hb
  unfold strings_HasSuffix.f at this
  cases e : stringslite_HasSuffix.f a b with
  | none => rw [e] at this; cases this
  | some v => rw [e] at this; exact this
theorem trimSuffix_f (a b : ByteArray) (ha : a.size ≤ 9223372036854775807) (hb : b.size ≤ 9223372036854775807) : strings_TrimSuffix.f a b = some (if b.size ≤ a.size ∧ (LL a).drop (a.size - b.size) = LL b then BB ((LL a).take (a.size - b.size)) else a) := by
  unfold strings_TrimSuffix.f stringslite_TrimSuffix.f
  rw [liteSuffix_f a b ha hb]
  simp only [Option.bind_some]
  by_cases h : b.size ≤ a.size ∧ (LL a).drop (a.size - b.size) = LL b
  · rw [if_pos h, if_pos (by simpa using h), w64 (by omega) (by omega), if_pos (by omega), if_pos (by omega), extract_BB, List.drop_zero, Nat.sub_zero, show ((a.size : Int) - (b.size : Int)).toNat = a.size - b.size by omega]
    rfl
  · rw [if_neg h, if_neg (by simpa using h)]
    rfl
theorem index_at {a b : List UInt8} {c : UInt8} (ha : c ∉ a) : Lib.index (a ++ c :: b) [c] = (a.length : Int) := by
  refine Lib.index_first (by simp) ?_ (fun j hj => ?_)
  · rw [occ1_iff, List.getElem?_append_right (Nat.le_refl _), Nat.sub_self]; rfl
  · rw [← Bool.not_eq_true, occ1_iff, List.getElem?_append_left hj]
    exact fun e => ha (List.mem_of_getElem? e)
theorem index_no {a : List UInt8} {c : UInt8} (ha : c ∉ a) : Lib.index a [c] = -1 := by
  exact Lib.index_none (fun j _ => by rw [← Bool.not_eq_true, occ1_iff]; exact fun e => ha (List.mem_of_getElem? e))
theorem cut_at {a b : List UInt8} {c : UInt8} (ha : c ∉ a) : Lib.cut (a ++ c :: b) [c] = (a, b, true) := by
  unfold Lib.cut
  rw [index_at ha]
  have h1 : (a ++ c :: b).take a.length = a := by simp
  have h2 : (a ++ c :: b).drop (a.length + 1) = b := by rw [← List.drop_drop, List.drop_left]; rfl
  simp [h2]
theorem cut_no {a : List UInt8} {c : UInt8} (ha : c ∉ a) : Lib.cut a [c] = (a, [], false) := by
  unfold Lib.cut
  rw [index_no ha]
  simp
theorem cuts_pair {a b : List UInt8} {c : UInt8} (ha : c ∉ a) (hb : c ∉ b) (n : Nat) : cuts c (n + 1) (a ++ c :: b) = [a, b] := by
  rw [cuts_at (index_at ha), List.take_left, show (a ++ c :: b).drop (a.length + 1) = b by rw [← List.drop_drop, List.drop_left]; rfl, cuts_none (index_no hb)]
theorem cuts_two {l : List UInt8} {c : UInt8} {n : Nat} (h : (cuts c (n + 2) l).length = 2) : ∃ a b, cuts c (n + 2) l = [a, b] ∧ l = a ++ c :: b := by
  rcases Lib.index_spec l [c] with ⟨h1, _⟩ | ⟨i, h1, _, hocc, _⟩
  · rw [cuts_none h1] at h
    simp at h
  · rw [cuts_at h1] at h ⊢
    obtain ⟨h2, h3⟩ := List.getElem?_eq_some_iff.1 ((occ1_iff l c i).1 hocc)
    rcases index1_cases (l.drop (i + 1)) c with h4 | ⟨j, h4, _⟩
    · rw [cuts_none h4]
      refine ⟨_, _, rfl, ?_⟩
      conv => lhs; rw [← List.take_append_drop i l, List.drop_eq_getElem_cons h2, h3]
    · rw [cuts_at h4, List.length_cons, List.length_cons] at h
      have := cuts_len c n ((l.drop (i + 1)).drop (j + 1))
      omega
end Go.Proofs.YtpeefjfklklhdaaDoor.Q
