/- Of a text of ours what this claim needs. -/
import Derived.Test.YtbabdndgaafoaaaZDPPBody
import Derived.Lib.IndexLaws
import Derived.Test.YtbabdndgaafoaaaZDPQ9
namespace Go.Proofs.Ytbabdndgaafoaaa.Q
open Go.RowKit Go.Proofs.YtbabdndgaafoaaaW.PrintWords Go.Proofs.YtbabdndgaafoaaaW.PrintLast Go.Proofs.YtbabdndgaafoaaaW.PrintMore
set_option linter.unusedVariables false
set_option linter.unusedSimpArgs false
theorem occ_iff (l : List UInt8) (j : Nat) : Lib.occAt l CRLF j = true ↔ l[j]? = some 13 ∧ l[j + 1]? = some 10 := by
  unfold Lib.occAt CRLF
  have e0 : l[j]? = (l.drop j)[0]? := by rw [List.getElem?_drop, Nat.add_zero]
  have e1 : l[j + 1]? = (l.drop j)[1]? := by rw [List.getElem?_drop]
  rw [e0, e1]
  generalize l.drop j = t
  match t with
  | [] => simp
  | [a] => simp [List.isPrefixOf]
  | a :: b :: t => simp [List.isPrefixOf]; constructor <;> (rintro ⟨h1, h2⟩; exact ⟨h1.symm, h2.symm⟩)
theorem occ_false (l : List UInt8) (j : Nat) (h : ¬ (l[j]? = some 13 ∧ l[j + 1]? = some 10)) : Lib.occAt l CRLF j = false := by
  rw [← Bool.not_eq_true, occ_iff]
  exact h
theorem occ_drop (l : List UInt8) (a j : Nat) : Lib.occAt (l.drop a) CRLF j = Lib.occAt l CRLF (a + j) := by
  unfold Lib.occAt
  rw [List.drop_drop]
theorem lines_hit (l : List UInt8) (a i : Nat) (hai : a ≤ i) (hno : ∀ j, a ≤ j → j < i → Lib.occAt l CRLF j = false) (hi : Lib.occAt l CRLF i = true) :
    linesOf (l.drop a) = ((l.drop a).take (i - a) :: (linesOf (l.drop (i + 2))).1, (linesOf (l.drop (i + 2))).2) := by
  have hil : i + 1 < l.length := by
    have := (occ_iff l i).1 hi
    exact (List.getElem?_eq_some_iff.1 this.2).1
  have e : Lib.index (l.drop a) CRLF = ((i - a : Nat) : Int) := by
    refine Lib.index_first (by rw [List.length_drop]; omega) ?_ ?_
    · rw [occ_drop, show a + (i - a) = i by omega]; exact hi
    · intro j hj
      rw [occ_drop]
      exact hno _ (by omega) (by omega)
  rw [linesOf_some e, List.drop_drop, show a + (i - a + 2) = i + 2 by omega]
end Go.Proofs.Ytbabdndgaafoaaa.Q
