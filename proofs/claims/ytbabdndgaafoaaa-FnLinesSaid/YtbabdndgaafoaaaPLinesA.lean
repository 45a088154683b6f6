/- Plain laws: a text's lines. -/
import Derived.Test.YtbabdndgaafoaaaPBody
import Derived.Lib.IndexLaws
import Derived.Test.YtbabdndgaafoaaaQ9
namespace Go.Proofs.Ytbabdndgaafoaaa.Q
open Go.RowKit Go.Proofs.YtbabdndgaafoaaaW.PrintWords Go.Proofs.YtbabdndgaafoaaaW.PrintLast Go.Proofs.YtbabdndgaafoaaaW.PrintMore
set_option linter.unusedVariables false
set_option linter.unusedSimpArgs false

/-! occurrences of CR LF -/
theorem occ_iff (l : List UInt8) (j : Nat) : Lib.occAt l CRLF j = true ↔ l[j]? = some 13 ∧ l[j + 1]? = some 10 := by
  unfold Lib.occAt CRLF
  have e0 : l[j]? = (l.drop j)[0]? := by rw [List.getElem?_drop, Nat.add_zero]
  have e1 : l[j + 1]? = (l.drop j)[1]? := by rw [List.getElem?_drop]
  rw [e0, e1]
  generalize l.drop j = t
  match t with
  | [] => simp
  | [a] => simp [List.isPrefixOf]
  | a :: b :: t => simp [List.isPrefixOf]; constructor <;> (rintro ⟨h1, h2⟩; exact ⟨h1.symm, h2.symm⟩)
theorem occ_false (l : List UInt8) (j : Nat) (h : ¬ (l[j]? = some 13 ∧ l[j + 1]? = some 10)) : Lib.occAt l CRLF j = false := by
  rw [← Bool.not_eq_true, occ_iff]
  exact h
theorem occ_drop (l : List UInt8) (a j : Nat) : Lib.occAt (l.drop a) CRLF j = Lib.occAt l CRLF (a + j) := by
  unfold Lib.occAt
  rw [List.drop_drop]

/-- No CR LF begins in a stretch, one begins behind it. -/
theorem lines_hit (l : List UInt8) (a i : Nat) (hai : a ≤ i) (hno : ∀ j, a ≤ j → j < i → Lib.occAt l CRLF j = false) (hi : Lib.occAt l CRLF i = true) :
    linesOf (l.drop a) = ((l.drop a).take (i - a) :: (linesOf (l.drop (i + 2))).1, (linesOf (l.drop (i + 2))).2) := by
  have hil : i + 1 < l.length := by
    have := (occ_iff l i).1 hi
    exact (List.getElem?_eq_some_iff.1 this.2).1
  have e : Lib.index (l.drop a) CRLF = ((i - a : Nat) : Int) := by
    refine Lib.index_first (by rw [List.length_drop]; omega) ?_ ?_
    · rw [occ_drop, show a + (i - a) = i by omega]; exact hi
    · intro j hj
      rw [occ_drop]
      exact hno _ (by omega) (by omega)
  rw [linesOf_some e, List.drop_drop, show a + (i - a + 2) = i + 2 by omega]
theorem lines_miss (l : List UInt8) (a : Nat) (hno : ∀ j, a ≤ j → Lib.occAt l CRLF j = false) : linesOf (l.drop a) = ([], l.drop a) := by
  refine linesOf_none ?_
  have : Lib.index (l.drop a) CRLF = -1 := Lib.index_none (fun j _ => by rw [occ_drop]; exact hno _ (by omega))
  omega

theorem l2Lines_loop (s : ByteArray) (hm : s.size ≤ 1099511627776) : ∀ d i : Nat, i + d = s.size → ∀ (out : List ByteArray) (a : Nat), a ≤ i → out.length ≤ i → (∀ j, a ≤ j → j < i → Lib.occAt (LL s) CRLF j = false) →
    Ev (fun k => spec_l2Lines.l0 k s out (a : Int) (i : Int)) (out ++ (linesOf ((LL s).drop a)).1.map BB, BB (linesOf ((LL s).drop a)).2) := by
  intro d
  induction d using Nat.strongRecOn with
  | _ d ih =>
    intro i hi out a ha ho hno
    refine Ev.step (fun k => by rw [spec_l2Lines.l0]) ?_
    rw [wsucc (by omega)]
    by_cases h : i + 1 < s.size
    · obtain ⟨c, hc, hcb⟩ := bt_get s i (by omega)
      obtain ⟨c2, hc2, hcb2⟩ := bt_get s (i + 1) (by omega)
      refine Ev.pos (by omega) ?_
      refine Ev.pos (by omega) ?_
      refine Ev.pos (by omega) ?_
      rw [hcb]
      have next : ¬ (c.toNat = 13 ∧ c2.toNat = 10) → Ev (fun k => spec_l2Lines.l0 k s out (a : Int) (((i + 1 : Nat) : Int))) (out ++ (linesOf ((LL s).drop a)).1.map BB, BB (linesOf ((LL s).drop a)).2) := by
        intro hne
        refine ih (d - 1) (by omega) (i + 1) (by omega) out a (by omega) (by omega) (fun j h1 h2 => ?_)
        by_cases e : j = i
        · subst e
          refine occ_false _ _ (fun hh => hne ?_)
          rw [hc, hc2] at hh
          rw [Option.some.inj hh.1, Option.some.inj hh.2]
          exact ⟨rfl, rfl⟩
        · exact hno j h1 (by omega)
      by_cases h1 : (c.toNat : Int) = 13
      · refine Ev.pos h1 ?_
        refine Ev.pos (by omega) ?_
        rw [hcb2]
        by_cases h2 : (c2.toNat : Int) = 10
        · refine Ev.pos h2 ?_
          refine Ev.pos (by omega) ?_
          refine Ev.pos (by omega) ?_
          refine Ev.pos (by omega) ?_
          refine Ev.pos (by omega) ?_
          rw [wsucc (by omega), Int.toNat_natCast, Int.toNat_natCast]
          have hocc : Lib.occAt (LL s) CRLF i = true := by
            rw [occ_iff, hc, hc2]
            exact ⟨congrArg some (u8_ext (by simp; omega)), congrArg some (u8_ext (by simp; omega))⟩
          have hh := lines_hit (LL s) a i ha hno hocc
          rw [hh, List.map_cons, extract_BB]
          have := ih (d - 2) (by omega) (i + 2) (by omega) (out ++ [BB (((LL s).drop a).take (i - a))]) (i + 2) (by omega) (by simp; omega) (fun j h1 h2 => by omega)
          refine Ev.eq this ?_
          simp
        · refine Ev.neg h2 ?_
          exact next (fun hh => h2 (by omega))
      · refine Ev.neg h1 ?_
        exact next (fun hh => h1 (by omega))
    · refine Ev.neg (by omega) ?_
      refine Ev.pos (by omega) ?_
      refine Ev.pos (by omega) ?_
      rw [Int.toNat_natCast]
      have hh := lines_miss (LL s) a (fun j hj => by
        by_cases e : j < i
        · exact hno j hj e
        · refine occ_false _ _ (fun hh => ?_)
          have := (List.getElem?_eq_some_iff.1 hh.2).1
          rw [← size_LL] at this
          omega)
      refine Ev.k ?_
      rw [hh, extract_BB]
      simp only [List.map_nil, List.append_nil]
      rw [List.take_of_length_le (by rw [List.length_drop, ← size_LL]; exact Nat.le_refl _)]
theorem l2Lines_ev (s : ByteArray) (hm : s.size ≤ 1099511627776) : Ev (fun k => spec_l2Lines.f k s) ((linesOf (LL s)).1.map BB, BB (linesOf (LL s)).2) := by
  have := l2Lines_loop s hm s.size 0 (by omega) [] 0 (by omega) (by simp) (fun j h1 h2 => by omega)
  unfold spec_l2Lines.f
  exact Ev.eq this (by simp)

end Go.Proofs.Ytbabdndgaafoaaa.Q
