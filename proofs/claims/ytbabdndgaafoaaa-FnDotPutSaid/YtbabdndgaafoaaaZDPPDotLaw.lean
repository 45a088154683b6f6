/- Of a text of ours what this claim needs. -/
import Derived.Test.YtbabdndgaafoaaaZDPPDraw
namespace Go.Proofs.Ytbabdndgaafoaaa.Q
open Go.RowKit Go.Proofs.YtbabdndgaafoaaaW.PrintWords Go.Proofs.YtbabdndgaafoaaaW.PrintLast Go.Proofs.YtbabdndgaafoaaaW.PrintMore
set_option linter.unusedVariables false
set_option linter.unusedSimpArgs false
def dotL (l : List UInt8) : List UInt8 := (if Lib.hasPrefix l [46] = true then [46] else []) ++ l
theorem dotLine_eq (l : List UInt8) : dotLine l = dotL l ++ [13, 10] := by unfold dotLine dotL; rw [List.append_assoc]
theorem dotL_ne (l : List UInt8) : dotL l ≠ [46] := by
  unfold dotL
  by_cases h : Lib.hasPrefix l [46] = true
  · rw [if_pos h]
    obtain ⟨t, rfl⟩ := (hasPrefix_dot l).1 h
    simp
  · rw [if_neg h, List.nil_append]
    intro e
    exact h ((hasPrefix_dot l).2 ⟨[], e⟩)
theorem dotL_no13 (l : List UInt8) (h : (13 : UInt8) ∉ l) : (13 : UInt8) ∉ dotL l := by
  unfold dotL
  intro e
  rcases List.mem_append.1 e with e | e
  · split at e
    · exact absurd (List.mem_singleton.1 e) (by decide)
    · cases e
  · exact h e
theorem undot_dotL (s : ByteArray) : undot (BB (dotL (LL s))) = s := by
  unfold undot Lib.trimPrefix
  rw [LL_BB]
  by_cases h : Lib.hasPrefix (LL s) [46] = true
  · have e : dotL (LL s) = 46 :: LL s := by unfold dotL; rw [if_pos h]; rfl
    rw [e, if_pos ((hasPrefix_dot _).2 ⟨_, rfl⟩)]
    exact BB_LL s
  · have e : dotL (LL s) = LL s := by unfold dotL; rw [if_neg h]; rfl
    rw [e, if_neg h, BB_LL]
theorem linesOf_line (a rest : List UInt8) (ha : (13 : UInt8) ∉ a) : linesOf (a ++ 13 :: 10 :: rest) = (a :: (linesOf rest).1, (linesOf rest).2) := by
  have := lines_hit (a ++ 13 :: 10 :: rest) 0 a.length (Nat.zero_le _) (fun j _ hj => ?_) ?_
  · rw [List.drop_zero, Nat.sub_zero, List.take_left, show (a ++ 13 :: 10 :: rest).drop (a.length + 2) = rest by rw [← List.drop_drop, List.drop_left]; rfl] at this
    exact this
  · refine occ_false _ _ (fun e => ha ?_)
    have := e.1
    rw [List.getElem?_append_left hj] at this
    exact List.mem_of_getElem? this
  · rw [occ_iff]
    exact ⟨by rw [List.getElem?_append_right (by omega), Nat.sub_self]; rfl, by rw [List.getElem?_append_right (by omega), show a.length + 1 - a.length = 1 by omega]; rfl⟩
theorem linesOf_dots (ls : List ByteArray) (rest : List UInt8) (h : ∀ s ∈ ls, (13 : UInt8) ∉ LL s) : linesOf (dotLines ls ++ rest) = (ls.map (fun s => dotL (LL s)) ++ (linesOf rest).1, (linesOf rest).2) := by
  induction ls with
  | nil => simp [dotLines]
  | cons s ls ih =>
    rw [dotLines_cons, dotLine_eq, List.append_assoc, List.append_assoc, show ([13, 10] : List UInt8) ++ (dotLines ls ++ rest) = 13 :: 10 :: (dotLines ls ++ rest) from rfl,
      linesOf_line _ _ (dotL_no13 _ (h s (List.mem_cons_self ..))), ih (fun t ht => h t (List.mem_cons_of_mem _ ht))]
    rfl
theorem linesOf_empty : linesOf [] = ([], []) := linesOf_none (by decide)
theorem linesOf_end : linesOf [46, 13, 10] = ([[46]], []) := by
  have := linesOf_line [46] [] (by decide)
  rw [linesOf_empty] at this
  exact this
theorem bodyOk_no13 {ls : List ByteArray} (h : bodyOk ls = true) : ∀ s ∈ ls, (13 : UInt8) ∉ LL s := by
  unfold bodyOk lineOk at h
  simp only [Bool.and_eq_true, decide_eq_true_eq, List.all_eq_true] at h
  intro s hs h13
  have := (h.1 s hs).1 13 h13
  exact absurd this (by decide)
theorem lines_dots (ls : List ByteArray) (h : bodyOk ls = true) : linesOf (dots ls) = (ls.map (fun s => dotL (LL s)) ++ [[46]], []) := by
  unfold dots
  rw [linesOf_dots ls _ (bodyOk_no13 h), linesOf_end]
theorem dots_size (ls : List ByteArray) (h : bodyOk ls = true) : (BB (dots ls)).size ≤ 519 := by
  rw [size_BB]
  have := bodyOk_dots h
  unfold dots
  rw [List.length_append, List.length_cons, List.length_cons, List.length_cons, List.length_nil]
  omega
theorem linesB_dots (ls : List ByteArray) (h : bodyOk ls = true) : linesB (BB (dots ls)) = (ls.map (fun s => BB (dotL (LL s))) ++ [⟨#[46]⟩], ⟨#[]⟩) := by
  unfold linesB
  rw [if_neg (by have := dots_size ls h; omega), LL_BB, lines_dots ls h]
  simp only [List.map_append, List.map_map, List.map_cons, List.map_nil]
  rfl
theorem dotGet_dots (ls : List ByteArray) (h : bodyOk ls = true) : dotGet (BB (dots ls)) = (ls, true) := by
  unfold dotGet
  rw [linesB_dots ls h]
  simp only [List.dropLast_concat, List.map_map]
  have : List.map (undot ∘ fun s => BB (dotL (LL s))) ls = ls := by
    conv => rhs; rw [← List.map_id ls]
    refine List.map_congr_left (fun s _ => ?_)
    exact undot_dotL s
  rw [this, if_pos ⟨h, rfl⟩]
end Go.Proofs.Ytbabdndgaafoaaa.Q
