/- The plain law of FnLines. -/
import Derived.Test.YtbabdndgaafoaaaPDraw
import Derived.Test.YtbabdndgaafoaaaQ12
import Derived.Test.YtbabdndgaafoaaaQ14
namespace Go.Proofs.Ytbabdndgaafoaaa.Q
open Go.RowKit Go.Proofs.YtbabdndgaafoaaaW.PrintWords Go.Proofs.YtbabdndgaafoaaaW.PrintLast Go.Proofs.YtbabdndgaafoaaaW.PrintMore
set_option linter.unusedVariables false

theorem drawLinesOf_ev (l : List Int) (hl : ∀ z ∈ l, (Lit.int .u8 z).wf = true) : ∃ x, Ev (fun k => spec_DrawLinesOf.f k l) x ∧ x.size ≤ 523 := by
  obtain ⟨b, hb, hb1, hb2⟩ := open_ok l hl
  have hB : Buf b := ⟨hb1, hb2⟩
  obtain ⟨x, p, e, a, c, h1, h2⟩ := body_dr hB (p := 0) 6 (by omega) (by omega) (by omega) (by omega)
  have hs := specDotPut_ev x (by omega) (fun s hs => by have := h2 s hs; omega)
  have hz := dotPut_size x
  unfold spec_DrawLinesOf.f
  obtain ⟨y, p3, e3, a3, c3, h4⟩ := bent_dr hB (p := p) (dotPut x) (by omega) (by omega) (by omega)
  exact ⟨y, Ev.bnd (Ev.k hb) (Ev.bnd e (Ev.bnd hs (Ev.bnd e3 (Ev.ret _)))), by omega⟩
/-- The lines of a text in two parts: those of the first, then those of what it leaves with the second. -/
theorem linesOf_parts (n : Nat) : ∀ (p q : List UInt8), p.length = n → linesOf (p ++ q) = ((linesOf p).1 ++ (linesOf ((linesOf p).2 ++ q)).1, (linesOf ((linesOf p).2 ++ q)).2) := by
  induction n using Nat.strongRecOn with
  | _ n ih =>
    intro p q hp
    rcases Lib.index_spec p CRLF with ⟨h1, h2⟩ | ⟨i, h1, h2⟩
    · rw [linesOf_none (l := p) (by omega)]
      simp
    · have hroom := Lib.index_room p CRLF (by omega)
      rw [h1, show CRLF.length = 2 from rfl] at hroom
      have hi : Lib.index (p ++ q) CRLF = (i : Int) := by
        refine Lib.index_first (by rw [List.length_append]; omega) ?_ ?_
        · have := (occ_iff p i).1 (by first | exact h2.1 | exact h2.2.1)
          rw [occ_iff, List.getElem?_append_left (by omega), List.getElem?_append_left (by omega)]
          exact this
        · intro j hj
          refine occ_false _ _ (fun e => ?_)
          rw [List.getElem?_append_left (by omega), List.getElem?_append_left (by omega), ← occ_iff] at e
          have := by first | exact h2.2 j hj | exact h2.2.2 j hj
          rw [e] at this
          cases this
      rw [linesOf_some hi, linesOf_some h1, List.take_append_of_le_length (by omega), List.drop_append_of_le_length (by omega), ih (p.length - (i + 2)) (by omega) (p.drop (i + 2)) q (by rw [List.length_drop])]
      rfl
def joined (ls : List (List UInt8)) : List UInt8 := ls.flatMap (fun l => l ++ [13, 10])
theorem linesOf_joined (n : Nat) : ∀ p : List UInt8, p.length = n → joined (linesOf p).1 ++ (linesOf p).2 = p := by
  induction n using Nat.strongRecOn with
  | _ n ih =>
    intro p hp
    by_cases h : 0 ≤ Lib.index p CRLF
    · obtain ⟨i, hi⟩ := int_of_nat h
      have hroom := Lib.index_room p CRLF h
      rw [hi, show CRLF.length = 2 from rfl] at hroom
      have hocc := (occ_iff p i).1 (by
        rcases Lib.index_spec p CRLF with ⟨h1, _⟩ | ⟨j, h1, h2⟩
        · omega
        · have : i = j := by omega
          subst this
          first | exact h2.1 | exact h2.2.1)
      rw [linesOf_some hi]
      unfold joined
      rw [List.flatMap_cons]
      have e := ih (p.length - (i + 2)) (by omega) (p.drop (i + 2)) (by rw [List.length_drop])
      unfold joined at e
      rw [List.append_assoc, e]
      obtain ⟨h1, e1⟩ := List.getElem?_eq_some_iff.1 hocc.1
      obtain ⟨h2, e2⟩ := List.getElem?_eq_some_iff.1 hocc.2
      conv => rhs; rw [← List.take_append_drop i p, List.drop_eq_getElem_cons h1, e1, List.drop_eq_getElem_cons h2, e2]
      simp
    · rw [linesOf_none (by omega)]
      rfl
theorem linesB_small {s : ByteArray} (h : s.size ≤ 800) : linesB s = ((linesOf (LL s)).1.map BB, BB (linesOf (LL s)).2) := by
  unfold linesB
  rw [if_neg (by omega)]
theorem fnLines_loop (l1 : List Int) (hl1 : l1.length ≤ 1048576) (s : ByteArray) (hs : s.size ≤ 523) : ∀ d i : Nat, i + d = (linesB s).1.length → ∀ x : ByteArray, LL x = joined ((linesOf (LL s)).1.take i) →
    Ev (fun k => laws_FnLines.l0 k l1 s (linesB s).1 (linesB s).2 x (i : Int)) true := by
  have hB := linesB_small (s := s) (by omega)
  have hlen : (linesB s).1.length = (linesOf (LL s)).1.length := by rw [hB]; simp
  have hb := (linesB_len s)
  have hj := linesOf_joined _ (LL s) rfl
  intro d
  induction d with
  | zero =>
    intro i hi x hx
    rw [List.take_of_length_le (by omega)] at hx
    refine Ev.step (fun k => by rw [laws_FnLines.l0]) ?_
    refine Ev.neg (by omega) ?_
    rw [wsucc (by omega)]
    have hm0 : 0 ≤ (l1.length : Int) % ((s.size + 1 : Nat) : Int) := Int.emod_nonneg _ (by omega)
    have hm1 : (l1.length : Int) % ((s.size + 1 : Nat) : Int) < ((s.size + 1 : Nat) : Int) := Int.emod_lt_of_pos _ (by omega)
    obtain ⟨n, hn⟩ := int_of_nat hm0
    rw [hn] at hm1 ⊢
    have z1 : (s.extract 0 n).size = n := by rw [size_extract s 0 n (by omega) (by omega)]; omega
    have z2 : (s.extract n s.size).size = s.size - n := size_extract s n s.size (by omega) (by omega)
    refine Ev.neg (by omega) (Ev.pos (by omega) (Ev.pos (by omega) ?_))
    rw [Int.toNat_natCast]
    have hrem : (linesB (s.extract 0 n)).2.size ≤ n := by
      rw [linesB_small (by omega), size_BB]
      have h1 := congrArg List.length (linesOf_joined _ (LL (s.extract 0 n)) rfl)
      rw [List.length_append, ← size_LL, z1] at h1
      show (linesOf (LL (s.extract 0 n))).2.length ≤ n
      omega
    refine Ev.bnd (implLinesOf_ev _) (Ev.pos (by omega) (Ev.bnd (implLinesOf_ev _) ?_))
    have hsum : ((linesB (s.extract 0 n)).2 ++ s.extract n s.size).size ≤ 800 := by rw [size_append]; omega
    have hparts : linesB s = ((linesB (s.extract 0 n)).1 ++ (linesB ((linesB (s.extract 0 n)).2 ++ s.extract n s.size)).1, (linesB ((linesB (s.extract 0 n)).2 ++ s.extract n s.size)).2) := by
      rw [linesB_small hsum, linesB_small (s := s.extract 0 n) (by omega), hB]
      have e : LL s = LL (s.extract 0 n) ++ LL (s.extract n s.size) := by
        rw [LL_extract, LL_extract, List.drop_zero, Nat.sub_zero, List.take_of_length_le (l := (LL s).drop n) (by rw [List.length_drop, size_LL]; omega), List.take_append_drop]
      have e2 := linesOf_parts _ (LL (s.extract 0 n)) (LL (s.extract n s.size)) rfl
      rw [← e] at e2
      simp only [LL_append, LL_BB]
      rw [e2, List.map_append]
    have hxs : x.size + (linesB s).2.size ≤ 9223372036854775807 ∧ x ++ (linesB s).2 = s := by
      have e : x ++ (linesB s).2 = s := by
        apply LL_inj
        rw [LL_append, hx, hB, LL_BB]
        exact hj
      refine ⟨?_, e⟩
      rw [← size_append, e]
      omega
    refine Ev.pos hxs.1 (Ev.pos (toList_eq.2 hxs.2) (Ev.pos (toList_eq.2 (by rw [hparts])) ?_))
    have g1 := (linesB_len (s.extract 0 n)).1
    have g2 := (linesB_len ((linesB (s.extract 0 n)).2 ++ s.extract n s.size)).1
    refine Ev.bnd (Ev.ret _) (Ev.pos (by simp; omega) (Ev.bnd (Ev.ret _) (Ev.pos (by simp; omega) ?_)))
    refine Ev.bnd (saTexts_ev _ _ (by simp; omega)) (Ev.eq (Ev.ret _) ?_)
    rw [List.nil_append, decide_eq_true_eq]
    conv => rhs; rw [hparts]
  | succ d ih =>
    intro i hi x hx
    have hil : i < (linesB s).1.length := by omega
    have hget : (linesB s).1[i] = BB ((linesOf (LL s)).1[i]'(by omega)) := by
      simp only [hB, List.getElem_map]
    have hjoin : ∀ m, (joined ((linesOf (LL s)).1.take m)).length ≤ 523 := by
      intro m
      have h1 := congrArg List.length hj
      rw [List.length_append, ← size_LL] at h1
      have h2 : joined (linesOf (LL s)).1 = joined ((linesOf (LL s)).1.take m) ++ joined ((linesOf (LL s)).1.drop m) := by
        unfold joined
        rw [← List.flatMap_append, List.take_append_drop]
      rw [h2, List.length_append] at h1
      omega
    have hn : LL ((x ++ rdOf ByteArray.empty (linesB s).1 (i : Int)) ++ ⟨#[13, 10]⟩) = joined ((linesOf (LL s)).1.take (i + 1)) := by
      have hget' : LL (linesB s).1[i] = (linesOf (LL s)).1[i]'(by omega) := by rw [hget]
      rw [rd_get _ i hil, LL_append, LL_append, hx, hget', List.take_succ_eq_append_getElem (by omega)]
      unfold joined
      rw [List.flatMap_append, List.append_assoc]
      simp
    have hz := hjoin (i + 1)
    rw [← hn, ← size_LL, size_append, size_append] at hz
    refine Ev.step (fun k => by rw [laws_FnLines.l0]) ?_
    refine Ev.pos (by omega) (Ev.pos (by omega) (Ev.pos (by omega) (Ev.pos (by rw [size_append]; omega) ?_)))
    rw [wsucc (by omega)]
    exact ih (i + 1) (by omega) _ hn
theorem fnLines_pure : ∀ (l0 : List Int) (l1 : List Int), (l0.length ≤ maxLen ∧ ∀ z ∈ l0, (Lit.int .u8 z).wf = true) → (l1.length ≤ maxLen ∧ ∀ z ∈ l1, (Lit.int .u8 z).wf = true) → ∃ k, laws_FnLines.f k l0 l1 = some true := by
  intro l0 l1 h0 h1
  refine Ev.ex ?_
  unfold laws_FnLines.f
  by_cases h : (l0.length : Int) > 1048576
  · exact Ev.pos h (Ev.step (fun k => by rw [laws_FnLines.j0]) (Ev.pos rfl (Ev.ret _)))
  · refine Ev.neg h (Ev.step (fun k => by rw [laws_FnLines.j0]) ?_)
    by_cases h' : (l1.length : Int) > 1048576
    · exact Ev.pos (by simp only [decide_eq_true_eq]; exact h') (Ev.ret _)
    · obtain ⟨s, hs, hz⟩ := drawLinesOf_ev l0 h0.2
      have hl := (linesB_len s).1
      refine Ev.neg (by simp only [decide_eq_true_eq]; exact h') (Ev.bnd hs (Ev.bnd (implLinesOf_ev s) (Ev.bnd (specLinesOf_ev s) (Ev.pos rfl (Ev.bnd (saTexts_ev _ _ (by omega)) (Ev.pos (by simp) ?_))))))
      refine Ev.step (fun k => by rw [laws_FnLines.j1]) (Ev.neg (by simp only [decide_eq_true_eq]; omega) ?_)
      exact fnLines_loop l1 (by omega) s hz _ 0 (by simp; rfl) _ rfl

end Go.Proofs.Ytbabdndgaafoaaa.Q
