/- Of a text of ours what this claim needs. -/
import Derived.Test.YtbabdndgaafoaaaZDPPLinesA
import Derived.Test.YtbabdndgaafoaaaZDPQ9
import Derived.Test.YtbabdndgaafoaaaZDPQ8
import Derived.Test.YtbabdndgaafoaaaZDPHDot
namespace Go.Proofs.Ytbabdndgaafoaaa.Q
open Go.RowKit Go.Proofs.YtbabdndgaafoaaaW.PrintWords Go.Proofs.YtbabdndgaafoaaaW.PrintLast Go.Proofs.YtbabdndgaafoaaaW.PrintMore
set_option linter.unusedVariables false
set_option linter.unusedSimpArgs false
theorem split_loop : ∀ (n : Nat) (s : ByteArray), s.size = n → n ≤ 4294967280 → ∀ out : List ByteArray, out.length + n ≤ 1099511627776 →
    Ev (fun k => impl_split.l0 k s out) (out ++ (linesOf (LL s)).1.map BB, BB (linesOf (LL s)).2) := by
  intro n
  induction n using Nat.strongRecOn with
  | _ n ih =>
    intro s hs hn out ho
    refine Ev.step (fun k => by rw [impl_split.l0]) ?_
    have hcut : strings_Cut.f s ⟨#[13, 10]⟩ = some (⟨(Lib.cut s.data.toList CRLF).1.toArray⟩, ⟨(Lib.cut s.data.toList CRLF).2.1.toArray⟩, (Lib.cut s.data.toList CRLF).2.2) := by
      unfold strings_Cut.f
      rw [if_pos (by omega)]
      rfl
    refine Ev.bnd (Ev.k hcut) ?_
    by_cases h : 0 ≤ Lib.index (LL s) CRLF
    · obtain ⟨i, hi⟩ := int_of_nat h
      have hroom := Lib.index_room (LL s) CRLF h
      rw [hi, ← size_LL, show CRLF.length = 2 from rfl] at hroom
      have ec : Lib.cut s.data.toList CRLF = ((LL s).take i, (LL s).drop (i + 2), true) := by
        unfold Lib.cut
        rw [if_pos h, hi, Int.toNat_natCast]
        rfl
      rw [ec, linesOf_some hi]
      refine Ev.pos rfl ?_
      refine Ev.pos (by omega) ?_
      have := ih (n - (i + 2)) (by omega) (BB ((LL s).drop (i + 2))) (by rw [size_BB, List.length_drop, ← size_LL]; omega) (by omega) (out ++ [BB ((LL s).take i)]) (by simp; omega)
      rw [LL_BB] at this
      exact Ev.eq this (by simp)
    · have ec : Lib.cut s.data.toList CRLF = (LL s, [], false) := by
        unfold Lib.cut
        rw [if_neg h]
      rw [ec, linesOf_none (by omega)]
      refine Ev.neg (by simp) (Ev.k ?_)
      rw [BB_LL]
      simp
theorem split_ev (s : ByteArray) (hm : s.size ≤ 4294967280) : Ev (fun k => impl_split.f k s) ((linesOf (LL s)).1.map BB, BB (linesOf (LL s)).2) := by
  have := split_loop s.size s rfl hm [] (by simp; omega)
  unfold impl_split.f
  exact Ev.eq this (by simp)
def dots (ls : List ByteArray) : List UInt8 := dotLines ls ++ [46, 13, 10]
theorem hasPrefix_dot (l : List UInt8) : Lib.hasPrefix l [46] = true ↔ ∃ t, l = 46 :: t := by
  cases l with
  | nil => simp [Lib.hasPrefix]
  | cons c t => simp [Lib.hasPrefix, List.isPrefixOf]; exact eq_comm
theorem dotLine_le (l : List UInt8) : (dotLine l).length ≤ l.length + 3 := by
  unfold dotLine
  split <;> simp <;> omega
theorem dotLines_cons (s : ByteArray) (ls : List ByteArray) : dotLines (s :: ls) = dotLine (LL s) ++ dotLines ls := by
  unfold dotLines
  rw [List.flatMap_cons]
theorem dotLines_bound (ls : List ByteArray) (b : Nat) (h : ∀ s ∈ ls, s.size ≤ b) : (dotLines ls).length ≤ ls.length * (b + 3) := by
  induction ls with
  | nil => simp [dotLines]
  | cons s ls ih =>
    rw [dotLines_cons, List.length_append, List.length_cons, Nat.add_mul, Nat.one_mul]
    have h1 := dotLine_le (LL s)
    have h2 := h s (List.mem_cons_self ..)
    rw [size_LL] at h2
    have h3 := ih (fun t ht => h t (List.mem_cons_of_mem _ ht))
    omega
theorem l2Dots_loop (ls : List ByteArray) (hl : ls.length ≤ 1099511627776) (hb : (dotLines ls).length ≤ 1099511627776) : ∀ d i : Nat, i + d = ls.length → ∀ x : ByteArray, LL x = dotLines (ls.take i) →
    Ev (fun k => spec_l2Dots.l0 k ls x (i : Int)) (BB (dots ls)) := by
  intro d
  induction d with
  | zero =>
    intro i hi x hx
    rw [List.take_of_length_le (by omega)] at hx
    have hxs : x.size ≤ 1099511627776 := by rw [size_LL, hx]; exact hb
    refine Ev.step (fun k => by rw [spec_l2Dots.l0]) ?_
    refine Ev.neg (by omega) ?_
    refine Ev.pos (by omega) ?_
    refine Ev.k ?_
    congr 1
    exact LL_inj (by rw [LL_append, hx, LL_BB]; rfl)
  | succ d ih =>
    intro i hi x hx
    have ht := dotLines_take ls i (by omega)
    have hle := dotLines_le ls (i + 1)
    have hg : ls.getD i ByteArray.empty = rdOf ByteArray.empty ls (i : Int) := by unfold rdOf; rw [Int.toNat_natCast]
    rw [hg] at ht
    rw [ht, List.length_append] at hle
    have hxs : x.size = (dotLines (ls.take i)).length := by rw [size_LL, hx]
    have hd2 : (rdOf ByteArray.empty ls (i : Int)).data.toList.length + 2 ≤ (dotLine (rdOf ByteArray.empty ls (i : Int)).data.toList).length := by
      unfold dotLine
      simp only [List.length_append, List.length_cons, List.length_nil]
      omega
    have hsz : (rdOf ByteArray.empty ls (i : Int)).size = (rdOf ByteArray.empty ls (i : Int)).data.toList.length := size_LL _
    generalize hline : rdOf ByteArray.empty ls (i : Int) = line at *
    refine Ev.step (fun k => by rw [spec_l2Dots.l0]) ?_
    rw [hline]
    refine Ev.pos (by omega) ?_
    refine Ev.pos (by omega) ?_
    rw [wsucc (by omega)]
    by_cases h1 : line.toList = []
    · refine Ev.pos h1 ?_
      refine Ev.pos (by omega) ?_
      refine Ev.pos (by rw [size_append]; omega) ?_
      refine ih (i + 1) (by omega) _ ?_
      rw [LL_append, LL_append, hx, ht]
      rw [toList_LL] at h1
      have : dotLine line.data.toList = [13, 10] := by
        unfold dotLine
        rw [show line.data.toList = [] from h1]
        rfl
      rw [this, h1, List.append_nil]
    · refine Ev.neg h1 ?_
      rw [toList_LL] at h1
      have hpos : 0 < line.size := by
        rw [size_LL]
        exact List.length_pos_iff.2 h1
      refine Ev.pos (by omega) ?_
      obtain ⟨c, hc, hcb⟩ := bt_get line 0 hpos
      have hcons : ∃ t, LL line = c :: t := by
        cases hh : LL line with
        | nil => exact absurd hh h1
        | cons a t => rw [hh] at hc; simp at hc; subst hc; exact ⟨t, rfl⟩
      obtain ⟨t, hct⟩ := hcons
      rw [show (0 : Int) = ((0 : Nat) : Int) from rfl, hcb]
      by_cases h2 : (c.toNat : Int) = 46
      · have e46 : c = 46 := u8_ext (by simp; omega)
        subst e46
        have hp : Lib.hasPrefix line.data.toList [46] = true := (hasPrefix_dot _).2 ⟨t, hct⟩
        have hdl : dotLine line.data.toList = [46] ++ (line.data.toList ++ [13, 10]) := by unfold dotLine; rw [if_pos hp]
        have hlen : (dotLine line.data.toList).length = line.size + 3 := by rw [hdl, hsz]; simp only [List.length_append, List.length_cons, List.length_nil]; omega
        refine Ev.pos h2 ?_
        refine Ev.pos (by omega) ?_
        refine Ev.pos (by rw [size_append, sz1]; omega) ?_
        refine Ev.pos (by rw [size_append, size_append, sz1]; omega) ?_
        refine ih (i + 1) (by omega) _ ?_
        rw [LL_append, LL_append, LL_append, hx, ht, hdl]
        simp only [List.append_assoc]
      · have hp : ¬ Lib.hasPrefix line.data.toList [46] = true := by
          rw [hasPrefix_dot]
          rintro ⟨t', ht'⟩
          rw [show line.data.toList = c :: t from hct] at ht'
          injection ht' with h3 _
          subst h3
          exact h2 rfl
        have hdl : dotLine line.data.toList = line.data.toList ++ [13, 10] := by unfold dotLine; rw [if_neg hp]; rfl
        refine Ev.neg h2 ?_
        refine Ev.pos (by omega) ?_
        refine Ev.pos (by rw [size_append]; omega) ?_
        refine ih (i + 1) (by omega) _ ?_
        rw [LL_append, LL_append, hx, ht, hdl]
        simp only [List.append_assoc]
theorem l2Dots_ev (ls : List ByteArray) (hl : ls.length ≤ 1099511627776) (hb : (dotLines ls).length ≤ 1099511627776) : Ev (fun k => spec_l2Dots.f k ls) (BB (dots ls)) := by
  unfold spec_l2Dots.f
  exact l2Dots_loop ls hl hb ls.length 0 (by omega) _ rfl
theorem dotted_eq (ls : List ByteArray) (hb : (dotLines ls).length ≤ 1099511627776) : impl_dotted.f ls = some (BB (dots ls)) := by
  unfold impl_dotted.f
  rw [if_pos hb]
  rfl
theorem bodyOk_dots {ls : List ByteArray} (h : bodyOk ls = true) : (dotLines ls).length ≤ 516 := by
  obtain ⟨h1, h2⟩ := bodyOk_parts h
  have := dotLines_bound ls 40 h2
  omega
end Go.Proofs.Ytbabdndgaafoaaa.Q
