/- Of a text of ours what this claim needs. -/
import Derived.Test.YtpeefjfklklhdaaDoorZzFnAddrPutPDom
import Derived.Test.YtpeefjfklklhdaaDoorZzFnAddrPutQ8
import Derived.Test.YtpeefjfklklhdaaDoorZzFnAddrPutQ9
namespace Go.Proofs.YtpeefjfklklhdaaDoor.Q
open Go.RowKit Go.Proofs.YtpeefjfklklhdaaDoorW.PrintWords Go.Proofs.YtpeefjfklklhdaaDoorW.PrintLast Go.Proofs.YtpeefjfklklhdaaDoorW.PrintMore
set_option linter.unusedVariables false
set_option linter.unusedSimpArgs false
def addrL (u d : ByteArray) : Bool := wordL (LL u) && domL (LL d)
theorem l1AddrOk_ev (u d : ByteArray) (hu : u.size ≤ 1099511627776) (hd : d.size ≤ 1099511627776) : Ev (fun k => spec_l1AddrOk.f k u d) (addrL u d) := by
  unfold spec_l1AddrOk.f addrL
  refine Ev.bnd (l1Word_ev u (by omega)) ?_
  by_cases h : wordL (LL u) = true
  · refine Ev.pos h (Ev.bnd (l1Domain_ev d hd) (Ev.eq (Ev.ret _) ?_))
    rw [h, Bool.true_and]
  · refine Ev.neg h (Ev.eq (Ev.ret _) ?_)
    rw [Bool.not_eq_true] at h
    rw [h, Bool.false_and]
theorem implAddrOk_ev (u d : ByteArray) (hu : u.size ≤ 4294967280) (hd : d.size ≤ 4294967280) : Ev (fun k => impl_AddrOk.f k u d) (addrL u d) := by
  unfold impl_AddrOk.f addrL
  refine Ev.bnd (Ev.k (isLabel_f u (by omega))) ?_
  by_cases h : wordL (LL u) = true
  · refine Ev.pos h (Ev.bnd (implDomainOk_ev d hd) (Ev.eq (Ev.ret _) ?_))
    rw [h, Bool.true_and]
  · refine Ev.neg h (Ev.eq (Ev.ret _) ?_)
    rw [Bool.not_eq_true] at h
    rw [h, Bool.false_and]
theorem toList_nil (s : ByteArray) : (s.toList == ([] : List UInt8)) = decide (s = ⟨#[]⟩) := by
  rw [Bool.eq_iff_iff, beq_iff_eq, decide_eq_true_eq, toList_BB]
def nullA (u d : ByteArray) : Bool := decide (u = ⟨#[]⟩) && decide (d = ⟨#[]⟩)
theorem null_f (u d : ByteArray) : impl_Addr_null.f u d = some (nullA u d) := by
  unfold impl_Addr_null.f nullA
  rw [toList_nil, toList_nil]
theorem l1Null_f (u d : ByteArray) : spec_l1Null.f u d = some (nullA u d) := by
  unfold spec_l1Null.f nullA
  by_cases h : u = ⟨#[]⟩
  · rw [if_pos (toList_BB.2 h), toList_nil, h]
    simp
  · rw [if_neg (fun e => h (toList_BB.1 e))]
    simp [h]
def textL (u d : List UInt8) : List UInt8 := 60 :: (u ++ 64 :: (d ++ [62]))
def textA (u d : ByteArray) : ByteArray := if nullA u d = true then ⟨#[60, 62]⟩ else BB (textL (LL u) (LL d))
theorem text_cat (u d : ByteArray) : ((((⟨#[60]⟩ : ByteArray) ++ u) ++ (⟨#[64]⟩ : ByteArray)) ++ d) ++ (⟨#[62]⟩ : ByteArray) = BB (textL (LL u) (LL d)) := by
  apply LL_inj
  rw [LL_append, LL_append, LL_append, LL_append]
  unfold textL
  rw [LL_BB, List.append_assoc, List.append_assoc, List.append_assoc]
  rfl
theorem l1Put_f (u d : ByteArray) (hu : u.size ≤ 1099511627776) (hd : d.size ≤ 1099511627776) : spec_l1Put.f u d = some (textA u d) := by
  unfold spec_l1Put.f textA
  rw [l1Null_f]
  simp only [Option.bind_some]
  have s1 : (⟨#[60]⟩ : ByteArray).size = 1 := rfl
  have s2 : (⟨#[64]⟩ : ByteArray).size = 1 := rfl
  by_cases h : nullA u d = true
  · rw [if_pos h, if_pos h]
  · rw [if_neg h, if_neg h, if_pos (by omega), if_pos (by rw [size_append]; omega), if_pos (by rw [size_append, size_append]; omega), if_pos (by rw [size_append, size_append, size_append]; omega), text_cat]
theorem text_f (u d : ByteArray) (hu : u.size ≤ 1099511627776) (hd : d.size ≤ 1099511627776) : impl_Addr_text.f u d = some (textA u d) := by
  unfold impl_Addr_text.f textA
  rw [null_f]
  simp only [Option.bind_some]
  have s1 : (⟨#[60]⟩ : ByteArray).size = 1 := rfl
  have s2 : (⟨#[64]⟩ : ByteArray).size = 1 := rfl
  by_cases h : nullA u d = true
  · rw [if_pos h, if_pos h]
  · rw [if_neg h, if_neg h, if_pos (by omega), if_pos (by rw [size_append]; omega), if_pos (by rw [size_append, size_append]; omega), if_pos (by rw [size_append, size_append, size_append]; omega), text_cat]
def senderA (u d : ByteArray) : Bool := nullA u d || addrL u d
theorem sender_ev (u d : ByteArray) (hu : u.size ≤ 4294967280) (hd : d.size ≤ 4294967280) : Ev (fun k => impl_Addr_sender.f k u d) (senderA u d) := by
  unfold impl_Addr_sender.f senderA
  refine Ev.bnd (Ev.k (null_f u d)) ?_
  by_cases h : nullA u d = true
  · refine Ev.pos h (Ev.eq (Ev.ret _) ?_)
    rw [h, Bool.true_or]
  · refine Ev.neg h (Ev.bnd (implAddrOk_ev u d hu hd) (Ev.eq (Ev.ret _) ?_))
    rw [Bool.not_eq_true] at h
    rw [h, Bool.false_or]
def putA (u d : ByteArray) : ByteArray := if senderA u d = true then textA u d else ⟨#[]⟩
theorem specAddrPut_ev (u d : ByteArray) (hu : u.size ≤ 1099511627776) (hd : d.size ≤ 1099511627776) : Ev (fun k => spec_AddrPut.f k u d) (putA u d) := by
  unfold spec_AddrPut.f putA senderA
  refine Ev.bnd (l1AddrOk_ev u d hu hd) ?_
  by_cases h : addrL u d = true
  · refine Ev.pos h (Ev.bnd (Ev.k (l1Put_f u d hu hd)) (Ev.eq (Ev.ret _) ?_))
    rw [h, Bool.or_true, if_pos rfl]
  · refine Ev.neg h (Ev.bnd (Ev.k (l1Null_f u d)) ?_)
    rw [Bool.not_eq_true] at h
    rw [h, Bool.or_false]
    by_cases h' : nullA u d = true
    · exact Ev.eq (Ev.pos h' (Ev.bnd (Ev.k (l1Put_f u d hu hd)) (Ev.ret _))) (if_pos h').symm
    · exact Ev.eq (Ev.neg h' (Ev.ret _)) (if_neg h').symm
theorem implAddrPut_ev (u d : ByteArray) (hu : u.size ≤ 4294967280) (hd : d.size ≤ 4294967280) : Ev (fun k => impl_AddrPut.f k u d) (putA u d) := by
  unfold impl_AddrPut.f putA
  refine Ev.bnd (sender_ev u d hu hd) ?_
  by_cases h : senderA u d = true
  · exact Ev.eq (Ev.pos h (Ev.bnd (Ev.k (text_f u d (by omega) (by omega))) (Ev.ret _))) (if_pos h).symm
  · exact Ev.eq (Ev.neg h (Ev.ret _)) (if_neg h).symm
theorem cuts_mem (c : UInt8) : ∀ (n : Nat) (l : List UInt8) (b : UInt8), b ∈ l → b = c ∨ ∃ p ∈ cuts c n l, b ∈ p := by
  intro n
  induction n with
  | zero => intro l b hb; exact .inr ⟨l, List.mem_singleton.2 rfl, hb⟩
  | succ n ih =>
    intro l b hb
    rcases Lib.index_spec l [c] with ⟨h, _⟩ | ⟨i, h, _, hocc, _⟩
    · rw [cuts_none h]
      exact .inr ⟨l, List.mem_singleton.2 rfl, hb⟩
    · rw [cuts_at h]
      have hi := (occ1_iff l c i).1 hocc
      obtain ⟨h1, h2⟩ := List.getElem?_eq_some_iff.1 hi
      rw [← List.take_append_drop i l, List.drop_eq_getElem_cons h1, h2] at hb
      rcases List.mem_append.1 hb with hb | hb
      · exact .inr ⟨_, List.mem_cons_self .., hb⟩
      · rcases List.mem_cons.1 hb with hb | hb
        · exact .inl hb
        · rcases ih _ b hb with e | ⟨p, hp, hbp⟩
          · exact .inl e
          · exact .inr ⟨p, List.mem_cons_of_mem _ hp, hbp⟩
theorem wordL_mem {l : List UInt8} (h : wordL l = true) {b : UInt8} (hb : b ∈ l) : wordCh b = true := by
  unfold wordL at h
  rw [Bool.and_eq_true, List.all_eq_true] at h
  exact h.1 b hb
theorem domL_mem {l : List UInt8} (h : domL l = true) {b : UInt8} (hb : b ∈ l) : wordCh b = true ∨ b = 46 := by
  unfold domL at h
  rw [Bool.and_eq_true, List.all_eq_true] at h
  rcases cuts_mem 46 3 l b hb with e | ⟨p, hp, hbp⟩
  · exact .inr e
  · exact .inl (wordL_mem (h.1 p hp) hbp)
theorem addrL_no {u d : ByteArray} (h : addrL u d = true) (c : UInt8) (hc : wordCh c = false) (hc2 : c ≠ 46) : c ∉ LL u ∧ c ∉ LL d := by
  unfold addrL at h
  rw [Bool.and_eq_true] at h
  refine ⟨fun e => ?_, fun e => ?_⟩
  · rw [wordL_mem h.1 e] at hc; cases hc
  · rcases domL_mem h.2 e with q | q
    · rw [q] at hc; cases hc
    · exact hc2 q
theorem addrL_not_null {u d : ByteArray} (h : addrL u d = true) : nullA u d = false := by
  cases e : nullA u d with
  | false => rfl
  | true =>
    unfold nullA at e
    simp only [Bool.and_eq_true, decide_eq_true_eq] at e
    obtain ⟨rfl, rfl⟩ := e
    exact absurd h (by decide)
theorem first_unique (c : UInt8) : ∀ (a a' b b' : List UInt8), c ∉ a → c ∉ a' → a ++ c :: b = a' ++ c :: b' → a = a' ∧ b = b'
  | [], [], b, b', _, _, h => ⟨rfl, (List.cons.inj h).2⟩
  | [], y :: a', b, b', _, h2, h => absurd (List.cons.inj h).1 (fun e => h2 (by rw [e]; exact List.mem_cons_self ..))
  | x :: a, [], b, b', h1, _, h => absurd (List.cons.inj h).1 (fun e => h1 (by rw [← e]; exact List.mem_cons_self ..))
  | x :: a, y :: a', b, b', h1, h2, h => by
    obtain ⟨e1, e2⟩ := List.cons.inj h
    obtain ⟨e3, e4⟩ := first_unique c a a' b b' (fun e => h1 (List.mem_cons_of_mem _ e)) (fun e => h2 (List.mem_cons_of_mem _ e)) e2
    exact ⟨by rw [e1, e3], e4⟩
theorem textA_addr {u d : ByteArray} (h : addrL u d = true) : textA u d = BB (textL (LL u) (LL d)) := by
  unfold textA
  rw [addrL_not_null h]
  rfl
theorem nullA_eq {u d : ByteArray} (h : nullA u d = true) : u = ⟨#[]⟩ ∧ d = ⟨#[]⟩ := by
  unfold nullA at h
  simpa only [Bool.and_eq_true, decide_eq_true_eq] using h
theorem textA_null : textA ⟨#[]⟩ ⟨#[]⟩ = ⟨#[60, 62]⟩ := rfl
theorem text_ne {u d : ByteArray} (h : addrL u d = true) : textA u d ≠ ⟨#[60, 62]⟩ := by
  rw [textA_addr h]
  intro e
  have e := congrArg LL e
  rw [LL_BB] at e
  have : (64 : UInt8) ∈ textL (LL u) (LL d) := by unfold textL; simp
  rw [e] at this
  exact absurd this (by decide)
theorem text_inj {u d u' d' : ByteArray} (h : senderA u d = true) (h' : senderA u' d' = true) (e : textA u d = textA u' d') : u = u' ∧ d = d' := by
  unfold senderA at h h'
  rw [Bool.or_eq_true] at h h'
  rcases h with h | h
  · obtain ⟨rfl, rfl⟩ := nullA_eq h
    rcases h' with h' | h'
    · obtain ⟨rfl, rfl⟩ := nullA_eq h'
      exact ⟨rfl, rfl⟩
    · rw [textA_null] at e
      exact absurd e.symm (text_ne h')
  · rcases h' with h' | h'
    · obtain ⟨rfl, rfl⟩ := nullA_eq h'
      rw [textA_null] at e
      exact absurd e (text_ne h)
    · rw [textA_addr h, textA_addr h'] at e
      have e := congrArg LL e
      rw [LL_BB, LL_BB] at e
      unfold textL at e
      obtain ⟨e1, e2⟩ := first_unique 64 _ _ _ _ (addrL_no h 64 (by decide) (by decide)).1 (addrL_no h' 64 (by decide) (by decide)).1 (List.cons.inj e).2
      exact ⟨LL_inj e1, LL_inj (List.append_cancel_right e2)⟩
end Go.Proofs.YtpeefjfklklhdaaDoor.Q
