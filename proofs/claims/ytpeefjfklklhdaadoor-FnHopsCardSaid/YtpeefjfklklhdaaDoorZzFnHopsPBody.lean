/- Of a text of ours what this claim needs. -/
import Derived.Test.YtpeefjfklklhdaaDoorZzFnHopsPBase
import Derived.Test.YtpeefjfklklhdaaDoorZzFnHopsQ15
import Derived.Test.YtpeefjfklklhdaaDoorZzFnHopsQ13
import Derived.Test.YtpeefjfklklhdaaDoorZzFnHopsQ14
namespace Go.Proofs.YtpeefjfklklhdaaDoor.Q
open Go.RowKit Go.Proofs.YtpeefjfklklhdaaDoorW.PrintWords Go.Proofs.YtpeefjfklklhdaaDoorW.PrintLast Go.Proofs.YtpeefjfklklhdaaDoorW.PrintMore
set_option linter.unusedVariables false
set_option linter.unusedSimpArgs false
def chOk (c : UInt8) : Bool := decide (32 ≤ c.toNat) && decide (c.toNat ≤ 126)
def lineOk (s : ByteArray) : Bool := (LL s).all chOk && decide (s.size ≤ 40)
def bodyOk (l : List ByteArray) : Bool := l.all lineOk && decide (l.length ≤ 12)
theorem l2LineOk_loop (s : ByteArray) (hm : s.size ≤ 9223372036854775807) : ∀ d i : Nat, i + d = s.size → Ev (fun k => spec_l2LineOk.l0 k s (i : Int)) (((LL s).drop i).all chOk && decide (s.size ≤ 40)) := by
  intro d
  induction d with
  | zero =>
    intro i hi
    refine Ev.step (fun k => by rw [spec_l2LineOk.l0]) ?_
    refine Ev.neg (by omega) (Ev.k ?_)
    rw [List.drop_of_length_le (by rw [← size_LL]; omega)]
    simp only [List.all_nil, Bool.true_and]
    congr 1
    rw [decide_eq_decide]
    omega
  | succ d ih =>
    intro i hi
    obtain ⟨c, hc, hb⟩ := drop_bt s i (by omega)
    refine Ev.step (fun k => by rw [spec_l2LineOk.l0]) ?_
    refine Ev.pos (by omega) (Ev.pos (by omega) ?_)
    rw [hb, hc, List.all_cons]
    by_cases h1 : (c.toNat : Int) < 32
    · refine Ev.pos h1 (Ev.k ?_)
      have : chOk c = false := by unfold chOk; simp; omega
      rw [this]; rfl
    · refine Ev.neg h1 ?_
      by_cases h2 : (c.toNat : Int) > 126
      · refine Ev.pos h2 (Ev.k ?_)
        have : chOk c = false := by unfold chOk; simp; omega
        rw [this]; rfl
      · refine Ev.neg h2 ?_
        have : chOk c = true := by unfold chOk; simp; omega
        rw [this, Bool.true_and, wsucc (by omega)]
        exact ih (i + 1) (by omega)
theorem l2LineOk_ev (s : ByteArray) (hm : s.size ≤ 9223372036854775807) : Ev (fun k => spec_l2LineOk.f k s) (lineOk s) := l2LineOk_loop s hm s.size 0 (by omega)
theorem l2BodyOk_loop (l : List ByteArray) (hm : l.length ≤ 9223372036854775807) (hs : ∀ s ∈ l, s.size ≤ 9223372036854775807) : ∀ d i : Nat, i + d = l.length → Ev (fun k => spec_l2BodyOk.l0 k l (i : Int)) ((l.drop i).all lineOk && decide (l.length ≤ 12)) := by
  intro d
  induction d with
  | zero =>
    intro i hi
    refine Ev.step (fun k => by rw [spec_l2BodyOk.l0]) ?_
    refine Ev.neg (by omega) (Ev.k ?_)
    rw [List.drop_of_length_le (by omega)]
    simp only [List.all_nil, Bool.true_and]
    congr 1
    rw [decide_eq_decide]
    omega
  | succ d ih =>
    intro i hi
    refine Ev.step (fun k => by rw [spec_l2BodyOk.l0]) ?_
    refine Ev.pos (by omega) (Ev.pos (by omega) ?_)
    refine Ev.bnd (l2LineOk_ev _ (hs _ (mem_rd l i (by omega)))) ?_
    rw [drop_rd l i (by omega), List.all_cons]
    by_cases h : lineOk (rdOf ByteArray.empty l (i : Int)) = true
    · refine Ev.pos h ?_
      rw [h, Bool.true_and, wsucc (by omega)]
      exact ih (i + 1) (by omega)
    · refine Ev.neg h (Ev.k ?_)
      rw [Bool.not_eq_true] at h
      rw [h]; rfl
theorem l2BodyOk_ev (l : List ByteArray) (hm : l.length ≤ 9223372036854775807) (hs : ∀ s ∈ l, s.size ≤ 9223372036854775807) : Ev (fun k => spec_l2BodyOk.f k l) (bodyOk l) := l2BodyOk_loop l hm hs l.length 0 (by omega)
theorem isLine_loop (s : ByteArray) (hm : s.size ≤ 9223372036854775807) : ∀ d i : Nat, i + d = s.size → Ev (fun k => impl_isLine.l0 k s (s.size : Int) (i : Int)) (((LL s).drop i).all chOk && decide (s.size ≤ 40)) := by
  intro d
  induction d with
  | zero =>
    intro i hi
    refine Ev.step (fun k => by rw [impl_isLine.l0]) ?_
    refine Ev.neg (by omega) (Ev.k ?_)
    rw [List.drop_of_length_le (by rw [← size_LL]; omega)]
    simp only [List.all_nil, Bool.true_and]
    congr 1
    rw [decide_eq_decide]
    omega
  | succ d ih =>
    intro i hi
    obtain ⟨c, hc, hb⟩ := drop_bt s i (by omega)
    refine Ev.step (fun k => by rw [impl_isLine.l0]) ?_
    refine Ev.pos (by omega) (Ev.pos (by omega) (Ev.pos (by omega) ?_))
    rw [hb, hc, List.all_cons]
    by_cases h1 : (c.toNat : Int) < 32
    · refine Ev.pos h1 (Ev.k ?_)
      have : chOk c = false := by unfold chOk; simp; omega
      rw [this]; rfl
    · refine Ev.neg h1 ?_
      by_cases h2 : (c.toNat : Int) > 126
      · refine Ev.pos h2 (Ev.k ?_)
        have : chOk c = false := by unfold chOk; simp; omega
        rw [this]; rfl
      · refine Ev.neg h2 ?_
        have : chOk c = true := by unfold chOk; simp; omega
        rw [this, Bool.true_and, wsucc (by omega)]
        exact ih (i + 1) (by omega)
theorem isLine_ev (s : ByteArray) (hm : s.size ≤ 9223372036854775807) : Ev (fun k => impl_isLine.f k s) (lineOk s) := isLine_loop s hm s.size 0 (by omega)
theorem indexBody_loop (l : List ByteArray) (hm : l.length ≤ 9223372036854775807) (hs : ∀ s ∈ l, s.size ≤ 9223372036854775807) : ∀ d i : Nat, i + d = l.length →
    ∃ r, Ev (fun k => slices_IndexFunc_string_string_at108.l0 k l (l.length : Int) (i : Int)) r ∧ (decide (r ≥ 0) = !(l.drop i).all lineOk) := by
  intro d
  induction d with
  | zero =>
    intro i hi
    refine ⟨-1, ?_, ?_⟩
    · refine Ev.step (fun k => by rw [slices_IndexFunc_string_string_at108.l0]) ?_
      exact Ev.neg (by omega) (Ev.ret _)
    · rw [List.drop_of_length_le (by omega)]
      rfl
  | succ d ih =>
    intro i hi
    rw [drop_rd l i (by omega), List.all_cons]
    by_cases h : lineOk (rdOf ByteArray.empty l (i : Int)) = true
    · obtain ⟨r, hr, hd⟩ := ih (i + 1) (by omega)
      refine ⟨r, ?_, by rw [h, Bool.true_and]; exact hd⟩
      refine Ev.step (fun k => by rw [slices_IndexFunc_string_string_at108.l0]) ?_
      refine Ev.pos (by omega) (Ev.pos (by omega) (Ev.pos (by omega) ?_))
      refine Ev.bnd (a := false) (by unfold impl_isBody_1.f; exact Ev.bnd (isLine_ev _ (hs _ (mem_rd l i (by omega)))) (Ev.k (by rw [h]; rfl))) ?_
      refine Ev.neg (by simp) ?_
      rw [wsucc (by omega)]
      exact hr
    · rw [Bool.not_eq_true] at h
      refine ⟨(i : Int), ?_, by rw [h]; simp⟩
      refine Ev.step (fun k => by rw [slices_IndexFunc_string_string_at108.l0]) ?_
      refine Ev.pos (by omega) (Ev.pos (by omega) (Ev.pos (by omega) ?_))
      refine Ev.bnd (a := true) (by unfold impl_isBody_1.f; exact Ev.bnd (isLine_ev _ (hs _ (mem_rd l i (by omega)))) (Ev.k (by rw [h]; rfl))) ?_
      exact Ev.pos rfl (Ev.ret _)
theorem isBody_ev (l : List ByteArray) (hm : l.length ≤ 9223372036854775807) (hs : ∀ s ∈ l, s.size ≤ 9223372036854775807) : Ev (fun k => impl_isBody.f k l) (bodyOk l) := by
  unfold impl_isBody.f
  by_cases h : (l.length : Int) ≤ 12
  · refine Ev.pos h ?_
    obtain ⟨r, hr, hd⟩ := indexBody_loop l hm hs l.length 0 (by omega)
    refine Ev.bnd (a := decide (r ≥ 0)) (by unfold slices_ContainsFunc_string_string_at108.f slices_IndexFunc_string_string_at108.f; exact Ev.bnd hr (Ev.ret _)) (Ev.k ?_)
    rw [hd]
    unfold bodyOk
    have : decide (l.length ≤ 12) = true := by simp; omega
    rw [this]
    simp
  · refine Ev.neg h (Ev.k ?_)
    unfold bodyOk
    have : decide (l.length ≤ 12) = false := by simp; omega
    rw [this]
    simp
theorem lineOk_size {s : ByteArray} (h : lineOk s = true) : s.size ≤ 40 := by
  unfold lineOk at h
  simp at h
  exact h.2
theorem bodyOk_parts {l : List ByteArray} (h : bodyOk l = true) : l.length ≤ 12 ∧ ∀ s ∈ l, s.size ≤ 40 := by
  unfold bodyOk at h
  simp at h
  exact ⟨h.2, fun s hs => lineOk_size (h.1 s hs)⟩
end Go.Proofs.YtpeefjfklklhdaaDoor.Q
